/- Cash, debts and entries of a day book. -/
import Derived.Test.YthbehhhblchhhaaGreatW2
import Derived.Test.YthbehhhblchhhaaGreatNarrow
namespace Go.Proofs.YthbehhhblchhhaaGreat
open Go Go.RowKit
set_option maxHeartbeats 16000000

def codeD (xs : List Ent) (d : Int) : Int := if dbB xs then if dateB d then 0 else 2 else 1
theorem codeD_ok {xs : List Ent} {d : Int} (h : codeD xs d = 0) : dbB xs = true ∧ dateB d = true := by
  unfold codeD at h
  split at h
  · split at h
    · exact ⟨‹_›, ‹_›⟩
    · cases h
  · cases h
theorem owS_def (n : Str) (xs : List Ent) : owS n xs = sumI (owE n) xs := rfl
def cashE (e : Ent) : Int := if e.2.1 = 1 then e.2.2.2 else if e.2.1 = 2 then 0 - e.2.2.2 else 0
theorem cashE_bd {e : Ent} (h : entB e = true) : -10000000 ≤ cashE e ∧ cashE e ≤ 10000000 := by
  have := ent_bd h
  unfold cashE
  split
  · omega
  · split <;> omega
def csE (d : Int) (e : Ent) : Int := if e.1 ≤ d then cashE e else 0
theorem csE_def (d : Int) (e : Ent) : csE d e = if e.1 ≤ d then cashE e else 0 := rfl
def lwGo : List Ent → Int → Int → Int → Int → Int × Int
  | [], _, l, f, _ => (l, f)
  | e :: es, n, l, f, k => if n + cashE e < l then lwGo es (n + cashE e) (n + cashE e) (k + 1) (k + 1) else lwGo es (n + cashE e) l f (k + 1)
def lwS (xs : List Ent) : Int × Int := lwGo xs 0 0 0 0
def clL : List Ent → List Int
  | [] => []
  | e :: es => if e.2.1 = 3 then e.1 :: clL es else clL es
theorem clL_len : ∀ (xs : List Ent), (clL xs).length ≤ xs.length
  | [] => by simp [clL]
  | e :: es => by have := clL_len es; rw [clL]; split <;> simp <;> omega
def dsGo (d : Int) : List Ent → List Int → List Int
  | [], acc => acc
  | e :: es, acc => if e.1 = d ∧ ¬ e.2.1 = 3 then dsGo d es (acc.set e.2.1.toNat ((acc[e.2.1.toNat]?).getD 0 + e.2.2.2)) else dsGo d es acc
def dsS (d : Int) (xs : List Ent) : List Int := dsGo d xs (List.replicate 3 0)
theorem dsGo_len (d : Int) : ∀ (xs : List Ent) (acc : List Int), (dsGo d xs acc).length = acc.length
  | [], _ => rfl
  | e :: es, acc => by rw [dsGo]; split <;> rw [dsGo_len d es] <;> simp
theorem dsS_len (d : Int) (xs : List Ent) : (dsS d xs).length = 3 := by unfold dsS; rw [dsGo_len]; simp
theorem ds_step {d : Int} {es : List Ent} {i : Nat} {e : Ent} {acc acc0 : List Int} {y : Int} (hx : es[i]? = some e) (hy : acc[e.2.1.toNat]? = some y) (h1 : e.1 = d) (h2 : ¬ e.2.1 = 3) (hF : dsGo d (es.drop i) acc = dsGo d es acc0) :
    dsGo d (es.drop (i + 1)) (acc.set e.2.1.toNat (y + e.2.2.2)) = dsGo d es acc0 := by
  rw [drop_cons hx, dsGo, if_pos ⟨h1, h2⟩, hy] at hF; exact hF
theorem ds_skip {d : Int} {es : List Ent} {i : Nat} {e : Ent} {acc acc0 : List Int} (hx : es[i]? = some e) (h1 : ¬ (e.1 = d ∧ ¬ e.2.1 = 3)) (hF : dsGo d (es.drop i) acc = dsGo d es acc0) : dsGo d (es.drop (i + 1)) acc = dsGo d es acc0 := by
  rw [drop_cons hx, dsGo, if_neg h1] at hF; exact hF
theorem ds_bd {acc : List Int} {i : Nat} {k : Nat} {q : Int} (h : ∀ (j : Nat) (x : Int), acc[j]? = some x → 0 ≤ x ∧ x ≤ 10000000 * (i : Int)) (hq : 0 ≤ q ∧ q ≤ 10000000 * ((i + 1 : Nat) : Int)) : ∀ (j : Nat) (x : Int), (acc.set k q)[j]? = some x → 0 ≤ x ∧ x ≤ 10000000 * ((i + 1 : Nat) : Int) := by
  intro j x hx
  rw [List.getElem?_set] at hx
  split at hx
  · split at hx
    · cases hx; exact hq
    · cases hx
  · have := h j x hx; omega
def pdE (n : Str) (e : Ent) : Int := if e.2.1 = 1 ∧ e.2.2.1 = n then e.2.2.2 else 0
theorem pdE_def (n : Str) (e : Ent) : pdE n e = if e.2.1 = 1 ∧ e.2.2.1 = n then e.2.2.2 else 0 := rfl
def odGo (n : Str) : List Ent → Int → Option Int
  | [], _ => none
  | e :: es, p => if e.2.1 = 0 ∧ e.2.2.1 = n then (if p < e.2.2.2 then some e.1 else odGo n es (p - e.2.2.2)) else odGo n es p
def odS (n : Str) (xs : List Ent) : Option Int := odGo n xs (sumI (pdE n) xs)
def odA (xs : List Ent) (n : Str) : Int := if dbB xs && wordB n then (odS n xs).getD 0 else 0
def odB (xs : List Ent) (n : Str) : Int := if dbB xs && wordB n then (if (odS n xs).isSome then 0 else 4) else 1
theorem od_some {xs : List Ent} {n : Str} {d : Int} (h : dbB xs = true) (h' : wordB n = true) (e : odS n xs = some d) : odA xs n = d ∧ odB xs n = 0 := by unfold odA odB; rw [h, h', e]; exact ⟨rfl, rfl⟩
theorem od_none {xs : List Ent} {n : Str} (h : dbB xs = true) (h' : wordB n = true) (e : odS n xs = none) : odA xs n = 0 ∧ odB xs n = 4 := by unfold odA odB; rw [h, h', e]; exact ⟨rfl, rfl⟩
theorem od_bad {xs : List Ent} {n : Str} (h : dbB xs = false ∨ wordB n = false) : odA xs n = 0 ∧ odB xs n = 1 := by
  unfold odA odB
  have : (dbB xs && wordB n) = false := by rcases h with h | h <;> simp [h]
  rw [this]; exact ⟨rfl, rfl⟩
def addL (xs : List Ent) (e : Ent) : List Ent := if dbB xs then if xs.length = 60 then [] else if dbB (xs ++ [e]) then xs ++ [e] else [] else []
def addC (xs : List Ent) (e : Ent) : Int := if dbB xs then if xs.length = 60 then 3 else if dbB (xs ++ [e]) then 0 else 5 else 1
theorem addL_len (xs : List Ent) (e : Ent) : (addL xs e).length ≤ 60 := by
  unfold addL
  split
  · split
    · simp
    · split
      · exact dbB_len ‹_›
      · simp
  · simp

theorem c_impl_OwesOf (w0 : World) (v_list : Value) (list : List (Int × Int × Str × Int)) {S_list : Nat → Prop} (name : Str) (h_list : Rds shEnt S_list w0 v_list list) (g0 : list.length ≤ 1048576) (g1 : name.length ≤ 9223372036854775807) :
    Calls Tryz.prog 106 #[v_list, St name] w0 (Ret w0 (fun v _ => v = .tuple #[.int .i64 (if dbB list && wordB name then owS name list else 0), .int .i64 (if dbB list && wordB name then 0 else 1)])) := by
 refine enter (N := 17) Tryz.func106 rfl rfl rfl ?_
 intro A H
 have hx0 := Ext.rfl' w0
 have hl_list := h_list.length_le
 revert A; refine go ?_; intro A H
 refine wc H cb55 (c_impl_IsDayBook _ v_list list (h_list.ext pos_shEnt hx0) (by assumption)) ?_
 clear H A; rintro v4 w5 he6 rfl A H
 obtain ⟨hx8, _⟩ := nx hx0 he6
 revert A; refine go ?_; intro A H
 rcases Bool.eq_false_or_eq_true (dbB list) with c11 | c11
 rw [c11] at H
 have hlenc11 := dbB_len c11
 have hentc11 := dbB_ent c11
 refine wv H (op_move H rfl rfl) ?_
 clear H A; intro A H
 refine wc H cb80 (c_impl_IsWord _ name (by assumption)) ?_
 clear H A; rintro v13 w14 he15 rfl A H
 obtain ⟨hx17, _⟩ := nx hx8 he15
 revert A; refine go ?_; intro A H
 rcases Bool.eq_false_or_eq_true (wordB name) with c20 | c20
 rw [c20] at H
 revert A; refine go ?_; intro A H
 refine wc H cb85 (c_impl_owesOf _ v_list list name (h_list.ext pos_shEnt hx17) (by assumption) (by assumption)) ?_
 clear H A; rintro v23 w24 he25 rfl A H
 obtain ⟨hx27, _⟩ := nx hx17 he25
 revert A; refine go ?_; intro A H
 refine ret2 H rfl rfl rfl ?_
 clear H A
 exact ret_mk hx27 (tup2_eq (int_eq (by simp [c11, c20])) (int_eq (by simp [c11, c20])))
 rw [c20] at H
 revert A; refine go ?_; intro A H
 refine ret2 H rfl rfl rfl ?_
 clear H A
 exact ret_mk hx17 (tup2_eq (int_eq (by simp [c11, c20])) (int_eq (by simp [c11, c20])))
 rw [c11] at H
 revert A; refine go ?_; intro A H
 refine ret2 H rfl rfl rfl ?_
 clear H A
 exact ret_mk hx8 (tup2_eq (int_eq (by simp [c11])) (int_eq (by simp [c11])))



theorem c_spec_OwesOf (w0 : World) (v_list : Value) (list : List (Int × Int × Str × Int)) {S_list : Nat → Prop} (name : Str) (h_list : Rds shEnt S_list w0 v_list list) (g0 : list.length ≤ 1048576) (g1 : name.length ≤ 9223372036854775807) :
    Calls Tryz.prog 139 #[v_list, St name] w0 (Ret w0 (fun v _ => v = .tuple #[.int .i64 (if dbB list && wordB name then owS name list else 0), .int .i64 (if dbB list && wordB name then 0 else 1)])) := by
 refine enter (N := 17) Tryz.func139 rfl rfl rfl ?_
 intro A H
 have hx0 := Ext.rfl' w0
 have hl_list := h_list.length_le
 revert A; refine go ?_; intro A H
 refine wc H cb58 (c_spec_IsDayBook _ v_list list (h_list.ext pos_shEnt hx0) (by assumption)) ?_
 clear H A; rintro v4 w5 he6 rfl A H
 obtain ⟨hx8, _⟩ := nx hx0 he6
 revert A; refine go ?_; intro A H
 rcases Bool.eq_false_or_eq_true (dbB list) with c11 | c11
 rw [c11] at H
 have hlenc11 := dbB_len c11
 have hentc11 := dbB_ent c11
 refine wv H (op_move H rfl rfl) ?_
 clear H A; intro A H
 refine wc H cb86 (c_spec_IsWord _ name (by assumption)) ?_
 clear H A; rintro v13 w14 he15 rfl A H
 obtain ⟨hx17, _⟩ := nx hx8 he15
 revert A; refine go ?_; intro A H
 rcases Bool.eq_false_or_eq_true (wordB name) with c20 | c20
 rw [c20] at H
 revert A; refine go ?_; intro A H
 refine wc H cb91 (c_spec_l33Owes _ v_list list name (h_list.ext pos_shEnt hx17) (by assumption) (by assumption)) ?_
 clear H A; rintro v23 w24 he25 rfl A H
 obtain ⟨hx27, _⟩ := nx hx17 he25
 revert A; refine go ?_; intro A H
 refine ret2 H rfl rfl rfl ?_
 clear H A
 exact ret_mk hx27 (tup2_eq (int_eq (by simp [c11, c20])) (int_eq (by simp [c11, c20])))
 rw [c20] at H
 revert A; refine go ?_; intro A H
 refine ret2 H rfl rfl rfl ?_
 clear H A
 exact ret_mk hx17 (tup2_eq (int_eq (by simp [c11, c20])) (int_eq (by simp [c11, c20])))
 rw [c11] at H
 revert A; refine go ?_; intro A H
 refine ret2 H rfl rfl rfl ?_
 clear H A
 exact ret_mk hx8 (tup2_eq (int_eq (by simp [c11])) (int_eq (by simp [c11])))



theorem c_impl_cashOfEntry (w0 : World) (e : Int × Int × Str × Int) (g0 : -9223372036854775807 ≤ e.2.2.2) (g1 : e.2.2.2 ≤ 9223372036854775807) :
    Calls Tryz.prog 123 #[.agg #[.int .i64 e.1, .int .i64 e.2.1, St e.2.2.1, .int .i64 e.2.2.2]] w0 (Ret w0 (fun v _ => v = .int .i64 (cashE e))) := by
 refine enter (N := 14) Tryz.func123 rfl rfl rfl ?_
 intro A H
 have hx0 := Ext.rfl' w0
 revert A; refine go ?_; intro A H
 refine we H (op_box' H rfl rfl rfl) ?_
 clear H A; rintro _ w2 ⟨rfl, he3, hb4, hz5⟩ A H
 obtain ⟨hx7, _⟩ := nx hx0 he3
 revert A; refine go ?_; intro A H
 refine fl 1 H U69 ti2 U2 hb4.cells ?_
 clear H A; refine go ?_; intro A H
 by_cases c13 : e.2.1 = (1 : Int)
 rw [decide_eq_true c13] at H
 revert A; refine go ?_; intro A H
 refine fl 3 H U69 ti2 U2 hb4.cells ?_
 clear H A; refine go ?_; intro A H
 refine ret1 H rfl rfl ?_
 clear H A
 exact ret_mk hx7 (int_eq (by simp [cashE, c13]))
 rw [decide_eq_false c13] at H
 revert A; refine go ?_; intro A H
 by_cases c19 : e.2.1 = (2 : Int)
 rw [decide_eq_true c19] at H
 revert A; refine go ?_; intro A H
 refine fl 3 H U69 ti2 U2 hb4.cells ?_
 clear H A; intro A H
 refine wv H ((op_neg H rfl rfl).int (IntWalk.i64_in _ (by omega))) ?_
 clear H A; refine go ?_; intro A H
 refine ret1 H rfl rfl ?_
 clear H A
 exact ret_mk hx7 (int_eq (by simp [cashE, c19]))
 rw [decide_eq_false c19] at H
 revert A; refine go ?_; intro A H
 refine ret1 H rfl rfl ?_
 clear H A
 exact ret_mk hx7 (int_eq (by simp [cashE, c13, c19]))



theorem c_spec_l33Cash (w0 : World) (e : Int × Int × Str × Int) (g0 : -9223372036854775807 ≤ e.2.2.2) (g1 : e.2.2.2 ≤ 9223372036854775807) :
    Calls Tryz.prog 159 #[.agg #[.int .i64 e.1, .int .i64 e.2.1, St e.2.2.1, .int .i64 e.2.2.2]] w0 (Ret w0 (fun v _ => v = .int .i64 (cashE e))) := by
 refine enter (N := 14) Tryz.func159 rfl rfl rfl ?_
 intro A H
 have hx0 := Ext.rfl' w0
 revert A; refine go ?_; intro A H
 refine we H (op_box' H rfl rfl rfl) ?_
 clear H A; rintro _ w2 ⟨rfl, he3, hb4, hz5⟩ A H
 obtain ⟨hx7, _⟩ := nx hx0 he3
 revert A; refine go ?_; intro A H
 refine fl 1 H U69 ti2 U2 hb4.cells ?_
 clear H A; refine go ?_; intro A H
 by_cases c13 : e.2.1 = (1 : Int)
 rw [decide_eq_true c13] at H
 revert A; refine go ?_; intro A H
 refine fl 3 H U69 ti2 U2 hb4.cells ?_
 clear H A; refine go ?_; intro A H
 refine ret1 H rfl rfl ?_
 clear H A
 exact ret_mk hx7 (int_eq (by simp [cashE, c13]))
 rw [decide_eq_false c13] at H
 revert A; refine go ?_; intro A H
 by_cases c19 : e.2.1 = (2 : Int)
 rw [decide_eq_true c19] at H
 revert A; refine go ?_; intro A H
 refine fl 3 H U69 ti2 U2 hb4.cells ?_
 clear H A; intro A H
 refine wv H ((op_neg H rfl rfl).int (IntWalk.i64_in _ (by omega))) ?_
 clear H A; refine go ?_; intro A H
 refine ret1 H rfl rfl ?_
 clear H A
 exact ret_mk hx7 (int_eq (by simp [cashE, c19]))
 rw [decide_eq_false c19] at H
 revert A; refine go ?_; intro A H
 refine ret1 H rfl rfl ?_
 clear H A
 exact ret_mk hx7 (int_eq (by simp [cashE, c13, c19]))



theorem c_spec_l33Code (w0 : World) (v_list : Value) (list : List (Int × Int × Str × Int)) {S_list : Nat → Prop} (day : Int) (h_list : Rds shEnt S_list w0 v_list list) (g0 : list.length ≤ 1048576) :
    Calls Tryz.prog 158 #[v_list, .int .i64 day] w0 (Ret w0 (fun v _ => v = .int .i64 (codeD list day))) := by
 refine enter (N := 11) Tryz.func158 rfl rfl rfl ?_
 intro A H
 have hx0 := Ext.rfl' w0
 have hl_list := h_list.length_le
 revert A; refine go ?_; intro A H
 refine wc H cb58 (c_spec_IsDayBook _ v_list list (h_list.ext pos_shEnt hx0) (by assumption)) ?_
 clear H A; rintro v3 w4 he5 rfl A H
 obtain ⟨hx7, _⟩ := nx hx0 he5
 revert A; refine go ?_; intro A H
 rcases Bool.eq_false_or_eq_true (dbB list) with c9 | c9
 rw [c9] at H
 have hlenc9 := dbB_len c9
 have hentc9 := dbB_ent c9
 revert A; refine go ?_; intro A H
 refine wc H cb87 (c_spec_l01In _ day (0 : Int) (100000 : Int) ) ?_
 clear H A; rintro v11 w12 he13 rfl A H
 obtain ⟨hx15, _⟩ := nx hx7 he13
 revert A; refine go ?_; intro A H
 rcases Bool.eq_false_or_eq_true (decide ((0 : Int) ≤ day) && decide (day ≤ (100000 : Int))) with c17 | c17
 rw [c17] at H
 revert A; refine go ?_; intro A H
 refine ret1 H rfl rfl ?_
 clear H A
 exact ret_mk hx15 (int_eq (by simp [codeD, dateB, c9, c17]))
 rw [c17] at H
 revert A; refine go ?_; intro A H
 refine ret1 H rfl rfl ?_
 clear H A
 exact ret_mk hx15 (int_eq (by simp [codeD, dateB, c9, c17]))
 rw [c9] at H
 revert A; refine go ?_; intro A H
 refine ret1 H rfl rfl ?_
 clear H A
 exact ret_mk hx7 (int_eq (by simp [codeD, c9]))



theorem c_impl_CashOf (w0 : World) (v_list : Value) (list : List (Int × Int × Str × Int)) {S_list : Nat → Prop} (day : Int) (h_list : Rds shEnt S_list w0 v_list list) (g0 : list.length ≤ 1048576) :
    Calls Tryz.prog 105 #[v_list, .int .i64 day] w0 (Ret w0 (fun v _ => v = .tuple #[.int .i64 (if codeD list day = 0 then sumI (csE day) list else 0), .int .i64 (codeD list day)])) := by
 refine enter (N := 31) Tryz.func105 rfl rfl rfl ?_
 intro A H
 have hx0 := Ext.rfl' w0
 have hl_list := h_list.length_le
 revert A; refine go ?_; intro A H
 refine wc H cb55 (c_impl_IsDayBook _ v_list list (h_list.ext pos_shEnt hx0) (by assumption)) ?_
 clear H A; rintro v4 w5 he6 rfl A H
 obtain ⟨hx8, _⟩ := nx hx0 he6
 revert A; refine go ?_; intro A H
 rcases Bool.eq_false_or_eq_true (dbB list) with c10 | c10
 rw [c10] at H
 have hlenc10 := dbB_len c10
 have hentc10 := dbB_ent c10
 revert A; refine go ?_; intro A H
 refine wc H cb114 (c_impl_isDate _ day ) ?_
 clear H A; rintro v12 w13 he14 rfl A H
 obtain ⟨hx16, _⟩ := nx hx8 he14
 revert A; refine go ?_; intro A H
 rcases Bool.eq_false_or_eq_true (dateB day) with c18 | c18
 rw [c18] at H
 revert A; refine go ?_; intro A H
 refine wv H (ln H U32 h_list) ?_
 clear H A; refine go ?_; intro A H
 refine loop_inv (X := Nat × Int) (fun ⟨i, q⟩ fr wl => Sl 31 fr [(1, .int .i64 day), (6, .int .i64 q), (15, v_list), (16, .int .i64 ((list.length : Nat) : Int)), (17, .int .i64 ((i : Nat) : Int))] ∧ Ext w0 wl ∧ w13.heap.size ≤ wl.heap.size ∧ (i ≤ list.length) ∧ (-10000000 * (i : Int) ≤ q) ∧ (q ≤ 10000000 * (i : Int)) ∧ (q + sumI (csE day) (list.drop i) = sumI (csE day) list)) (fun ⟨i, q⟩ => list.length - i) (0, (0 : Int)) ?_ ?_
 exact ⟨(sl H), hx16, (by omega), (by omega), (by omega), (by omega), (by simp)⟩
 clear H A
 rintro ⟨i, q⟩ A w23 ⟨H, hx24, hzl26, hi, hq0, hq1, hF⟩
 have hzhx24 := hx24.size
 revert A; refine go ?_; intro A H
 by_cases c28 : ((i : Nat) : Int) < ((list.length : Nat) : Int)
 rw [decide_eq_true c28] at H
 revert A; refine go ?_; intro A H
 obtain ⟨x29, hx29⟩ := get_ex (xs := list) (j := i) (by omega)
 obtain ⟨p30, hi32, hc33, b36, b37, b38, b39, hs35⟩ := at_shEnt h_list hx29
 have hbx29 := ent_bd (hentc10 _ (List.mem_of_getElem? hx29))
 have hcbx29 := cashE_bd (hentc10 _ (List.mem_of_getElem? hx29))
 refine wv H (ix H U32 ti69 hi32) ?_
 clear H A; intro A H
 refine wv H (ls H U69 ti69 (hc33.ext hx24)) ?_
 clear H A; intro A H
 refine we H (op_alloc' rfl ti69 rfl) ?_
 clear H A; rintro _ w43 ⟨rfl, he44, hb45, hz46⟩ A H
 obtain ⟨hx48, _⟩ := nx hx24 he44
 refine ws H (op_sa H ti69 hb45) ?_
 rintro w49 ⟨hb51, hst50, hz52⟩
 obtain ⟨hx53, _⟩ := nb hx48 hst50
 clear hb45
 revert A; refine go ?_; intro A H
 refine fl 0 H U69 ti2 U2 hb51.cells ?_
 clear H A; refine go ?_; intro A H
 by_cases c58 : x29.1 ≤ day
 rw [decide_eq_true c58] at H
 revert A; refine go ?_; intro A H
 refine wv H (ls H U69 ti69 hb51.cells) ?_
 clear H A; intro A H
 refine wc H cb123 (c_impl_cashOfEntry _ x29 (by omega) (by omega)) ?_
 clear H A; rintro v61 w62 he63 rfl A H
 obtain ⟨hx65, _⟩ := nx hx53 he63
 replace hb51 := hb51.ext he63
 refine wv H ((op_add H rfl rfl rfl).int (IntWalk.i64_in _ (by omega))) ?_
 clear H A; refine go ?_; intro A H
 refine wv H ((op_add H rfl rfl rfl).int (IntWalk.i64_in _ (by omega))) ?_
 clear H A; refine go ?_; intro A H
 refine ⟨((i + 1), (q + (cashE x29 : Int))), ?_, ?_⟩
 refine ⟨(sl H), hx65, (by omega), (by omega), (by omega), (by omega), (by rw [drop_cons hx29, sumI] at hF; have e := csE_def day x29; simp [c58] at e; omega)⟩
 show (list.length - ((i + 1)) : Nat) < list.length - i; omega
 rw [decide_eq_false c58] at H
 revert A; refine go ?_; intro A H
 refine wv H ((op_add H rfl rfl rfl).int (IntWalk.i64_in _ (by omega))) ?_
 clear H A; refine go ?_; intro A H
 refine ⟨((i + 1), q), ?_, ?_⟩
 refine ⟨(sl H), hx53, (by omega), (by omega), (by omega), (by omega), (by rw [drop_cons hx29, sumI] at hF; have e := csE_def day x29; simp [c58] at e; omega)⟩
 show (list.length - ((i + 1)) : Nat) < list.length - i; omega
 rw [decide_eq_false c28] at H
 revert A; refine go ?_; intro A H
 refine ret2 H rfl rfl rfl ?_
 clear H A
 exact ret_mk hx24 (tup2_eq (int_eq (by rw [drop_nil (by omega), sumI] at hF; have hF2 : q = sumI (csE day) list := (by omega); (simp [codeD, c10, c18, hF2]; done))) (int_eq (by simp [codeD, c10, c18])))
 rw [c18] at H
 revert A; refine go ?_; intro A H
 refine ret2 H rfl rfl rfl ?_
 clear H A
 exact ret_mk hx16 (tup2_eq (int_eq (by simp [codeD, c10, c18])) (int_eq (by simp [codeD, c10, c18])))
 rw [c10] at H
 revert A; refine go ?_; intro A H
 refine ret2 H rfl rfl rfl ?_
 clear H A
 exact ret_mk hx8 (tup2_eq (int_eq (by simp [codeD, c10])) (int_eq (by simp [codeD, c10])))



theorem c_spec_CashOf (w0 : World) (v_list : Value) (list : List (Int × Int × Str × Int)) {S_list : Nat → Prop} (day : Int) (h_list : Rds shEnt S_list w0 v_list list) (g0 : list.length ≤ 1048576) :
    Calls Tryz.prog 138 #[v_list, .int .i64 day] w0 (Ret w0 (fun v _ => v = .tuple #[.int .i64 (if codeD list day = 0 then sumI (csE day) list else 0), .int .i64 (codeD list day)])) := by
 refine enter (N := 36) Tryz.func138 rfl rfl rfl ?_
 intro A H
 have hx0 := Ext.rfl' w0
 have hl_list := h_list.length_le
 revert A; refine go ?_; intro A H
 refine wc H cb158 (c_spec_l33Code _ v_list list day (h_list.ext pos_shEnt hx0) (by assumption)) ?_
 clear H A; rintro v5 w6 he7 rfl A H
 obtain ⟨hx9, _⟩ := nx hx0 he7
 revert A; refine go ?_; intro A H
 by_cases c13 : (codeD list day : Int) = (0 : Int)
 rw [decide_eq_true c13] at H
 have hcdc13 := codeD_ok c13
 have hlenc13 := dbB_len hcdc13.1
 have hentc13 := dbB_ent hcdc13.1
 revert A; refine go ?_; intro A H
 refine loop_inv (X := Nat × Int) (fun ⟨i, q⟩ fr wl => Sl 36 fr [(0, v_list), (1, .int .i64 day), (7, .int .i64 q), (8, .int .i64 ((i : Nat) : Int))] ∧ Ext w0 wl ∧ w6.heap.size ≤ wl.heap.size ∧ (i ≤ list.length) ∧ (-10000000 * (i : Int) ≤ q) ∧ (q ≤ 10000000 * (i : Int)) ∧ (q + sumI (csE day) (list.drop i) = sumI (csE day) list)) (fun ⟨i, q⟩ => list.length - i) (0, (0 : Int)) ?_ ?_
 exact ⟨(sl H), hx9, (by omega), (by omega), (by omega), (by omega), (by simp)⟩
 clear H A
 rintro ⟨i, q⟩ A w16 ⟨H, hx17, hzl19, hi, hq0, hq1, hF⟩
 have hzhx17 := hx17.size
 revert A; refine go ?_; intro A H
 refine wv H (ln H U32 h_list) ?_
 clear H A; refine go ?_; intro A H
 by_cases c24 : ((i : Nat) : Int) < ((list.length : Nat) : Int)
 rw [decide_eq_true c24] at H
 revert A; refine go ?_; intro A H
 obtain ⟨x27, hx27⟩ := get_ex (xs := list) (j := i) (by omega)
 obtain ⟨p28, hi30, hc31, b34, b35, b36, b37, hs33⟩ := at_shEnt h_list hx27
 have hbx27 := ent_bd (hentc13 _ (List.mem_of_getElem? hx27))
 have hcbx27 := cashE_bd (hentc13 _ (List.mem_of_getElem? hx27))
 refine wv H (ix H U32 ti69 hi30) ?_
 clear H A; intro A H
 refine wv H (fa H U69 ti2) ?_
 clear H A; intro A H
 refine wv H (lf 0 H U2 (hc31.ext hx17)) ?_
 clear H A; refine go ?_; intro A H
 by_cases c43 : x27.1 ≤ day
 rw [decide_eq_true c43] at H
 revert A; refine go ?_; intro A H
 refine wv H (ix H U32 ti69 hi30) ?_
 clear H A; intro A H
 refine wv H (ls H U69 ti69 (hc31.ext hx17)) ?_
 clear H A; intro A H
 refine wc H cb159 (c_spec_l33Cash _ x27 (by omega) (by omega)) ?_
 clear H A; rintro v49 w50 he51 rfl A H
 obtain ⟨hx53, _⟩ := nx hx17 he51
 refine wv H ((op_add H rfl rfl rfl).int (IntWalk.i64_in _ (by omega))) ?_
 clear H A; refine go ?_; intro A H
 refine wv H ((op_add H rfl rfl rfl).int (IntWalk.i64_in _ (by omega))) ?_
 clear H A; refine go ?_; intro A H
 refine ⟨((i + 1), (q + (cashE x27 : Int))), ?_, ?_⟩
 refine ⟨(sl H), hx53, (by omega), (by omega), (by omega), (by omega), (by rw [drop_cons hx27, sumI] at hF; have e := csE_def day x27; simp [c43] at e; omega)⟩
 show (list.length - ((i + 1)) : Nat) < list.length - i; omega
 rw [decide_eq_false c43] at H
 revert A; refine go ?_; intro A H
 refine wv H ((op_add H rfl rfl rfl).int (IntWalk.i64_in _ (by omega))) ?_
 clear H A; refine go ?_; intro A H
 refine ⟨((i + 1), q), ?_, ?_⟩
 refine ⟨(sl H), hx17, (by omega), (by omega), (by omega), (by omega), (by rw [drop_cons hx27, sumI] at hF; have e := csE_def day x27; simp [c43] at e; omega)⟩
 show (list.length - ((i + 1)) : Nat) < list.length - i; omega
 rw [decide_eq_false c24] at H
 revert A; refine go ?_; intro A H
 refine ret2 H rfl rfl rfl ?_
 clear H A
 exact ret_mk hx17 (tup2_eq (int_eq (by rw [drop_nil (by omega), sumI] at hF; have hF2 : q = sumI (csE day) list := (by omega); (simp [c13, hF2]; done))) (int_eq (by simp [c13])))
 rw [decide_eq_false c13] at H
 revert A; refine go ?_; intro A H
 refine ret2 H rfl rfl rfl ?_
 clear H A
 exact ret_mk hx9 (tup2_eq (int_eq (by simp [c13])) (int_eq (by simp)))



theorem c_impl_AddEntry (w0 : World) (v_list : Value) (list : List (Int × Int × Str × Int)) {S_list : Nat → Prop} (e : Int × Int × Str × Int) (h_list : Rds shEnt S_list w0 v_list list) (g0 : list.length ≤ 1048576) (g1 : I64 e.1) (g2 : I64 e.2.1) (g3 : e.2.2.1.length ≤ 9223372036854775807) (g4 : I64 e.2.2.2) :
    Calls Tryz.prog 122 #[v_list, .agg #[.int .i64 e.1, .int .i64 e.2.1, St e.2.2.1, .int .i64 e.2.2.2]] w0 (Ret w0 (fun v w1 => ∃ r0, v = .tuple #[r0, .int .i64 (addC list e)] ∧ Own shEnt 69 w0.heap.size w0.heap.size w1.heap.size w1 r0 (addL list e))) := by
 refine enter (N := 23) Tryz.func122 rfl rfl rfl ?_
 intro A H
 have hx0 := Ext.rfl' w0
 have hl_list := h_list.length_le
 revert A; refine go ?_; intro A H
 refine we H (op_box' H rfl rfl rfl) ?_
 clear H A; rintro _ w2 ⟨rfl, he3, hb4, hz5⟩ A H
 obtain ⟨hx7, _⟩ := nx hx0 he3
 revert A; refine go ?_; intro A H
 refine wc H cb55 (c_impl_IsDayBook _ v_list list (h_list.ext pos_shEnt hx7) (by assumption)) ?_
 clear H A; rintro v11 w12 he13 rfl A H
 obtain ⟨hx15, _⟩ := nx hx7 he13
 replace hb4 := hb4.ext he13
 revert A; refine go ?_; intro A H
 rcases Bool.eq_false_or_eq_true (dbB list) with c17 | c17
 rw [c17] at H
 have hlenc17 := dbB_len c17
 have hentc17 := dbB_ent c17
 revert A; refine go ?_; intro A H
 refine wv H (ln H U32 h_list) ?_
 clear H A; refine go ?_; intro A H
 by_cases c21 : ((list.length : Nat) : Int) = (60 : Int)
 rw [decide_eq_true c21] at H
 clear hb4
 revert A; refine go ?_; intro A H
 refine ret2 H rfl rfl rfl ?_
 clear H A
 refine ret_mk hx15 ⟨.slice none 0 0, (tup2_eq rfl (int_eq (by unfold addC; rw [if_pos c17, if_pos (by omega)]))), ?_⟩
 refine Own.nil_ _ _ _ _ _ _ ?_
 unfold addL; rw [if_pos c17, if_pos (by omega)]
 rw [decide_eq_false c21] at H
 revert A; refine go ?_; intro A H
 refine dre Ext follows_mixed ?_
 intro w24 he25 hs27
 obtain ⟨hx26, _⟩ := nx hx15 he25
 replace hb4 := hb4.ext he25
 refine dr_share (fun fr wl S => ∃ (q28 : Value) (q29 : Value) (n32 n33 : Nat) (n34 n35 : Nat), S = (fun w' => StpL wl w' (fun i => Value.ownBlock q28 = some i)) ∧ Sl 23 fr [(15, q28), (17, q29)] ∧ Ext w0 wl ∧ Own shEnt 69 n32 n32 n33 wl q28 list ∧ Own shEnt 69 n34 n34 n35 wl q29 ([e]) ∧ (w24.heap.size ≤ n32) ∧ (n33 ≤ wl.heap.size) ∧ (n32 ≤ n33) ∧ (w24.heap.size ≤ n34) ∧ (n35 ≤ wl.heap.size) ∧ (∀ q, Value.ownBlock q28 = some q → Value.ownBlock q29 ≠ some q) ∧ w24.heap.size ≤ wl.heap.size) 2 #[true, true, true, true, true, false, false] ?_ ?_
 clear H A
 rintro A w30 _ ⟨q28, q29, n32, n33, n34, n35, rfl, H, hx31, hf36, hf37, hg40, hg41, hg42, hg43, hg44, hsp38, hzl39⟩
 have hzhx31 := hx31.size
 have hs46 : Ext w30 w30 := Ext.rfl' _
 refine dr_one (i := 5) (by kernel_rfl) ?_
 refine pe H rfl (op_ap (ts := #[]) H U32 ti69 pos_shEnt hf36 (hf37.rds pos_shEnt) flat_shEnt) ?_
 clear H A; rintro v47 w48 ⟨ho49, hst50, hob51⟩ A H
 obtain ⟨hx53, _⟩ := no hx31 hf36 hst50
 replace hf37 := hf37.stpF flat_shEnt hst50 (fun q hq => hsp38 q hq)
 have hsp54 : ∀ q, Value.ownBlock v47 = some q → Value.ownBlock q29 ≠ some q := by intro q hq hb; have hq0 := hf37.lt q hb; rcases hob51 with h | h; (rw [h] at hq; exact hsp38 q hq hb); (rw [h] at hq; cases hq; omega)
 have hs55 := (StpL.of_ext (B := fun i => Value.ownBlock q28 = some i) hs46).trans' (Stp.toL hst50 (by intro q hq; exact hq))
 refine ⟨hs55, ?_⟩
 refine dr_narrow (S' := fun w' => Ext w48 w') (fun w' h' => StpL.trans' hs55 (StpL.of_ext h')) _ _ _ _ ?_
 have hs56 : Ext w48 w48 := Ext.rfl' _
 refine dw 6 H rfl hs56 (op_assign H rfl rfl) ?_
 clear H A; intro A H
 refine dr_end (by kernel_rfl) ?_
 clear hf37
 revert A; refine go ?_; intro A H
 refine wc H cb55 (c_impl_IsDayBook _ v47 ((list ++ [e])) (ho49.rds pos_shEnt) (by simp; omega)) ?_
 clear H A; rintro v59 w60 he61 rfl A H
 obtain ⟨hx63, _⟩ := nx hx53 he61
 replace ho49 := ho49.ext he61
 revert A; refine go ?_; intro A H
 rcases Bool.eq_false_or_eq_true (dbB ((list ++ [e]))) with c65 | c65
 rw [c65] at H
 have hlenc65 := dbB_len c65
 have hentc65 := dbB_ent c65
 revert A; refine go ?_; intro A H
 refine ret2 H rfl rfl rfl ?_
 clear H A
 refine ret_mk hx63 ⟨v47, (tup2_eq rfl (int_eq (by unfold addC; rw [if_pos c17, if_neg (by omega), if_pos c65]))), ?_⟩
 refine (fi ho49).cast ?_
 unfold addL; rw [if_pos c17, if_neg (by omega), if_pos c65]
 rw [c65] at H
 clear ho49
 revert A; refine go ?_; intro A H
 refine ret2 H rfl rfl rfl ?_
 clear H A
 refine ret_mk hx63 ⟨.slice none 0 0, (tup2_eq rfl (int_eq (by unfold addC; rw [if_pos c17, if_neg (by omega), if_neg (by rw [c65]; decide)]))), ?_⟩
 refine Own.nil_ _ _ _ _ _ _ ?_
 unfold addL; rw [if_pos c17, if_neg (by omega), if_neg (by rw [c65]; decide)]
 intro hk71
 refine dr_share (fun fr wl S => ∃ (q72 : Value) (q73 : Value) (n76 n77 : Nat) (n78 n79 : Nat), S = (fun w' => StpL wl w' (fun i => Value.ownBlock q72 = some i)) ∧ Sl 23 fr [(13, q72), (14, v_list), (17, q73)] ∧ Ext w0 wl ∧ Own shEnt 69 n76 n76 n77 wl q72 (([] : List (Int × Int × Str × Int))) ∧ Own shEnt 69 n78 n78 n79 wl q73 ([e]) ∧ (w24.heap.size ≤ n76) ∧ (n77 ≤ wl.heap.size) ∧ (n76 ≤ n77) ∧ (w24.heap.size ≤ n78) ∧ (n79 ≤ wl.heap.size) ∧ (n79 ≤ n76 ∨ n77 ≤ n78) ∧ w24.heap.size ≤ wl.heap.size) 3 #[true, true, false, true, true, false, false] ?_ ?_
 clear H A
 rintro A w74 _ ⟨q72, q73, n76, n77, n78, n79, rfl, H, hx75, hf80, hf81, hg83, hg84, hg85, hg86, hg87, hg88, hzl82⟩
 have hzhx75 := hx75.size
 have hs90 : Ext w74 w74 := Ext.rfl' _
 refine dr_one (i := 2) (by kernel_rfl) ?_
 refine pe H rfl (op_ap (ts := #[]) H U32 ti69 pos_shEnt hf80 (h_list.ext pos_shEnt hx75) flat_shEnt) ?_
 clear H A; rintro v91 w92 ⟨ho93, hst94, hob95⟩ A H
 replace ho93 := ho93.cast (List.nil_append _)
 obtain ⟨hx97, _⟩ := no hx75 hf80 hst94
 replace hf81 := hf81.stp hst94 (by intro q hq; have hq0 := hf80.lt q hq; omega)
 have hsp98 : ∀ q, Value.ownBlock v91 = some q → Value.ownBlock q73 ≠ some q := by intro q hq hb; have hq0 := hf81.lt q hb; rcases hob95 with h | h; (rw [h] at hq; first | (have hq1 := hf80.lt q hq; omega)); (rw [h] at hq; cases hq; omega)
 have hs99 := (StpL.of_ext (B := fun i => Value.ownBlock q72 = some i) hs90).trans' (Stp.toL hst94 (by intro q hq; exact hq))
 refine ⟨hs99, ?_⟩
 refine dr_narrow (S' := fun w' => StpL w92 w' (fun i => Value.ownBlock v91 = some i)) (fun w' h' => hs99.freshL h' (by intro i q; first | (rcases hob95 with h9 | h9; (exact Or.inl (h9.symm.trans q)); (rw [h9] at q; cases q; right; omega)))) _ _ _ _ ?_
 have hs100 : Ext w92 w92 := Ext.rfl' _
 exact dr_listed (by kernel_rfl) (hk71 _ _ _ ⟨v91, q73, n76, w92.heap.size, n78, n79, rfl, (sl H), hx97, ho93, hf81, (by omega), (by omega), (by omega), (by omega), (by omega), (by intro q hq hb; exact hsp98 q hq hb), (by omega)⟩)
 intro hk101
 refine dw 1 H rfl hs27 (op_move H rfl rfl) ?_
 clear H A; intro A H
 refine dv 3 H rfl hs27 (fun w' hw' => ls H U69 ti69 (hb4.ext hw').cells) ?_
 clear H A; intro A H
 refine dr_two (i := 0) (j := 4) (by kernel_rfl) ?_ ?_
 refine pe H rfl (op_b0 H pos_shEnt U32 ti69) ?_
 clear H A; rintro v104 w105 ⟨ho106, he107, hob108⟩ A H
 have hs110 := hs27.trans' he107
 obtain ⟨hx111, _⟩ := nx hx26 he107
 refine ⟨hs110, ?_⟩
 replace hb4 := hb4.ext hs110
 refine dr_narrow (S' := fun w' => StpL w105 w' (fun i => Value.ownBlock v104 = some i)) (fun w' h' => hs110.freshL h' (by intro i q; first | (right; have hq0 := ho106.lt _ q; omega))) _ _ _ _ ?_
 have hs112 : Ext w105 w105 := Ext.rfl' _
 refine dr_two (i := 2) (j := 4) (by kernel_rfl) ?_ ?_
 refine pe H rfl (op_ap (ts := #[]) H U32 ti69 pos_shEnt ho106 (h_list.ext pos_shEnt hx111) flat_shEnt) ?_
 clear H A; rintro v113 w114 ⟨ho115, hst116, hob117⟩ A H
 replace ho115 := ho115.cast (List.nil_append _)
 obtain ⟨hx119, _⟩ := no hx111 ho106 hst116
 replace hb4 := hb4.stp hst116 (by intro q hq; have hq0 := ho106.lt q hq; omega)
 have hsp120 : ∀ q, Value.ownBlock v113 = some q → q ≠ w0.heap.size := by intro q hq; have hq0 := hb4.lt; rcases hob117 with h | h; (rw [h] at hq; first | (have hq1 := ho106.lt q hq; omega)); (rw [h] at hq; cases hq; omega)
 have hs121 := (StpL.of_ext (B := fun i => Value.ownBlock v104 = some i) hs112).trans' (Stp.toL hst116 (by intro q hq; exact hq))
 refine ⟨hs121, ?_⟩
 refine dr_narrow (S' := fun w' => StpL w114 w' (fun i => Value.ownBlock v113 = some i)) (fun w' h' => hs121.freshL h' (by intro i q; first | (rcases hob117 with h9 | h9; (exact Or.inl (h9.symm.trans q)); (rw [h9] at q; cases q; right; omega)))) _ _ _ _ ?_
 have hs122 : Ext w114 w114 := Ext.rfl' _
 refine dr_one (i := 4) (by kernel_rfl) ?_
 refine pe H rfl (op_b1 (mk_shEnt e (by assumption) (by assumption) (by assumption) (by assumption)) H pos_shEnt U32 ti69) ?_
 clear H A; rintro v123 w124 ⟨ho125, he126, hob127⟩ A H
 have hs129 := hs122.trans' he126
 obtain ⟨hx130, _⟩ := nx hx119 he126
 refine ⟨(StpL.of_ext hs129), ?_⟩
 replace hb4 := hb4.ext hs129
 replace ho115 := ho115.ext hs129
 refine dr_narrow (S' := fun w' => StpL w124 w' (fun i => Value.ownBlock v113 = some i)) (fun w' h' => ((StpL.of_ext hs129)).freshL h' (by intro i q; first | (exact Or.inl q))) _ _ _ _ ?_
 have hs131 : Ext w124 w124 := Ext.rfl' _
 exact dr_listed (by kernel_rfl) (hk71 _ _ _ ⟨v113, v123, w24.heap.size, w114.heap.size, w114.heap.size, w124.heap.size, rfl, (sl H), hx130, ho115, ho125, (by omega), (by omega), (by omega), (by omega), (by omega), (by intro q hq hb; first | (have hq0 := ho115.lt q hq; have hq1 := ho125.lt q hb; omega)), (by omega)⟩)
 refine pe H rfl (op_b1 (mk_shEnt e (by assumption) (by assumption) (by assumption) (by assumption)) H pos_shEnt U32 ti69) ?_
 clear H A; rintro v132 w133 ⟨ho134, he135, hob136⟩ A H
 have hs138 := hs112.trans' he135
 obtain ⟨hx139, _⟩ := nx hx111 he135
 refine ⟨(StpL.of_ext hs138), ?_⟩
 replace hb4 := hb4.ext hs138
 replace ho106 := ho106.ext hs138
 refine dr_narrow (S' := fun w' => StpL w133 w' (fun i => Value.ownBlock v104 = some i)) (fun w' h' => ((StpL.of_ext hs138)).freshL h' (by intro i q; first | (exact Or.inl q))) _ _ _ _ ?_
 have hs140 : Ext w133 w133 := Ext.rfl' _
 exact dr_listed (by kernel_rfl) (hk101 _ _ _ ⟨v104, v132, w24.heap.size, w105.heap.size, w105.heap.size, w133.heap.size, rfl, (sl H), hx139, ho106, ho134, (by omega), (by omega), (by omega), (by omega), (by omega), (by omega), (by omega)⟩)
 refine pe H rfl (op_b1 (mk_shEnt e (by assumption) (by assumption) (by assumption) (by assumption)) H pos_shEnt U32 ti69) ?_
 clear H A; rintro v141 w142 ⟨ho143, he144, hob145⟩ A H
 have hs147 := hs27.trans' he144
 obtain ⟨hx148, _⟩ := nx hx26 he144
 refine ⟨hs147, ?_⟩
 replace hb4 := hb4.ext hs147
 refine drn hs147 ?_
 intro hs149
 refine dr_one (i := 0) (by kernel_rfl) ?_
 refine pe H rfl (op_b0 H pos_shEnt U32 ti69) ?_
 clear H A; rintro v150 w151 ⟨ho152, he153, hob154⟩ A H
 have hs156 := hs149.trans' he153
 obtain ⟨hx157, _⟩ := nx hx148 he153
 refine ⟨hs156, ?_⟩
 replace hb4 := hb4.ext hs156
 replace ho143 := ho143.ext hs156
 refine dr_narrow (S' := fun w' => StpL w151 w' (fun i => Value.ownBlock v150 = some i)) (fun w' h' => hs156.freshL h' (by intro i q; first | (right; have hq0 := ho152.lt _ q; omega))) _ _ _ _ ?_
 have hs158 : Ext w151 w151 := Ext.rfl' _
 exact dr_listed (by kernel_rfl) (hk101 _ _ _ ⟨v150, v141, w142.heap.size, w151.heap.size, w24.heap.size, w142.heap.size, rfl, (sl H), hx157, ho152, ho143, (by omega), (by omega), (by omega), (by omega), (by omega), (by omega), (by omega)⟩)
 rw [c17] at H
 clear hb4
 revert A; refine go ?_; intro A H
 refine ret2 H rfl rfl rfl ?_
 clear H A
 refine ret_mk hx15 ⟨.slice none 0 0, (tup2_eq rfl (int_eq (by unfold addC; rw [if_neg (by rw [c17]; decide)]))), ?_⟩
 refine Own.nil_ _ _ _ _ _ _ ?_
 unfold addL; rw [if_neg (by rw [c17]; decide)]



theorem c_spec_AddEntry (w0 : World) (v_list : Value) (list : List (Int × Int × Str × Int)) {S_list : Nat → Prop} (e : Int × Int × Str × Int) (h_list : Rds shEnt S_list w0 v_list list) (g0 : list.length ≤ 1048576) (g1 : I64 e.1) (g2 : I64 e.2.1) (g3 : e.2.2.1.length ≤ 9223372036854775807) (g4 : I64 e.2.2.2) :
    Calls Tryz.prog 112 #[v_list, .agg #[.int .i64 e.1, .int .i64 e.2.1, St e.2.2.1, .int .i64 e.2.2.2]] w0 (Ret w0 (fun v w1 => ∃ r0, v = .tuple #[r0, .int .i64 (addC list e)] ∧ Own shEnt 69 w0.heap.size w0.heap.size w1.heap.size w1 r0 (addL list e))) := by
 refine enter (N := 23) Tryz.func112 rfl rfl rfl ?_
 intro A H
 have hx0 := Ext.rfl' w0
 have hl_list := h_list.length_le
 revert A; refine go ?_; intro A H
 refine we H (op_box' H rfl rfl rfl) ?_
 clear H A; rintro _ w2 ⟨rfl, he3, hb4, hz5⟩ A H
 obtain ⟨hx7, _⟩ := nx hx0 he3
 revert A; refine go ?_; intro A H
 refine wc H cb58 (c_spec_IsDayBook _ v_list list (h_list.ext pos_shEnt hx7) (by assumption)) ?_
 clear H A; rintro v11 w12 he13 rfl A H
 obtain ⟨hx15, _⟩ := nx hx7 he13
 replace hb4 := hb4.ext he13
 revert A; refine go ?_; intro A H
 rcases Bool.eq_false_or_eq_true (dbB list) with c17 | c17
 rw [c17] at H
 have hlenc17 := dbB_len c17
 have hentc17 := dbB_ent c17
 revert A; refine go ?_; intro A H
 refine wv H (ln H U32 h_list) ?_
 clear H A; refine go ?_; intro A H
 by_cases c21 : ((list.length : Nat) : Int) = (60 : Int)
 rw [decide_eq_true c21] at H
 clear hb4
 revert A; refine go ?_; intro A H
 refine ret2 H rfl rfl rfl ?_
 clear H A
 refine ret_mk hx15 ⟨.slice none 0 0, (tup2_eq rfl (int_eq (by unfold addC; rw [if_pos c17, if_pos (by omega)]))), ?_⟩
 refine Own.nil_ _ _ _ _ _ _ ?_
 unfold addL; rw [if_pos c17, if_pos (by omega)]
 rw [decide_eq_false c21] at H
 revert A; refine go ?_; intro A H
 refine dre Ext follows_mixed ?_
 intro w24 he25 hs27
 obtain ⟨hx26, _⟩ := nx hx15 he25
 replace hb4 := hb4.ext he25
 refine dr_share (fun fr wl S => ∃ (q28 : Value) (q29 : Value) (n32 n33 : Nat) (n34 n35 : Nat), S = (fun w' => StpL wl w' (fun i => Value.ownBlock q28 = some i)) ∧ Sl 23 fr [(15, q28), (17, q29)] ∧ Ext w0 wl ∧ Own shEnt 69 n32 n32 n33 wl q28 list ∧ Own shEnt 69 n34 n34 n35 wl q29 ([e]) ∧ (w24.heap.size ≤ n32) ∧ (n33 ≤ wl.heap.size) ∧ (n32 ≤ n33) ∧ (w24.heap.size ≤ n34) ∧ (n35 ≤ wl.heap.size) ∧ (∀ q, Value.ownBlock q28 = some q → Value.ownBlock q29 ≠ some q) ∧ w24.heap.size ≤ wl.heap.size) 2 #[true, true, true, true, true, false, false] ?_ ?_
 clear H A
 rintro A w30 _ ⟨q28, q29, n32, n33, n34, n35, rfl, H, hx31, hf36, hf37, hg40, hg41, hg42, hg43, hg44, hsp38, hzl39⟩
 have hzhx31 := hx31.size
 have hs46 : Ext w30 w30 := Ext.rfl' _
 refine dr_one (i := 5) (by kernel_rfl) ?_
 refine pe H rfl (op_ap (ts := #[]) H U32 ti69 pos_shEnt hf36 (hf37.rds pos_shEnt) flat_shEnt) ?_
 clear H A; rintro v47 w48 ⟨ho49, hst50, hob51⟩ A H
 obtain ⟨hx53, _⟩ := no hx31 hf36 hst50
 replace hf37 := hf37.stpF flat_shEnt hst50 (fun q hq => hsp38 q hq)
 have hsp54 : ∀ q, Value.ownBlock v47 = some q → Value.ownBlock q29 ≠ some q := by intro q hq hb; have hq0 := hf37.lt q hb; rcases hob51 with h | h; (rw [h] at hq; exact hsp38 q hq hb); (rw [h] at hq; cases hq; omega)
 have hs55 := (StpL.of_ext (B := fun i => Value.ownBlock q28 = some i) hs46).trans' (Stp.toL hst50 (by intro q hq; exact hq))
 refine ⟨hs55, ?_⟩
 refine dr_narrow (S' := fun w' => Ext w48 w') (fun w' h' => StpL.trans' hs55 (StpL.of_ext h')) _ _ _ _ ?_
 have hs56 : Ext w48 w48 := Ext.rfl' _
 refine dw 6 H rfl hs56 (op_assign H rfl rfl) ?_
 clear H A; intro A H
 refine dr_end (by kernel_rfl) ?_
 clear hf37
 revert A; refine go ?_; intro A H
 refine wc H cb58 (c_spec_IsDayBook _ v47 ((list ++ [e])) (ho49.rds pos_shEnt) (by simp; omega)) ?_
 clear H A; rintro v59 w60 he61 rfl A H
 obtain ⟨hx63, _⟩ := nx hx53 he61
 replace ho49 := ho49.ext he61
 revert A; refine go ?_; intro A H
 rcases Bool.eq_false_or_eq_true (dbB ((list ++ [e]))) with c65 | c65
 rw [c65] at H
 have hlenc65 := dbB_len c65
 have hentc65 := dbB_ent c65
 revert A; refine go ?_; intro A H
 refine ret2 H rfl rfl rfl ?_
 clear H A
 refine ret_mk hx63 ⟨v47, (tup2_eq rfl (int_eq (by unfold addC; rw [if_pos c17, if_neg (by omega), if_pos c65]))), ?_⟩
 refine (fi ho49).cast ?_
 unfold addL; rw [if_pos c17, if_neg (by omega), if_pos c65]
 rw [c65] at H
 clear ho49
 revert A; refine go ?_; intro A H
 refine ret2 H rfl rfl rfl ?_
 clear H A
 refine ret_mk hx63 ⟨.slice none 0 0, (tup2_eq rfl (int_eq (by unfold addC; rw [if_pos c17, if_neg (by omega), if_neg (by rw [c65]; decide)]))), ?_⟩
 refine Own.nil_ _ _ _ _ _ _ ?_
 unfold addL; rw [if_pos c17, if_neg (by omega), if_neg (by rw [c65]; decide)]
 intro hk71
 refine dr_share (fun fr wl S => ∃ (q72 : Value) (q73 : Value) (n76 n77 : Nat) (n78 n79 : Nat), S = (fun w' => StpL wl w' (fun i => Value.ownBlock q72 = some i)) ∧ Sl 23 fr [(13, q72), (14, v_list), (17, q73)] ∧ Ext w0 wl ∧ Own shEnt 69 n76 n76 n77 wl q72 (([] : List (Int × Int × Str × Int))) ∧ Own shEnt 69 n78 n78 n79 wl q73 ([e]) ∧ (w24.heap.size ≤ n76) ∧ (n77 ≤ wl.heap.size) ∧ (n76 ≤ n77) ∧ (w24.heap.size ≤ n78) ∧ (n79 ≤ wl.heap.size) ∧ (n79 ≤ n76 ∨ n77 ≤ n78) ∧ w24.heap.size ≤ wl.heap.size) 3 #[true, true, false, true, true, false, false] ?_ ?_
 clear H A
 rintro A w74 _ ⟨q72, q73, n76, n77, n78, n79, rfl, H, hx75, hf80, hf81, hg83, hg84, hg85, hg86, hg87, hg88, hzl82⟩
 have hzhx75 := hx75.size
 have hs90 : Ext w74 w74 := Ext.rfl' _
 refine dr_one (i := 2) (by kernel_rfl) ?_
 refine pe H rfl (op_ap (ts := #[]) H U32 ti69 pos_shEnt hf80 (h_list.ext pos_shEnt hx75) flat_shEnt) ?_
 clear H A; rintro v91 w92 ⟨ho93, hst94, hob95⟩ A H
 replace ho93 := ho93.cast (List.nil_append _)
 obtain ⟨hx97, _⟩ := no hx75 hf80 hst94
 replace hf81 := hf81.stp hst94 (by intro q hq; have hq0 := hf80.lt q hq; omega)
 have hsp98 : ∀ q, Value.ownBlock v91 = some q → Value.ownBlock q73 ≠ some q := by intro q hq hb; have hq0 := hf81.lt q hb; rcases hob95 with h | h; (rw [h] at hq; first | (have hq1 := hf80.lt q hq; omega)); (rw [h] at hq; cases hq; omega)
 have hs99 := (StpL.of_ext (B := fun i => Value.ownBlock q72 = some i) hs90).trans' (Stp.toL hst94 (by intro q hq; exact hq))
 refine ⟨hs99, ?_⟩
 refine dr_narrow (S' := fun w' => StpL w92 w' (fun i => Value.ownBlock v91 = some i)) (fun w' h' => hs99.freshL h' (by intro i q; first | (rcases hob95 with h9 | h9; (exact Or.inl (h9.symm.trans q)); (rw [h9] at q; cases q; right; omega)))) _ _ _ _ ?_
 have hs100 : Ext w92 w92 := Ext.rfl' _
 exact dr_listed (by kernel_rfl) (hk71 _ _ _ ⟨v91, q73, n76, w92.heap.size, n78, n79, rfl, (sl H), hx97, ho93, hf81, (by omega), (by omega), (by omega), (by omega), (by omega), (by intro q hq hb; exact hsp98 q hq hb), (by omega)⟩)
 intro hk101
 refine dw 1 H rfl hs27 (op_move H rfl rfl) ?_
 clear H A; intro A H
 refine dv 3 H rfl hs27 (fun w' hw' => ls H U69 ti69 (hb4.ext hw').cells) ?_
 clear H A; intro A H
 refine dr_two (i := 0) (j := 4) (by kernel_rfl) ?_ ?_
 refine pe H rfl (op_b0 H pos_shEnt U32 ti69) ?_
 clear H A; rintro v104 w105 ⟨ho106, he107, hob108⟩ A H
 have hs110 := hs27.trans' he107
 obtain ⟨hx111, _⟩ := nx hx26 he107
 refine ⟨hs110, ?_⟩
 replace hb4 := hb4.ext hs110
 refine dr_narrow (S' := fun w' => StpL w105 w' (fun i => Value.ownBlock v104 = some i)) (fun w' h' => hs110.freshL h' (by intro i q; first | (right; have hq0 := ho106.lt _ q; omega))) _ _ _ _ ?_
 have hs112 : Ext w105 w105 := Ext.rfl' _
 refine dr_two (i := 2) (j := 4) (by kernel_rfl) ?_ ?_
 refine pe H rfl (op_ap (ts := #[]) H U32 ti69 pos_shEnt ho106 (h_list.ext pos_shEnt hx111) flat_shEnt) ?_
 clear H A; rintro v113 w114 ⟨ho115, hst116, hob117⟩ A H
 replace ho115 := ho115.cast (List.nil_append _)
 obtain ⟨hx119, _⟩ := no hx111 ho106 hst116
 replace hb4 := hb4.stp hst116 (by intro q hq; have hq0 := ho106.lt q hq; omega)
 have hsp120 : ∀ q, Value.ownBlock v113 = some q → q ≠ w0.heap.size := by intro q hq; have hq0 := hb4.lt; rcases hob117 with h | h; (rw [h] at hq; first | (have hq1 := ho106.lt q hq; omega)); (rw [h] at hq; cases hq; omega)
 have hs121 := (StpL.of_ext (B := fun i => Value.ownBlock v104 = some i) hs112).trans' (Stp.toL hst116 (by intro q hq; exact hq))
 refine ⟨hs121, ?_⟩
 refine dr_narrow (S' := fun w' => StpL w114 w' (fun i => Value.ownBlock v113 = some i)) (fun w' h' => hs121.freshL h' (by intro i q; first | (rcases hob117 with h9 | h9; (exact Or.inl (h9.symm.trans q)); (rw [h9] at q; cases q; right; omega)))) _ _ _ _ ?_
 have hs122 : Ext w114 w114 := Ext.rfl' _
 refine dr_one (i := 4) (by kernel_rfl) ?_
 refine pe H rfl (op_b1 (mk_shEnt e (by assumption) (by assumption) (by assumption) (by assumption)) H pos_shEnt U32 ti69) ?_
 clear H A; rintro v123 w124 ⟨ho125, he126, hob127⟩ A H
 have hs129 := hs122.trans' he126
 obtain ⟨hx130, _⟩ := nx hx119 he126
 refine ⟨(StpL.of_ext hs129), ?_⟩
 replace hb4 := hb4.ext hs129
 replace ho115 := ho115.ext hs129
 refine dr_narrow (S' := fun w' => StpL w124 w' (fun i => Value.ownBlock v113 = some i)) (fun w' h' => ((StpL.of_ext hs129)).freshL h' (by intro i q; first | (exact Or.inl q))) _ _ _ _ ?_
 have hs131 : Ext w124 w124 := Ext.rfl' _
 exact dr_listed (by kernel_rfl) (hk71 _ _ _ ⟨v113, v123, w24.heap.size, w114.heap.size, w114.heap.size, w124.heap.size, rfl, (sl H), hx130, ho115, ho125, (by omega), (by omega), (by omega), (by omega), (by omega), (by intro q hq hb; first | (have hq0 := ho115.lt q hq; have hq1 := ho125.lt q hb; omega)), (by omega)⟩)
 refine pe H rfl (op_b1 (mk_shEnt e (by assumption) (by assumption) (by assumption) (by assumption)) H pos_shEnt U32 ti69) ?_
 clear H A; rintro v132 w133 ⟨ho134, he135, hob136⟩ A H
 have hs138 := hs112.trans' he135
 obtain ⟨hx139, _⟩ := nx hx111 he135
 refine ⟨(StpL.of_ext hs138), ?_⟩
 replace hb4 := hb4.ext hs138
 replace ho106 := ho106.ext hs138
 refine dr_narrow (S' := fun w' => StpL w133 w' (fun i => Value.ownBlock v104 = some i)) (fun w' h' => ((StpL.of_ext hs138)).freshL h' (by intro i q; first | (exact Or.inl q))) _ _ _ _ ?_
 have hs140 : Ext w133 w133 := Ext.rfl' _
 exact dr_listed (by kernel_rfl) (hk101 _ _ _ ⟨v104, v132, w24.heap.size, w105.heap.size, w105.heap.size, w133.heap.size, rfl, (sl H), hx139, ho106, ho134, (by omega), (by omega), (by omega), (by omega), (by omega), (by omega), (by omega)⟩)
 refine pe H rfl (op_b1 (mk_shEnt e (by assumption) (by assumption) (by assumption) (by assumption)) H pos_shEnt U32 ti69) ?_
 clear H A; rintro v141 w142 ⟨ho143, he144, hob145⟩ A H
 have hs147 := hs27.trans' he144
 obtain ⟨hx148, _⟩ := nx hx26 he144
 refine ⟨hs147, ?_⟩
 replace hb4 := hb4.ext hs147
 refine drn hs147 ?_
 intro hs149
 refine dr_one (i := 0) (by kernel_rfl) ?_
 refine pe H rfl (op_b0 H pos_shEnt U32 ti69) ?_
 clear H A; rintro v150 w151 ⟨ho152, he153, hob154⟩ A H
 have hs156 := hs149.trans' he153
 obtain ⟨hx157, _⟩ := nx hx148 he153
 refine ⟨hs156, ?_⟩
 replace hb4 := hb4.ext hs156
 replace ho143 := ho143.ext hs156
 refine dr_narrow (S' := fun w' => StpL w151 w' (fun i => Value.ownBlock v150 = some i)) (fun w' h' => hs156.freshL h' (by intro i q; first | (right; have hq0 := ho152.lt _ q; omega))) _ _ _ _ ?_
 have hs158 : Ext w151 w151 := Ext.rfl' _
 exact dr_listed (by kernel_rfl) (hk101 _ _ _ ⟨v150, v141, w142.heap.size, w151.heap.size, w24.heap.size, w142.heap.size, rfl, (sl H), hx157, ho152, ho143, (by omega), (by omega), (by omega), (by omega), (by omega), (by omega), (by omega)⟩)
 rw [c17] at H
 clear hb4
 revert A; refine go ?_; intro A H
 refine ret2 H rfl rfl rfl ?_
 clear H A
 refine ret_mk hx15 ⟨.slice none 0 0, (tup2_eq rfl (int_eq (by unfold addC; rw [if_neg (by rw [c17]; decide)]))), ?_⟩
 refine Own.nil_ _ _ _ _ _ _ ?_
 unfold addL; rw [if_neg (by rw [c17]; decide)]




end Go.Proofs.YthbehhhblchhhaaGreat
