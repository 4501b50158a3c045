/- Questions over a day book. -/
import Derived.Test.YtocedhbefdaefaaW2
namespace Go.Proofs.Ytocedhbefdaefaa
open Go Go.RowKit

def codeD (xs : List Ent) (d : Int) : Int := if dbB xs then if dateB d then 0 else 2 else 1
theorem codeD_ok {xs : List Ent} {d : Int} (h : codeD xs d = 0) : dbB xs = true ∧ dateB d = true := by
  unfold codeD at h
  split at h
  · split at h
    · exact ⟨‹_›, ‹_›⟩
    · cases h
  · cases h
theorem owS_def (n : Str) (xs : List Ent) : owS n xs = sumI (owE n) xs := rfl
def cashE (e : Ent) : Int := if e.2.1 = 1 then e.2.2.2 else if e.2.1 = 2 then 0 - e.2.2.2 else 0
theorem cashE_bd {e : Ent} (h : entB e = true) : -10000000 ≤ cashE e ∧ cashE e ≤ 10000000 := by
  have := ent_bd h
  unfold cashE
  split
  · omega
  · split <;> omega
def csE (d : Int) (e : Ent) : Int := if e.1 ≤ d then cashE e else 0
theorem csE_def (d : Int) (e : Ent) : csE d e = if e.1 ≤ d then cashE e else 0 := rfl
def lwGo : List Ent → Int → Int → Int → Int → Int × Int
  | [], _, l, f, _ => (l, f)
  | e :: es, n, l, f, k => if n + cashE e < l then lwGo es (n + cashE e) (n + cashE e) (k + 1) (k + 1) else lwGo es (n + cashE e) l f (k + 1)
def lwS (xs : List Ent) : Int × Int := lwGo xs 0 0 0 0
def clL : List Ent → List Int
  | [] => []
  | e :: es => if e.2.1 = 3 then e.1 :: clL es else clL es
theorem clL_len : ∀ (xs : List Ent), (clL xs).length ≤ xs.length
  | [] => by simp [clL]
  | e :: es => by have := clL_len es; rw [clL]; split <;> simp <;> omega
def dsGo (d : Int) : List Ent → List Int → List Int
  | [], acc => acc
  | e :: es, acc => if e.1 = d ∧ ¬ e.2.1 = 3 then dsGo d es (acc.set e.2.1.toNat ((acc[e.2.1.toNat]?).getD 0 + e.2.2.2)) else dsGo d es acc
def dsS (d : Int) (xs : List Ent) : List Int := dsGo d xs (List.replicate 3 0)
theorem dsGo_len (d : Int) : ∀ (xs : List Ent) (acc : List Int), (dsGo d xs acc).length = acc.length
  | [], _ => rfl
  | e :: es, acc => by rw [dsGo]; split <;> rw [dsGo_len d es] <;> simp
theorem dsS_len (d : Int) (xs : List Ent) : (dsS d xs).length = 3 := by unfold dsS; rw [dsGo_len]; simp
theorem ds_step {d : Int} {es : List Ent} {i : Nat} {e : Ent} {acc acc0 : List Int} {y : Int} (hx : es[i]? = some e) (hy : acc[e.2.1.toNat]? = some y) (h1 : e.1 = d) (h2 : ¬ e.2.1 = 3) (hF : dsGo d (es.drop i) acc = dsGo d es acc0) :
    dsGo d (es.drop (i + 1)) (acc.set e.2.1.toNat (y + e.2.2.2)) = dsGo d es acc0 := by
  rw [drop_cons hx, dsGo, if_pos ⟨h1, h2⟩, hy] at hF; exact hF
theorem ds_skip {d : Int} {es : List Ent} {i : Nat} {e : Ent} {acc acc0 : List Int} (hx : es[i]? = some e) (h1 : ¬ (e.1 = d ∧ ¬ e.2.1 = 3)) (hF : dsGo d (es.drop i) acc = dsGo d es acc0) : dsGo d (es.drop (i + 1)) acc = dsGo d es acc0 := by
  rw [drop_cons hx, dsGo, if_neg h1] at hF; exact hF
theorem ds_bd {acc : List Int} {i : Nat} {k : Nat} {q : Int} (h : ∀ (j : Nat) (x : Int), acc[j]? = some x → 0 ≤ x ∧ x ≤ 10000000 * (i : Int)) (hq : 0 ≤ q ∧ q ≤ 10000000 * ((i + 1 : Nat) : Int)) : ∀ (j : Nat) (x : Int), (acc.set k q)[j]? = some x → 0 ≤ x ∧ x ≤ 10000000 * ((i + 1 : Nat) : Int) := by
  intro j x hx
  rw [List.getElem?_set] at hx
  split at hx
  · split at hx
    · cases hx; exact hq
    · cases hx
  · have := h j x hx; omega
def pdE (n : Str) (e : Ent) : Int := if e.2.1 = 1 ∧ e.2.2.1 = n then e.2.2.2 else 0
theorem pdE_def (n : Str) (e : Ent) : pdE n e = if e.2.1 = 1 ∧ e.2.2.1 = n then e.2.2.2 else 0 := rfl
def odGo (n : Str) : List Ent → Int → Option Int
  | [], _ => none
  | e :: es, p => if e.2.1 = 0 ∧ e.2.2.1 = n then (if p < e.2.2.2 then some e.1 else odGo n es (p - e.2.2.2)) else odGo n es p
def odS (n : Str) (xs : List Ent) : Option Int := odGo n xs (sumI (pdE n) xs)
def odA (xs : List Ent) (n : Str) : Int := if dbB xs && wordB n then (odS n xs).getD 0 else 0
def odB (xs : List Ent) (n : Str) : Int := if dbB xs && wordB n then (if (odS n xs).isSome then 0 else 4) else 1
theorem od_some {xs : List Ent} {n : Str} {d : Int} (h : dbB xs = true) (h' : wordB n = true) (e : odS n xs = some d) : odA xs n = d ∧ odB xs n = 0 := by unfold odA odB; rw [h, h', e]; exact ⟨rfl, rfl⟩
theorem od_none {xs : List Ent} {n : Str} (h : dbB xs = true) (h' : wordB n = true) (e : odS n xs = none) : odA xs n = 0 ∧ odB xs n = 4 := by unfold odA odB; rw [h, h', e]; exact ⟨rfl, rfl⟩
theorem od_bad {xs : List Ent} {n : Str} (h : dbB xs = false ∨ wordB n = false) : odA xs n = 0 ∧ odB xs n = 1 := by
  unfold odA odB
  have : (dbB xs && wordB n) = false := by rcases h with h | h <;> simp [h]
  rw [this]; exact ⟨rfl, rfl⟩
def addL (xs : List Ent) (e : Ent) : List Ent := if dbB xs then if xs.length = 60 then [] else if dbB (xs ++ [e]) then xs ++ [e] else [] else []
def addC (xs : List Ent) (e : Ent) : Int := if dbB xs then if xs.length = 60 then 3 else if dbB (xs ++ [e]) then 0 else 5 else 1
theorem addL_len (xs : List Ent) (e : Ent) : (addL xs e).length ≤ 60 := by
  unfold addL
  split
  · split
    · simp
    · split
      · exact dbB_len ‹_›
      · simp
  · simp

theorem c_impl_OwesOf (w0 : World) (v_list : Value) (list : List (Int × Int × Str × Int)) {S_list : Nat → Prop} (name : Str) (h_list : Rds shEnt S_list w0 v_list list) (g0 : list.length ≤ 1048576) (g1 : name.length ≤ 9223372036854775807) :
  Calls Try.prog 21 #[v_list, St name] w0 (Ret w0 (fun v _ => v = .tuple #[.int .i64 (if dbB list && wordB name then owS name list else 0), .int .i64 (if dbB list && wordB name then 0 else 1)])) := by
 refine enter (N := 17) Try.func21 rfl rfl rfl ?_
 intro a0 ha0
 have hx0 := Ext.rfl' w0
 have hl_list := h_list.length_le
 refine wp_seq ?_
 refine wp_region_lit ?_
 refine wl_val ha0 rfl rfl rfl (op_assign ha0 rfl rfl) ?_
 intro a1 ha1; clear ha0 a0
 refine wl_val ha1 rfl rfl rfl (op_assign ha1 rfl rfl) ?_
 intro a2 ha2; clear ha1 a1
 refine wpList_nil ?_
 refine then_n ?_
 refine wp_seq ?_
 refine wp_seq ?_
 refine wp_region_lit ?_
 refine wl_val ha2 rfl rfl rfl (op_move ha2 rfl rfl) ?_
 intro a3 ha3; clear ha2 a2
 refine wl_callR ha3 rfl rfl rfl (op_call ha3 rfl cb18 rfl) (c_impl_IsDayBook _ v_list list (h_list.ext pos_shEnt hx0) (by first | assumption | omega | exact dbB_ent (by assumption) | (simp; omega))) ?_
 rintro v4 w5 he6 rfl a7 ha7; clear ha3 a3
 have hx8 := hx0.trans' he6
 have hzhx8 := he6.size
 refine wl_val ha7 rfl rfl rfl (op_not ha7 rfl rfl) ?_
 intro a9 ha9; clear ha7 a7
 refine wl_val ha9 rfl rfl rfl (op_move ha9 rfl rfl) ?_
 intro a10 ha10; clear ha9 a9
 rcases Bool.eq_false_or_eq_true (dbB list) with c11 | c11
 ·
  rw [c11] at ha10
  have hlenc11 := dbB_len c11
  have hentc11 := dbB_ent c11
  refine wl_val ha10 rfl rfl rfl (op_move ha10 rfl rfl) ?_
  intro a12 ha12; clear ha10 a10
  refine wl_callR ha12 rfl rfl rfl (op_call ha12 rfl cb62 rfl) (c_impl_IsWord _ name (by first | assumption | omega | exact dbB_ent (by assumption) | (simp; omega))) ?_
  rintro v13 w14 he15 rfl a16 ha16; clear ha12 a12
  have hx17 := hx8.trans' he15
  have hzhx17 := he15.size
  refine wl_val ha16 rfl rfl rfl (op_not ha16 rfl rfl) ?_
  intro a18 ha18; clear ha16 a16
  refine wl_val ha18 rfl rfl rfl (op_pick_f ha18 rfl rfl rfl) ?_
  intro a19 ha19; clear ha18 a18
  refine wpList_nil ?_
  refine then_n ?_
  rcases Bool.eq_false_or_eq_true (wordB name) with c20 | c20
  ·
   rw [c20] at ha19
   refine cond_f ha19 rfl ?_
   refine wp_skip ?_
   refine then_n ?_
   refine wp_seq ?_
   refine wp_region_lit ?_
   refine wl_val ha19 rfl rfl rfl (op_move ha19 rfl rfl) ?_
   intro a21 ha21; clear ha19 a19
   refine wl_val ha21 rfl rfl rfl (op_move ha21 rfl rfl) ?_
   intro a22 ha22; clear ha21 a21
   refine wl_callR ha22 rfl rfl rfl (op_call ha22 rfl cb59 rfl) (c_impl_owesOf _ v_list list name (h_list.ext pos_shEnt hx17) (by first | assumption | omega | exact dbB_ent (by assumption) | (simp; omega)) (by first | assumption | omega | exact dbB_ent (by assumption) | (simp; omega))) ?_
   rintro v23 w24 he25 rfl a26 ha26; clear ha22 a22
   have hx27 := hx17.trans' he25
   have hzhx27 := he25.size
   refine wl_val ha26 rfl rfl rfl (op_assign ha26 rfl rfl) ?_
   intro a28 ha28; clear ha26 a26
   refine wl_val ha28 rfl rfl rfl (op_assign ha28 rfl rfl) ?_
   intro a29 ha29; clear ha28 a28
   refine wpList_nil ?_
   refine then_n ?_
   refine wp_ret ?_
   refine ret2 ha29 rfl rfl rfl ?_
   clear ha29 a29
   exact ret_mk hx27 (tup2_eq (int_eq (by simp [c11, c20])) (int_eq (by simp [c11, c20])))
  ·
   rw [c20] at ha19
   refine cond_t ha19 rfl ?_
   refine wp_seq ?_
   refine wp_region_lit ?_
   refine wl_val ha19 rfl rfl rfl (op_assign ha19 rfl rfl) ?_
   intro a30 ha30; clear ha19 a19
   refine wl_val ha30 rfl rfl rfl (op_assign ha30 rfl rfl) ?_
   intro a31 ha31; clear ha30 a30
   refine wpList_nil ?_
   refine then_n ?_
   refine wp_ret ?_
   refine then_r ?_
   refine ret2 ha31 rfl rfl rfl ?_
   clear ha31 a31
   exact ret_mk hx17 (tup2_eq (int_eq (by simp [c11, c20])) (int_eq (by simp [c11, c20])))
 ·
  rw [c11] at ha10
  refine wl_skip ha10 rfl rfl rfl ?_
  intro a32 ha32; clear ha10 a10
  refine wl_skip ha32 rfl rfl rfl ?_
  intro a33 ha33; clear ha32 a32
  refine wl_skip ha33 rfl rfl rfl ?_
  intro a34 ha34; clear ha33 a33
  refine wl_val ha34 rfl rfl rfl (op_pick_t ha34 rfl rfl rfl) ?_
  intro a35 ha35; clear ha34 a34
  refine wpList_nil ?_
  refine then_n ?_
  refine cond_t ha35 rfl ?_
  refine wp_seq ?_
  refine wp_region_lit ?_
  refine wl_val ha35 rfl rfl rfl (op_assign ha35 rfl rfl) ?_
  intro a36 ha36; clear ha35 a35
  refine wl_val ha36 rfl rfl rfl (op_assign ha36 rfl rfl) ?_
  intro a37 ha37; clear ha36 a36
  refine wpList_nil ?_
  refine then_n ?_
  refine wp_ret ?_
  refine then_r ?_
  refine ret2 ha37 rfl rfl rfl ?_
  clear ha37 a37
  exact ret_mk hx8 (tup2_eq (int_eq (by simp [c11])) (int_eq (by simp [c11])))

theorem c_spec_OwesOf (w0 : World) (v_list : Value) (list : List (Int × Int × Str × Int)) {S_list : Nat → Prop} (name : Str) (h_list : Rds shEnt S_list w0 v_list list) (g0 : list.length ≤ 1048576) (g1 : name.length ≤ 9223372036854775807) :
  Calls Try.prog 20 #[v_list, St name] w0 (Ret w0 (fun v _ => v = .tuple #[.int .i64 (if dbB list && wordB name then owS name list else 0), .int .i64 (if dbB list && wordB name then 0 else 1)])) := by
 refine enter (N := 17) Try.func20 rfl rfl rfl ?_
 intro a0 ha0
 have hx0 := Ext.rfl' w0
 have hl_list := h_list.length_le
 refine wp_seq ?_
 refine wp_region_lit ?_
 refine wl_val ha0 rfl rfl rfl (op_assign ha0 rfl rfl) ?_
 intro a1 ha1; clear ha0 a0
 refine wl_val ha1 rfl rfl rfl (op_assign ha1 rfl rfl) ?_
 intro a2 ha2; clear ha1 a1
 refine wpList_nil ?_
 refine then_n ?_
 refine wp_seq ?_
 refine wp_seq ?_
 refine wp_region_lit ?_
 refine wl_val ha2 rfl rfl rfl (op_move ha2 rfl rfl) ?_
 intro a3 ha3; clear ha2 a2
 refine wl_callR ha3 rfl rfl rfl (op_call ha3 rfl cb16 rfl) (c_spec_IsDayBook _ v_list list (h_list.ext pos_shEnt hx0) (by first | assumption | omega | exact dbB_ent (by assumption) | (simp; omega))) ?_
 rintro v4 w5 he6 rfl a7 ha7; clear ha3 a3
 have hx8 := hx0.trans' he6
 have hzhx8 := he6.size
 refine wl_val ha7 rfl rfl rfl (op_not ha7 rfl rfl) ?_
 intro a9 ha9; clear ha7 a7
 refine wl_val ha9 rfl rfl rfl (op_move ha9 rfl rfl) ?_
 intro a10 ha10; clear ha9 a9
 rcases Bool.eq_false_or_eq_true (dbB list) with c11 | c11
 ·
  rw [c11] at ha10
  have hlenc11 := dbB_len c11
  have hentc11 := dbB_ent c11
  refine wl_val ha10 rfl rfl rfl (op_move ha10 rfl rfl) ?_
  intro a12 ha12; clear ha10 a10
  refine wl_callR ha12 rfl rfl rfl (op_call ha12 rfl cb61 rfl) (c_spec_IsWord _ name (by first | assumption | omega | exact dbB_ent (by assumption) | (simp; omega))) ?_
  rintro v13 w14 he15 rfl a16 ha16; clear ha12 a12
  have hx17 := hx8.trans' he15
  have hzhx17 := he15.size
  refine wl_val ha16 rfl rfl rfl (op_not ha16 rfl rfl) ?_
  intro a18 ha18; clear ha16 a16
  refine wl_val ha18 rfl rfl rfl (op_pick_f ha18 rfl rfl rfl) ?_
  intro a19 ha19; clear ha18 a18
  refine wpList_nil ?_
  refine then_n ?_
  rcases Bool.eq_false_or_eq_true (wordB name) with c20 | c20
  ·
   rw [c20] at ha19
   refine cond_f ha19 rfl ?_
   refine wp_skip ?_
   refine then_n ?_
   refine wp_seq ?_
   refine wp_region_lit ?_
   refine wl_val ha19 rfl rfl rfl (op_move ha19 rfl rfl) ?_
   intro a21 ha21; clear ha19 a19
   refine wl_val ha21 rfl rfl rfl (op_move ha21 rfl rfl) ?_
   intro a22 ha22; clear ha21 a21
   refine wl_callR ha22 rfl rfl rfl (op_call ha22 rfl cb57 rfl) (c_spec_l33Owes _ v_list list name (h_list.ext pos_shEnt hx17) (by first | assumption | omega | exact dbB_ent (by assumption) | (simp; omega)) (by first | assumption | omega | exact dbB_ent (by assumption) | (simp; omega))) ?_
   rintro v23 w24 he25 rfl a26 ha26; clear ha22 a22
   have hx27 := hx17.trans' he25
   have hzhx27 := he25.size
   refine wl_val ha26 rfl rfl rfl (op_assign ha26 rfl rfl) ?_
   intro a28 ha28; clear ha26 a26
   refine wl_val ha28 rfl rfl rfl (op_assign ha28 rfl rfl) ?_
   intro a29 ha29; clear ha28 a28
   refine wpList_nil ?_
   refine then_n ?_
   refine wp_ret ?_
   refine ret2 ha29 rfl rfl rfl ?_
   clear ha29 a29
   exact ret_mk hx27 (tup2_eq (int_eq (by simp [c11, c20])) (int_eq (by simp [c11, c20])))
  ·
   rw [c20] at ha19
   refine cond_t ha19 rfl ?_
   refine wp_seq ?_
   refine wp_region_lit ?_
   refine wl_val ha19 rfl rfl rfl (op_assign ha19 rfl rfl) ?_
   intro a30 ha30; clear ha19 a19
   refine wl_val ha30 rfl rfl rfl (op_assign ha30 rfl rfl) ?_
   intro a31 ha31; clear ha30 a30
   refine wpList_nil ?_
   refine then_n ?_
   refine wp_ret ?_
   refine then_r ?_
   refine ret2 ha31 rfl rfl rfl ?_
   clear ha31 a31
   exact ret_mk hx17 (tup2_eq (int_eq (by simp [c11, c20])) (int_eq (by simp [c11, c20])))
 ·
  rw [c11] at ha10
  refine wl_skip ha10 rfl rfl rfl ?_
  intro a32 ha32; clear ha10 a10
  refine wl_skip ha32 rfl rfl rfl ?_
  intro a33 ha33; clear ha32 a32
  refine wl_skip ha33 rfl rfl rfl ?_
  intro a34 ha34; clear ha33 a33
  refine wl_val ha34 rfl rfl rfl (op_pick_t ha34 rfl rfl rfl) ?_
  intro a35 ha35; clear ha34 a34
  refine wpList_nil ?_
  refine then_n ?_
  refine cond_t ha35 rfl ?_
  refine wp_seq ?_
  refine wp_region_lit ?_
  refine wl_val ha35 rfl rfl rfl (op_assign ha35 rfl rfl) ?_
  intro a36 ha36; clear ha35 a35
  refine wl_val ha36 rfl rfl rfl (op_assign ha36 rfl rfl) ?_
  intro a37 ha37; clear ha36 a36
  refine wpList_nil ?_
  refine then_n ?_
  refine wp_ret ?_
  refine then_r ?_
  refine ret2 ha37 rfl rfl rfl ?_
  clear ha37 a37
  exact ret_mk hx8 (tup2_eq (int_eq (by simp [c11])) (int_eq (by simp [c11])))

theorem c_impl_cashOfEntry (w0 : World) (e : Int × Int × Str × Int) (g0 : -9223372036854775807 ≤ e.2.2.2) (g1 : e.2.2.2 ≤ 9223372036854775807) :
  Calls Try.prog 64 #[.agg #[.int .i64 e.1, .int .i64 e.2.1, St e.2.2.1, .int .i64 e.2.2.2]] w0 (Ret w0 (fun v _ => v = .int .i64 (cashE e))) := by
 refine enter (N := 14) Try.func64 rfl rfl rfl ?_
 intro a0 ha0
 have hx0 := Ext.rfl' w0
 refine wp_seq ?_
 refine wp_region_lit ?_
 refine wl_eff ha0 rfl rfl rfl (op_box' ha0 rfl rfl rfl) ?_
 rintro _ w2 ⟨rfl, he3, hb4, hz5⟩ a6 ha6; clear ha0 a0
 have hx7 := hx0.trans' he3
 have hzhx7 := he3.size
 refine wl_val ha6 rfl rfl rfl (op_assign ha6 rfl rfl) ?_
 intro a8 ha8; clear ha6 a6
 refine wpList_nil ?_
 refine then_n ?_
 refine wp_seq ?_
 refine wp_seq ?_
 refine wp_region_lit ?_
 refine wl_val ha8 rfl rfl rfl (op_fieldAddr (sz := 0) ha8 rfl Try.underlying41 rfl rfl ti2 rfl) ?_
 intro a9 ha9; clear ha8 a8
 refine wl_val ha9 rfl rfl rfl (op_loadF (off := 1) ha9 rfl Try.underlying2 rfl rfl hb4.cells rfl) ?_
 intro a10 ha10; clear ha9 a9
 refine wpList_nil ?_
 refine then_n ?_
 refine wp_block ?_
 refine wp_seq ?_
 refine wp_region_lit ?_
 refine wl_val ha10 rfl rfl rfl (op_eql ha10 rfl rfl rfl) ?_
 intro a11 ha11; clear ha10 a10
 refine wl_val ha11 rfl rfl rfl (op_assign ha11 rfl rfl) ?_
 intro a12 ha12; clear ha11 a11
 refine wpList_nil ?_
 refine then_n ?_
 by_cases c13 : e.2.1 = (1 : Int)
 ·
  rw [decide_eq_true c13] at ha12
  refine cond_t ha12 rfl ?_
  refine wp_seq ?_
  refine wp_region_lit ?_
  refine wl_val ha12 rfl rfl rfl (op_fieldAddr (sz := 0) ha12 rfl Try.underlying41 rfl rfl ti2 rfl) ?_
  intro a14 ha14; clear ha12 a12
  refine wl_val ha14 rfl rfl rfl (op_loadF (off := 3) ha14 rfl Try.underlying2 rfl rfl hb4.cells rfl) ?_
  intro a15 ha15; clear ha14 a14
  refine wl_val ha15 rfl rfl rfl (op_assign ha15 rfl rfl) ?_
  intro a16 ha16; clear ha15 a15
  refine wpList_nil ?_
  refine then_n ?_
  refine wp_ret ?_
  refine block_r ?_
  refine then_r ?_
  refine ret1 ha16 rfl rfl ?_
  clear ha16 a16
  exact ret_mk hx7 (int_eq (by simp [cashE, c13]))
 ·
  rw [decide_eq_false c13] at ha12
  refine cond_f ha12 rfl ?_
  refine wp_seq ?_
  refine wp_region_lit ?_
  refine wl_val ha12 rfl rfl rfl (op_eql ha12 rfl rfl rfl) ?_
  intro a17 ha17; clear ha12 a12
  refine wl_val ha17 rfl rfl rfl (op_assign ha17 rfl rfl) ?_
  intro a18 ha18; clear ha17 a17
  refine wpList_nil ?_
  refine then_n ?_
  by_cases c19 : e.2.1 = (2 : Int)
  ·
   rw [decide_eq_true c19] at ha18
   refine cond_t ha18 rfl ?_
   refine wp_seq ?_
   refine wp_region_lit ?_
   refine wl_val ha18 rfl rfl rfl (op_fieldAddr (sz := 0) ha18 rfl Try.underlying41 rfl rfl ti2 rfl) ?_
   intro a20 ha20; clear ha18 a18
   refine wl_val ha20 rfl rfl rfl (op_loadF (off := 3) ha20 rfl Try.underlying2 rfl rfl hb4.cells rfl) ?_
   intro a21 ha21; clear ha20 a20
   refine wl_val ha21 rfl rfl rfl ((op_neg ha21 rfl rfl).int (IntWalk.i64_in _ (by omega))) ?_
   intro a22 ha22; clear ha21 a21
   refine wl_val ha22 rfl rfl rfl (op_assign ha22 rfl rfl) ?_
   intro a23 ha23; clear ha22 a22
   refine wpList_nil ?_
   refine then_n ?_
   refine wp_ret ?_
   refine block_r ?_
   refine then_r ?_
   refine ret1 ha23 rfl rfl ?_
   clear ha23 a23
   exact ret_mk hx7 (int_eq (by simp [cashE, c13, c19]))
  ·
   rw [decide_eq_false c19] at ha18
   refine cond_f ha18 rfl ?_
   refine wp_skip ?_
   refine block_n ?_
   refine then_n ?_
   refine wp_seq ?_
   refine wp_region_lit ?_
   refine wl_val ha18 rfl rfl rfl (op_assign ha18 rfl rfl) ?_
   intro a24 ha24; clear ha18 a18
   refine wpList_nil ?_
   refine then_n ?_
   refine wp_ret ?_
   refine ret1 ha24 rfl rfl ?_
   clear ha24 a24
   exact ret_mk hx7 (int_eq (by simp [cashE, c13, c19]))

theorem c_spec_l33Cash (w0 : World) (e : Int × Int × Str × Int) (g0 : -9223372036854775807 ≤ e.2.2.2) (g1 : e.2.2.2 ≤ 9223372036854775807) :
  Calls Try.prog 63 #[.agg #[.int .i64 e.1, .int .i64 e.2.1, St e.2.2.1, .int .i64 e.2.2.2]] w0 (Ret w0 (fun v _ => v = .int .i64 (cashE e))) := by
 refine enter (N := 14) Try.func63 rfl rfl rfl ?_
 intro a0 ha0
 have hx0 := Ext.rfl' w0
 refine wp_seq ?_
 refine wp_region_lit ?_
 refine wl_eff ha0 rfl rfl rfl (op_box' ha0 rfl rfl rfl) ?_
 rintro _ w2 ⟨rfl, he3, hb4, hz5⟩ a6 ha6; clear ha0 a0
 have hx7 := hx0.trans' he3
 have hzhx7 := he3.size
 refine wl_val ha6 rfl rfl rfl (op_assign ha6 rfl rfl) ?_
 intro a8 ha8; clear ha6 a6
 refine wpList_nil ?_
 refine then_n ?_
 refine wp_seq ?_
 refine wp_seq ?_
 refine wp_region_lit ?_
 refine wl_val ha8 rfl rfl rfl (op_fieldAddr (sz := 0) ha8 rfl Try.underlying41 rfl rfl ti2 rfl) ?_
 intro a9 ha9; clear ha8 a8
 refine wl_val ha9 rfl rfl rfl (op_loadF (off := 1) ha9 rfl Try.underlying2 rfl rfl hb4.cells rfl) ?_
 intro a10 ha10; clear ha9 a9
 refine wpList_nil ?_
 refine then_n ?_
 refine wp_block ?_
 refine wp_seq ?_
 refine wp_region_lit ?_
 refine wl_val ha10 rfl rfl rfl (op_eql ha10 rfl rfl rfl) ?_
 intro a11 ha11; clear ha10 a10
 refine wl_val ha11 rfl rfl rfl (op_assign ha11 rfl rfl) ?_
 intro a12 ha12; clear ha11 a11
 refine wpList_nil ?_
 refine then_n ?_
 by_cases c13 : e.2.1 = (1 : Int)
 ·
  rw [decide_eq_true c13] at ha12
  refine cond_t ha12 rfl ?_
  refine wp_seq ?_
  refine wp_region_lit ?_
  refine wl_val ha12 rfl rfl rfl (op_fieldAddr (sz := 0) ha12 rfl Try.underlying41 rfl rfl ti2 rfl) ?_
  intro a14 ha14; clear ha12 a12
  refine wl_val ha14 rfl rfl rfl (op_loadF (off := 3) ha14 rfl Try.underlying2 rfl rfl hb4.cells rfl) ?_
  intro a15 ha15; clear ha14 a14
  refine wl_val ha15 rfl rfl rfl (op_assign ha15 rfl rfl) ?_
  intro a16 ha16; clear ha15 a15
  refine wpList_nil ?_
  refine then_n ?_
  refine wp_ret ?_
  refine block_r ?_
  refine then_r ?_
  refine ret1 ha16 rfl rfl ?_
  clear ha16 a16
  exact ret_mk hx7 (int_eq (by simp [cashE, c13]))
 ·
  rw [decide_eq_false c13] at ha12
  refine cond_f ha12 rfl ?_
  refine wp_seq ?_
  refine wp_region_lit ?_
  refine wl_val ha12 rfl rfl rfl (op_eql ha12 rfl rfl rfl) ?_
  intro a17 ha17; clear ha12 a12
  refine wl_val ha17 rfl rfl rfl (op_assign ha17 rfl rfl) ?_
  intro a18 ha18; clear ha17 a17
  refine wpList_nil ?_
  refine then_n ?_
  by_cases c19 : e.2.1 = (2 : Int)
  ·
   rw [decide_eq_true c19] at ha18
   refine cond_t ha18 rfl ?_
   refine wp_seq ?_
   refine wp_region_lit ?_
   refine wl_val ha18 rfl rfl rfl (op_fieldAddr (sz := 0) ha18 rfl Try.underlying41 rfl rfl ti2 rfl) ?_
   intro a20 ha20; clear ha18 a18
   refine wl_val ha20 rfl rfl rfl (op_loadF (off := 3) ha20 rfl Try.underlying2 rfl rfl hb4.cells rfl) ?_
   intro a21 ha21; clear ha20 a20
   refine wl_val ha21 rfl rfl rfl ((op_neg ha21 rfl rfl).int (IntWalk.i64_in _ (by omega))) ?_
   intro a22 ha22; clear ha21 a21
   refine wl_val ha22 rfl rfl rfl (op_assign ha22 rfl rfl) ?_
   intro a23 ha23; clear ha22 a22
   refine wpList_nil ?_
   refine then_n ?_
   refine wp_ret ?_
   refine block_r ?_
   refine then_r ?_
   refine ret1 ha23 rfl rfl ?_
   clear ha23 a23
   exact ret_mk hx7 (int_eq (by simp [cashE, c13, c19]))
  ·
   rw [decide_eq_false c19] at ha18
   refine cond_f ha18 rfl ?_
   refine wp_skip ?_
   refine block_n ?_
   refine then_n ?_
   refine wp_seq ?_
   refine wp_region_lit ?_
   refine wl_val ha18 rfl rfl rfl (op_assign ha18 rfl rfl) ?_
   intro a24 ha24; clear ha18 a18
   refine wpList_nil ?_
   refine then_n ?_
   refine wp_ret ?_
   refine ret1 ha24 rfl rfl ?_
   clear ha24 a24
   exact ret_mk hx7 (int_eq (by simp [cashE, c13, c19]))

theorem c_spec_l33Code (w0 : World) (v_list : Value) (list : List (Int × Int × Str × Int)) {S_list : Nat → Prop} (day : Int) (h_list : Rds shEnt S_list w0 v_list list) (g0 : list.length ≤ 1048576) :
  Calls Try.prog 65 #[v_list, .int .i64 day] w0 (Ret w0 (fun v _ => v = .int .i64 (codeD list day))) := by
 refine enter (N := 11) Try.func65 rfl rfl rfl ?_
 intro a0 ha0
 have hx0 := Ext.rfl' w0
 have hl_list := h_list.length_le
 refine wp_seq ?_
 refine wp_region_lit ?_
 refine wl_val ha0 rfl rfl rfl (op_assign ha0 rfl rfl) ?_
 intro a1 ha1; clear ha0 a0
 refine wpList_nil ?_
 refine then_n ?_
 refine wp_seq ?_
 refine wp_seq ?_
 refine wp_region_lit ?_
 refine wl_val ha1 rfl rfl rfl (op_move ha1 rfl rfl) ?_
 intro a2 ha2; clear ha1 a1
 refine wl_callR ha2 rfl rfl rfl (op_call ha2 rfl cb16 rfl) (c_spec_IsDayBook _ v_list list (h_list.ext pos_shEnt hx0) (by first | assumption | omega | exact dbB_ent (by assumption) | (simp; omega))) ?_
 rintro v3 w4 he5 rfl a6 ha6; clear ha2 a2
 have hx7 := hx0.trans' he5
 have hzhx7 := he5.size
 refine wl_val ha6 rfl rfl rfl (op_not ha6 rfl rfl) ?_
 intro a8 ha8; clear ha6 a6
 refine wpList_nil ?_
 refine then_n ?_
 rcases Bool.eq_false_or_eq_true (dbB list) with c9 | c9
 ·
  rw [c9] at ha8
  have hlenc9 := dbB_len c9
  have hentc9 := dbB_ent c9
  refine cond_f ha8 rfl ?_
  refine wp_skip ?_
  refine then_n ?_
  refine wp_seq ?_
  refine wp_seq ?_
  refine wp_region_lit ?_
  refine wl_val ha8 rfl rfl rfl (op_move ha8 rfl rfl) ?_
  intro a10 ha10; clear ha8 a8
  refine wl_callR ha10 rfl rfl rfl (op_call ha10 rfl cb75 rfl) (c_spec_l01In _ day (0 : Int) (100000 : Int) ) ?_
  rintro v11 w12 he13 rfl a14 ha14; clear ha10 a10
  have hx15 := hx7.trans' he13
  have hzhx15 := he13.size
  refine wl_val ha14 rfl rfl rfl (op_not ha14 rfl rfl) ?_
  intro a16 ha16; clear ha14 a14
  refine wpList_nil ?_
  refine then_n ?_
  rcases Bool.eq_false_or_eq_true (decide ((0 : Int) ≤ day) && decide (day ≤ (100000 : Int))) with c17 | c17
  ·
   rw [c17] at ha16
   refine cond_f ha16 rfl ?_
   refine wp_skip ?_
   refine then_n ?_
   refine wp_seq ?_
   refine wp_region_lit ?_
   refine wl_val ha16 rfl rfl rfl (op_assign ha16 rfl rfl) ?_
   intro a18 ha18; clear ha16 a16
   refine wpList_nil ?_
   refine then_n ?_
   refine wp_ret ?_
   refine ret1 ha18 rfl rfl ?_
   clear ha18 a18
   exact ret_mk hx15 (int_eq (by first | (simp [codeD, dateB, c9, c17]; done) | (simp [codeD, dateB, c9, c17]; omega) | (simp_all [codeD, dateB]; done) | (simp_all [codeD, dateB]; omega)))
  ·
   rw [c17] at ha16
   refine cond_t ha16 rfl ?_
   refine wp_seq ?_
   refine wp_region_lit ?_
   refine wl_val ha16 rfl rfl rfl (op_assign ha16 rfl rfl) ?_
   intro a19 ha19; clear ha16 a16
   refine wpList_nil ?_
   refine then_n ?_
   refine wp_ret ?_
   refine then_r ?_
   refine ret1 ha19 rfl rfl ?_
   clear ha19 a19
   exact ret_mk hx15 (int_eq (by first | (simp [codeD, dateB, c9, c17]; done) | (simp [codeD, dateB, c9, c17]; omega) | (simp_all [codeD, dateB]; done) | (simp_all [codeD, dateB]; omega)))
 ·
  rw [c9] at ha8
  refine cond_t ha8 rfl ?_
  refine wp_seq ?_
  refine wp_region_lit ?_
  refine wl_val ha8 rfl rfl rfl (op_assign ha8 rfl rfl) ?_
  intro a20 ha20; clear ha8 a8
  refine wpList_nil ?_
  refine then_n ?_
  refine wp_ret ?_
  refine then_r ?_
  refine ret1 ha20 rfl rfl ?_
  clear ha20 a20
  exact ret_mk hx7 (int_eq (by first | (simp [codeD, dateB, c9]; done) | (simp [codeD, dateB, c9]; omega) | (simp_all [codeD, dateB]; done) | (simp_all [codeD, dateB]; omega)))

theorem c_impl_CashOf (w0 : World) (v_list : Value) (list : List (Int × Int × Str × Int)) {S_list : Nat → Prop} (day : Int) (h_list : Rds shEnt S_list w0 v_list list) (g0 : list.length ≤ 1048576) :
  Calls Try.prog 27 #[v_list, .int .i64 day] w0 (Ret w0 (fun v _ => v = .tuple #[.int .i64 (if codeD list day = 0 then sumI (csE day) list else 0), .int .i64 (codeD list day)])) := by
 refine enter (N := 31) Try.func27 rfl rfl rfl ?_
 intro a0 ha0
 have hx0 := Ext.rfl' w0
 have hl_list := h_list.length_le
 refine wp_seq ?_
 refine wp_region_lit ?_
 refine wl_val ha0 rfl rfl rfl (op_assign ha0 rfl rfl) ?_
 intro a1 ha1; clear ha0 a0
 refine wl_val ha1 rfl rfl rfl (op_assign ha1 rfl rfl) ?_
 intro a2 ha2; clear ha1 a1
 refine wpList_nil ?_
 refine then_n ?_
 refine wp_seq ?_
 refine wp_seq ?_
 refine wp_region_lit ?_
 refine wl_val ha2 rfl rfl rfl (op_move ha2 rfl rfl) ?_
 intro a3 ha3; clear ha2 a2
 refine wl_callR ha3 rfl rfl rfl (op_call ha3 rfl cb18 rfl) (c_impl_IsDayBook _ v_list list (h_list.ext pos_shEnt hx0) (by first | assumption | omega | exact dbB_ent (by assumption) | (simp; omega))) ?_
 rintro v4 w5 he6 rfl a7 ha7; clear ha3 a3
 have hx8 := hx0.trans' he6
 have hzhx8 := he6.size
 refine wl_val ha7 rfl rfl rfl (op_not ha7 rfl rfl) ?_
 intro a9 ha9; clear ha7 a7
 refine wpList_nil ?_
 refine then_n ?_
 rcases Bool.eq_false_or_eq_true (dbB list) with c10 | c10
 ·
  rw [c10] at ha9
  have hlenc10 := dbB_len c10
  have hentc10 := dbB_ent c10
  refine cond_f ha9 rfl ?_
  refine wp_skip ?_
  refine then_n ?_
  refine wp_seq ?_
  refine wp_seq ?_
  refine wp_region_lit ?_
  refine wl_val ha9 rfl rfl rfl (op_move ha9 rfl rfl) ?_
  intro a11 ha11; clear ha9 a9
  refine wl_callR ha11 rfl rfl rfl (op_call ha11 rfl cb66 rfl) (c_impl_isDate _ day ) ?_
  rintro v12 w13 he14 rfl a15 ha15; clear ha11 a11
  have hx16 := hx8.trans' he14
  have hzhx16 := he14.size
  refine wl_val ha15 rfl rfl rfl (op_not ha15 rfl rfl) ?_
  intro a17 ha17; clear ha15 a15
  refine wpList_nil ?_
  refine then_n ?_
  rcases Bool.eq_false_or_eq_true (dateB day) with c18 | c18
  ·
   rw [c18] at ha17
   refine cond_f ha17 rfl ?_
   refine wp_skip ?_
   refine then_n ?_
   refine wp_seq ?_
   refine wp_region_lit ?_
   refine wl_val ha17 rfl rfl rfl (op_assign ha17 rfl rfl) ?_
   intro a19 ha19; clear ha17 a17
   refine wpList_nil ?_
   refine then_n ?_
   refine wp_seq ?_
   refine wp_seq ?_
   refine wp_region_lit ?_
   refine wl_val ha19 rfl rfl rfl (op_move ha19 rfl rfl) ?_
   intro a20 ha20; clear ha19 a19
   refine wl_val ha20 rfl rfl rfl (op_len_sl ha20 rfl Try.underlying25 rfl h_list) ?_
   intro a21 ha21; clear ha20 a20
   refine wl_val ha21 rfl rfl rfl (op_move ha21 rfl rfl) ?_
   intro a22 ha22; clear ha21 a21
   refine wpList_nil ?_
   refine then_n ?_
   refine wp_block ?_
   refine loop_inv (X := Nat × Int) (fun (⟨i, q⟩ : Nat × Int) fr wl => Sl 31 fr [(1, .int .i64 day), (6, .int .i64 q), (15, v_list), (16, .int .i64 ((list.length : Nat) : Int)), (17, .int .i64 ((i : Nat) : Int))] ∧ Ext w0 wl ∧ w13.heap.size ≤ wl.heap.size ∧ (i ≤ list.length) ∧ (-10000000 * (i : Int) ≤ q) ∧ (q ≤ 10000000 * (i : Int)) ∧ (q + sumI (csE day) (list.drop i) = sumI (csE day) list)) (fun (⟨i, q⟩ : Nat × Int) => list.length - i) (0, (0 : Int)) ?_ ?_
   ·
    exact ⟨(Sl.cons_ ha22 rfl rfl (Sl.cons_ ha22 rfl (int_eq (by omega)) (Sl.cons_ ha22 rfl rfl (Sl.cons_ ha22 rfl rfl (Sl.cons_ ha22 rfl (int_eq (by omega)) (Sl.nil_ ha22)))))), hx16, (by omega), (by omega), (by omega), (by omega), (by simp)⟩
   ·
    clear ha22 a22
    rintro ⟨i, q⟩ a25 w23 ⟨ha25, hx24, hzl26, hi, hq0, hq1, hF⟩
    have hzhx24 := hx24.size
    refine wp_seq ?_
    refine wp_region_lit ?_
    refine wl_val ha25 rfl rfl rfl (op_lss ha25 rfl rfl rfl) ?_
    intro a27 ha27; clear ha25 a25
    refine wpList_nil ?_
    refine then_n ?_
    refine wp_seq ?_
    by_cases c28 : ((i : Nat) : Int) < ((list.length : Nat) : Int)
    ·
     rw [decide_eq_true c28] at ha27
     refine cond_t ha27 rfl ?_
     refine wp_skip ?_
     refine then_n ?_
     refine wp_seq ?_
     refine wp_block ?_
     refine wp_seq ?_
     refine wp_region_lit ?_
     obtain ⟨x29, hx29⟩ := get_ex (xs := list) (j := i) (by omega)
     obtain ⟨p30, c31, hi32, hc33, hr34, hs35⟩ := Rds.at_ h_list hx29
     obtain ⟨rfl, b36, b37, b38, b39⟩ := inv_shEnt hr34
     have hbx29 := ent_bd (hentc10 _ (List.mem_of_getElem? hx29))
     have hcbx29 := cashE_bd (hentc10 _ (List.mem_of_getElem? hx29))
     refine wl_val ha27 rfl rfl rfl (op_indexAddr ha27 rfl Try.underlying25 ti41 rfl rfl (by omega) hi32) ?_
     intro a40 ha40; clear ha27 a27
     refine wl_val ha40 rfl rfl rfl (op_loadS ha40 rfl Try.underlying41 ti41 rfl rfl (hc33.ext hx24)) ?_
     intro a41 ha41; clear ha40 a40
     refine wl_eff ha41 rfl rfl rfl (op_alloc' rfl ti41 rfl) ?_
     rintro _ w43 ⟨rfl, he44, hb45, hz46⟩ a47 ha47; clear ha41 a41
     have hx48 := hx24.trans' he44
     have hzhx48 := he44.size
     refine wl_effS ha47 rfl rfl (op_storeAll' ha47 rfl ti41 rfl rfl hb45 rfl rfl (by simp [Value.oneCell']) rfl) ?_
     rintro w49 ⟨hb51, hst50, hz52⟩
     have hx53 := hx48.stp hst50 (by intro q hq; cases hq; exact (by omega))
     have hzhx53 := hst50.size
     clear hb45
     refine wpList_nil ?_
     refine then_n ?_
     refine wp_seq ?_
     refine wp_region_lit ?_
     refine wl_val ha47 rfl rfl rfl (op_fieldAddr (sz := 0) ha47 rfl Try.underlying41 rfl rfl ti2 rfl) ?_
     intro a54 ha54; clear ha47 a47
     refine wl_val ha54 rfl rfl rfl (op_loadF (off := 0) ha54 rfl Try.underlying2 rfl rfl hb51.cells rfl) ?_
     intro a55 ha55; clear ha54 a54
     refine wl_val ha55 rfl rfl rfl (op_move ha55 rfl rfl) ?_
     intro a56 ha56; clear ha55 a55
     refine wl_val ha56 rfl rfl rfl (op_leq ha56 rfl rfl rfl) ?_
     intro a57 ha57; clear ha56 a56
     refine wpList_nil ?_
     refine then_n ?_
     by_cases c58 : x29.1 ≤ day
     ·
      rw [decide_eq_true c58] at ha57
      refine cond_t ha57 rfl ?_
      refine wp_region_lit ?_
      refine wl_val ha57 rfl rfl rfl (op_move ha57 rfl rfl) ?_
      intro a59 ha59; clear ha57 a57
      refine wl_val ha59 rfl rfl rfl (op_loadS ha59 rfl Try.underlying41 ti41 rfl rfl hb51.cells) ?_
      intro a60 ha60; clear ha59 a59
      refine wl_callR ha60 rfl rfl rfl (op_call ha60 rfl cb64 rfl) (c_impl_cashOfEntry _ x29 (by first | assumption | omega | exact dbB_ent (by assumption) | (simp; omega)) (by first | assumption | omega | exact dbB_ent (by assumption) | (simp; omega))) ?_
      rintro v61 w62 he63 rfl a64 ha64; clear ha60 a60
      have hx65 := hx53.trans' he63
      have hzhx65 := he63.size
      replace hb51 := hb51.ext he63
      refine wl_val ha64 rfl rfl rfl ((op_add ha64 rfl rfl rfl).int (IntWalk.i64_in _ (by omega))) ?_
      intro a66 ha66; clear ha64 a64
      refine wl_val ha66 rfl rfl rfl (op_assign ha66 rfl rfl) ?_
      intro a67 ha67; clear ha66 a66
      refine wpList_nil ?_
      refine block_n ?_
      refine then_n ?_
      refine wp_region_lit ?_
      refine wl_val ha67 rfl rfl rfl ((op_add ha67 rfl rfl rfl).int (IntWalk.i64_in _ (by omega))) ?_
      intro a68 ha68; clear ha67 a67
      refine wl_val ha68 rfl rfl rfl (op_move ha68 rfl rfl) ?_
      intro a69 ha69; clear ha68 a68
      refine wpList_nil ?_
      refine round_end (x := (i, q)) ((i + 1), (q + (cashE x29 : Int))) ?_ ?_
      ·
       refine ⟨(Sl.cons_ ha69 rfl rfl (Sl.cons_ ha69 rfl (int_eq (by omega)) (Sl.cons_ ha69 rfl rfl (Sl.cons_ ha69 rfl rfl (Sl.cons_ ha69 rfl (int_eq (by omega)) (Sl.nil_ ha69)))))), hx65, (by omega), (by omega), (by omega), (by omega), (by rw [drop_cons hx29, sumI] at hF; have e := csE_def day x29; simp [c10, c18, c28, c58] at e; omega)⟩
      ·show (list.length - ((i + 1)) : Nat) < list.length - i; omega
     ·
      rw [decide_eq_false c58] at ha57
      refine cond_f ha57 rfl ?_
      refine wp_skip ?_
      refine block_n ?_
      refine then_n ?_
      refine wp_region_lit ?_
      refine wl_val ha57 rfl rfl rfl ((op_add ha57 rfl rfl rfl).int (IntWalk.i64_in _ (by omega))) ?_
      intro a70 ha70; clear ha57 a57
      refine wl_val ha70 rfl rfl rfl (op_move ha70 rfl rfl) ?_
      intro a71 ha71; clear ha70 a70
      refine wpList_nil ?_
      refine round_end (x := (i, q)) ((i + 1), q) ?_ ?_
      ·
       refine ⟨(Sl.cons_ ha71 rfl rfl (Sl.cons_ ha71 rfl (int_eq (by omega)) (Sl.cons_ ha71 rfl rfl (Sl.cons_ ha71 rfl rfl (Sl.cons_ ha71 rfl (int_eq (by omega)) (Sl.nil_ ha71)))))), hx53, (by omega), (by omega), (by omega), (by omega), (by rw [drop_cons hx29, sumI] at hF; have e := csE_def day x29; simp [c10, c18, c28, c58] at e; omega)⟩
      ·show (list.length - ((i + 1)) : Nat) < list.length - i; omega
    ·
     rw [decide_eq_false c28] at ha27
     refine cond_f ha27 rfl ?_
     refine wp_exit ?_
     refine then_e ?_
     refine then_e ?_
     refine block_hit ?_
     refine then_n ?_
     refine wp_seq ?_
     refine wp_region_lit ?_
     refine wl_val ha27 rfl rfl rfl (op_move ha27 rfl rfl) ?_
     intro a72 ha72; clear ha27 a27
     refine wl_val ha72 rfl rfl rfl (op_assign ha72 rfl rfl) ?_
     intro a73 ha73; clear ha72 a72
     refine wl_val ha73 rfl rfl rfl (op_assign ha73 rfl rfl) ?_
     intro a74 ha74; clear ha73 a73
     refine wpList_nil ?_
     refine then_n ?_
     refine wp_ret ?_
     refine ret2 ha74 rfl rfl rfl ?_
     clear ha74 a74
     exact ret_mk hx24 (tup2_eq (int_eq (by rw [drop_nil (by omega), sumI] at hF; have hF2 : q = sumI (csE day) list := (by omega); first | (simp [c10, c18, c28, hF2]; done) | (simp [codeD, c10, c18, c28, hF2]; done))) (int_eq (by first | (simp [c10, c18, c28]; done) | first | (simp [codeD, c10, c18, c28]; done) | (simp [codeD, c10, c18, c28]; omega) | (simp_all [codeD]; done) | (simp_all [codeD]; omega))))
  ·
   rw [c18] at ha17
   refine cond_t ha17 rfl ?_
   refine wp_seq ?_
   refine wp_region_lit ?_
   refine wl_val ha17 rfl rfl rfl (op_assign ha17 rfl rfl) ?_
   intro a75 ha75; clear ha17 a17
   refine wl_val ha75 rfl rfl rfl (op_assign ha75 rfl rfl) ?_
   intro a76 ha76; clear ha75 a75
   refine wpList_nil ?_
   refine then_n ?_
   refine wp_ret ?_
   refine then_r ?_
   refine ret2 ha76 rfl rfl rfl ?_
   clear ha76 a76
   exact ret_mk hx16 (tup2_eq (int_eq (by first | (simp [c10, c18]; done) | first | (simp [codeD, c10, c18]; done) | (simp [codeD, c10, c18]; omega) | (simp_all [codeD]; done) | (simp_all [codeD]; omega))) (int_eq (by first | (simp [c10, c18]; done) | first | (simp [codeD, c10, c18]; done) | (simp [codeD, c10, c18]; omega) | (simp_all [codeD]; done) | (simp_all [codeD]; omega))))
 ·
  rw [c10] at ha9
  refine cond_t ha9 rfl ?_
  refine wp_seq ?_
  refine wp_region_lit ?_
  refine wl_val ha9 rfl rfl rfl (op_assign ha9 rfl rfl) ?_
  intro a77 ha77; clear ha9 a9
  refine wl_val ha77 rfl rfl rfl (op_assign ha77 rfl rfl) ?_
  intro a78 ha78; clear ha77 a77
  refine wpList_nil ?_
  refine then_n ?_
  refine wp_ret ?_
  refine then_r ?_
  refine ret2 ha78 rfl rfl rfl ?_
  clear ha78 a78
  exact ret_mk hx8 (tup2_eq (int_eq (by first | (simp [c10]; done) | first | (simp [codeD, c10]; done) | (simp [codeD, c10]; omega) | (simp_all [codeD]; done) | (simp_all [codeD]; omega))) (int_eq (by first | (simp [c10]; done) | first | (simp [codeD, c10]; done) | (simp [codeD, c10]; omega) | (simp_all [codeD]; done) | (simp_all [codeD]; omega))))

theorem c_spec_CashOf (w0 : World) (v_list : Value) (list : List (Int × Int × Str × Int)) {S_list : Nat → Prop} (day : Int) (h_list : Rds shEnt S_list w0 v_list list) (g0 : list.length ≤ 1048576) :
  Calls Try.prog 26 #[v_list, .int .i64 day] w0 (Ret w0 (fun v _ => v = .tuple #[.int .i64 (if codeD list day = 0 then sumI (csE day) list else 0), .int .i64 (codeD list day)])) := by
 refine enter (N := 36) Try.func26 rfl rfl rfl ?_
 intro a0 ha0
 have hx0 := Ext.rfl' w0
 have hl_list := h_list.length_le
 refine wp_seq ?_
 refine wp_region_lit ?_
 refine wl_val ha0 rfl rfl rfl (op_assign ha0 rfl rfl) ?_
 intro a1 ha1; clear ha0 a0
 refine wl_val ha1 rfl rfl rfl (op_assign ha1 rfl rfl) ?_
 intro a2 ha2; clear ha1 a1
 refine wpList_nil ?_
 refine then_n ?_
 refine wp_seq ?_
 refine wp_region_lit ?_
 refine wl_val ha2 rfl rfl rfl (op_move ha2 rfl rfl) ?_
 intro a3 ha3; clear ha2 a2
 refine wl_val ha3 rfl rfl rfl (op_move ha3 rfl rfl) ?_
 intro a4 ha4; clear ha3 a3
 refine wl_callR ha4 rfl rfl rfl (op_call ha4 rfl cb65 rfl) (c_spec_l33Code _ v_list list day (h_list.ext pos_shEnt hx0) (by first | assumption | omega | exact dbB_ent (by assumption) | (simp; omega))) ?_
 rintro v5 w6 he7 rfl a8 ha8; clear ha4 a4
 have hx9 := hx0.trans' he7
 have hzhx9 := he7.size
 refine wl_val ha8 rfl rfl rfl (op_assign ha8 rfl rfl) ?_
 intro a10 ha10; clear ha8 a8
 refine wpList_nil ?_
 refine then_n ?_
 refine wp_seq ?_
 refine wp_seq ?_
 refine wp_region_lit ?_
 refine wl_val ha10 rfl rfl rfl (op_move ha10 rfl rfl) ?_
 intro a11 ha11; clear ha10 a10
 refine wl_val ha11 rfl rfl rfl ((op_neq ha11 rfl rfl rfl).to (congrArg Value.bool decide_not)) ?_
 intro a12 ha12; clear ha11 a11
 refine wpList_nil ?_
 refine then_n ?_
 by_cases c13 : (codeD list day : Int) = (0 : Int)
 ·
  rw [decide_eq_true c13] at ha12
  have hcdc13 := codeD_ok c13
  have hlenc13 := dbB_len hcdc13.1
  have hentc13 := dbB_ent hcdc13.1
  refine cond_f ha12 rfl ?_
  refine wp_skip ?_
  refine then_n ?_
  refine wp_seq ?_
  refine wp_region_lit ?_
  refine wl_val ha12 rfl rfl rfl (op_assign ha12 rfl rfl) ?_
  intro a14 ha14; clear ha12 a12
  refine wpList_nil ?_
  refine then_n ?_
  refine wp_seq ?_
  refine wp_seq ?_
  refine wp_region_lit ?_
  refine wl_val ha14 rfl rfl rfl (op_assign ha14 rfl rfl) ?_
  intro a15 ha15; clear ha14 a14
  refine wpList_nil ?_
  refine then_n ?_
  refine wp_block ?_
  refine loop_inv (X := Nat × Int) (fun (⟨i, q⟩ : Nat × Int) fr wl => Sl 36 fr [(0, v_list), (1, .int .i64 day), (7, .int .i64 q), (8, .int .i64 ((i : Nat) : Int))] ∧ Ext w0 wl ∧ w6.heap.size ≤ wl.heap.size ∧ (i ≤ list.length) ∧ (-10000000 * (i : Int) ≤ q) ∧ (q ≤ 10000000 * (i : Int)) ∧ (q + sumI (csE day) (list.drop i) = sumI (csE day) list)) (fun (⟨i, q⟩ : Nat × Int) => list.length - i) (0, (0 : Int)) ?_ ?_
  ·
   exact ⟨(Sl.cons_ ha15 rfl rfl (Sl.cons_ ha15 rfl rfl (Sl.cons_ ha15 rfl (int_eq (by omega)) (Sl.cons_ ha15 rfl (int_eq (by omega)) (Sl.nil_ ha15))))), hx9, (by omega), (by omega), (by omega), (by omega), (by simp)⟩
  ·
   clear ha15 a15
   rintro ⟨i, q⟩ a18 w16 ⟨ha18, hx17, hzl19, hi, hq0, hq1, hF⟩
   have hzhx17 := hx17.size
   refine wp_seq ?_
   refine wp_seq ?_
   refine wp_region_lit ?_
   refine wl_val ha18 rfl rfl rfl (op_move ha18 rfl rfl) ?_
   intro a20 ha20; clear ha18 a18
   refine wl_val ha20 rfl rfl rfl (op_move ha20 rfl rfl) ?_
   intro a21 ha21; clear ha20 a20
   refine wl_val ha21 rfl rfl rfl (op_len_sl ha21 rfl Try.underlying25 rfl h_list) ?_
   intro a22 ha22; clear ha21 a21
   refine wl_val ha22 rfl rfl rfl (op_lss ha22 rfl rfl rfl) ?_
   intro a23 ha23; clear ha22 a22
   refine wpList_nil ?_
   refine then_n ?_
   by_cases c24 : ((i : Nat) : Int) < ((list.length : Nat) : Int)
   ·
    rw [decide_eq_true c24] at ha23
    refine cond_t ha23 rfl ?_
    refine wp_skip ?_
    refine then_n ?_
    refine wp_seq ?_
    refine wp_block ?_
    refine wp_seq ?_
    refine wp_region_lit ?_
    refine wl_val ha23 rfl rfl rfl (op_move ha23 rfl rfl) ?_
    intro a25 ha25; clear ha23 a23
    refine wl_val ha25 rfl rfl rfl (op_move ha25 rfl rfl) ?_
    intro a26 ha26; clear ha25 a25
    obtain ⟨x27, hx27⟩ := get_ex (xs := list) (j := i) (by omega)
    obtain ⟨p28, c29, hi30, hc31, hr32, hs33⟩ := Rds.at_ h_list hx27
    obtain ⟨rfl, b34, b35, b36, b37⟩ := inv_shEnt hr32
    have hbx27 := ent_bd (hentc13 _ (List.mem_of_getElem? hx27))
    have hcbx27 := cashE_bd (hentc13 _ (List.mem_of_getElem? hx27))
    refine wl_val ha26 rfl rfl rfl (op_indexAddr ha26 rfl Try.underlying25 ti41 rfl rfl (by omega) hi30) ?_
    intro a38 ha38; clear ha26 a26
    refine wl_val ha38 rfl rfl rfl (op_fieldAddr (sz := 0) ha38 rfl Try.underlying41 rfl rfl ti2 rfl) ?_
    intro a39 ha39; clear ha38 a38
    refine wl_val ha39 rfl rfl rfl (op_loadF (off := 0) ha39 rfl Try.underlying2 rfl rfl (hc31.ext hx17) rfl) ?_
    intro a40 ha40; clear ha39 a39
    refine wl_val ha40 rfl rfl rfl (op_move ha40 rfl rfl) ?_
    intro a41 ha41; clear ha40 a40
    refine wl_val ha41 rfl rfl rfl (op_leq ha41 rfl rfl rfl) ?_
    intro a42 ha42; clear ha41 a41
    refine wpList_nil ?_
    refine then_n ?_
    by_cases c43 : x27.1 ≤ day
    ·
     rw [decide_eq_true c43] at ha42
     refine cond_t ha42 rfl ?_
     refine wp_region_lit ?_
     refine wl_val ha42 rfl rfl rfl (op_move ha42 rfl rfl) ?_
     intro a44 ha44; clear ha42 a42
     refine wl_val ha44 rfl rfl rfl (op_move ha44 rfl rfl) ?_
     intro a45 ha45; clear ha44 a44
     refine wl_val ha45 rfl rfl rfl (op_move ha45 rfl rfl) ?_
     intro a46 ha46; clear ha45 a45
     refine wl_val ha46 rfl rfl rfl (op_indexAddr ha46 rfl Try.underlying25 ti41 rfl rfl (by omega) hi30) ?_
     intro a47 ha47; clear ha46 a46
     refine wl_val ha47 rfl rfl rfl (op_loadS ha47 rfl Try.underlying41 ti41 rfl rfl (hc31.ext hx17)) ?_
     intro a48 ha48; clear ha47 a47
     refine wl_callR ha48 rfl rfl rfl (op_call ha48 rfl cb63 rfl) (c_spec_l33Cash _ x27 (by first | assumption | omega | exact dbB_ent (by assumption) | (simp; omega)) (by first | assumption | omega | exact dbB_ent (by assumption) | (simp; omega))) ?_
     rintro v49 w50 he51 rfl a52 ha52; clear ha48 a48
     have hx53 := hx17.trans' he51
     have hzhx53 := he51.size
     refine wl_val ha52 rfl rfl rfl ((op_add ha52 rfl rfl rfl).int (IntWalk.i64_in _ (by omega))) ?_
     intro a54 ha54; clear ha52 a52
     refine wl_val ha54 rfl rfl rfl (op_assign ha54 rfl rfl) ?_
     intro a55 ha55; clear ha54 a54
     refine wpList_nil ?_
     refine block_n ?_
     refine then_n ?_
     refine wp_region_lit ?_
     refine wl_val ha55 rfl rfl rfl (op_move ha55 rfl rfl) ?_
     intro a56 ha56; clear ha55 a55
     refine wl_val ha56 rfl rfl rfl ((op_add ha56 rfl rfl rfl).int (IntWalk.i64_in _ (by omega))) ?_
     intro a57 ha57; clear ha56 a56
     refine wl_val ha57 rfl rfl rfl (op_assign ha57 rfl rfl) ?_
     intro a58 ha58; clear ha57 a57
     refine wpList_nil ?_
     refine round_end (x := (i, q)) ((i + 1), (q + (cashE x27 : Int))) ?_ ?_
     ·
      refine ⟨(Sl.cons_ ha58 rfl rfl (Sl.cons_ ha58 rfl rfl (Sl.cons_ ha58 rfl (int_eq (by omega)) (Sl.cons_ ha58 rfl (int_eq (by omega)) (Sl.nil_ ha58))))), hx53, (by omega), (by omega), (by omega), (by omega), (by rw [drop_cons hx27, sumI] at hF; have e := csE_def day x27; simp [c13, c24, c43] at e; omega)⟩
     ·show (list.length - ((i + 1)) : Nat) < list.length - i; omega
    ·
     rw [decide_eq_false c43] at ha42
     refine cond_f ha42 rfl ?_
     refine wp_skip ?_
     refine block_n ?_
     refine then_n ?_
     refine wp_region_lit ?_
     refine wl_val ha42 rfl rfl rfl (op_move ha42 rfl rfl) ?_
     intro a59 ha59; clear ha42 a42
     refine wl_val ha59 rfl rfl rfl ((op_add ha59 rfl rfl rfl).int (IntWalk.i64_in _ (by omega))) ?_
     intro a60 ha60; clear ha59 a59
     refine wl_val ha60 rfl rfl rfl (op_assign ha60 rfl rfl) ?_
     intro a61 ha61; clear ha60 a60
     refine wpList_nil ?_
     refine round_end (x := (i, q)) ((i + 1), q) ?_ ?_
     ·
      refine ⟨(Sl.cons_ ha61 rfl rfl (Sl.cons_ ha61 rfl rfl (Sl.cons_ ha61 rfl (int_eq (by omega)) (Sl.cons_ ha61 rfl (int_eq (by omega)) (Sl.nil_ ha61))))), hx17, (by omega), (by omega), (by omega), (by omega), (by rw [drop_cons hx27, sumI] at hF; have e := csE_def day x27; simp [c13, c24, c43] at e; omega)⟩
     ·show (list.length - ((i + 1)) : Nat) < list.length - i; omega
   ·
    rw [decide_eq_false c24] at ha23
    refine cond_f ha23 rfl ?_
    refine wp_exit ?_
    refine then_e ?_
    refine then_e ?_
    refine block_hit ?_
    refine then_n ?_
    refine wp_seq ?_
    refine wp_region_lit ?_
    refine wl_val ha23 rfl rfl rfl (op_move ha23 rfl rfl) ?_
    intro a62 ha62; clear ha23 a23
    refine wl_val ha62 rfl rfl rfl (op_assign ha62 rfl rfl) ?_
    intro a63 ha63; clear ha62 a62
    refine wl_val ha63 rfl rfl rfl (op_assign ha63 rfl rfl) ?_
    intro a64 ha64; clear ha63 a63
    refine wpList_nil ?_
    refine then_n ?_
    refine wp_ret ?_
    refine ret2 ha64 rfl rfl rfl ?_
    clear ha64 a64
    exact ret_mk hx17 (tup2_eq (int_eq (by rw [drop_nil (by omega), sumI] at hF; have hF2 : q = sumI (csE day) list := (by omega); first | (simp [c13, c24, hF2]; done) | (simp [codeD, c13, c24, hF2]; done))) (int_eq (by first | (simp [c13, c24]; done) | first | (simp [codeD, c13, c24]; done) | (simp [codeD, c13, c24]; omega) | (simp_all [codeD]; done) | (simp_all [codeD]; omega))))
 ·
  rw [decide_eq_false c13] at ha12
  refine cond_t ha12 rfl ?_
  refine wp_seq ?_
  refine wp_region_lit ?_
  refine wl_val ha12 rfl rfl rfl (op_move ha12 rfl rfl) ?_
  intro a65 ha65; clear ha12 a12
  refine wl_val ha65 rfl rfl rfl (op_assign ha65 rfl rfl) ?_
  intro a66 ha66; clear ha65 a65
  refine wl_val ha66 rfl rfl rfl (op_assign ha66 rfl rfl) ?_
  intro a67 ha67; clear ha66 a66
  refine wpList_nil ?_
  refine then_n ?_
  refine wp_ret ?_
  refine then_r ?_
  refine ret2 ha67 rfl rfl rfl ?_
  clear ha67 a67
  exact ret_mk hx9 (tup2_eq (int_eq (by first | (simp [c13]; done) | first | (simp [codeD, c13]; done) | (simp [codeD, c13]; omega) | (simp_all [codeD]; done) | (simp_all [codeD]; omega))) (int_eq (by first | (simp [c13]; done) | first | (simp [codeD, c13]; done) | (simp [codeD, c13]; omega) | (simp_all [codeD]; done) | (simp_all [codeD]; omega))))

theorem c_impl_LowestCash (w0 : World) (v_list : Value) (list : List (Int × Int × Str × Int)) {S_list : Nat → Prop} (h_list : Rds shEnt S_list w0 v_list list) (g0 : list.length ≤ 1048576) :
  Calls Try.prog 25 #[v_list] w0 (Ret w0 (fun v _ => v = .tuple #[.int .i64 (if dbB list then (lwS list).1 else 0), .int .i64 (if dbB list then (lwS list).2 else 0), .int .i64 (if dbB list then 0 else 1)])) := by
 refine enter (N := 33) Try.func25 rfl rfl rfl ?_
 intro a0 ha0
 have hx0 := Ext.rfl' w0
 have hl_list := h_list.length_le
 refine wp_seq ?_
 refine wp_region_lit ?_
 refine wl_val ha0 rfl rfl rfl (op_assign ha0 rfl rfl) ?_
 intro a1 ha1; clear ha0 a0
 refine wl_val ha1 rfl rfl rfl (op_assign ha1 rfl rfl) ?_
 intro a2 ha2; clear ha1 a1
 refine wl_val ha2 rfl rfl rfl (op_assign ha2 rfl rfl) ?_
 intro a3 ha3; clear ha2 a2
 refine wpList_nil ?_
 refine then_n ?_
 refine wp_seq ?_
 refine wp_seq ?_
 refine wp_region_lit ?_
 refine wl_val ha3 rfl rfl rfl (op_move ha3 rfl rfl) ?_
 intro a4 ha4; clear ha3 a3
 refine wl_callR ha4 rfl rfl rfl (op_call ha4 rfl cb18 rfl) (c_impl_IsDayBook _ v_list list (h_list.ext pos_shEnt hx0) (by first | assumption | omega | exact dbB_ent (by assumption) | (simp; omega))) ?_
 rintro v5 w6 he7 rfl a8 ha8; clear ha4 a4
 have hx9 := hx0.trans' he7
 have hzhx9 := he7.size
 refine wl_val ha8 rfl rfl rfl (op_not ha8 rfl rfl) ?_
 intro a10 ha10; clear ha8 a8
 refine wpList_nil ?_
 refine then_n ?_
 rcases Bool.eq_false_or_eq_true (dbB list) with c11 | c11
 ·
  rw [c11] at ha10
  have hlenc11 := dbB_len c11
  have hentc11 := dbB_ent c11
  refine cond_f ha10 rfl ?_
  refine wp_skip ?_
  refine then_n ?_
  refine wp_seq ?_
  refine wp_region_lit ?_
  refine wl_val ha10 rfl rfl rfl (op_assign ha10 rfl rfl) ?_
  intro a12 ha12; clear ha10 a10
  refine wl_val ha12 rfl rfl rfl (op_assign ha12 rfl rfl) ?_
  intro a13 ha13; clear ha12 a12
  refine wl_val ha13 rfl rfl rfl (op_assign ha13 rfl rfl) ?_
  intro a14 ha14; clear ha13 a13
  refine wpList_nil ?_
  refine then_n ?_
  refine wp_seq ?_
  refine wp_seq ?_
  refine wp_region_lit ?_
  refine wl_val ha14 rfl rfl rfl (op_move ha14 rfl rfl) ?_
  intro a15 ha15; clear ha14 a14
  refine wl_val ha15 rfl rfl rfl (op_len_sl ha15 rfl Try.underlying25 rfl h_list) ?_
  intro a16 ha16; clear ha15 a15
  refine wl_val ha16 rfl rfl rfl (op_move ha16 rfl rfl) ?_
  intro a17 ha17; clear ha16 a16
  refine wpList_nil ?_
  refine then_n ?_
  refine wp_block ?_
  refine loop_inv (X := Nat × Int × Int × Int) (fun (⟨i, q, l, f⟩ : Nat × Int × Int × Int) fr wl => Sl 33 fr [(5, .int .i64 l), (6, .int .i64 f), (7, .int .i64 q), (13, v_list), (14, .int .i64 ((list.length : Nat) : Int)), (15, .int .i64 ((i : Nat) : Int))] ∧ Ext w0 wl ∧ w6.heap.size ≤ wl.heap.size ∧ (i ≤ list.length) ∧ (-10000000 * (i : Int) ≤ q) ∧ (q ≤ 10000000 * (i : Int)) ∧ (-10000000 * (i : Int) ≤ l) ∧ (l ≤ 0) ∧ (lwGo (list.drop i) q l f i = lwGo list 0 0 0 0)) (fun (⟨i, q, l, f⟩ : Nat × Int × Int × Int) => list.length - i) (0, (0 : Int), (0 : Int), (0 : Int)) ?_ ?_
  ·
   exact ⟨(Sl.cons_ ha17 rfl (int_eq (by omega)) (Sl.cons_ ha17 rfl (int_eq (by omega)) (Sl.cons_ ha17 rfl (int_eq (by omega)) (Sl.cons_ ha17 rfl rfl (Sl.cons_ ha17 rfl rfl (Sl.cons_ ha17 rfl (int_eq (by omega)) (Sl.nil_ ha17))))))), hx9, (by omega), (by omega), (by omega), (by omega), (by omega), (by omega), (by rfl)⟩
  ·
   clear ha17 a17
   rintro ⟨i, q, l, f⟩ a20 w18 ⟨ha20, hx19, hzl21, hi, hq0, hq1, hl0, hl1, hF⟩
   have hzhx19 := hx19.size
   refine wp_seq ?_
   refine wp_region_lit ?_
   refine wl_val ha20 rfl rfl rfl (op_lss ha20 rfl rfl rfl) ?_
   intro a22 ha22; clear ha20 a20
   refine wpList_nil ?_
   refine then_n ?_
   refine wp_seq ?_
   by_cases c23 : ((i : Nat) : Int) < ((list.length : Nat) : Int)
   ·
    rw [decide_eq_true c23] at ha22
    refine cond_t ha22 rfl ?_
    refine wp_skip ?_
    refine then_n ?_
    refine wp_seq ?_
    refine wp_block ?_
    refine wp_seq ?_
    refine wp_region_lit ?_
    refine wl_val ha22 rfl rfl rfl (op_move ha22 rfl rfl) ?_
    intro a24 ha24; clear ha22 a22
    obtain ⟨x25, hx25⟩ := get_ex (xs := list) (j := i) (by omega)
    obtain ⟨p26, c27, hi28, hc29, hr30, hs31⟩ := Rds.at_ h_list hx25
    obtain ⟨rfl, b32, b33, b34, b35⟩ := inv_shEnt hr30
    have hbx25 := ent_bd (hentc11 _ (List.mem_of_getElem? hx25))
    have hcbx25 := cashE_bd (hentc11 _ (List.mem_of_getElem? hx25))
    refine wl_val ha24 rfl rfl rfl (op_indexAddr ha24 rfl Try.underlying25 ti41 rfl rfl (by omega) hi28) ?_
    intro a36 ha36; clear ha24 a24
    refine wl_val ha36 rfl rfl rfl (op_loadS ha36 rfl Try.underlying41 ti41 rfl rfl (hc29.ext hx19)) ?_
    intro a37 ha37; clear ha36 a36
    refine wl_eff ha37 rfl rfl rfl (op_alloc' rfl ti41 rfl) ?_
    rintro _ w39 ⟨rfl, he40, hb41, hz42⟩ a43 ha43; clear ha37 a37
    have hx44 := hx19.trans' he40
    have hzhx44 := he40.size
    refine wl_val ha43 rfl rfl rfl (op_assign ha43 rfl rfl) ?_
    intro a45 ha45; clear ha43 a43
    refine wl_effS ha45 rfl rfl (op_storeAll' ha45 rfl ti41 rfl rfl hb41 rfl rfl (by simp [Value.oneCell']) rfl) ?_
    rintro w46 ⟨hb48, hst47, hz49⟩
    have hx50 := hx44.stp hst47 (by intro q hq; cases hq; exact (by omega))
    have hzhx50 := hst47.size
    clear hb41
    refine wpList_nil ?_
    refine then_n ?_
    refine wp_seq ?_
    refine wp_region_lit ?_
    refine wl_val ha45 rfl rfl rfl (op_move ha45 rfl rfl) ?_
    intro a51 ha51; clear ha45 a45
    refine wl_val ha51 rfl rfl rfl (op_loadS ha51 rfl Try.underlying41 ti41 rfl rfl hb48.cells) ?_
    intro a52 ha52; clear ha51 a51
    refine wl_callR ha52 rfl rfl rfl (op_call ha52 rfl cb64 rfl) (c_impl_cashOfEntry _ x25 (by first | assumption | omega | exact dbB_ent (by assumption) | (simp; omega)) (by first | assumption | omega | exact dbB_ent (by assumption) | (simp; omega))) ?_
    rintro v53 w54 he55 rfl a56 ha56; clear ha52 a52
    have hx57 := hx50.trans' he55
    have hzhx57 := he55.size
    replace hb48 := hb48.ext he55
    refine wl_val ha56 rfl rfl rfl ((op_add ha56 rfl rfl rfl).int (IntWalk.i64_in _ (by omega))) ?_
    intro a58 ha58; clear ha56 a56
    refine wl_val ha58 rfl rfl rfl (op_assign ha58 rfl rfl) ?_
    intro a59 ha59; clear ha58 a58
    refine wpList_nil ?_
    refine then_n ?_
    refine wp_seq ?_
    refine wp_region_lit ?_
    refine wl_val ha59 rfl rfl rfl (op_move ha59 rfl rfl) ?_
    intro a60 ha60; clear ha59 a59
    refine wl_val ha60 rfl rfl rfl (op_move ha60 rfl rfl) ?_
    intro a61 ha61; clear ha60 a60
    refine wl_val ha61 rfl rfl rfl (op_lss ha61 rfl rfl rfl) ?_
    intro a62 ha62; clear ha61 a61
    refine wpList_nil ?_
    refine then_n ?_
    by_cases c63 : (q + (cashE x25 : Int)) < l
    ·
     rw [decide_eq_true c63] at ha62
     refine cond_t ha62 rfl ?_
     refine wp_region_lit ?_
     refine wl_val ha62 rfl rfl rfl (op_move ha62 rfl rfl) ?_
     intro a64 ha64; clear ha62 a62
     refine wl_val ha64 rfl rfl rfl (op_move ha64 rfl rfl) ?_
     intro a65 ha65; clear ha64 a64
     refine wl_val ha65 rfl rfl rfl ((op_add ha65 rfl rfl rfl).int (IntWalk.i64_in _ (by omega))) ?_
     intro a66 ha66; clear ha65 a65
     refine wl_val ha66 rfl rfl rfl (op_assign ha66 rfl rfl) ?_
     intro a67 ha67; clear ha66 a66
     refine wl_val ha67 rfl rfl rfl (op_assign ha67 rfl rfl) ?_
     intro a68 ha68; clear ha67 a67
     refine wpList_nil ?_
     refine block_n ?_
     refine then_n ?_
     refine wp_region_lit ?_
     refine wl_val ha68 rfl rfl rfl ((op_add ha68 rfl rfl rfl).int (IntWalk.i64_in _ (by omega))) ?_
     intro a69 ha69; clear ha68 a68
     refine wl_val ha69 rfl rfl rfl (op_move ha69 rfl rfl) ?_
     intro a70 ha70; clear ha69 a69
     refine wpList_nil ?_
     refine round_end (x := (i, q, l, f)) ((i + 1), (q + (cashE x25 : Int)), (q + (cashE x25 : Int)), (((i : Nat) : Int) + (1 : Int))) ?_ ?_
     ·
      refine ⟨(Sl.cons_ ha70 rfl (int_eq (by omega)) (Sl.cons_ ha70 rfl (int_eq (by omega)) (Sl.cons_ ha70 rfl (int_eq (by omega)) (Sl.cons_ ha70 rfl rfl (Sl.cons_ ha70 rfl rfl (Sl.cons_ ha70 rfl (int_eq (by omega)) (Sl.nil_ ha70))))))), hx57, (by omega), (by omega), (by omega), (by omega), (by omega), (by omega), (by rw [drop_cons hx25, lwGo, if_pos (by omega)] at hF; exact hF)⟩
     ·show (list.length - ((i + 1)) : Nat) < list.length - i; omega
    ·
     rw [decide_eq_false c63] at ha62
     refine cond_f ha62 rfl ?_
     refine wp_skip ?_
     refine block_n ?_
     refine then_n ?_
     refine wp_region_lit ?_
     refine wl_val ha62 rfl rfl rfl ((op_add ha62 rfl rfl rfl).int (IntWalk.i64_in _ (by omega))) ?_
     intro a71 ha71; clear ha62 a62
     refine wl_val ha71 rfl rfl rfl (op_move ha71 rfl rfl) ?_
     intro a72 ha72; clear ha71 a71
     refine wpList_nil ?_
     refine round_end (x := (i, q, l, f)) ((i + 1), (q + (cashE x25 : Int)), l, f) ?_ ?_
     ·
      refine ⟨(Sl.cons_ ha72 rfl (int_eq (by omega)) (Sl.cons_ ha72 rfl (int_eq (by omega)) (Sl.cons_ ha72 rfl (int_eq (by omega)) (Sl.cons_ ha72 rfl rfl (Sl.cons_ ha72 rfl rfl (Sl.cons_ ha72 rfl (int_eq (by omega)) (Sl.nil_ ha72))))))), hx57, (by omega), (by omega), (by omega), (by omega), (by omega), (by omega), (by rw [drop_cons hx25, lwGo, if_neg (by omega)] at hF; exact hF)⟩
     ·show (list.length - ((i + 1)) : Nat) < list.length - i; omega
   ·
    rw [decide_eq_false c23] at ha22
    refine cond_f ha22 rfl ?_
    refine wp_exit ?_
    refine then_e ?_
    refine then_e ?_
    refine block_hit ?_
    refine then_n ?_
    refine wp_seq ?_
    refine wp_region_lit ?_
    refine wl_val ha22 rfl rfl rfl (op_move ha22 rfl rfl) ?_
    intro a73 ha73; clear ha22 a22
    refine wl_val ha73 rfl rfl rfl (op_move ha73 rfl rfl) ?_
    intro a74 ha74; clear ha73 a73
    refine wl_val ha74 rfl rfl rfl (op_assign ha74 rfl rfl) ?_
    intro a75 ha75; clear ha74 a74
    refine wl_val ha75 rfl rfl rfl (op_assign ha75 rfl rfl) ?_
    intro a76 ha76; clear ha75 a75
    refine wl_val ha76 rfl rfl rfl (op_assign ha76 rfl rfl) ?_
    intro a77 ha77; clear ha76 a76
    refine wpList_nil ?_
    refine then_n ?_
    refine wp_ret ?_
    refine ret3 ha77 rfl rfl rfl rfl ?_
    clear ha77 a77
    exact ret_mk hx19 (tup3_eq (int_eq (by rw [drop_nil (by omega), lwGo] at hF; have hF2 : (l, f) = lwS list := hF; simp [c11, c23, ← hF2])) (int_eq (by rw [drop_nil (by omega), lwGo] at hF; have hF2 : (l, f) = lwS list := hF; simp [c11, c23, ← hF2])) (int_eq (by simp [c11, c23])))
 ·
  rw [c11] at ha10
  refine cond_t ha10 rfl ?_
  refine wp_seq ?_
  refine wp_region_lit ?_
  refine wl_val ha10 rfl rfl rfl (op_assign ha10 rfl rfl) ?_
  intro a78 ha78; clear ha10 a10
  refine wl_val ha78 rfl rfl rfl (op_assign ha78 rfl rfl) ?_
  intro a79 ha79; clear ha78 a78
  refine wl_val ha79 rfl rfl rfl (op_assign ha79 rfl rfl) ?_
  intro a80 ha80; clear ha79 a79
  refine wpList_nil ?_
  refine then_n ?_
  refine wp_ret ?_
  refine then_r ?_
  refine ret3 ha80 rfl rfl rfl rfl ?_
  clear ha80 a80
  exact ret_mk hx9 (tup3_eq (int_eq (by simp [c11])) (int_eq (by simp [c11])) (int_eq (by simp [c11])))

theorem c_spec_LowestCash (w0 : World) (v_list : Value) (list : List (Int × Int × Str × Int)) {S_list : Nat → Prop} (h_list : Rds shEnt S_list w0 v_list list) (g0 : list.length ≤ 1048576) :
  Calls Try.prog 24 #[v_list] w0 (Ret w0 (fun v _ => v = .tuple #[.int .i64 (if dbB list then (lwS list).1 else 0), .int .i64 (if dbB list then (lwS list).2 else 0), .int .i64 (if dbB list then 0 else 1)])) := by
 refine enter (N := 33) Try.func24 rfl rfl rfl ?_
 intro a0 ha0
 have hx0 := Ext.rfl' w0
 have hl_list := h_list.length_le
 refine wp_seq ?_
 refine wp_region_lit ?_
 refine wl_val ha0 rfl rfl rfl (op_assign ha0 rfl rfl) ?_
 intro a1 ha1; clear ha0 a0
 refine wl_val ha1 rfl rfl rfl (op_assign ha1 rfl rfl) ?_
 intro a2 ha2; clear ha1 a1
 refine wl_val ha2 rfl rfl rfl (op_assign ha2 rfl rfl) ?_
 intro a3 ha3; clear ha2 a2
 refine wpList_nil ?_
 refine then_n ?_
 refine wp_seq ?_
 refine wp_seq ?_
 refine wp_region_lit ?_
 refine wl_val ha3 rfl rfl rfl (op_move ha3 rfl rfl) ?_
 intro a4 ha4; clear ha3 a3
 refine wl_callR ha4 rfl rfl rfl (op_call ha4 rfl cb16 rfl) (c_spec_IsDayBook _ v_list list (h_list.ext pos_shEnt hx0) (by first | assumption | omega | exact dbB_ent (by assumption) | (simp; omega))) ?_
 rintro v5 w6 he7 rfl a8 ha8; clear ha4 a4
 have hx9 := hx0.trans' he7
 have hzhx9 := he7.size
 refine wl_val ha8 rfl rfl rfl (op_not ha8 rfl rfl) ?_
 intro a10 ha10; clear ha8 a8
 refine wpList_nil ?_
 refine then_n ?_
 rcases Bool.eq_false_or_eq_true (dbB list) with c11 | c11
 ·
  rw [c11] at ha10
  have hlenc11 := dbB_len c11
  have hentc11 := dbB_ent c11
  refine cond_f ha10 rfl ?_
  refine wp_skip ?_
  refine then_n ?_
  refine wp_seq ?_
  refine wp_region_lit ?_
  refine wl_val ha10 rfl rfl rfl (op_assign ha10 rfl rfl) ?_
  intro a12 ha12; clear ha10 a10
  refine wl_val ha12 rfl rfl rfl (op_assign ha12 rfl rfl) ?_
  intro a13 ha13; clear ha12 a12
  refine wl_val ha13 rfl rfl rfl (op_assign ha13 rfl rfl) ?_
  intro a14 ha14; clear ha13 a13
  refine wpList_nil ?_
  refine then_n ?_
  refine wp_seq ?_
  refine wp_seq ?_
  refine wp_region_lit ?_
  refine wl_val ha14 rfl rfl rfl (op_assign ha14 rfl rfl) ?_
  intro a15 ha15; clear ha14 a14
  refine wpList_nil ?_
  refine then_n ?_
  refine wp_block ?_
  refine loop_inv (X := Nat × Int × Int × Int) (fun (⟨i, q, l, f⟩ : Nat × Int × Int × Int) fr wl => Sl 33 fr [(0, v_list), (5, .int .i64 q), (6, .int .i64 l), (7, .int .i64 f), (8, .int .i64 ((i : Nat) : Int))] ∧ Ext w0 wl ∧ w6.heap.size ≤ wl.heap.size ∧ (i ≤ list.length) ∧ (-10000000 * (i : Int) ≤ q) ∧ (q ≤ 10000000 * (i : Int)) ∧ (-10000000 * (i : Int) ≤ l) ∧ (l ≤ 0) ∧ (lwGo (list.drop i) q l f i = lwGo list 0 0 0 0)) (fun (⟨i, q, l, f⟩ : Nat × Int × Int × Int) => list.length - i) (0, (0 : Int), (0 : Int), (0 : Int)) ?_ ?_
  ·
   exact ⟨(Sl.cons_ ha15 rfl rfl (Sl.cons_ ha15 rfl (int_eq (by omega)) (Sl.cons_ ha15 rfl (int_eq (by omega)) (Sl.cons_ ha15 rfl (int_eq (by omega)) (Sl.cons_ ha15 rfl (int_eq (by omega)) (Sl.nil_ ha15)))))), hx9, (by omega), (by omega), (by omega), (by omega), (by omega), (by omega), (by rfl)⟩
  ·
   clear ha15 a15
   rintro ⟨i, q, l, f⟩ a18 w16 ⟨ha18, hx17, hzl19, hi, hq0, hq1, hl0, hl1, hF⟩
   have hzhx17 := hx17.size
   refine wp_seq ?_
   refine wp_seq ?_
   refine wp_region_lit ?_
   refine wl_val ha18 rfl rfl rfl (op_move ha18 rfl rfl) ?_
   intro a20 ha20; clear ha18 a18
   refine wl_val ha20 rfl rfl rfl (op_move ha20 rfl rfl) ?_
   intro a21 ha21; clear ha20 a20
   refine wl_val ha21 rfl rfl rfl (op_len_sl ha21 rfl Try.underlying25 rfl h_list) ?_
   intro a22 ha22; clear ha21 a21
   refine wl_val ha22 rfl rfl rfl (op_lss ha22 rfl rfl rfl) ?_
   intro a23 ha23; clear ha22 a22
   refine wpList_nil ?_
   refine then_n ?_
   by_cases c24 : ((i : Nat) : Int) < ((list.length : Nat) : Int)
   ·
    rw [decide_eq_true c24] at ha23
    refine cond_t ha23 rfl ?_
    refine wp_skip ?_
    refine then_n ?_
    refine wp_seq ?_
    refine wp_block ?_
    refine wp_seq ?_
    refine wp_region_lit ?_
    refine wl_val ha23 rfl rfl rfl (op_move ha23 rfl rfl) ?_
    intro a25 ha25; clear ha23 a23
    refine wl_val ha25 rfl rfl rfl (op_move ha25 rfl rfl) ?_
    intro a26 ha26; clear ha25 a25
    refine wl_val ha26 rfl rfl rfl (op_move ha26 rfl rfl) ?_
    intro a27 ha27; clear ha26 a26
    obtain ⟨x28, hx28⟩ := get_ex (xs := list) (j := i) (by omega)
    obtain ⟨p29, c30, hi31, hc32, hr33, hs34⟩ := Rds.at_ h_list hx28
    obtain ⟨rfl, b35, b36, b37, b38⟩ := inv_shEnt hr33
    have hbx28 := ent_bd (hentc11 _ (List.mem_of_getElem? hx28))
    have hcbx28 := cashE_bd (hentc11 _ (List.mem_of_getElem? hx28))
    refine wl_val ha27 rfl rfl rfl (op_indexAddr ha27 rfl Try.underlying25 ti41 rfl rfl (by omega) hi31) ?_
    intro a39 ha39; clear ha27 a27
    refine wl_val ha39 rfl rfl rfl (op_loadS ha39 rfl Try.underlying41 ti41 rfl rfl (hc32.ext hx17)) ?_
    intro a40 ha40; clear ha39 a39
    refine wl_callR ha40 rfl rfl rfl (op_call ha40 rfl cb63 rfl) (c_spec_l33Cash _ x28 (by first | assumption | omega | exact dbB_ent (by assumption) | (simp; omega)) (by first | assumption | omega | exact dbB_ent (by assumption) | (simp; omega))) ?_
    rintro v41 w42 he43 rfl a44 ha44; clear ha40 a40
    have hx45 := hx17.trans' he43
    have hzhx45 := he43.size
    refine wl_val ha44 rfl rfl rfl ((op_add ha44 rfl rfl rfl).int (IntWalk.i64_in _ (by omega))) ?_
    intro a46 ha46; clear ha44 a44
    refine wl_val ha46 rfl rfl rfl (op_assign ha46 rfl rfl) ?_
    intro a47 ha47; clear ha46 a46
    refine wpList_nil ?_
    refine then_n ?_
    refine wp_seq ?_
    refine wp_region_lit ?_
    refine wl_val ha47 rfl rfl rfl (op_move ha47 rfl rfl) ?_
    intro a48 ha48; clear ha47 a47
    refine wl_val ha48 rfl rfl rfl (op_move ha48 rfl rfl) ?_
    intro a49 ha49; clear ha48 a48
    refine wl_val ha49 rfl rfl rfl (op_lss ha49 rfl rfl rfl) ?_
    intro a50 ha50; clear ha49 a49
    refine wpList_nil ?_
    refine then_n ?_
    by_cases c51 : (q + (cashE x28 : Int)) < l
    ·
     rw [decide_eq_true c51] at ha50
     refine cond_t ha50 rfl ?_
     refine wp_seq ?_
     refine wp_region_lit ?_
     refine wl_val ha50 rfl rfl rfl (op_move ha50 rfl rfl) ?_
     intro a52 ha52; clear ha50 a50
     refine wl_val ha52 rfl rfl rfl (op_assign ha52 rfl rfl) ?_
     intro a53 ha53; clear ha52 a52
     refine wpList_nil ?_
     refine then_n ?_
     refine wp_region_lit ?_
     refine wl_val ha53 rfl rfl rfl (op_move ha53 rfl rfl) ?_
     intro a54 ha54; clear ha53 a53
     refine wl_val ha54 rfl rfl rfl ((op_add ha54 rfl rfl rfl).int (IntWalk.i64_in _ (by omega))) ?_
     intro a55 ha55; clear ha54 a54
     refine wl_val ha55 rfl rfl rfl (op_assign ha55 rfl rfl) ?_
     intro a56 ha56; clear ha55 a55
     refine wpList_nil ?_
     refine block_n ?_
     refine then_n ?_
     refine wp_region_lit ?_
     refine wl_val ha56 rfl rfl rfl (op_move ha56 rfl rfl) ?_
     intro a57 ha57; clear ha56 a56
     refine wl_val ha57 rfl rfl rfl ((op_add ha57 rfl rfl rfl).int (IntWalk.i64_in _ (by omega))) ?_
     intro a58 ha58; clear ha57 a57
     refine wl_val ha58 rfl rfl rfl (op_assign ha58 rfl rfl) ?_
     intro a59 ha59; clear ha58 a58
     refine wpList_nil ?_
     refine round_end (x := (i, q, l, f)) ((i + 1), (q + (cashE x28 : Int)), (q + (cashE x28 : Int)), (((i : Nat) : Int) + (1 : Int))) ?_ ?_
     ·
      refine ⟨(Sl.cons_ ha59 rfl rfl (Sl.cons_ ha59 rfl (int_eq (by omega)) (Sl.cons_ ha59 rfl (int_eq (by omega)) (Sl.cons_ ha59 rfl (int_eq (by omega)) (Sl.cons_ ha59 rfl (int_eq (by omega)) (Sl.nil_ ha59)))))), hx45, (by omega), (by omega), (by omega), (by omega), (by omega), (by omega), (by rw [drop_cons hx28, lwGo, if_pos (by omega)] at hF; exact hF)⟩
     ·show (list.length - ((i + 1)) : Nat) < list.length - i; omega
    ·
     rw [decide_eq_false c51] at ha50
     refine cond_f ha50 rfl ?_
     refine wp_skip ?_
     refine block_n ?_
     refine then_n ?_
     refine wp_region_lit ?_
     refine wl_val ha50 rfl rfl rfl (op_move ha50 rfl rfl) ?_
     intro a60 ha60; clear ha50 a50
     refine wl_val ha60 rfl rfl rfl ((op_add ha60 rfl rfl rfl).int (IntWalk.i64_in _ (by omega))) ?_
     intro a61 ha61; clear ha60 a60
     refine wl_val ha61 rfl rfl rfl (op_assign ha61 rfl rfl) ?_
     intro a62 ha62; clear ha61 a61
     refine wpList_nil ?_
     refine round_end (x := (i, q, l, f)) ((i + 1), (q + (cashE x28 : Int)), l, f) ?_ ?_
     ·
      refine ⟨(Sl.cons_ ha62 rfl rfl (Sl.cons_ ha62 rfl (int_eq (by omega)) (Sl.cons_ ha62 rfl (int_eq (by omega)) (Sl.cons_ ha62 rfl (int_eq (by omega)) (Sl.cons_ ha62 rfl (int_eq (by omega)) (Sl.nil_ ha62)))))), hx45, (by omega), (by omega), (by omega), (by omega), (by omega), (by omega), (by rw [drop_cons hx28, lwGo, if_neg (by omega)] at hF; exact hF)⟩
     ·show (list.length - ((i + 1)) : Nat) < list.length - i; omega
   ·
    rw [decide_eq_false c24] at ha23
    refine cond_f ha23 rfl ?_
    refine wp_exit ?_
    refine then_e ?_
    refine then_e ?_
    refine block_hit ?_
    refine then_n ?_
    refine wp_seq ?_
    refine wp_region_lit ?_
    refine wl_val ha23 rfl rfl rfl (op_move ha23 rfl rfl) ?_
    intro a63 ha63; clear ha23 a23
    refine wl_val ha63 rfl rfl rfl (op_move ha63 rfl rfl) ?_
    intro a64 ha64; clear ha63 a63
    refine wl_val ha64 rfl rfl rfl (op_assign ha64 rfl rfl) ?_
    intro a65 ha65; clear ha64 a64
    refine wl_val ha65 rfl rfl rfl (op_assign ha65 rfl rfl) ?_
    intro a66 ha66; clear ha65 a65
    refine wl_val ha66 rfl rfl rfl (op_assign ha66 rfl rfl) ?_
    intro a67 ha67; clear ha66 a66
    refine wpList_nil ?_
    refine then_n ?_
    refine wp_ret ?_
    refine ret3 ha67 rfl rfl rfl rfl ?_
    clear ha67 a67
    exact ret_mk hx17 (tup3_eq (int_eq (by rw [drop_nil (by omega), lwGo] at hF; have hF2 : (l, f) = lwS list := hF; simp [c11, c24, ← hF2])) (int_eq (by rw [drop_nil (by omega), lwGo] at hF; have hF2 : (l, f) = lwS list := hF; simp [c11, c24, ← hF2])) (int_eq (by simp [c11, c24])))
 ·
  rw [c11] at ha10
  refine cond_t ha10 rfl ?_
  refine wp_seq ?_
  refine wp_region_lit ?_
  refine wl_val ha10 rfl rfl rfl (op_assign ha10 rfl rfl) ?_
  intro a68 ha68; clear ha10 a10
  refine wl_val ha68 rfl rfl rfl (op_assign ha68 rfl rfl) ?_
  intro a69 ha69; clear ha68 a68
  refine wl_val ha69 rfl rfl rfl (op_assign ha69 rfl rfl) ?_
  intro a70 ha70; clear ha69 a69
  refine wpList_nil ?_
  refine then_n ?_
  refine wp_ret ?_
  refine then_r ?_
  refine ret3 ha70 rfl rfl rfl rfl ?_
  clear ha70 a70
  exact ret_mk hx9 (tup3_eq (int_eq (by simp [c11])) (int_eq (by simp [c11])) (int_eq (by simp [c11])))

theorem c_impl_OldestDebt (w0 : World) (v_list : Value) (list : List (Int × Int × Str × Int)) {S_list : Nat → Prop} (name : Str) (h_list : Rds shEnt S_list w0 v_list list) (g0 : list.length ≤ 1048576) (g1 : name.length ≤ 9223372036854775807) :
  Calls Try.prog 23 #[v_list, St name] w0 (Ret w0 (fun v _ => v = .tuple #[.int .i64 (odA list name), .int .i64 (odB list name)])) := by
 refine enter (N := 65) Try.func23 rfl rfl rfl ?_
 intro a0 ha0
 have hx0 := Ext.rfl' w0
 have hl_list := h_list.length_le
 refine wp_seq ?_
 refine wp_region_lit ?_
 refine wl_val ha0 rfl rfl rfl (op_assign ha0 rfl rfl) ?_
 intro a1 ha1; clear ha0 a0
 refine wl_val ha1 rfl rfl rfl (op_assign ha1 rfl rfl) ?_
 intro a2 ha2; clear ha1 a1
 refine wpList_nil ?_
 refine then_n ?_
 refine wp_seq ?_
 refine wp_seq ?_
 refine wp_region_lit ?_
 refine wl_val ha2 rfl rfl rfl (op_move ha2 rfl rfl) ?_
 intro a3 ha3; clear ha2 a2
 refine wl_callR ha3 rfl rfl rfl (op_call ha3 rfl cb18 rfl) (c_impl_IsDayBook _ v_list list (h_list.ext pos_shEnt hx0) (by first | assumption | omega | exact dbB_ent (by assumption) | (simp; omega))) ?_
 rintro v4 w5 he6 rfl a7 ha7; clear ha3 a3
 have hx8 := hx0.trans' he6
 have hzhx8 := he6.size
 refine wl_val ha7 rfl rfl rfl (op_not ha7 rfl rfl) ?_
 intro a9 ha9; clear ha7 a7
 refine wl_val ha9 rfl rfl rfl (op_move ha9 rfl rfl) ?_
 intro a10 ha10; clear ha9 a9
 rcases Bool.eq_false_or_eq_true (dbB list) with c11 | c11
 ·
  rw [c11] at ha10
  have hlenc11 := dbB_len c11
  have hentc11 := dbB_ent c11
  refine wl_val ha10 rfl rfl rfl (op_move ha10 rfl rfl) ?_
  intro a12 ha12; clear ha10 a10
  refine wl_callR ha12 rfl rfl rfl (op_call ha12 rfl cb62 rfl) (c_impl_IsWord _ name (by first | assumption | omega | exact dbB_ent (by assumption) | (simp; omega))) ?_
  rintro v13 w14 he15 rfl a16 ha16; clear ha12 a12
  have hx17 := hx8.trans' he15
  have hzhx17 := he15.size
  refine wl_val ha16 rfl rfl rfl (op_not ha16 rfl rfl) ?_
  intro a18 ha18; clear ha16 a16
  refine wl_val ha18 rfl rfl rfl (op_pick_f ha18 rfl rfl rfl) ?_
  intro a19 ha19; clear ha18 a18
  refine wpList_nil ?_
  refine then_n ?_
  rcases Bool.eq_false_or_eq_true (wordB name) with c20 | c20
  ·
   rw [c20] at ha19
   refine cond_f ha19 rfl ?_
   refine wp_skip ?_
   refine then_n ?_
   refine wp_seq ?_
   refine wp_region_lit ?_
   refine wl_val ha19 rfl rfl rfl (op_assign ha19 rfl rfl) ?_
   intro a21 ha21; clear ha19 a19
   refine wpList_nil ?_
   refine then_n ?_
   refine wp_seq ?_
   refine wp_seq ?_
   refine wp_region_lit ?_
   refine wl_val ha21 rfl rfl rfl (op_move ha21 rfl rfl) ?_
   intro a22 ha22; clear ha21 a21
   refine wl_val ha22 rfl rfl rfl (op_len_sl ha22 rfl Try.underlying25 rfl h_list) ?_
   intro a23 ha23; clear ha22 a22
   refine wl_val ha23 rfl rfl rfl (op_move ha23 rfl rfl) ?_
   intro a24 ha24; clear ha23 a23
   refine wpList_nil ?_
   refine then_n ?_
   refine wp_block ?_
   refine loop_inv (X := Nat × Int) (fun (⟨i, q⟩ : Nat × Int) fr wl => Sl 65 fr [(0, v_list), (1, St name), (6, .int .i64 q), (19, v_list), (20, .int .i64 ((list.length : Nat) : Int)), (21, .int .i64 ((i : Nat) : Int))] ∧ Ext w0 wl ∧ w14.heap.size ≤ wl.heap.size ∧ (i ≤ list.length) ∧ (0 ≤ q) ∧ (q ≤ 10000000 * (i : Int)) ∧ (q + sumI (pdE name) (list.drop i) = sumI (pdE name) list)) (fun (⟨i, q⟩ : Nat × Int) => list.length - i) (0, (0 : Int)) ?_ ?_
   ·
    exact ⟨(Sl.cons_ ha24 rfl rfl (Sl.cons_ ha24 rfl rfl (Sl.cons_ ha24 rfl (int_eq (by omega)) (Sl.cons_ ha24 rfl rfl (Sl.cons_ ha24 rfl rfl (Sl.cons_ ha24 rfl (int_eq (by omega)) (Sl.nil_ ha24))))))), hx17, (by omega), (by omega), (by omega), (by omega), (by simp)⟩
   ·
    clear ha24 a24
    rintro ⟨i, q⟩ a27 w25 ⟨ha27, hx26, hzl28, hi, hq0, hq1, hF⟩
    have hzhx26 := hx26.size
    refine wp_seq ?_
    refine wp_region_lit ?_
    refine wl_val ha27 rfl rfl rfl (op_lss ha27 rfl rfl rfl) ?_
    intro a29 ha29; clear ha27 a27
    refine wpList_nil ?_
    refine then_n ?_
    refine wp_seq ?_
    by_cases c30 : ((i : Nat) : Int) < ((list.length : Nat) : Int)
    ·
     rw [decide_eq_true c30] at ha29
     refine cond_t ha29 rfl ?_
     refine wp_skip ?_
     refine then_n ?_
     refine wp_seq ?_
     refine wp_block ?_
     refine wp_seq ?_
     refine wp_region_lit ?_
     obtain ⟨x31, hx31⟩ := get_ex (xs := list) (j := i) (by omega)
     obtain ⟨p32, c33, hi34, hc35, hr36, hs37⟩ := Rds.at_ h_list hx31
     obtain ⟨rfl, b38, b39, b40, b41⟩ := inv_shEnt hr36
     have hbx31 := ent_bd (hentc11 _ (List.mem_of_getElem? hx31))
     have hcbx31 := cashE_bd (hentc11 _ (List.mem_of_getElem? hx31))
     refine wl_val ha29 rfl rfl rfl (op_indexAddr ha29 rfl Try.underlying25 ti41 rfl rfl (by omega) hi34) ?_
     intro a42 ha42; clear ha29 a29
     refine wl_val ha42 rfl rfl rfl (op_loadS ha42 rfl Try.underlying41 ti41 rfl rfl (hc35.ext hx26)) ?_
     intro a43 ha43; clear ha42 a42
     refine wl_eff ha43 rfl rfl rfl (op_alloc' rfl ti41 rfl) ?_
     rintro _ w45 ⟨rfl, he46, hb47, hz48⟩ a49 ha49; clear ha43 a43
     have hx50 := hx26.trans' he46
     have hzhx50 := he46.size
     refine wl_effS ha49 rfl rfl (op_storeAll' ha49 rfl ti41 rfl rfl hb47 rfl rfl (by simp [Value.oneCell']) rfl) ?_
     rintro w51 ⟨hb53, hst52, hz54⟩
     have hx55 := hx50.stp hst52 (by intro q hq; cases hq; exact (by omega))
     have hzhx55 := hst52.size
     clear hb47
     refine wpList_nil ?_
     refine then_n ?_
     refine wp_seq ?_
     refine wp_region_lit ?_
     refine wl_val ha49 rfl rfl rfl (op_fieldAddr (sz := 0) ha49 rfl Try.underlying41 rfl rfl ti2 rfl) ?_
     intro a56 ha56; clear ha49 a49
     refine wl_val ha56 rfl rfl rfl (op_loadF (off := 1) ha56 rfl Try.underlying2 rfl rfl hb53.cells rfl) ?_
     intro a57 ha57; clear ha56 a56
     refine wl_val ha57 rfl rfl rfl (op_eql ha57 rfl rfl rfl) ?_
     intro a58 ha58; clear ha57 a57
     refine wl_val ha58 rfl rfl rfl (op_move ha58 rfl rfl) ?_
     intro a59 ha59; clear ha58 a58
     by_cases c60 : x31.2.1 = (1 : Int)
     ·
      rw [decide_eq_true c60] at ha59
      refine wl_val ha59 rfl rfl rfl (op_fieldAddr (sz := 0) ha59 rfl Try.underlying41 rfl rfl ti9 rfl) ?_
      intro a61 ha61; clear ha59 a59
      refine wl_val ha61 rfl rfl rfl (op_loadF (off := 2) ha61 rfl Try.underlying9 rfl rfl hb53.cells rfl) ?_
      intro a62 ha62; clear ha61 a61
      refine wl_val ha62 rfl rfl rfl (op_move ha62 rfl rfl) ?_
      intro a63 ha63; clear ha62 a62
      refine wl_val ha63 rfl rfl rfl (op_seql ha63 rfl rfl rfl) ?_
      intro a64 ha64; clear ha63 a63
      refine wl_val ha64 rfl rfl rfl (op_pick_t ha64 rfl rfl rfl) ?_
      intro a65 ha65; clear ha64 a64
      refine wpList_nil ?_
      refine then_n ?_
      by_cases c66 : x31.2.2.1 = name
      ·
       rw [decide_eq_true c66] at ha65
       refine cond_t ha65 rfl ?_
       refine wp_region_lit ?_
       refine wl_val ha65 rfl rfl rfl (op_move ha65 rfl rfl) ?_
       intro a67 ha67; clear ha65 a65
       refine wl_val ha67 rfl rfl rfl (op_fieldAddr (sz := 0) ha67 rfl Try.underlying41 rfl rfl ti2 rfl) ?_
       intro a68 ha68; clear ha67 a67
       refine wl_val ha68 rfl rfl rfl (op_loadF (off := 3) ha68 rfl Try.underlying2 rfl rfl hb53.cells rfl) ?_
       intro a69 ha69; clear ha68 a68
       refine wl_val ha69 rfl rfl rfl ((op_add ha69 rfl rfl rfl).int (IntWalk.i64_in _ (by omega))) ?_
       intro a70 ha70; clear ha69 a69
       refine wl_val ha70 rfl rfl rfl (op_assign ha70 rfl rfl) ?_
       intro a71 ha71; clear ha70 a70
       refine wpList_nil ?_
       refine block_n ?_
       refine then_n ?_
       refine wp_region_lit ?_
       refine wl_val ha71 rfl rfl rfl ((op_add ha71 rfl rfl rfl).int (IntWalk.i64_in _ (by omega))) ?_
       intro a72 ha72; clear ha71 a71
       refine wl_val ha72 rfl rfl rfl (op_move ha72 rfl rfl) ?_
       intro a73 ha73; clear ha72 a72
       refine wpList_nil ?_
       refine round_end (x := (i, q)) ((i + 1), (q + x31.2.2.2)) ?_ ?_
       ·
        refine ⟨(Sl.cons_ ha73 rfl rfl (Sl.cons_ ha73 rfl rfl (Sl.cons_ ha73 rfl (int_eq (by omega)) (Sl.cons_ ha73 rfl rfl (Sl.cons_ ha73 rfl rfl (Sl.cons_ ha73 rfl (int_eq (by omega)) (Sl.nil_ ha73))))))), hx55, (by omega), (by omega), (by omega), (by omega), (by rw [drop_cons hx31, sumI] at hF; have e := pdE_def name x31; simp [c11, c20, c30, c60, c66] at e; omega)⟩
       ·show (list.length - ((i + 1)) : Nat) < list.length - i; omega
      ·
       rw [decide_eq_false c66] at ha65
       refine cond_f ha65 rfl ?_
       refine wp_skip ?_
       refine block_n ?_
       refine then_n ?_
       refine wp_region_lit ?_
       refine wl_val ha65 rfl rfl rfl ((op_add ha65 rfl rfl rfl).int (IntWalk.i64_in _ (by omega))) ?_
       intro a74 ha74; clear ha65 a65
       refine wl_val ha74 rfl rfl rfl (op_move ha74 rfl rfl) ?_
       intro a75 ha75; clear ha74 a74
       refine wpList_nil ?_
       refine round_end (x := (i, q)) ((i + 1), q) ?_ ?_
       ·
        refine ⟨(Sl.cons_ ha75 rfl rfl (Sl.cons_ ha75 rfl rfl (Sl.cons_ ha75 rfl (int_eq (by omega)) (Sl.cons_ ha75 rfl rfl (Sl.cons_ ha75 rfl rfl (Sl.cons_ ha75 rfl (int_eq (by omega)) (Sl.nil_ ha75))))))), hx55, (by omega), (by omega), (by omega), (by omega), (by rw [drop_cons hx31, sumI] at hF; have e := pdE_def name x31; simp [c11, c20, c30, c60, c66] at e; omega)⟩
       ·show (list.length - ((i + 1)) : Nat) < list.length - i; omega
     ·
      rw [decide_eq_false c60] at ha59
      refine wl_skip ha59 rfl rfl rfl ?_
      intro a76 ha76; clear ha59 a59
      refine wl_skip ha76 rfl rfl rfl ?_
      intro a77 ha77; clear ha76 a76
      refine wl_skip ha77 rfl rfl rfl ?_
      intro a78 ha78; clear ha77 a77
      refine wl_skip ha78 rfl rfl rfl ?_
      intro a79 ha79; clear ha78 a78
      refine wl_val ha79 rfl rfl rfl (op_pick_f ha79 rfl rfl rfl) ?_
      intro a80 ha80; clear ha79 a79
      refine wpList_nil ?_
      refine then_n ?_
      refine cond_f ha80 rfl ?_
      refine wp_skip ?_
      refine block_n ?_
      refine then_n ?_
      refine wp_region_lit ?_
      refine wl_val ha80 rfl rfl rfl ((op_add ha80 rfl rfl rfl).int (IntWalk.i64_in _ (by omega))) ?_
      intro a81 ha81; clear ha80 a80
      refine wl_val ha81 rfl rfl rfl (op_move ha81 rfl rfl) ?_
      intro a82 ha82; clear ha81 a81
      refine wpList_nil ?_
      refine round_end (x := (i, q)) ((i + 1), q) ?_ ?_
      ·
       refine ⟨(Sl.cons_ ha82 rfl rfl (Sl.cons_ ha82 rfl rfl (Sl.cons_ ha82 rfl (int_eq (by omega)) (Sl.cons_ ha82 rfl rfl (Sl.cons_ ha82 rfl rfl (Sl.cons_ ha82 rfl (int_eq (by omega)) (Sl.nil_ ha82))))))), hx55, (by omega), (by omega), (by omega), (by omega), (by rw [drop_cons hx31, sumI] at hF; have e := pdE_def name x31; simp [c11, c20, c30, c60] at e; omega)⟩
      ·show (list.length - ((i + 1)) : Nat) < list.length - i; omega
    ·
     rw [decide_eq_false c30] at ha29
     refine cond_f ha29 rfl ?_
     refine wp_exit ?_
     refine then_e ?_
     refine then_e ?_
     refine block_hit ?_
     refine then_n ?_
     refine wp_seq ?_
     refine wp_seq ?_
     refine wp_region_lit ?_
     refine wl_val ha29 rfl rfl rfl (op_move ha29 rfl rfl) ?_
     intro a83 ha83; clear ha29 a29
     refine wl_val ha83 rfl rfl rfl (op_len_sl ha83 rfl Try.underlying25 rfl h_list) ?_
     intro a84 ha84; clear ha83 a83
     refine wl_val ha84 rfl rfl rfl (op_move ha84 rfl rfl) ?_
     intro a85 ha85; clear ha84 a84
     refine wpList_nil ?_
     refine then_n ?_
     refine wp_block ?_
     refine loop_inv (X := Nat × Int) (fun (⟨k, p⟩ : Nat × Int) fr wl => Sl 65 fr [(1, St name), (6, .int .i64 p), (39, v_list), (40, .int .i64 ((list.length : Nat) : Int)), (41, .int .i64 ((k : Nat) : Int))] ∧ Ext w0 wl ∧ w25.heap.size ≤ wl.heap.size ∧ (k ≤ list.length) ∧ (0 ≤ p) ∧ (p ≤ 10000000 * 60) ∧ (odGo name (list.drop k) p = odS name list)) (fun (⟨k, p⟩ : Nat × Int) => list.length - k) (0, q) ?_ ?_
     ·
      exact ⟨(Sl.cons_ ha85 rfl rfl (Sl.cons_ ha85 rfl (int_eq (by omega)) (Sl.cons_ ha85 rfl rfl (Sl.cons_ ha85 rfl rfl (Sl.cons_ ha85 rfl (int_eq (by omega)) (Sl.nil_ ha85)))))), hx26, (by omega), (by omega), (by omega), (by omega), (by rw [drop_nil (by omega), sumI] at hF; unfold odS; rw [← hF]; simp)⟩
     ·
      clear ha85 a85
      rintro ⟨k, p⟩ a88 w86 ⟨ha88, hx87, hzl89, hk, hp0, hp1, hG⟩
      have hzhx87 := hx87.size
      refine wp_seq ?_
      refine wp_region_lit ?_
      refine wl_val ha88 rfl rfl rfl (op_lss ha88 rfl rfl rfl) ?_
      intro a90 ha90; clear ha88 a88
      refine wpList_nil ?_
      refine then_n ?_
      refine wp_seq ?_
      by_cases c91 : ((k : Nat) : Int) < ((list.length : Nat) : Int)
      ·
       rw [decide_eq_true c91] at ha90
       refine cond_t ha90 rfl ?_
       refine wp_skip ?_
       refine then_n ?_
       refine wp_seq ?_
       refine wp_block ?_
       refine wp_seq ?_
       refine wp_region_lit ?_
       obtain ⟨x92, hx92⟩ := get_ex (xs := list) (j := k) (by omega)
       obtain ⟨p93, c94, hi95, hc96, hr97, hs98⟩ := Rds.at_ h_list hx92
       obtain ⟨rfl, b99, b100, b101, b102⟩ := inv_shEnt hr97
       have hbx92 := ent_bd (hentc11 _ (List.mem_of_getElem? hx92))
       have hcbx92 := cashE_bd (hentc11 _ (List.mem_of_getElem? hx92))
       refine wl_val ha90 rfl rfl rfl (op_indexAddr ha90 rfl Try.underlying25 ti41 rfl rfl (by omega) hi95) ?_
       intro a103 ha103; clear ha90 a90
       refine wl_val ha103 rfl rfl rfl (op_loadS ha103 rfl Try.underlying41 ti41 rfl rfl (hc96.ext hx87)) ?_
       intro a104 ha104; clear ha103 a103
       refine wl_eff ha104 rfl rfl rfl (op_alloc' rfl ti41 rfl) ?_
       rintro _ w106 ⟨rfl, he107, hb108, hz109⟩ a110 ha110; clear ha104 a104
       have hx111 := hx87.trans' he107
       have hzhx111 := he107.size
       refine wl_effS ha110 rfl rfl (op_storeAll' ha110 rfl ti41 rfl rfl hb108 rfl rfl (by simp [Value.oneCell']) rfl) ?_
       rintro w112 ⟨hb114, hst113, hz115⟩
       have hx116 := hx111.stp hst113 (by intro q hq; cases hq; exact (by omega))
       have hzhx116 := hst113.size
       clear hb108
       refine wpList_nil ?_
       refine then_n ?_
       refine wp_seq ?_
       refine wp_region_lit ?_
       refine wl_val ha110 rfl rfl rfl (op_fieldAddr (sz := 0) ha110 rfl Try.underlying41 rfl rfl ti2 rfl) ?_
       intro a117 ha117; clear ha110 a110
       refine wl_val ha117 rfl rfl rfl (op_loadF (off := 1) ha117 rfl Try.underlying2 rfl rfl hb114.cells rfl) ?_
       intro a118 ha118; clear ha117 a117
       refine wl_val ha118 rfl rfl rfl (op_eql ha118 rfl rfl rfl) ?_
       intro a119 ha119; clear ha118 a118
       refine wl_val ha119 rfl rfl rfl (op_move ha119 rfl rfl) ?_
       intro a120 ha120; clear ha119 a119
       by_cases c121 : x92.2.1 = (0 : Int)
       ·
        rw [decide_eq_true c121] at ha120
        refine wl_val ha120 rfl rfl rfl (op_fieldAddr (sz := 0) ha120 rfl Try.underlying41 rfl rfl ti9 rfl) ?_
        intro a122 ha122; clear ha120 a120
        refine wl_val ha122 rfl rfl rfl (op_loadF (off := 2) ha122 rfl Try.underlying9 rfl rfl hb114.cells rfl) ?_
        intro a123 ha123; clear ha122 a122
        refine wl_val ha123 rfl rfl rfl (op_move ha123 rfl rfl) ?_
        intro a124 ha124; clear ha123 a123
        refine wl_val ha124 rfl rfl rfl (op_seql ha124 rfl rfl rfl) ?_
        intro a125 ha125; clear ha124 a124
        refine wl_val ha125 rfl rfl rfl (op_pick_t ha125 rfl rfl rfl) ?_
        intro a126 ha126; clear ha125 a125
        refine wpList_nil ?_
        refine then_n ?_
        by_cases c127 : x92.2.2.1 = name
        ·
         rw [decide_eq_true c127] at ha126
         refine cond_t ha126 rfl ?_
         refine wp_seq ?_
         refine wp_seq ?_
         refine wp_region_lit ?_
         refine wl_val ha126 rfl rfl rfl (op_fieldAddr (sz := 0) ha126 rfl Try.underlying41 rfl rfl ti2 rfl) ?_
         intro a128 ha128; clear ha126 a126
         refine wl_val ha128 rfl rfl rfl (op_loadF (off := 3) ha128 rfl Try.underlying2 rfl rfl hb114.cells rfl) ?_
         intro a129 ha129; clear ha128 a128
         refine wl_val ha129 rfl rfl rfl (op_move ha129 rfl rfl) ?_
         intro a130 ha130; clear ha129 a129
         refine wl_val ha130 rfl rfl rfl (op_gtr ha130 rfl rfl rfl) ?_
         intro a131 ha131; clear ha130 a130
         refine wpList_nil ?_
         refine then_n ?_
         by_cases c132 : p < x92.2.2.2
         ·
          rw [decide_eq_true c132] at ha131
          refine cond_t ha131 rfl ?_
          refine wp_seq ?_
          refine wp_region_lit ?_
          refine wl_val ha131 rfl rfl rfl (op_fieldAddr (sz := 0) ha131 rfl Try.underlying41 rfl rfl ti2 rfl) ?_
          intro a133 ha133; clear ha131 a131
          refine wl_val ha133 rfl rfl rfl (op_loadF (off := 0) ha133 rfl Try.underlying2 rfl rfl hb114.cells rfl) ?_
          intro a134 ha134; clear ha133 a133
          refine wl_val ha134 rfl rfl rfl (op_assign ha134 rfl rfl) ?_
          intro a135 ha135; clear ha134 a134
          refine wl_val ha135 rfl rfl rfl (op_assign ha135 rfl rfl) ?_
          intro a136 ha136; clear ha135 a135
          refine wpList_nil ?_
          refine then_n ?_
          refine wp_ret ?_
          refine then_r ?_
          refine block_r ?_
          refine then_r ?_
          refine then_r ?_
          refine block_r ?_
          refine then_r ?_
          refine ret2 ha136 rfl rfl rfl ?_
          clear ha136 a136
          rw [drop_cons hx92, odGo, if_pos ⟨by assumption, by assumption⟩, if_pos (by omega)] at hG
          have hr := od_some c11 c20 hG.symm
          exact ret_mk hx116 (tup2_eq (int_eq (by exact hr.1.symm)) (int_eq (by exact hr.2.symm)))
         ·
          rw [decide_eq_false c132] at ha131
          refine cond_f ha131 rfl ?_
          refine wp_skip ?_
          refine then_n ?_
          refine wp_region_lit ?_
          refine wl_val ha131 rfl rfl rfl (op_move ha131 rfl rfl) ?_
          intro a137 ha137; clear ha131 a131
          refine wl_val ha137 rfl rfl rfl (op_fieldAddr (sz := 0) ha137 rfl Try.underlying41 rfl rfl ti2 rfl) ?_
          intro a138 ha138; clear ha137 a137
          refine wl_val ha138 rfl rfl rfl (op_loadF (off := 3) ha138 rfl Try.underlying2 rfl rfl hb114.cells rfl) ?_
          intro a139 ha139; clear ha138 a138
          refine wl_val ha139 rfl rfl rfl ((op_sub ha139 rfl rfl rfl).int (IntWalk.i64_in _ (by omega))) ?_
          intro a140 ha140; clear ha139 a139
          refine wl_val ha140 rfl rfl rfl (op_assign ha140 rfl rfl) ?_
          intro a141 ha141; clear ha140 a140
          refine wpList_nil ?_
          refine block_n ?_
          refine then_n ?_
          refine wp_region_lit ?_
          refine wl_val ha141 rfl rfl rfl ((op_add ha141 rfl rfl rfl).int (IntWalk.i64_in _ (by omega))) ?_
          intro a142 ha142; clear ha141 a141
          refine wl_val ha142 rfl rfl rfl (op_move ha142 rfl rfl) ?_
          intro a143 ha143; clear ha142 a142
          refine wpList_nil ?_
          refine round_end (x := (k, p)) ((k + 1), (p - x92.2.2.2)) ?_ ?_
          ·
           refine ⟨(Sl.cons_ ha143 rfl rfl (Sl.cons_ ha143 rfl (int_eq (by omega)) (Sl.cons_ ha143 rfl rfl (Sl.cons_ ha143 rfl rfl (Sl.cons_ ha143 rfl (int_eq (by omega)) (Sl.nil_ ha143)))))), hx116, (by omega), (by omega), (by omega), (by omega), (by rw [drop_cons hx92, odGo, if_pos ⟨by assumption, by assumption⟩, if_neg (by omega)] at hG; exact hG)⟩
          ·show (list.length - ((k + 1)) : Nat) < list.length - k; omega
        ·
         rw [decide_eq_false c127] at ha126
         refine cond_f ha126 rfl ?_
         refine wp_skip ?_
         refine block_n ?_
         refine then_n ?_
         refine wp_region_lit ?_
         refine wl_val ha126 rfl rfl rfl ((op_add ha126 rfl rfl rfl).int (IntWalk.i64_in _ (by omega))) ?_
         intro a144 ha144; clear ha126 a126
         refine wl_val ha144 rfl rfl rfl (op_move ha144 rfl rfl) ?_
         intro a145 ha145; clear ha144 a144
         refine wpList_nil ?_
         refine round_end (x := (k, p)) ((k + 1), p) ?_ ?_
         ·
          refine ⟨(Sl.cons_ ha145 rfl rfl (Sl.cons_ ha145 rfl (int_eq (by omega)) (Sl.cons_ ha145 rfl rfl (Sl.cons_ ha145 rfl rfl (Sl.cons_ ha145 rfl (int_eq (by omega)) (Sl.nil_ ha145)))))), hx116, (by omega), (by omega), (by omega), (by omega), (by rw [drop_cons hx92, odGo, if_neg (by rintro ⟨h1, h2⟩; first | (exact absurd h1 (by assumption)) | (exact absurd h2 (by assumption)))] at hG; exact hG)⟩
         ·show (list.length - ((k + 1)) : Nat) < list.length - k; omega
       ·
        rw [decide_eq_false c121] at ha120
        refine wl_skip ha120 rfl rfl rfl ?_
        intro a146 ha146; clear ha120 a120
        refine wl_skip ha146 rfl rfl rfl ?_
        intro a147 ha147; clear ha146 a146
        refine wl_skip ha147 rfl rfl rfl ?_
        intro a148 ha148; clear ha147 a147
        refine wl_skip ha148 rfl rfl rfl ?_
        intro a149 ha149; clear ha148 a148
        refine wl_val ha149 rfl rfl rfl (op_pick_f ha149 rfl rfl rfl) ?_
        intro a150 ha150; clear ha149 a149
        refine wpList_nil ?_
        refine then_n ?_
        refine cond_f ha150 rfl ?_
        refine wp_skip ?_
        refine block_n ?_
        refine then_n ?_
        refine wp_region_lit ?_
        refine wl_val ha150 rfl rfl rfl ((op_add ha150 rfl rfl rfl).int (IntWalk.i64_in _ (by omega))) ?_
        intro a151 ha151; clear ha150 a150
        refine wl_val ha151 rfl rfl rfl (op_move ha151 rfl rfl) ?_
        intro a152 ha152; clear ha151 a151
        refine wpList_nil ?_
        refine round_end (x := (k, p)) ((k + 1), p) ?_ ?_
        ·
         refine ⟨(Sl.cons_ ha152 rfl rfl (Sl.cons_ ha152 rfl (int_eq (by omega)) (Sl.cons_ ha152 rfl rfl (Sl.cons_ ha152 rfl rfl (Sl.cons_ ha152 rfl (int_eq (by omega)) (Sl.nil_ ha152)))))), hx116, (by omega), (by omega), (by omega), (by omega), (by rw [drop_cons hx92, odGo, if_neg (by rintro ⟨h1, h2⟩; first | (exact absurd h1 (by assumption)) | (exact absurd h2 (by assumption)))] at hG; exact hG)⟩
        ·show (list.length - ((k + 1)) : Nat) < list.length - k; omega
      ·
       rw [decide_eq_false c91] at ha90
       refine cond_f ha90 rfl ?_
       refine wp_exit ?_
       refine then_e ?_
       refine then_e ?_
       refine block_hit ?_
       refine then_n ?_
       refine wp_seq ?_
       refine wp_region_lit ?_
       refine wl_val ha90 rfl rfl rfl (op_assign ha90 rfl rfl) ?_
       intro a153 ha153; clear ha90 a90
       refine wl_val ha153 rfl rfl rfl (op_assign ha153 rfl rfl) ?_
       intro a154 ha154; clear ha153 a153
       refine wpList_nil ?_
       refine then_n ?_
       refine wp_ret ?_
       refine ret2 ha154 rfl rfl rfl ?_
       clear ha154 a154
       rw [drop_nil (by omega), odGo] at hG
       have hr := od_none c11 c20 hG.symm
       exact ret_mk hx87 (tup2_eq (int_eq (by exact hr.1.symm)) (int_eq (by exact hr.2.symm)))
  ·
   rw [c20] at ha19
   refine cond_t ha19 rfl ?_
   refine wp_seq ?_
   refine wp_region_lit ?_
   refine wl_val ha19 rfl rfl rfl (op_assign ha19 rfl rfl) ?_
   intro a155 ha155; clear ha19 a19
   refine wl_val ha155 rfl rfl rfl (op_assign ha155 rfl rfl) ?_
   intro a156 ha156; clear ha155 a155
   refine wpList_nil ?_
   refine then_n ?_
   refine wp_ret ?_
   refine then_r ?_
   refine ret2 ha156 rfl rfl rfl ?_
   clear ha156 a156
   have hr := od_bad (xs := list) (n := name) (by simp [c11, c20])
   exact ret_mk hx17 (tup2_eq (int_eq (by exact hr.1.symm)) (int_eq (by exact hr.2.symm)))
 ·
  rw [c11] at ha10
  refine wl_skip ha10 rfl rfl rfl ?_
  intro a157 ha157; clear ha10 a10
  refine wl_skip ha157 rfl rfl rfl ?_
  intro a158 ha158; clear ha157 a157
  refine wl_skip ha158 rfl rfl rfl ?_
  intro a159 ha159; clear ha158 a158
  refine wl_val ha159 rfl rfl rfl (op_pick_t ha159 rfl rfl rfl) ?_
  intro a160 ha160; clear ha159 a159
  refine wpList_nil ?_
  refine then_n ?_
  refine cond_t ha160 rfl ?_
  refine wp_seq ?_
  refine wp_region_lit ?_
  refine wl_val ha160 rfl rfl rfl (op_assign ha160 rfl rfl) ?_
  intro a161 ha161; clear ha160 a160
  refine wl_val ha161 rfl rfl rfl (op_assign ha161 rfl rfl) ?_
  intro a162 ha162; clear ha161 a161
  refine wpList_nil ?_
  refine then_n ?_
  refine wp_ret ?_
  refine then_r ?_
  refine ret2 ha162 rfl rfl rfl ?_
  clear ha162 a162
  have hr := od_bad (xs := list) (n := name) (by simp [c11])
  exact ret_mk hx8 (tup2_eq (int_eq (by exact hr.1.symm)) (int_eq (by exact hr.2.symm)))

theorem c_spec_OldestDebt (w0 : World) (v_list : Value) (list : List (Int × Int × Str × Int)) {S_list : Nat → Prop} (name : Str) (h_list : Rds shEnt S_list w0 v_list list) (g0 : list.length ≤ 1048576) (g1 : name.length ≤ 9223372036854775807) :
  Calls Try.prog 22 #[v_list, St name] w0 (Ret w0 (fun v _ => v = .tuple #[.int .i64 (odA list name), .int .i64 (odB list name)])) := by
 refine enter (N := 85) Try.func22 rfl rfl rfl ?_
 intro a0 ha0
 have hx0 := Ext.rfl' w0
 have hl_list := h_list.length_le
 refine wp_seq ?_
 refine wp_region_lit ?_
 refine wl_val ha0 rfl rfl rfl (op_assign ha0 rfl rfl) ?_
 intro a1 ha1; clear ha0 a0
 refine wl_val ha1 rfl rfl rfl (op_assign ha1 rfl rfl) ?_
 intro a2 ha2; clear ha1 a1
 refine wpList_nil ?_
 refine then_n ?_
 refine wp_seq ?_
 refine wp_seq ?_
 refine wp_region_lit ?_
 refine wl_val ha2 rfl rfl rfl (op_move ha2 rfl rfl) ?_
 intro a3 ha3; clear ha2 a2
 refine wl_callR ha3 rfl rfl rfl (op_call ha3 rfl cb16 rfl) (c_spec_IsDayBook _ v_list list (h_list.ext pos_shEnt hx0) (by first | assumption | omega | exact dbB_ent (by assumption) | (simp; omega))) ?_
 rintro v4 w5 he6 rfl a7 ha7; clear ha3 a3
 have hx8 := hx0.trans' he6
 have hzhx8 := he6.size
 refine wl_val ha7 rfl rfl rfl (op_not ha7 rfl rfl) ?_
 intro a9 ha9; clear ha7 a7
 refine wl_val ha9 rfl rfl rfl (op_move ha9 rfl rfl) ?_
 intro a10 ha10; clear ha9 a9
 rcases Bool.eq_false_or_eq_true (dbB list) with c11 | c11
 ·
  rw [c11] at ha10
  have hlenc11 := dbB_len c11
  have hentc11 := dbB_ent c11
  refine wl_val ha10 rfl rfl rfl (op_move ha10 rfl rfl) ?_
  intro a12 ha12; clear ha10 a10
  refine wl_callR ha12 rfl rfl rfl (op_call ha12 rfl cb61 rfl) (c_spec_IsWord _ name (by first | assumption | omega | exact dbB_ent (by assumption) | (simp; omega))) ?_
  rintro v13 w14 he15 rfl a16 ha16; clear ha12 a12
  have hx17 := hx8.trans' he15
  have hzhx17 := he15.size
  refine wl_val ha16 rfl rfl rfl (op_not ha16 rfl rfl) ?_
  intro a18 ha18; clear ha16 a16
  refine wl_val ha18 rfl rfl rfl (op_pick_f ha18 rfl rfl rfl) ?_
  intro a19 ha19; clear ha18 a18
  refine wpList_nil ?_
  refine then_n ?_
  rcases Bool.eq_false_or_eq_true (wordB name) with c20 | c20
  ·
   rw [c20] at ha19
   refine cond_f ha19 rfl ?_
   refine wp_skip ?_
   refine then_n ?_
   refine wp_seq ?_
   refine wp_region_lit ?_
   refine wl_val ha19 rfl rfl rfl (op_assign ha19 rfl rfl) ?_
   intro a21 ha21; clear ha19 a19
   refine wpList_nil ?_
   refine then_n ?_
   refine wp_seq ?_
   refine wp_seq ?_
   refine wp_region_lit ?_
   refine wl_val ha21 rfl rfl rfl (op_assign ha21 rfl rfl) ?_
   intro a22 ha22; clear ha21 a21
   refine wpList_nil ?_
   refine then_n ?_
   refine wp_block ?_
   refine loop_inv (X := Nat × Int) (fun (⟨i, q⟩ : Nat × Int) fr wl => Sl 85 fr [(0, v_list), (1, St name), (6, .int .i64 q), (7, .int .i64 ((i : Nat) : Int))] ∧ Ext w0 wl ∧ w14.heap.size ≤ wl.heap.size ∧ (i ≤ list.length) ∧ (0 ≤ q) ∧ (q ≤ 10000000 * (i : Int)) ∧ (q + sumI (pdE name) (list.drop i) = sumI (pdE name) list)) (fun (⟨i, q⟩ : Nat × Int) => list.length - i) (0, (0 : Int)) ?_ ?_
   ·
    exact ⟨(Sl.cons_ ha22 rfl rfl (Sl.cons_ ha22 rfl rfl (Sl.cons_ ha22 rfl (int_eq (by omega)) (Sl.cons_ ha22 rfl (int_eq (by omega)) (Sl.nil_ ha22))))), hx17, (by omega), (by omega), (by omega), (by omega), (by simp)⟩
   ·
    clear ha22 a22
    rintro ⟨i, q⟩ a25 w23 ⟨ha25, hx24, hzl26, hi, hq0, hq1, hF⟩
    have hzhx24 := hx24.size
    refine wp_seq ?_
    refine wp_seq ?_
    refine wp_region_lit ?_
    refine wl_val ha25 rfl rfl rfl (op_move ha25 rfl rfl) ?_
    intro a27 ha27; clear ha25 a25
    refine wl_val ha27 rfl rfl rfl (op_move ha27 rfl rfl) ?_
    intro a28 ha28; clear ha27 a27
    refine wl_val ha28 rfl rfl rfl (op_len_sl ha28 rfl Try.underlying25 rfl h_list) ?_
    intro a29 ha29; clear ha28 a28
    refine wl_val ha29 rfl rfl rfl (op_lss ha29 rfl rfl rfl) ?_
    intro a30 ha30; clear ha29 a29
    refine wpList_nil ?_
    refine then_n ?_
    by_cases c31 : ((i : Nat) : Int) < ((list.length : Nat) : Int)
    ·
     rw [decide_eq_true c31] at ha30
     refine cond_t ha30 rfl ?_
     refine wp_skip ?_
     refine then_n ?_
     refine wp_seq ?_
     refine wp_block ?_
     refine wp_seq ?_
     refine wp_region_lit ?_
     refine wl_val ha30 rfl rfl rfl (op_move ha30 rfl rfl) ?_
     intro a32 ha32; clear ha30 a30
     refine wl_val ha32 rfl rfl rfl (op_move ha32 rfl rfl) ?_
     intro a33 ha33; clear ha32 a32
     obtain ⟨x34, hx34⟩ := get_ex (xs := list) (j := i) (by omega)
     obtain ⟨p35, c36, hi37, hc38, hr39, hs40⟩ := Rds.at_ h_list hx34
     obtain ⟨rfl, b41, b42, b43, b44⟩ := inv_shEnt hr39
     have hbx34 := ent_bd (hentc11 _ (List.mem_of_getElem? hx34))
     have hcbx34 := cashE_bd (hentc11 _ (List.mem_of_getElem? hx34))
     refine wl_val ha33 rfl rfl rfl (op_indexAddr ha33 rfl Try.underlying25 ti41 rfl rfl (by omega) hi37) ?_
     intro a45 ha45; clear ha33 a33
     refine wl_val ha45 rfl rfl rfl (op_fieldAddr (sz := 0) ha45 rfl Try.underlying41 rfl rfl ti9 rfl) ?_
     intro a46 ha46; clear ha45 a45
     refine wl_val ha46 rfl rfl rfl (op_loadF (off := 2) ha46 rfl Try.underlying9 rfl rfl (hc38.ext hx24) rfl) ?_
     intro a47 ha47; clear ha46 a46
     refine wl_val ha47 rfl rfl rfl (op_move ha47 rfl rfl) ?_
     intro a48 ha48; clear ha47 a47
     refine wl_val ha48 rfl rfl rfl (op_seql ha48 rfl rfl rfl) ?_
     intro a49 ha49; clear ha48 a48
     refine wl_val ha49 rfl rfl rfl (op_move ha49 rfl rfl) ?_
     intro a50 ha50; clear ha49 a49
     by_cases c51 : x34.2.2.1 = name
     ·
      rw [decide_eq_true c51] at ha50
      refine wl_val ha50 rfl rfl rfl (op_move ha50 rfl rfl) ?_
      intro a52 ha52; clear ha50 a50
      refine wl_val ha52 rfl rfl rfl (op_move ha52 rfl rfl) ?_
      intro a53 ha53; clear ha52 a52
      refine wl_val ha53 rfl rfl rfl (op_indexAddr ha53 rfl Try.underlying25 ti41 rfl rfl (by omega) hi37) ?_
      intro a54 ha54; clear ha53 a53
      refine wl_val ha54 rfl rfl rfl (op_fieldAddr (sz := 0) ha54 rfl Try.underlying41 rfl rfl ti2 rfl) ?_
      intro a55 ha55; clear ha54 a54
      refine wl_val ha55 rfl rfl rfl (op_loadF (off := 1) ha55 rfl Try.underlying2 rfl rfl (hc38.ext hx24) rfl) ?_
      intro a56 ha56; clear ha55 a55
      refine wl_val ha56 rfl rfl rfl (op_eql ha56 rfl rfl rfl) ?_
      intro a57 ha57; clear ha56 a56
      refine wl_val ha57 rfl rfl rfl (op_pick_t ha57 rfl rfl rfl) ?_
      intro a58 ha58; clear ha57 a57
      refine wpList_nil ?_
      refine then_n ?_
      by_cases c59 : x34.2.1 = (1 : Int)
      ·
       rw [decide_eq_true c59] at ha58
       refine cond_t ha58 rfl ?_
       refine wp_region_lit ?_
       refine wl_val ha58 rfl rfl rfl (op_move ha58 rfl rfl) ?_
       intro a60 ha60; clear ha58 a58
       refine wl_val ha60 rfl rfl rfl (op_move ha60 rfl rfl) ?_
       intro a61 ha61; clear ha60 a60
       refine wl_val ha61 rfl rfl rfl (op_move ha61 rfl rfl) ?_
       intro a62 ha62; clear ha61 a61
       refine wl_val ha62 rfl rfl rfl (op_indexAddr ha62 rfl Try.underlying25 ti41 rfl rfl (by omega) hi37) ?_
       intro a63 ha63; clear ha62 a62
       refine wl_val ha63 rfl rfl rfl (op_fieldAddr (sz := 0) ha63 rfl Try.underlying41 rfl rfl ti2 rfl) ?_
       intro a64 ha64; clear ha63 a63
       refine wl_val ha64 rfl rfl rfl (op_loadF (off := 3) ha64 rfl Try.underlying2 rfl rfl (hc38.ext hx24) rfl) ?_
       intro a65 ha65; clear ha64 a64
       refine wl_val ha65 rfl rfl rfl ((op_add ha65 rfl rfl rfl).int (IntWalk.i64_in _ (by omega))) ?_
       intro a66 ha66; clear ha65 a65
       refine wl_val ha66 rfl rfl rfl (op_assign ha66 rfl rfl) ?_
       intro a67 ha67; clear ha66 a66
       refine wpList_nil ?_
       refine block_n ?_
       refine then_n ?_
       refine wp_region_lit ?_
       refine wl_val ha67 rfl rfl rfl (op_move ha67 rfl rfl) ?_
       intro a68 ha68; clear ha67 a67
       refine wl_val ha68 rfl rfl rfl ((op_add ha68 rfl rfl rfl).int (IntWalk.i64_in _ (by omega))) ?_
       intro a69 ha69; clear ha68 a68
       refine wl_val ha69 rfl rfl rfl (op_assign ha69 rfl rfl) ?_
       intro a70 ha70; clear ha69 a69
       refine wpList_nil ?_
       refine round_end (x := (i, q)) ((i + 1), (q + x34.2.2.2)) ?_ ?_
       ·
        refine ⟨(Sl.cons_ ha70 rfl rfl (Sl.cons_ ha70 rfl rfl (Sl.cons_ ha70 rfl (int_eq (by omega)) (Sl.cons_ ha70 rfl (int_eq (by omega)) (Sl.nil_ ha70))))), hx24, (by omega), (by omega), (by omega), (by omega), (by rw [drop_cons hx34, sumI] at hF; have e := pdE_def name x34; simp [c11, c20, c31, c51, c59] at e; omega)⟩
       ·show (list.length - ((i + 1)) : Nat) < list.length - i; omega
      ·
       rw [decide_eq_false c59] at ha58
       refine cond_f ha58 rfl ?_
       refine wp_skip ?_
       refine block_n ?_
       refine then_n ?_
       refine wp_region_lit ?_
       refine wl_val ha58 rfl rfl rfl (op_move ha58 rfl rfl) ?_
       intro a71 ha71; clear ha58 a58
       refine wl_val ha71 rfl rfl rfl ((op_add ha71 rfl rfl rfl).int (IntWalk.i64_in _ (by omega))) ?_
       intro a72 ha72; clear ha71 a71
       refine wl_val ha72 rfl rfl rfl (op_assign ha72 rfl rfl) ?_
       intro a73 ha73; clear ha72 a72
       refine wpList_nil ?_
       refine round_end (x := (i, q)) ((i + 1), q) ?_ ?_
       ·
        refine ⟨(Sl.cons_ ha73 rfl rfl (Sl.cons_ ha73 rfl rfl (Sl.cons_ ha73 rfl (int_eq (by omega)) (Sl.cons_ ha73 rfl (int_eq (by omega)) (Sl.nil_ ha73))))), hx24, (by omega), (by omega), (by omega), (by omega), (by rw [drop_cons hx34, sumI] at hF; have e := pdE_def name x34; simp [c11, c20, c31, c51, c59] at e; omega)⟩
       ·show (list.length - ((i + 1)) : Nat) < list.length - i; omega
     ·
      rw [decide_eq_false c51] at ha50
      refine wl_skip ha50 rfl rfl rfl ?_
      intro a74 ha74; clear ha50 a50
      refine wl_skip ha74 rfl rfl rfl ?_
      intro a75 ha75; clear ha74 a74
      refine wl_skip ha75 rfl rfl rfl ?_
      intro a76 ha76; clear ha75 a75
      refine wl_skip ha76 rfl rfl rfl ?_
      intro a77 ha77; clear ha76 a76
      refine wl_skip ha77 rfl rfl rfl ?_
      intro a78 ha78; clear ha77 a77
      refine wl_skip ha78 rfl rfl rfl ?_
      intro a79 ha79; clear ha78 a78
      refine wl_val ha79 rfl rfl rfl (op_pick_f ha79 rfl rfl rfl) ?_
      intro a80 ha80; clear ha79 a79
      refine wpList_nil ?_
      refine then_n ?_
      refine cond_f ha80 rfl ?_
      refine wp_skip ?_
      refine block_n ?_
      refine then_n ?_
      refine wp_region_lit ?_
      refine wl_val ha80 rfl rfl rfl (op_move ha80 rfl rfl) ?_
      intro a81 ha81; clear ha80 a80
      refine wl_val ha81 rfl rfl rfl ((op_add ha81 rfl rfl rfl).int (IntWalk.i64_in _ (by omega))) ?_
      intro a82 ha82; clear ha81 a81
      refine wl_val ha82 rfl rfl rfl (op_assign ha82 rfl rfl) ?_
      intro a83 ha83; clear ha82 a82
      refine wpList_nil ?_
      refine round_end (x := (i, q)) ((i + 1), q) ?_ ?_
      ·
       refine ⟨(Sl.cons_ ha83 rfl rfl (Sl.cons_ ha83 rfl rfl (Sl.cons_ ha83 rfl (int_eq (by omega)) (Sl.cons_ ha83 rfl (int_eq (by omega)) (Sl.nil_ ha83))))), hx24, (by omega), (by omega), (by omega), (by omega), (by rw [drop_cons hx34, sumI] at hF; have e := pdE_def name x34; simp [c11, c20, c31, c51] at e; omega)⟩
      ·show (list.length - ((i + 1)) : Nat) < list.length - i; omega
    ·
     rw [decide_eq_false c31] at ha30
     refine cond_f ha30 rfl ?_
     refine wp_exit ?_
     refine then_e ?_
     refine then_e ?_
     refine block_hit ?_
     refine then_n ?_
     refine wp_seq ?_
     refine wp_seq ?_
     refine wp_region_lit ?_
     refine wl_val ha30 rfl rfl rfl (op_assign ha30 rfl rfl) ?_
     intro a84 ha84; clear ha30 a30
     refine wpList_nil ?_
     refine then_n ?_
     refine wp_block ?_
     refine loop_inv (X := Nat × Int) (fun (⟨k, p⟩ : Nat × Int) fr wl => Sl 85 fr [(0, v_list), (1, St name), (6, .int .i64 p), (8, .int .i64 ((k : Nat) : Int))] ∧ Ext w0 wl ∧ w23.heap.size ≤ wl.heap.size ∧ (k ≤ list.length) ∧ (0 ≤ p) ∧ (p ≤ 10000000 * 60) ∧ (odGo name (list.drop k) p = odS name list)) (fun (⟨k, p⟩ : Nat × Int) => list.length - k) (0, q) ?_ ?_
     ·
      exact ⟨(Sl.cons_ ha84 rfl rfl (Sl.cons_ ha84 rfl rfl (Sl.cons_ ha84 rfl (int_eq (by omega)) (Sl.cons_ ha84 rfl (int_eq (by omega)) (Sl.nil_ ha84))))), hx24, (by omega), (by omega), (by omega), (by omega), (by rw [drop_nil (by omega), sumI] at hF; unfold odS; rw [← hF]; simp)⟩
     ·
      clear ha84 a84
      rintro ⟨k, p⟩ a87 w85 ⟨ha87, hx86, hzl88, hk, hp0, hp1, hG⟩
      have hzhx86 := hx86.size
      refine wp_seq ?_
      refine wp_seq ?_
      refine wp_region_lit ?_
      refine wl_val ha87 rfl rfl rfl (op_move ha87 rfl rfl) ?_
      intro a89 ha89; clear ha87 a87
      refine wl_val ha89 rfl rfl rfl (op_move ha89 rfl rfl) ?_
      intro a90 ha90; clear ha89 a89
      refine wl_val ha90 rfl rfl rfl (op_len_sl ha90 rfl Try.underlying25 rfl h_list) ?_
      intro a91 ha91; clear ha90 a90
      refine wl_val ha91 rfl rfl rfl (op_lss ha91 rfl rfl rfl) ?_
      intro a92 ha92; clear ha91 a91
      refine wpList_nil ?_
      refine then_n ?_
      by_cases c93 : ((k : Nat) : Int) < ((list.length : Nat) : Int)
      ·
       rw [decide_eq_true c93] at ha92
       refine cond_t ha92 rfl ?_
       refine wp_skip ?_
       refine then_n ?_
       refine wp_seq ?_
       refine wp_block ?_
       refine wp_seq ?_
       refine wp_seq ?_
       refine wp_region_lit ?_
       refine wl_val ha92 rfl rfl rfl (op_move ha92 rfl rfl) ?_
       intro a94 ha94; clear ha92 a92
       refine wl_val ha94 rfl rfl rfl (op_move ha94 rfl rfl) ?_
       intro a95 ha95; clear ha94 a94
       obtain ⟨x96, hx96⟩ := get_ex (xs := list) (j := k) (by omega)
       obtain ⟨p97, c98, hi99, hc100, hr101, hs102⟩ := Rds.at_ h_list hx96
       obtain ⟨rfl, b103, b104, b105, b106⟩ := inv_shEnt hr101
       have hbx96 := ent_bd (hentc11 _ (List.mem_of_getElem? hx96))
       have hcbx96 := cashE_bd (hentc11 _ (List.mem_of_getElem? hx96))
       refine wl_val ha95 rfl rfl rfl (op_indexAddr ha95 rfl Try.underlying25 ti41 rfl rfl (by omega) hi99) ?_
       intro a107 ha107; clear ha95 a95
       refine wl_val ha107 rfl rfl rfl (op_fieldAddr (sz := 0) ha107 rfl Try.underlying41 rfl rfl ti9 rfl) ?_
       intro a108 ha108; clear ha107 a107
       refine wl_val ha108 rfl rfl rfl (op_loadF (off := 2) ha108 rfl Try.underlying9 rfl rfl (hc100.ext hx86) rfl) ?_
       intro a109 ha109; clear ha108 a108
       refine wl_val ha109 rfl rfl rfl (op_move ha109 rfl rfl) ?_
       intro a110 ha110; clear ha109 a109
       refine wl_val ha110 rfl rfl rfl ((op_sneq ha110 rfl rfl rfl).to (congrArg Value.bool decide_not)) ?_
       intro a111 ha111; clear ha110 a110
       refine wl_val ha111 rfl rfl rfl (op_move ha111 rfl rfl) ?_
       intro a112 ha112; clear ha111 a111
       by_cases c113 : x96.2.2.1 = name
       ·
        rw [decide_eq_true c113] at ha112
        refine wl_val ha112 rfl rfl rfl (op_move ha112 rfl rfl) ?_
        intro a114 ha114; clear ha112 a112
        refine wl_val ha114 rfl rfl rfl (op_move ha114 rfl rfl) ?_
        intro a115 ha115; clear ha114 a114
        refine wl_val ha115 rfl rfl rfl (op_indexAddr ha115 rfl Try.underlying25 ti41 rfl rfl (by omega) hi99) ?_
        intro a116 ha116; clear ha115 a115
        refine wl_val ha116 rfl rfl rfl (op_fieldAddr (sz := 0) ha116 rfl Try.underlying41 rfl rfl ti2 rfl) ?_
        intro a117 ha117; clear ha116 a116
        refine wl_val ha117 rfl rfl rfl (op_loadF (off := 1) ha117 rfl Try.underlying2 rfl rfl (hc100.ext hx86) rfl) ?_
        intro a118 ha118; clear ha117 a117
        refine wl_val ha118 rfl rfl rfl ((op_neq ha118 rfl rfl rfl).to (congrArg Value.bool decide_not)) ?_
        intro a119 ha119; clear ha118 a118
        refine wl_val ha119 rfl rfl rfl (op_pick_f ha119 rfl rfl rfl) ?_
        intro a120 ha120; clear ha119 a119
        refine wpList_nil ?_
        refine then_n ?_
        by_cases c121 : x96.2.1 = (0 : Int)
        ·
         rw [decide_eq_true c121] at ha120
         refine cond_f ha120 rfl ?_
         refine wp_skip ?_
         refine then_n ?_
         refine wp_seq ?_
         refine wp_seq ?_
         refine wp_region_lit ?_
         refine wl_val ha120 rfl rfl rfl (op_move ha120 rfl rfl) ?_
         intro a122 ha122; clear ha120 a120
         refine wl_val ha122 rfl rfl rfl (op_move ha122 rfl rfl) ?_
         intro a123 ha123; clear ha122 a122
         refine wl_val ha123 rfl rfl rfl (op_indexAddr ha123 rfl Try.underlying25 ti41 rfl rfl (by omega) hi99) ?_
         intro a124 ha124; clear ha123 a123
         refine wl_val ha124 rfl rfl rfl (op_fieldAddr (sz := 0) ha124 rfl Try.underlying41 rfl rfl ti2 rfl) ?_
         intro a125 ha125; clear ha124 a124
         refine wl_val ha125 rfl rfl rfl (op_loadF (off := 3) ha125 rfl Try.underlying2 rfl rfl (hc100.ext hx86) rfl) ?_
         intro a126 ha126; clear ha125 a125
         refine wl_val ha126 rfl rfl rfl (op_move ha126 rfl rfl) ?_
         intro a127 ha127; clear ha126 a126
         refine wl_val ha127 rfl rfl rfl (op_gtr ha127 rfl rfl rfl) ?_
         intro a128 ha128; clear ha127 a127
         refine wpList_nil ?_
         refine then_n ?_
         by_cases c129 : p < x96.2.2.2
         ·
          rw [decide_eq_true c129] at ha128
          refine cond_t ha128 rfl ?_
          refine wp_seq ?_
          refine wp_region_lit ?_
          refine wl_val ha128 rfl rfl rfl (op_move ha128 rfl rfl) ?_
          intro a130 ha130; clear ha128 a128
          refine wl_val ha130 rfl rfl rfl (op_move ha130 rfl rfl) ?_
          intro a131 ha131; clear ha130 a130
          refine wl_val ha131 rfl rfl rfl (op_indexAddr ha131 rfl Try.underlying25 ti41 rfl rfl (by omega) hi99) ?_
          intro a132 ha132; clear ha131 a131
          refine wl_val ha132 rfl rfl rfl (op_fieldAddr (sz := 0) ha132 rfl Try.underlying41 rfl rfl ti2 rfl) ?_
          intro a133 ha133; clear ha132 a132
          refine wl_val ha133 rfl rfl rfl (op_loadF (off := 0) ha133 rfl Try.underlying2 rfl rfl (hc100.ext hx86) rfl) ?_
          intro a134 ha134; clear ha133 a133
          refine wl_val ha134 rfl rfl rfl (op_assign ha134 rfl rfl) ?_
          intro a135 ha135; clear ha134 a134
          refine wl_val ha135 rfl rfl rfl (op_assign ha135 rfl rfl) ?_
          intro a136 ha136; clear ha135 a135
          refine wpList_nil ?_
          refine then_n ?_
          refine wp_ret ?_
          refine then_r ?_
          refine block_r ?_
          refine then_r ?_
          refine then_r ?_
          refine block_r ?_
          refine then_r ?_
          refine ret2 ha136 rfl rfl rfl ?_
          clear ha136 a136
          rw [drop_cons hx96, odGo, if_pos ⟨by assumption, by assumption⟩, if_pos (by omega)] at hG
          have hr := od_some c11 c20 hG.symm
          exact ret_mk hx86 (tup2_eq (int_eq (by exact hr.1.symm)) (int_eq (by exact hr.2.symm)))
         ·
          rw [decide_eq_false c129] at ha128
          refine cond_f ha128 rfl ?_
          refine wp_skip ?_
          refine then_n ?_
          refine wp_region_lit ?_
          refine wl_val ha128 rfl rfl rfl (op_move ha128 rfl rfl) ?_
          intro a137 ha137; clear ha128 a128
          refine wl_val ha137 rfl rfl rfl (op_move ha137 rfl rfl) ?_
          intro a138 ha138; clear ha137 a137
          refine wl_val ha138 rfl rfl rfl (op_move ha138 rfl rfl) ?_
          intro a139 ha139; clear ha138 a138
          refine wl_val ha139 rfl rfl rfl (op_indexAddr ha139 rfl Try.underlying25 ti41 rfl rfl (by omega) hi99) ?_
          intro a140 ha140; clear ha139 a139
          refine wl_val ha140 rfl rfl rfl (op_fieldAddr (sz := 0) ha140 rfl Try.underlying41 rfl rfl ti2 rfl) ?_
          intro a141 ha141; clear ha140 a140
          refine wl_val ha141 rfl rfl rfl (op_loadF (off := 3) ha141 rfl Try.underlying2 rfl rfl (hc100.ext hx86) rfl) ?_
          intro a142 ha142; clear ha141 a141
          refine wl_val ha142 rfl rfl rfl ((op_sub ha142 rfl rfl rfl).int (IntWalk.i64_in _ (by omega))) ?_
          intro a143 ha143; clear ha142 a142
          refine wl_val ha143 rfl rfl rfl (op_assign ha143 rfl rfl) ?_
          intro a144 ha144; clear ha143 a143
          refine wpList_nil ?_
          refine block_n ?_
          refine then_n ?_
          refine wp_region_lit ?_
          refine wl_val ha144 rfl rfl rfl (op_move ha144 rfl rfl) ?_
          intro a145 ha145; clear ha144 a144
          refine wl_val ha145 rfl rfl rfl ((op_add ha145 rfl rfl rfl).int (IntWalk.i64_in _ (by omega))) ?_
          intro a146 ha146; clear ha145 a145
          refine wl_val ha146 rfl rfl rfl (op_assign ha146 rfl rfl) ?_
          intro a147 ha147; clear ha146 a146
          refine wpList_nil ?_
          refine round_end (x := (k, p)) ((k + 1), (p - x96.2.2.2)) ?_ ?_
          ·
           refine ⟨(Sl.cons_ ha147 rfl rfl (Sl.cons_ ha147 rfl rfl (Sl.cons_ ha147 rfl (int_eq (by omega)) (Sl.cons_ ha147 rfl (int_eq (by omega)) (Sl.nil_ ha147))))), hx86, (by omega), (by omega), (by omega), (by omega), (by rw [drop_cons hx96, odGo, if_pos ⟨by assumption, by assumption⟩, if_neg (by omega)] at hG; exact hG)⟩
          ·show (list.length - ((k + 1)) : Nat) < list.length - k; omega
        ·
         rw [decide_eq_false c121] at ha120
         refine cond_t ha120 rfl ?_
         refine wp_exit ?_
         refine then_e ?_
         refine block_hit ?_
         refine then_n ?_
         refine wp_region_lit ?_
         refine wl_val ha120 rfl rfl rfl (op_move ha120 rfl rfl) ?_
         intro a148 ha148; clear ha120 a120
         refine wl_val ha148 rfl rfl rfl ((op_add ha148 rfl rfl rfl).int (IntWalk.i64_in _ (by omega))) ?_
         intro a149 ha149; clear ha148 a148
         refine wl_val ha149 rfl rfl rfl (op_assign ha149 rfl rfl) ?_
         intro a150 ha150; clear ha149 a149
         refine wpList_nil ?_
         refine round_end (x := (k, p)) ((k + 1), p) ?_ ?_
         ·
          refine ⟨(Sl.cons_ ha150 rfl rfl (Sl.cons_ ha150 rfl rfl (Sl.cons_ ha150 rfl (int_eq (by omega)) (Sl.cons_ ha150 rfl (int_eq (by omega)) (Sl.nil_ ha150))))), hx86, (by omega), (by omega), (by omega), (by omega), (by rw [drop_cons hx96, odGo, if_neg (by rintro ⟨h1, h2⟩; first | (exact absurd h1 (by assumption)) | (exact absurd h2 (by assumption)))] at hG; exact hG)⟩
         ·show (list.length - ((k + 1)) : Nat) < list.length - k; omega
       ·
        rw [decide_eq_false c113] at ha112
        refine wl_skip ha112 rfl rfl rfl ?_
        intro a151 ha151; clear ha112 a112
        refine wl_skip ha151 rfl rfl rfl ?_
        intro a152 ha152; clear ha151 a151
        refine wl_skip ha152 rfl rfl rfl ?_
        intro a153 ha153; clear ha152 a152
        refine wl_skip ha153 rfl rfl rfl ?_
        intro a154 ha154; clear ha153 a153
        refine wl_skip ha154 rfl rfl rfl ?_
        intro a155 ha155; clear ha154 a154
        refine wl_skip ha155 rfl rfl rfl ?_
        intro a156 ha156; clear ha155 a155
        refine wl_val ha156 rfl rfl rfl (op_pick_t ha156 rfl rfl rfl) ?_
        intro a157 ha157; clear ha156 a156
        refine wpList_nil ?_
        refine then_n ?_
        refine cond_t ha157 rfl ?_
        refine wp_exit ?_
        refine then_e ?_
        refine block_hit ?_
        refine then_n ?_
        refine wp_region_lit ?_
        refine wl_val ha157 rfl rfl rfl (op_move ha157 rfl rfl) ?_
        intro a158 ha158; clear ha157 a157
        refine wl_val ha158 rfl rfl rfl ((op_add ha158 rfl rfl rfl).int (IntWalk.i64_in _ (by omega))) ?_
        intro a159 ha159; clear ha158 a158
        refine wl_val ha159 rfl rfl rfl (op_assign ha159 rfl rfl) ?_
        intro a160 ha160; clear ha159 a159
        refine wpList_nil ?_
        refine round_end (x := (k, p)) ((k + 1), p) ?_ ?_
        ·
         refine ⟨(Sl.cons_ ha160 rfl rfl (Sl.cons_ ha160 rfl rfl (Sl.cons_ ha160 rfl (int_eq (by omega)) (Sl.cons_ ha160 rfl (int_eq (by omega)) (Sl.nil_ ha160))))), hx86, (by omega), (by omega), (by omega), (by omega), (by rw [drop_cons hx96, odGo, if_neg (by rintro ⟨h1, h2⟩; first | (exact absurd h1 (by assumption)) | (exact absurd h2 (by assumption)))] at hG; exact hG)⟩
        ·show (list.length - ((k + 1)) : Nat) < list.length - k; omega
      ·
       rw [decide_eq_false c93] at ha92
       refine cond_f ha92 rfl ?_
       refine wp_exit ?_
       refine then_e ?_
       refine then_e ?_
       refine block_hit ?_
       refine then_n ?_
       refine wp_seq ?_
       refine wp_region_lit ?_
       refine wl_val ha92 rfl rfl rfl (op_assign ha92 rfl rfl) ?_
       intro a161 ha161; clear ha92 a92
       refine wl_val ha161 rfl rfl rfl (op_assign ha161 rfl rfl) ?_
       intro a162 ha162; clear ha161 a161
       refine wpList_nil ?_
       refine then_n ?_
       refine wp_ret ?_
       refine ret2 ha162 rfl rfl rfl ?_
       clear ha162 a162
       rw [drop_nil (by omega), odGo] at hG
       have hr := od_none c11 c20 hG.symm
       exact ret_mk hx86 (tup2_eq (int_eq (by exact hr.1.symm)) (int_eq (by exact hr.2.symm)))
  ·
   rw [c20] at ha19
   refine cond_t ha19 rfl ?_
   refine wp_seq ?_
   refine wp_region_lit ?_
   refine wl_val ha19 rfl rfl rfl (op_assign ha19 rfl rfl) ?_
   intro a163 ha163; clear ha19 a19
   refine wl_val ha163 rfl rfl rfl (op_assign ha163 rfl rfl) ?_
   intro a164 ha164; clear ha163 a163
   refine wpList_nil ?_
   refine then_n ?_
   refine wp_ret ?_
   refine then_r ?_
   refine ret2 ha164 rfl rfl rfl ?_
   clear ha164 a164
   have hr := od_bad (xs := list) (n := name) (by simp [c11, c20])
   exact ret_mk hx17 (tup2_eq (int_eq (by exact hr.1.symm)) (int_eq (by exact hr.2.symm)))
 ·
  rw [c11] at ha10
  refine wl_skip ha10 rfl rfl rfl ?_
  intro a165 ha165; clear ha10 a10
  refine wl_skip ha165 rfl rfl rfl ?_
  intro a166 ha166; clear ha165 a165
  refine wl_skip ha166 rfl rfl rfl ?_
  intro a167 ha167; clear ha166 a166
  refine wl_val ha167 rfl rfl rfl (op_pick_t ha167 rfl rfl rfl) ?_
  intro a168 ha168; clear ha167 a167
  refine wpList_nil ?_
  refine then_n ?_
  refine cond_t ha168 rfl ?_
  refine wp_seq ?_
  refine wp_region_lit ?_
  refine wl_val ha168 rfl rfl rfl (op_assign ha168 rfl rfl) ?_
  intro a169 ha169; clear ha168 a168
  refine wl_val ha169 rfl rfl rfl (op_assign ha169 rfl rfl) ?_
  intro a170 ha170; clear ha169 a169
  refine wpList_nil ?_
  refine then_n ?_
  refine wp_ret ?_
  refine then_r ?_
  refine ret2 ha170 rfl rfl rfl ?_
  clear ha170 a170
  have hr := od_bad (xs := list) (n := name) (by simp [c11])
  exact ret_mk hx8 (tup2_eq (int_eq (by exact hr.1.symm)) (int_eq (by exact hr.2.symm)))


end Go.Proofs.Ytocedhbefdaefaa
