/- Is it a day book? -/
import Derived.Test.YthbehhhblchhhaaGreatW1
namespace Go.Proofs.YthbehhhblchhhaaGreat
open Go Go.RowKit
set_option maxHeartbeats 16000000

/-- Is it an entry? -/
def entB (e : Ent) : Bool := (dateB e.1 && (decide (0 ≤ e.2.1) && decide (e.2.1 ≤ 3))) && (if e.2.1 = 3 then decide (e.2.2.1 = []) && decide (e.2.2.2 = 0) else wordB e.2.2.1 && (decide (1 ≤ e.2.2.2) && decide (e.2.2.2 ≤ 10000000)))
theorem ent_bd {e : Ent} (h : entB e = true) : 0 ≤ e.1 ∧ e.1 ≤ 100000 ∧ 0 ≤ e.2.1 ∧ e.2.1 ≤ 3 ∧ 0 ≤ e.2.2.2 ∧ e.2.2.2 ≤ 10000000 ∧ e.2.2.1.length ≤ 16 := by
  unfold entB dateB at h
  simp only [Bool.and_eq_true, decide_eq_true_eq] at h
  obtain ⟨⟨⟨h1, h2⟩, h3, h4⟩, h5⟩ := h
  split at h5
  · simp only [Bool.and_eq_true, decide_eq_true_eq] at h5
    obtain ⟨h6, h7⟩ := h5
    rw [h6]; simp; omega
  · simp only [Bool.and_eq_true, decide_eq_true_eq] at h5
    have := wordB_len h5.1
    omega
/-- What an entry adds to what one owes. -/
def owE (n : Str) (e : Ent) : Int := if e.2.2.1 = n then (if e.2.1 = 0 then e.2.2.2 else if e.2.1 = 1 then 0 - e.2.2.2 else 0) else 0
theorem owE_def (n : Str) (e : Ent) : owE n e = if e.2.2.1 = n then (if e.2.1 = 0 then e.2.2.2 else if e.2.1 = 1 then 0 - e.2.2.2 else 0) else 0 := rfl
abbrev owS (n : Str) (xs : List Ent) : Int := sumI (owE n) xs
theorem owE_bd {n : Str} {e : Ent} (h : entB e = true) : -10000000 ≤ owE n e ∧ owE n e ≤ 10000000 := by
  have := ent_bd h
  unfold owE
  split
  · split
    · omega
    · split <;> omega
  · omega
theorem owS_bd {n : Str} {xs : List Ent} (h : ∀ e ∈ xs, entB e = true) : -10000000 * (xs.length : Int) ≤ owS n xs ∧ owS n xs ≤ 10000000 * (xs.length : Int) := sumI_bd fun e he => owE_bd (h e he)
def prevOk : Option Ent → Ent → Bool
  | none, _ => true
  | some b, e => !(decide (e.1 < b.1) || (decide (b.1 = e.1) && decide (b.2.1 = 3)))
def dbAt (xs : List Ent) (i : Nat) : Bool := match xs[i]? with
  | none => false
  | some e => entB e && (decide (i = 0) || prevOk xs[i - 1]? e) && (!decide (e.2.1 = 1) || !decide (owS e.2.2.1 (xs.take (i + 1)) < 0))
/-- Is it a day book? -/
def dbB (xs : List Ent) : Bool := decide (xs.length ≤ 60) && upB (dbAt xs) xs.length
theorem dbAt_ok {xs : List Ent} {i : Nat} {e : Ent} (h : xs[i]? = some e) (h1 : entB e = true) (h2 : i = 0 ∨ ∃ b, xs[i - 1]? = some b ∧ ¬ e.1 < b.1 ∧ ¬ (b.1 = e.1 ∧ b.2.1 = 3)) (h3 : ¬ e.2.1 = 1 ∨ ¬ owS e.2.2.1 (xs.take (i + 1)) < 0) : dbAt xs i = true := by
  unfold dbAt; rw [h]
  simp only [h1, Bool.true_and, Bool.and_eq_true, Bool.or_eq_true, decide_eq_true_eq, Bool.not_eq_true', decide_eq_false_iff_not]
  refine ⟨?_, h3⟩
  rcases h2 with h2 | ⟨b, hb, h4, h5⟩
  · exact .inl h2
  · right; rw [hb]
    simp only [prevOk, Bool.not_eq_true', Bool.or_eq_false_iff, decide_eq_false_iff_not, Bool.and_eq_false_iff]
    exact ⟨h4, by omega⟩
theorem dbAt_eq {xs : List Ent} {i : Nat} {e : Ent} (h : xs[i]? = some e) : dbAt xs i = (entB e && (decide (i = 0) || prevOk xs[i - 1]? e) && (!decide (e.2.1 = 1) || !decide (owS e.2.2.1 (xs.take (i + 1)) < 0))) := by unfold dbAt; rw [h]
theorem dbAt_no {xs : List Ent} {i : Nat} {e : Ent} (h : xs[i]? = some e) (h1 : entB e = false ∨ (0 < i ∧ ∃ b, xs[i - 1]? = some b ∧ (e.1 < b.1 ∨ (b.1 = e.1 ∧ b.2.1 = 3))) ∨ (e.2.1 = 1 ∧ owS e.2.2.1 (xs.take (i + 1)) < 0)) : dbAt xs i = false := by
  rw [dbAt_eq h]
  rcases h1 with h1 | ⟨hi, b, hb, h2⟩ | ⟨h2, h3⟩
  · simp [h1]
  · have e1 : prevOk xs[i - 1]? e = false := by
      rw [hb]
      simp only [prevOk, Bool.not_eq_false', Bool.or_eq_true, decide_eq_true_eq, Bool.and_eq_true]
      exact h2
    have e2 : decide (i = 0) = false := by simp; omega
    simp only [e1, e2, Bool.or_false, Bool.and_false, Bool.false_and]
  · rw [decide_eq_true h2, decide_eq_true h3]; simp
theorem dbAt_ent {xs : List Ent} {i : Nat} {e : Ent} (h : dbAt xs i = true) (hx : xs[i]? = some e) : entB e = true := by
  unfold dbAt at h; rw [hx] at h
  simp only [Bool.and_eq_true] at h
  exact h.1.1
theorem dbB_len {xs : List Ent} (h : dbB xs = true) : xs.length ≤ 60 := by
  unfold dbB at h; simp only [Bool.and_eq_true, decide_eq_true_eq] at h; exact h.1
theorem dbB_up {xs : List Ent} (h : dbB xs = true) : upB (dbAt xs) xs.length = true := by
  unfold dbB at h; simp only [Bool.and_eq_true] at h; exact h.2
theorem up_ent {xs : List Ent} {i : Nat} (h : upB (dbAt xs) i = true) : ∀ e ∈ xs.take i, entB e = true := by
  intro e he
  obtain ⟨j, hj⟩ := List.getElem?_of_mem he
  rw [List.getElem?_take] at hj
  split at hj
  · exact dbAt_ent (upB_get h ‹_›) hj
  · cases hj
theorem dbB_ent {xs : List Ent} (h : dbB xs = true) : ∀ e ∈ xs, entB e = true := by
  have := up_ent (dbB_up h); rwa [List.take_length] at this
theorem day_pre {xs : List Ent} {i : Nat} {e : Ent} (h : upB (dbAt xs) i = true) (hx : xs[i]? = some e) (he : entB e = true) : ∀ e ∈ xs.take (i + 1), entB e = true := by
  intro y hy
  rw [take_snoc hx, List.mem_append, List.mem_singleton] at hy
  rcases hy with hy | rfl
  · exact up_ent h y hy
  · exact he
theorem dbB_no {xs : List Ent} {i : Nat} {e : Ent} (hx : xs[i]? = some e) (h : dbAt xs i = false) : dbB xs = false := by
  unfold dbB; rw [upB_bad (List.getElem?_eq_some_iff.1 hx).1 h, Bool.and_false]
theorem dbB_big {xs : List Ent} (h : 60 < xs.length) : dbB xs = false := by
  unfold dbB; rw [decide_eq_false (by omega), Bool.false_and]

theorem c_impl_isEntry (w0 : World) (e : Int × Int × Str × Int) (g0 : e.2.2.1.length ≤ 9223372036854775807) :
    Calls Tryz.prog 84 #[.agg #[.int .i64 e.1, .int .i64 e.2.1, St e.2.2.1, .int .i64 e.2.2.2]] w0 (Ret w0 (fun v _ => v = .bool (entB e))) := by
 refine enter (N := 32) Tryz.func84 rfl rfl rfl ?_
 intro A H
 have hx0 := Ext.rfl' w0
 revert A; refine go ?_; intro A H
 refine we H (op_box' H rfl rfl rfl) ?_
 clear H A; rintro _ w2 ⟨rfl, he3, hb4, hz5⟩ A H
 obtain ⟨hx7, _⟩ := nx hx0 he3
 revert A; refine go ?_; intro A H
 refine fl 0 H U69 ti2 U2 hb4.cells ?_
 clear H A; intro A H
 refine wc H cb114 (c_impl_isDate _ e.1 ) ?_
 clear H A; rintro v11 w12 he13 rfl A H
 obtain ⟨hx15, _⟩ := nx hx7 he13
 replace hb4 := hb4.ext he13
 revert A; refine go ?_; intro A H
 rcases Bool.eq_false_or_eq_true (dateB e.1) with c18 | c18
 rw [c18] at H
 refine fl 1 H U69 ti2 U2 hb4.cells ?_
 clear H A; intro A H
 refine wc H cb81 (c_impl_within _ e.2.1 (0 : Int) (3 : Int) ) ?_
 clear H A; rintro v21 w22 he23 rfl A H
 obtain ⟨hx25, _⟩ := nx hx15 he23
 replace hb4 := hb4.ext he23
 revert A; refine go ?_; intro A H
 rcases Bool.eq_false_or_eq_true (decide ((0 : Int) ≤ e.2.1) && decide (e.2.1 ≤ (3 : Int))) with c28 | c28
 rw [c28] at H
 revert A; refine go ?_; intro A H
 refine fl 1 H U69 ti2 U2 hb4.cells ?_
 clear H A; refine go ?_; intro A H
 by_cases c32 : e.2.1 = (3 : Int)
 rw [decide_eq_true c32] at H
 revert A; refine go ?_; intro A H
 refine fl 2 H U69 ti9 U9 hb4.cells ?_
 clear H A; refine go ?_; intro A H
 by_cases c37 : e.2.2.1 = ([] : Str)
 rw [decide_eq_true c37] at H
 refine fl 3 H U69 ti2 U2 hb4.cells ?_
 clear H A; refine go ?_; intro A H
 refine ret1 H rfl rfl ?_
 clear H A
 exact ret_mk hx25 (congrArg Value.bool (by simp [entB, c18, c32, c37]))
 rw [decide_eq_false c37] at H
 revert A; refine go ?_; intro A H
 refine ret1 H rfl rfl ?_
 clear H A
 exact ret_mk hx25 (congrArg Value.bool (by simp [entB, c18, c32, c37]))
 rw [decide_eq_false c32] at H
 revert A; refine go ?_; intro A H
 refine fl 2 H U69 ti9 U9 hb4.cells ?_
 clear H A; intro A H
 refine wc H cb80 (c_impl_IsWord _ e.2.2.1 gd) ?_
 clear H A; rintro v50 w51 he52 rfl A H
 obtain ⟨hx54, _⟩ := nx hx25 he52
 replace hb4 := hb4.ext he52
 refine wv H (op_move H rfl rfl) ?_
 clear H A; intro A H
 rcases Bool.eq_false_or_eq_true (wordB e.2.2.1) with c56 | c56
 rw [c56] at H
 refine fl 3 H U69 ti2 U2 hb4.cells ?_
 clear H A; intro A H
 refine wc H cb81 (c_impl_within _ e.2.2.2 (1 : Int) (10000000 : Int) ) ?_
 clear H A; rintro v59 w60 he61 rfl A H
 obtain ⟨hx63, _⟩ := nx hx54 he61
 replace hb4 := hb4.ext he61
 revert A; refine go ?_; intro A H
 refine ret1 H rfl rfl ?_
 clear H A
 exact ret_mk hx63 (congrArg Value.bool (by simp [entB, c18, c28, c32, c56]))
 rw [c56] at H
 revert A; refine go ?_; intro A H
 refine ret1 H rfl rfl ?_
 clear H A
 exact ret_mk hx54 (congrArg Value.bool (by simp [entB, c18, c28, c32, c56]))
 rw [c28] at H
 revert A; refine go ?_; intro A H
 refine ret1 H rfl rfl ?_
 clear H A
 exact ret_mk hx25 (congrArg Value.bool (by simp [entB, c18, c28]))
 rw [c18] at H
 revert A; refine go ?_; intro A H
 refine ret1 H rfl rfl ?_
 clear H A
 exact ret_mk hx15 (congrArg Value.bool (by simp [entB, c18]))



theorem c_spec_l33Is (w0 : World) (e : Int × Int × Str × Int) (g0 : e.2.2.1.length ≤ 9223372036854775807) :
    Calls Tryz.prog 90 #[.agg #[.int .i64 e.1, .int .i64 e.2.1, St e.2.2.1, .int .i64 e.2.2.2]] w0 (Ret w0 (fun v _ => v = .bool (entB e))) := by
 refine enter (N := 32) Tryz.func90 rfl rfl rfl ?_
 intro A H
 have hx0 := Ext.rfl' w0
 revert A; refine go ?_; intro A H
 refine we H (op_box' H rfl rfl rfl) ?_
 clear H A; rintro _ w2 ⟨rfl, he3, hb4, hz5⟩ A H
 obtain ⟨hx7, _⟩ := nx hx0 he3
 revert A; refine go ?_; intro A H
 refine fl 0 H U69 ti2 U2 hb4.cells ?_
 clear H A; intro A H
 refine wc H cb87 (c_spec_l01In _ e.1 (0 : Int) (100000 : Int) ) ?_
 clear H A; rintro v11 w12 he13 rfl A H
 obtain ⟨hx15, _⟩ := nx hx7 he13
 replace hb4 := hb4.ext he13
 revert A; refine go ?_; intro A H
 rcases Bool.eq_false_or_eq_true (decide ((0 : Int) ≤ e.1) && decide (e.1 ≤ (100000 : Int))) with c18 | c18
 rw [c18] at H
 refine fl 1 H U69 ti2 U2 hb4.cells ?_
 clear H A; intro A H
 refine wc H cb87 (c_spec_l01In _ e.2.1 (0 : Int) (3 : Int) ) ?_
 clear H A; rintro v21 w22 he23 rfl A H
 obtain ⟨hx25, _⟩ := nx hx15 he23
 replace hb4 := hb4.ext he23
 revert A; refine go ?_; intro A H
 rcases Bool.eq_false_or_eq_true (decide ((0 : Int) ≤ e.2.1) && decide (e.2.1 ≤ (3 : Int))) with c28 | c28
 rw [c28] at H
 revert A; refine go ?_; intro A H
 refine fl 1 H U69 ti2 U2 hb4.cells ?_
 clear H A; refine go ?_; intro A H
 by_cases c32 : e.2.1 = (3 : Int)
 rw [decide_eq_true c32] at H
 revert A; refine go ?_; intro A H
 refine fl 2 H U69 ti9 U9 hb4.cells ?_
 clear H A; refine go ?_; intro A H
 by_cases c37 : e.2.2.1 = ([] : Str)
 rw [decide_eq_true c37] at H
 refine fl 3 H U69 ti2 U2 hb4.cells ?_
 clear H A; refine go ?_; intro A H
 refine ret1 H rfl rfl ?_
 clear H A
 exact ret_mk hx25 (congrArg Value.bool (by simp [entB, dateB, c18, c32, c37]))
 rw [decide_eq_false c37] at H
 revert A; refine go ?_; intro A H
 refine ret1 H rfl rfl ?_
 clear H A
 exact ret_mk hx25 (congrArg Value.bool (by simp [entB, c32, c37]))
 rw [decide_eq_false c32] at H
 revert A; refine go ?_; intro A H
 refine fl 2 H U69 ti9 U9 hb4.cells ?_
 clear H A; intro A H
 refine wc H cb86 (c_spec_IsWord _ e.2.2.1 gd) ?_
 clear H A; rintro v50 w51 he52 rfl A H
 obtain ⟨hx54, _⟩ := nx hx25 he52
 replace hb4 := hb4.ext he52
 refine wv H (op_move H rfl rfl) ?_
 clear H A; intro A H
 rcases Bool.eq_false_or_eq_true (wordB e.2.2.1) with c56 | c56
 rw [c56] at H
 refine fl 3 H U69 ti2 U2 hb4.cells ?_
 clear H A; intro A H
 refine wc H cb87 (c_spec_l01In _ e.2.2.2 (1 : Int) (10000000 : Int) ) ?_
 clear H A; rintro v59 w60 he61 rfl A H
 obtain ⟨hx63, _⟩ := nx hx54 he61
 replace hb4 := hb4.ext he61
 revert A; refine go ?_; intro A H
 refine ret1 H rfl rfl ?_
 clear H A
 exact ret_mk hx63 (congrArg Value.bool (by simp [entB, dateB, c18, c28, c32, c56]))
 rw [c56] at H
 revert A; refine go ?_; intro A H
 refine ret1 H rfl rfl ?_
 clear H A
 exact ret_mk hx54 (congrArg Value.bool (by simp [entB, c28, c32, c56]))
 rw [c28] at H
 revert A; refine go ?_; intro A H
 refine ret1 H rfl rfl ?_
 clear H A
 exact ret_mk hx25 (congrArg Value.bool (by simp [entB, c28]))
 rw [c18] at H
 revert A; refine go ?_; intro A H
 refine ret1 H rfl rfl ?_
 clear H A
 exact ret_mk hx15 (congrArg Value.bool (by simp [entB, dateB, c18]))



theorem c_impl_owesOf (w0 : World) (v_list : Value) (list : List (Int × Int × Str × Int)) {S_list : Nat → Prop} (name : Str) (h_list : Rds shEnt S_list w0 v_list list) (g0 : ∀ e ∈ list, entB e = true) (g1 : list.length ≤ 1048576) :
    Calls Tryz.prog 85 #[v_list, St name] w0 (Ret w0 (fun v _ => v = .int .i64 (owS name list))) := by
 refine enter (N := 34) Tryz.func85 rfl rfl rfl ?_
 intro A H
 have hx0 := Ext.rfl' w0
 have hl_list := h_list.length_le
 revert A; refine go ?_; intro A H
 refine wv H (ln H U32 h_list) ?_
 clear H A; refine go ?_; intro A H
 refine loop_inv (X := Nat × Int) (fun ⟨i, q⟩ fr wl => Sl 34 fr [(1, St name), (5, .int .i64 q), (8, v_list), (9, .int .i64 ((list.length : Nat) : Int)), (10, .int .i64 ((i : Nat) : Int))] ∧ Ext w0 wl ∧ w0.heap.size ≤ wl.heap.size ∧ (i ≤ list.length) ∧ (-10000000 * (i : Int) ≤ q) ∧ (q ≤ 10000000 * (i : Int)) ∧ (q + sumI (owE name) (list.drop i) = owS name list)) (fun ⟨i, q⟩ => list.length - i) (0, (0 : Int)) ?_ ?_
 exact ⟨(sl H), hx0, (by omega), (by omega), (by omega), (by omega), (by simp)⟩
 clear H A
 rintro ⟨i, q⟩ A w6 ⟨H, hx7, hzl9, hi, hq0, hq1, hF⟩
 have hzhx7 := hx7.size
 revert A; refine go ?_; intro A H
 by_cases c11 : ((i : Nat) : Int) < ((list.length : Nat) : Int)
 rw [decide_eq_true c11] at H
 revert A; refine go ?_; intro A H
 obtain ⟨x12, hx12⟩ := get_ex (xs := list) (j := i) (by omega)
 obtain ⟨p13, hi15, hc16, b19, b20, b21, b22, hs18⟩ := at_shEnt h_list hx12
 have hbx12 := ent_bd (g0 _ (List.mem_of_getElem? hx12))
 refine wv H (ix H U32 ti69 hi15) ?_
 clear H A; intro A H
 refine wv H (ls H U69 ti69 (hc16.ext hx7)) ?_
 clear H A; intro A H
 refine we H (op_alloc' rfl ti69 rfl) ?_
 clear H A; rintro _ w26 ⟨rfl, he27, hb28, hz29⟩ A H
 obtain ⟨hx31, _⟩ := nx hx7 he27
 refine ws H (op_sa H ti69 hb28) ?_
 rintro w32 ⟨hb34, hst33, hz35⟩
 obtain ⟨hx36, _⟩ := nb hx31 hst33
 clear hb28
 revert A; refine go ?_; intro A H
 refine fl 2 H U69 ti9 U9 hb34.cells ?_
 clear H A; intro A H
 refine wv H (op_move H rfl rfl) ?_
 clear H A; intro A H
 refine wv H ((op_sneq H rfl rfl rfl).to (congrArg Value.bool decide_not)) ?_
 clear H A; refine go ?_; intro A H
 by_cases c41 : x12.2.2.1 = name
 rw [decide_eq_true c41] at H
 revert A; refine go ?_; intro A H
 refine fl 1 H U69 ti2 U2 hb34.cells ?_
 clear H A; refine go ?_; intro A H
 by_cases c46 : x12.2.1 = (0 : Int)
 rw [decide_eq_true c46] at H
 revert A; refine go ?_; intro A H
 refine fl 3 H U69 ti2 U2 hb34.cells ?_
 clear H A; intro A H
 refine wv H ((op_add H rfl rfl rfl).int (IntWalk.i64_in _ (by omega))) ?_
 clear H A; refine go ?_; intro A H
 refine wv H ((op_add H rfl rfl rfl).int (IntWalk.i64_in _ (by omega))) ?_
 clear H A; refine go ?_; intro A H
 refine ⟨((i + 1), (q + x12.2.2.2)), ?_, ?_⟩
 refine ⟨(sl H), hx36, (by omega), (by omega), (by omega), (by omega), (by rw [drop_cons hx12, sumI] at hF; have e := owE_def name x12; simp [c41, c46] at e; omega)⟩
 show (list.length - ((i + 1)) : Nat) < list.length - i; omega
 rw [decide_eq_false c46] at H
 revert A; refine go ?_; intro A H
 by_cases c56 : x12.2.1 = (1 : Int)
 rw [decide_eq_true c56] at H
 revert A; refine go ?_; intro A H
 refine fl 3 H U69 ti2 U2 hb34.cells ?_
 clear H A; intro A H
 refine wv H ((op_sub H rfl rfl rfl).int (IntWalk.i64_in _ (by omega))) ?_
 clear H A; refine go ?_; intro A H
 refine wv H ((op_add H rfl rfl rfl).int (IntWalk.i64_in _ (by omega))) ?_
 clear H A; refine go ?_; intro A H
 refine ⟨((i + 1), (q - x12.2.2.2)), ?_, ?_⟩
 refine ⟨(sl H), hx36, (by omega), (by omega), (by omega), (by omega), (by rw [drop_cons hx12, sumI] at hF; have e := owE_def name x12; simp [c41, c56] at e; omega)⟩
 show (list.length - ((i + 1)) : Nat) < list.length - i; omega
 rw [decide_eq_false c56] at H
 revert A; refine go ?_; intro A H
 refine wv H ((op_add H rfl rfl rfl).int (IntWalk.i64_in _ (by omega))) ?_
 clear H A; refine go ?_; intro A H
 refine ⟨((i + 1), q), ?_, ?_⟩
 refine ⟨(sl H), hx36, (by omega), (by omega), (by omega), (by omega), (by rw [drop_cons hx12, sumI] at hF; have e := owE_def name x12; simp [c41, c46, c56] at e; omega)⟩
 show (list.length - ((i + 1)) : Nat) < list.length - i; omega
 rw [decide_eq_false c41] at H
 revert A; refine go ?_; intro A H
 refine wv H ((op_add H rfl rfl rfl).int (IntWalk.i64_in _ (by omega))) ?_
 clear H A; refine go ?_; intro A H
 refine ⟨((i + 1), q), ?_, ?_⟩
 refine ⟨(sl H), hx36, (by omega), (by omega), (by omega), (by omega), (by rw [drop_cons hx12, sumI] at hF; have e := owE_def name x12; simp [c41] at e; omega)⟩
 show (list.length - ((i + 1)) : Nat) < list.length - i; omega
 rw [decide_eq_false c11] at H
 revert A; refine go ?_; intro A H
 refine ret1 H rfl rfl ?_
 clear H A
 exact ret_mk hx7 (int_eq (by rw [drop_nil (by omega), sumI] at hF; omega))



theorem c_spec_l33Owes (w0 : World) (v_list : Value) (list : List (Int × Int × Str × Int)) {S_list : Nat → Prop} (name : Str) (h_list : Rds shEnt S_list w0 v_list list) (g0 : ∀ e ∈ list, entB e = true) (g1 : list.length ≤ 1048576) :
    Calls Tryz.prog 91 #[v_list, St name] w0 (Ret w0 (fun v _ => v = .int .i64 (owS name list))) := by
 refine enter (N := 50) Tryz.func91 rfl rfl rfl ?_
 intro A H
 have hx0 := Ext.rfl' w0
 have hl_list := h_list.length_le
 revert A; refine go ?_; intro A H
 refine loop_inv (X := Nat × Int) (fun ⟨i, q⟩ fr wl => Sl 50 fr [(0, v_list), (1, St name), (5, .int .i64 q), (6, .int .i64 ((i : Nat) : Int))] ∧ Ext w0 wl ∧ w0.heap.size ≤ wl.heap.size ∧ (i ≤ list.length) ∧ (-10000000 * (i : Int) ≤ q) ∧ (q ≤ 10000000 * (i : Int)) ∧ (q + sumI (owE name) (list.drop i) = owS name list)) (fun ⟨i, q⟩ => list.length - i) (0, (0 : Int)) ?_ ?_
 exact ⟨(sl H), hx0, (by omega), (by omega), (by omega), (by omega), (by simp)⟩
 clear H A
 rintro ⟨i, q⟩ A w4 ⟨H, hx5, hzl7, hi, hq0, hq1, hF⟩
 have hzhx5 := hx5.size
 revert A; refine go ?_; intro A H
 refine wv H (ln H U32 h_list) ?_
 clear H A; refine go ?_; intro A H
 by_cases c12 : ((i : Nat) : Int) < ((list.length : Nat) : Int)
 rw [decide_eq_true c12] at H
 revert A; refine go ?_; intro A H
 obtain ⟨x15, hx15⟩ := get_ex (xs := list) (j := i) (by omega)
 obtain ⟨p16, hi18, hc19, b22, b23, b24, b25, hs21⟩ := at_shEnt h_list hx15
 have hbx15 := ent_bd (g0 _ (List.mem_of_getElem? hx15))
 refine wv H (ix H U32 ti69 hi18) ?_
 clear H A; intro A H
 refine wv H (fa H U69 ti9) ?_
 clear H A; intro A H
 refine wv H (lf 2 H U9 (hc19.ext hx5)) ?_
 clear H A; intro A H
 refine wv H (op_move H rfl rfl) ?_
 clear H A; intro A H
 refine wv H ((op_sneq H rfl rfl rfl).to (congrArg Value.bool decide_not)) ?_
 clear H A; refine go ?_; intro A H
 by_cases c32 : x15.2.2.1 = name
 rw [decide_eq_true c32] at H
 revert A; refine go ?_; intro A H
 refine wv H (ix H U32 ti69 hi18) ?_
 clear H A; intro A H
 refine wv H (fa H U69 ti2) ?_
 clear H A; intro A H
 refine wv H (lf 1 H U2 (hc19.ext hx5)) ?_
 clear H A; refine go ?_; intro A H
 by_cases c40 : x15.2.1 = (0 : Int)
 rw [decide_eq_true c40] at H
 revert A; refine go ?_; intro A H
 refine wv H (ix H U32 ti69 hi18) ?_
 clear H A; intro A H
 refine wv H (fa H U69 ti2) ?_
 clear H A; intro A H
 refine wv H (lf 3 H U2 (hc19.ext hx5)) ?_
 clear H A; intro A H
 refine wv H ((op_add H rfl rfl rfl).int (IntWalk.i64_in _ (by omega))) ?_
 clear H A; refine go ?_; intro A H
 refine wv H ((op_add H rfl rfl rfl).int (IntWalk.i64_in _ (by omega))) ?_
 clear H A; refine go ?_; intro A H
 refine ⟨((i + 1), (q + x15.2.2.2)), ?_, ?_⟩
 refine ⟨(sl H), hx5, (by omega), (by omega), (by omega), (by omega), (by rw [drop_cons hx15, sumI] at hF; have e := owE_def name x15; simp [c32, c40] at e; omega)⟩
 show (list.length - ((i + 1)) : Nat) < list.length - i; omega
 rw [decide_eq_false c40] at H
 revert A; refine go ?_; intro A H
 refine wv H (ix H U32 ti69 hi18) ?_
 clear H A; intro A H
 refine wv H (fa H U69 ti2) ?_
 clear H A; intro A H
 refine wv H (lf 1 H U2 (hc19.ext hx5)) ?_
 clear H A; refine go ?_; intro A H
 by_cases c59 : x15.2.1 = (1 : Int)
 rw [decide_eq_true c59] at H
 revert A; refine go ?_; intro A H
 refine wv H (ix H U32 ti69 hi18) ?_
 clear H A; intro A H
 refine wv H (fa H U69 ti2) ?_
 clear H A; intro A H
 refine wv H (lf 3 H U2 (hc19.ext hx5)) ?_
 clear H A; intro A H
 refine wv H ((op_sub H rfl rfl rfl).int (IntWalk.i64_in _ (by omega))) ?_
 clear H A; refine go ?_; intro A H
 refine wv H ((op_add H rfl rfl rfl).int (IntWalk.i64_in _ (by omega))) ?_
 clear H A; refine go ?_; intro A H
 refine ⟨((i + 1), (q - x15.2.2.2)), ?_, ?_⟩
 refine ⟨(sl H), hx5, (by omega), (by omega), (by omega), (by omega), (by rw [drop_cons hx15, sumI] at hF; have e := owE_def name x15; simp [c32, c59] at e; omega)⟩
 show (list.length - ((i + 1)) : Nat) < list.length - i; omega
 rw [decide_eq_false c59] at H
 revert A; refine go ?_; intro A H
 refine wv H ((op_add H rfl rfl rfl).int (IntWalk.i64_in _ (by omega))) ?_
 clear H A; refine go ?_; intro A H
 refine ⟨((i + 1), q), ?_, ?_⟩
 refine ⟨(sl H), hx5, (by omega), (by omega), (by omega), (by omega), (by rw [drop_cons hx15, sumI] at hF; have e := owE_def name x15; simp [c32, c40, c59] at e; omega)⟩
 show (list.length - ((i + 1)) : Nat) < list.length - i; omega
 rw [decide_eq_false c32] at H
 revert A; refine go ?_; intro A H
 refine wv H ((op_add H rfl rfl rfl).int (IntWalk.i64_in _ (by omega))) ?_
 clear H A; refine go ?_; intro A H
 refine ⟨((i + 1), q), ?_, ?_⟩
 refine ⟨(sl H), hx5, (by omega), (by omega), (by omega), (by omega), (by rw [drop_cons hx15, sumI] at hF; have e := owE_def name x15; simp [c32] at e; omega)⟩
 show (list.length - ((i + 1)) : Nat) < list.length - i; omega
 rw [decide_eq_false c12] at H
 revert A; refine go ?_; intro A H
 refine ret1 H rfl rfl ?_
 clear H A
 exact ret_mk hx5 (int_eq (by rw [drop_nil (by omega), sumI] at hF; omega))



theorem c_impl_IsDayBook (w0 : World) (v_list : Value) (list : List (Int × Int × Str × Int)) {S_list : Nat → Prop} (h_list : Rds shEnt S_list w0 v_list list) (g0 : list.length ≤ 1048576) :
    Calls Tryz.prog 55 #[v_list] w0 (Ret w0 (fun v _ => v = .bool (dbB list))) := by
 refine enter (N := 57) Tryz.func55 rfl rfl rfl ?_
 intro A H
 have hx0 := Ext.rfl' w0
 have hl_list := h_list.length_le
 revert A; refine go ?_; intro A H
 refine wv H (ln H U32 h_list) ?_
 clear H A; refine go ?_; intro A H
 by_cases c5 : (60 : Int) < ((list.length : Nat) : Int)
 rw [decide_eq_true c5] at H
 revert A; refine go ?_; intro A H
 refine ret1 H rfl rfl ?_
 clear H A
 exact ret_mk hx0 (congrArg Value.bool (by rw [dbB_big (by omega)]))
 rw [decide_eq_false c5] at H
 revert A; refine go ?_; intro A H
 refine wv H (ln H U32 h_list) ?_
 clear H A; refine go ?_; intro A H
 refine loop_inv (X := Nat) (fun i fr wl => Sl 57 fr [(0, v_list), (9, v_list), (10, .int .i64 ((list.length : Nat) : Int)), (11, .int .i64 ((i : Nat) : Int))] ∧ Ext w0 wl ∧ w0.heap.size ≤ wl.heap.size ∧ (i ≤ list.length) ∧ (upB (dbAt list) i = true)) (fun i => list.length - i) (0) ?_ ?_
 exact ⟨(sl H), hx0, (by omega), (by omega), (by rfl)⟩
 clear H A
 rintro i A w10 ⟨H, hx11, hzl13, hi, hA⟩
 have hzhx11 := hx11.size
 revert A; refine go ?_; intro A H
 by_cases c15 : ((i : Nat) : Int) < ((list.length : Nat) : Int)
 rw [decide_eq_true c15] at H
 revert A; refine go ?_; intro A H
 obtain ⟨x17, hx17⟩ := get_ex (xs := list) (j := i) (by omega)
 obtain ⟨p18, hi20, hc21, b24, b25, b26, b27, hs23⟩ := at_shEnt h_list hx17
 refine wv H (ix H U32 ti69 hi20) ?_
 clear H A; intro A H
 refine wv H (ls H U69 ti69 (hc21.ext hx11)) ?_
 clear H A; intro A H
 refine we H (op_alloc' rfl ti69 rfl) ?_
 clear H A; rintro _ w31 ⟨rfl, he32, hb33, hz34⟩ A H
 obtain ⟨hx36, _⟩ := nx hx11 he32
 refine wv H (op_assign H rfl rfl) ?_
 clear H A; intro A H
 refine ws H (op_sa H ti69 hb33) ?_
 rintro w38 ⟨hb40, hst39, hz41⟩
 obtain ⟨hx42, _⟩ := nb hx36 hst39
 clear hb33
 revert A; refine go ?_; intro A H
 refine wv H (ls H U69 ti69 hb40.cells) ?_
 clear H A; intro A H
 refine wc H cb84 (c_impl_isEntry _ x17 (by assumption)) ?_
 clear H A; rintro v44 w45 he46 rfl A H
 obtain ⟨hx48, _⟩ := nx hx42 he46
 replace hb40 := hb40.ext he46
 revert A; refine go ?_; intro A H
 rcases Bool.eq_false_or_eq_true (entB x17) with c50 | c50
 rw [c50] at H
 revert A; refine go ?_; intro A H
 by_cases c53 : (0 : Int) < ((i : Nat) : Int)
 rw [decide_eq_true c53] at H
 revert A; refine go ?_; intro A H
 refine wv H ((op_sub H rfl rfl rfl).int (IntWalk.i64_in _ (by omega))) ?_
 clear H A; intro A H
 obtain ⟨x57, hx57⟩ := get_ex (xs := list) (j := (i - 1)) (by omega)
 obtain ⟨p58, hi60, hc61, b64, b65, b66, b67, hs63⟩ := at_shEnt h_list hx57
 refine wv H (ix H U32 ti69 hi60) ?_
 clear H A; intro A H
 refine wv H (ls H U69 ti69 (hc61.ext hx48)) ?_
 clear H A; intro A H
 refine we H (op_alloc' rfl ti69 rfl) ?_
 clear H A; rintro _ w71 ⟨rfl, he72, hb73, hz74⟩ A H
 obtain ⟨hx76, _⟩ := nx hx48 he72
 replace hb40 := hb40.ext he72
 refine ws H (op_sa H ti69 hb73) ?_
 rintro w77 ⟨hb79, hst78, hz80⟩
 obtain ⟨hx81, _⟩ := nb hx76 hst78
 replace hb40 := bb hb40 hst78
 clear hb73
 revert A; refine go ?_; intro A H
 refine fl 0 H U69 ti2 U2 hb79.cells ?_
 clear H A; intro A H
 refine fl 0 H U69 ti2 U2 hb40.cells ?_
 clear H A; refine go ?_; intro A H
 by_cases c88 : x17.1 < x57.1
 rw [decide_eq_true c88] at H
 revert A; refine go ?_; intro A H
 refine ret1 H rfl rfl ?_
 clear H A
 exact ret_mk hx81 (congrArg Value.bool (by rw [dbB_no hx17 (dbAt_no hx17 (by right; left; exact ⟨by omega, _, hx57, by omega⟩))]))
 rw [decide_eq_false c88] at H
 refine fl 0 H U69 ti2 U2 hb79.cells ?_
 clear H A; intro A H
 refine fl 0 H U69 ti2 U2 hb40.cells ?_
 clear H A; refine go ?_; intro A H
 by_cases c107 : x57.1 = x17.1
 rw [decide_eq_true c107] at H
 refine fl 1 H U69 ti2 U2 hb79.cells ?_
 clear H A; refine go ?_; intro A H
 by_cases c113 : x57.2.1 = (3 : Int)
 rw [decide_eq_true c113] at H
 revert A; refine go ?_; intro A H
 refine ret1 H rfl rfl ?_
 clear H A
 exact ret_mk hx81 (congrArg Value.bool (by rw [dbB_no hx17 (dbAt_no hx17 (by right; left; exact ⟨by omega, _, hx57, by omega⟩))]))
 rw [decide_eq_false c113] at H
 revert A; refine go ?_; intro A H
 refine dre Ext follows_mixed ?_
 intro w115 he116 hs118
 obtain ⟨hx117, _⟩ := nx hx81 he116
 replace hb40 := hb40.ext he116
 replace hb79 := hb79.ext he116
 refine dw 0 H rfl hs118 (fa H U69 ti2) ?_
 clear H A; intro A H
 refine dv 1 H rfl hs118 (fun w' hw' => lf 1 H U2 (hb40.ext hw').cells) ?_
 clear H A; refine dgo [2, 3] hs118 ?_; intro A H
 by_cases c123 : x17.2.1 = (1 : Int)
 rw [decide_eq_true c123] at H
 revert A; refine dgo [4, 5] hs118 ?_; intro A H
 refine dw 6 H rfl hs118 ((op_add H rfl rfl rfl).int (IntWalk.i64_in _ (by omega))) ?_
 clear H A; intro A H
 obtain ⟨u127, hu128, hr129⟩ := Rds.part h_list U32 ti69 none (some (.int .i64 ((i + 1) : Nat))) 0 ((i + 1)) (.inl ⟨rfl, rfl⟩) (.inr ⟨.i64, rfl⟩) (by omega) (by omega)
 replace hr129 := hr129.cast (ys := list.take ((i + 1))) (by simp)
 refine dw 7 H rfl hs118 (op_slice_t (by omega) H rfl rfl rfl hu128) ?_
 clear H A; intro A H
 refine dw 8 H rfl hs118 (fa H U69 ti9) ?_
 clear H A; intro A H
 refine dv 9 H rfl hs118 (fun w' hw' => lf 2 H U9 (hb40.ext hw').cells) ?_
 clear H A; intro A H
 refine dr_one (i := 10) (by kernel_rfl) ?_
 refine pc H cb85 rfl (c_impl_owesOf _ u127 (list.take ((i + 1))) x17.2.2.1 (hr129.ext pos_shEnt (hx117.trans' hs118)) (by exact day_pre hA (by assumption) (by assumption)) (by simp; omega)) ?_
 clear H A; rintro v133 w134 he135 rfl A H
 have hs137 := hs118.trans' he135
 obtain ⟨hx138, _⟩ := nx hx117 he135
 refine ⟨hs137, ?_⟩
 revert A; refine dgo [11, 12] hs137 ?_; intro A H
 refine dr_end (by kernel_rfl) ?_
 replace hb40 := hb40.ext hs137
 replace hb79 := hb79.ext hs137
 refine then_n ?_
 by_cases c141 : (owS x17.2.2.1 (list.take ((i + 1))) : Int) < (0 : Int)
 rw [decide_eq_true c141] at H
 revert A; refine go ?_; intro A H
 refine ret1 H rfl rfl ?_
 clear H A
 exact ret_mk hx138 (congrArg Value.bool (by rw [dbB_no hx17 (dbAt_no hx17 (by right; right; exact ⟨by assumption, by assumption⟩))]))
 rw [decide_eq_false c141] at H
 revert A; refine go ?_; intro A H
 refine wv H ((op_add H rfl rfl rfl).int (IntWalk.i64_in _ (by omega))) ?_
 clear H A; refine go ?_; intro A H
 refine ⟨((i + 1)), ?_, ?_⟩
 refine ⟨(sl H), hx138, (by omega), (by omega), (by exact upB_step hA (dbAt_ok hx17 (by assumption) (by right; exact ⟨_, hx57, by omega, by omega⟩) (by right; assumption)))⟩
 show (list.length - ((i + 1)) : Nat) < list.length - i; omega
 rw [decide_eq_false c123] at H
 revert A; refine dgo [4, 5, 6, 7, 8, 9, 10, 11, 12] hs118 ?_; intro A H
 refine dr_end (by kernel_rfl) ?_
 replace hb40 := hb40.ext hs118
 replace hb79 := hb79.ext hs118
 revert A; refine go ?_; intro A H
 refine wv H ((op_add H rfl rfl rfl).int (IntWalk.i64_in _ (by omega))) ?_
 clear H A; refine go ?_; intro A H
 refine ⟨((i + 1)), ?_, ?_⟩
 refine ⟨(sl H), hx117, (by omega), (by omega), (by exact upB_step hA (dbAt_ok hx17 (by assumption) (by right; exact ⟨_, hx57, by omega, by omega⟩) (by left; assumption)))⟩
 show (list.length - ((i + 1)) : Nat) < list.length - i; omega
 rw [decide_eq_false c107] at H
 revert A; refine go ?_; intro A H
 refine dre Ext follows_mixed ?_
 intro w161 he162 hs164
 obtain ⟨hx163, _⟩ := nx hx81 he162
 replace hb40 := hb40.ext he162
 replace hb79 := hb79.ext he162
 refine dw 0 H rfl hs164 (fa H U69 ti2) ?_
 clear H A; intro A H
 refine dv 1 H rfl hs164 (fun w' hw' => lf 1 H U2 (hb40.ext hw').cells) ?_
 clear H A; refine dgo [2, 3] hs164 ?_; intro A H
 by_cases c169 : x17.2.1 = (1 : Int)
 rw [decide_eq_true c169] at H
 revert A; refine dgo [4, 5] hs164 ?_; intro A H
 refine dw 6 H rfl hs164 ((op_add H rfl rfl rfl).int (IntWalk.i64_in _ (by omega))) ?_
 clear H A; intro A H
 obtain ⟨u173, hu174, hr175⟩ := Rds.part h_list U32 ti69 none (some (.int .i64 ((i + 1) : Nat))) 0 ((i + 1)) (.inl ⟨rfl, rfl⟩) (.inr ⟨.i64, rfl⟩) (by omega) (by omega)
 replace hr175 := hr175.cast (ys := list.take ((i + 1))) (by simp)
 refine dw 7 H rfl hs164 (op_slice_t (by omega) H rfl rfl rfl hu174) ?_
 clear H A; intro A H
 refine dw 8 H rfl hs164 (fa H U69 ti9) ?_
 clear H A; intro A H
 refine dv 9 H rfl hs164 (fun w' hw' => lf 2 H U9 (hb40.ext hw').cells) ?_
 clear H A; intro A H
 refine dr_one (i := 10) (by kernel_rfl) ?_
 refine pc H cb85 rfl (c_impl_owesOf _ u173 (list.take ((i + 1))) x17.2.2.1 (hr175.ext pos_shEnt (hx163.trans' hs164)) (by exact day_pre hA (by assumption) (by assumption)) (by simp; omega)) ?_
 clear H A; rintro v179 w180 he181 rfl A H
 have hs183 := hs164.trans' he181
 obtain ⟨hx184, _⟩ := nx hx163 he181
 refine ⟨hs183, ?_⟩
 revert A; refine dgo [11, 12] hs183 ?_; intro A H
 refine dr_end (by kernel_rfl) ?_
 replace hb40 := hb40.ext hs183
 replace hb79 := hb79.ext hs183
 refine then_n ?_
 by_cases c187 : (owS x17.2.2.1 (list.take ((i + 1))) : Int) < (0 : Int)
 rw [decide_eq_true c187] at H
 revert A; refine go ?_; intro A H
 refine ret1 H rfl rfl ?_
 clear H A
 exact ret_mk hx184 (congrArg Value.bool (by rw [dbB_no hx17 (dbAt_no hx17 (by right; right; exact ⟨by assumption, by assumption⟩))]))
 rw [decide_eq_false c187] at H
 revert A; refine go ?_; intro A H
 refine wv H ((op_add H rfl rfl rfl).int (IntWalk.i64_in _ (by omega))) ?_
 clear H A; refine go ?_; intro A H
 refine ⟨((i + 1)), ?_, ?_⟩
 refine ⟨(sl H), hx184, (by omega), (by omega), (by exact upB_step hA (dbAt_ok hx17 (by assumption) (by right; exact ⟨_, hx57, by omega, by omega⟩) (by right; assumption)))⟩
 show (list.length - ((i + 1)) : Nat) < list.length - i; omega
 rw [decide_eq_false c169] at H
 revert A; refine dgo [4, 5, 6, 7, 8, 9, 10, 11, 12] hs164 ?_; intro A H
 refine dr_end (by kernel_rfl) ?_
 replace hb40 := hb40.ext hs164
 replace hb79 := hb79.ext hs164
 revert A; refine go ?_; intro A H
 refine wv H ((op_add H rfl rfl rfl).int (IntWalk.i64_in _ (by omega))) ?_
 clear H A; refine go ?_; intro A H
 refine ⟨((i + 1)), ?_, ?_⟩
 refine ⟨(sl H), hx163, (by omega), (by omega), (by exact upB_step hA (dbAt_ok hx17 (by assumption) (by right; exact ⟨_, hx57, by omega, by omega⟩) (by left; assumption)))⟩
 show (list.length - ((i + 1)) : Nat) < list.length - i; omega
 rw [decide_eq_false c53] at H
 revert A; refine go ?_; intro A H
 refine dre Ext follows_mixed ?_
 intro w202 he203 hs205
 obtain ⟨hx204, _⟩ := nx hx48 he203
 replace hb40 := hb40.ext he203
 refine dw 0 H rfl hs205 (fa H U69 ti2) ?_
 clear H A; intro A H
 refine dv 1 H rfl hs205 (fun w' hw' => lf 1 H U2 (hb40.ext hw').cells) ?_
 clear H A; refine dgo [2, 3] hs205 ?_; intro A H
 by_cases c210 : x17.2.1 = (1 : Int)
 rw [decide_eq_true c210] at H
 revert A; refine dgo [4, 5] hs205 ?_; intro A H
 refine dw 6 H rfl hs205 ((op_add H rfl rfl rfl).int (IntWalk.i64_in _ (by omega))) ?_
 clear H A; intro A H
 obtain ⟨u214, hu215, hr216⟩ := Rds.part h_list U32 ti69 none (some (.int .i64 ((i + 1) : Nat))) 0 ((i + 1)) (.inl ⟨rfl, rfl⟩) (.inr ⟨.i64, rfl⟩) (by omega) (by omega)
 replace hr216 := hr216.cast (ys := list.take ((i + 1))) (by simp)
 refine dw 7 H rfl hs205 (op_slice_t (by omega) H rfl rfl rfl hu215) ?_
 clear H A; intro A H
 refine dw 8 H rfl hs205 (fa H U69 ti9) ?_
 clear H A; intro A H
 refine dv 9 H rfl hs205 (fun w' hw' => lf 2 H U9 (hb40.ext hw').cells) ?_
 clear H A; intro A H
 refine dr_one (i := 10) (by kernel_rfl) ?_
 refine pc H cb85 rfl (c_impl_owesOf _ u214 (list.take ((i + 1))) x17.2.2.1 (hr216.ext pos_shEnt (hx204.trans' hs205)) (by exact day_pre hA (by assumption) (by assumption)) (by simp; omega)) ?_
 clear H A; rintro v220 w221 he222 rfl A H
 have hs224 := hs205.trans' he222
 obtain ⟨hx225, _⟩ := nx hx204 he222
 refine ⟨hs224, ?_⟩
 revert A; refine dgo [11, 12] hs224 ?_; intro A H
 refine dr_end (by kernel_rfl) ?_
 replace hb40 := hb40.ext hs224
 refine then_n ?_
 by_cases c228 : (owS x17.2.2.1 (list.take ((i + 1))) : Int) < (0 : Int)
 rw [decide_eq_true c228] at H
 revert A; refine go ?_; intro A H
 refine ret1 H rfl rfl ?_
 clear H A
 exact ret_mk hx225 (congrArg Value.bool (by rw [dbB_no hx17 (dbAt_no hx17 (by right; right; exact ⟨by assumption, by assumption⟩))]))
 rw [decide_eq_false c228] at H
 revert A; refine go ?_; intro A H
 refine wv H ((op_add H rfl rfl rfl).int (IntWalk.i64_in _ (by omega))) ?_
 clear H A; refine go ?_; intro A H
 refine ⟨((i + 1)), ?_, ?_⟩
 refine ⟨(sl H), hx225, (by omega), (by omega), (by exact upB_step hA (dbAt_ok hx17 (by assumption) (by left; omega) (by right; assumption)))⟩
 show (list.length - ((i + 1)) : Nat) < list.length - i; omega
 rw [decide_eq_false c210] at H
 revert A; refine dgo [4, 5, 6, 7, 8, 9, 10, 11, 12] hs205 ?_; intro A H
 refine dr_end (by kernel_rfl) ?_
 replace hb40 := hb40.ext hs205
 revert A; refine go ?_; intro A H
 refine wv H ((op_add H rfl rfl rfl).int (IntWalk.i64_in _ (by omega))) ?_
 clear H A; refine go ?_; intro A H
 refine ⟨((i + 1)), ?_, ?_⟩
 refine ⟨(sl H), hx204, (by omega), (by omega), (by exact upB_step hA (dbAt_ok hx17 (by assumption) (by left; omega) (by left; assumption)))⟩
 show (list.length - ((i + 1)) : Nat) < list.length - i; omega
 rw [c50] at H
 revert A; refine go ?_; intro A H
 refine ret1 H rfl rfl ?_
 clear H A
 exact ret_mk hx48 (congrArg Value.bool (by rw [dbB_no hx17 (dbAt_no hx17 (by left; assumption))]))
 rw [decide_eq_false c15] at H
 revert A; refine go ?_; intro A H
 refine ret1 H rfl rfl ?_
 clear H A
 exact ret_mk hx11 (congrArg Value.bool (by have e : i = list.length := (by omega); rw [e] at hA; unfold dbB; rw [hA]; simp; try omega))



theorem c_spec_IsDayBook (w0 : World) (v_list : Value) (list : List (Int × Int × Str × Int)) {S_list : Nat → Prop} (h_list : Rds shEnt S_list w0 v_list list) (g0 : list.length ≤ 1048576) :
    Calls Tryz.prog 58 #[v_list] w0 (Ret w0 (fun v _ => v = .bool (dbB list))) := by
 refine enter (N := 69) Tryz.func58 rfl rfl rfl ?_
 intro A H
 have hx0 := Ext.rfl' w0
 have hl_list := h_list.length_le
 revert A; refine go ?_; intro A H
 refine loop_inv (X := Nat) (fun i fr wl => Sl 69 fr [(0, v_list), (3, .int .i64 ((i : Nat) : Int))] ∧ Ext w0 wl ∧ w0.heap.size ≤ wl.heap.size ∧ (i ≤ list.length) ∧ (upB (dbAt list) i = true)) (fun i => list.length - i) (0) ?_ ?_
 exact ⟨(sl H), hx0, (by omega), (by omega), (by rfl)⟩
 clear H A
 rintro i A w3 ⟨H, hx4, hzl6, hi, hA⟩
 have hzhx4 := hx4.size
 revert A; refine go ?_; intro A H
 refine wv H (ln H U32 h_list) ?_
 clear H A; refine go ?_; intro A H
 by_cases c11 : ((i : Nat) : Int) < ((list.length : Nat) : Int)
 rw [decide_eq_true c11] at H
 revert A; refine go ?_; intro A H
 obtain ⟨x14, hx14⟩ := get_ex (xs := list) (j := i) (by omega)
 obtain ⟨p15, hi17, hc18, b21, b22, b23, b24, hs20⟩ := at_shEnt h_list hx14
 refine wv H (ix H U32 ti69 hi17) ?_
 clear H A; intro A H
 refine wv H (ls H U69 ti69 (hc18.ext hx4)) ?_
 clear H A; intro A H
 refine we H (op_alloc' rfl ti69 rfl) ?_
 clear H A; rintro _ w28 ⟨rfl, he29, hb30, hz31⟩ A H
 obtain ⟨hx33, _⟩ := nx hx4 he29
 refine ws H (op_sa H ti69 hb30) ?_
 rintro w34 ⟨hb36, hst35, hz37⟩
 obtain ⟨hx38, _⟩ := nb hx33 hst35
 clear hb30
 revert A; refine go ?_; intro A H
 refine dre Ext follows_mixed ?_
 intro w39 he40 hs42
 obtain ⟨hx41, _⟩ := nx hx38 he40
 replace hb36 := hb36.ext he40
 refine dv 0 H rfl hs42 (fun w' hw' => ls H U69 ti69 (hb36.ext hw').cells) ?_
 clear H A; intro A H
 refine dr_one (i := 1) (by kernel_rfl) ?_
 refine pc H cb90 rfl (c_spec_l33Is _ x14 (by assumption)) ?_
 clear H A; rintro v44 w45 he46 rfl A H
 have hs48 := hs42.trans' he46
 obtain ⟨hx49, _⟩ := nx hx41 he46
 refine ⟨hs48, ?_⟩
 revert A; refine dgo [2, 3] hs48 ?_; intro A H
 rcases Bool.eq_false_or_eq_true (entB x14) with c52 | c52
 rw [c52] at H
 revert A; refine dgo [4, 5, 6] hs48 ?_; intro A H
 by_cases c56 : (0 : Int) < ((i : Nat) : Int)
 rw [decide_eq_true c56] at H
 revert A; refine dgo [7, 8] hs48 ?_; intro A H
 refine dw 9 H rfl hs48 ((op_sub H rfl rfl rfl).int (IntWalk.i64_in _ (by omega))) ?_
 clear H A; intro A H
 obtain ⟨x60, hx60⟩ := get_ex (xs := list) (j := (i - 1)) (by omega)
 obtain ⟨p61, hi63, hc64, b67, b68, b69, b70, hs66⟩ := at_shEnt h_list hx60
 refine dw 10 H rfl hs48 (ix H U32 ti69 hi63) ?_
 clear H A; intro A H
 refine dw 11 H rfl hs48 (fa H U69 ti2) ?_
 clear H A; intro A H
 refine dv 12 H rfl hs48 (fun w' hw' => lf 0 H U2 (hc64.ext (hx41.trans' hw'))) ?_
 clear H A; intro A H
 refine dw 13 H rfl hs48 (fa H U69 ti2) ?_
 clear H A; intro A H
 refine dv 14 H rfl hs48 (fun w' hw' => lf 0 H U2 (hb36.ext hw').cells) ?_
 clear H A; refine dgo [15, 16] hs48 ?_; intro A H
 by_cases c78 : x14.1 < x60.1
 rw [decide_eq_true c78] at H
 revert A; refine dgo [17, 18, 19, 20, 21, 22, 23, 24, 25, 26, 27, 28, 29, 30, 31, 32, 33, 34, 35, 36, 37] hs48 ?_; intro A H
 refine dr_end (by kernel_rfl) ?_
 replace hb36 := hb36.ext hs48
 revert A; refine go ?_; intro A H
 refine ret1 H rfl rfl ?_
 clear H A
 exact ret_mk hx49 (congrArg Value.bool (by rw [dbB_no hx14 (dbAt_no hx14 (by right; left; exact ⟨by omega, _, hx60, by omega⟩))]))
 rw [decide_eq_false c78] at H
 revert A; refine dgo [17, 18] hs48 ?_; intro A H
 refine dw 19 H rfl hs48 ((op_sub H rfl rfl rfl).int (IntWalk.i64_in _ (by omega))) ?_
 clear H A; intro A H
 refine dw 20 H rfl hs48 (ix H U32 ti69 hi63) ?_
 clear H A; intro A H
 refine dw 21 H rfl hs48 (fa H U69 ti2) ?_
 clear H A; intro A H
 refine dv 22 H rfl hs48 (fun w' hw' => lf 0 H U2 (hc64.ext (hx41.trans' hw'))) ?_
 clear H A; intro A H
 refine dw 23 H rfl hs48 (fa H U69 ti2) ?_
 clear H A; intro A H
 refine dv 24 H rfl hs48 (fun w' hw' => lf 0 H U2 (hb36.ext hw').cells) ?_
 clear H A; refine dgo [25, 26] hs48 ?_; intro A H
 by_cases c111 : x60.1 = x14.1
 rw [decide_eq_true c111] at H
 revert A; refine dgo [27, 28] hs48 ?_; intro A H
 refine dw 29 H rfl hs48 ((op_sub H rfl rfl rfl).int (IntWalk.i64_in _ (by omega))) ?_
 clear H A; intro A H
 refine dw 30 H rfl hs48 (ix H U32 ti69 hi63) ?_
 clear H A; intro A H
 refine dw 31 H rfl hs48 (fa H U69 ti2) ?_
 clear H A; intro A H
 refine dv 32 H rfl hs48 (fun w' hw' => lf 1 H U2 (hc64.ext (hx41.trans' hw'))) ?_
 clear H A; refine dgo [33, 34, 35, 36, 37] hs48 ?_; intro A H
 refine dr_end (by kernel_rfl) ?_
 replace hb36 := hb36.ext hs48
 refine then_n ?_
 by_cases c123 : x60.2.1 = (3 : Int)
 rw [decide_eq_true c123] at H
 revert A; refine go ?_; intro A H
 refine ret1 H rfl rfl ?_
 clear H A
 exact ret_mk hx49 (congrArg Value.bool (by rw [dbB_no hx14 (dbAt_no hx14 (by right; left; exact ⟨by omega, _, hx60, by omega⟩))]))
 rw [decide_eq_false c123] at H
 revert A; refine go ?_; intro A H
 refine dre Ext follows_mixed ?_
 intro w125 he126 hs128
 obtain ⟨hx127, _⟩ := nx hx49 he126
 replace hb36 := hb36.ext he126
 refine dw 0 H rfl hs128 (fa H U69 ti2) ?_
 clear H A; intro A H
 refine dv 1 H rfl hs128 (fun w' hw' => lf 1 H U2 (hb36.ext hw').cells) ?_
 clear H A; refine dgo [2, 3] hs128 ?_; intro A H
 by_cases c133 : x14.2.1 = (1 : Int)
 rw [decide_eq_true c133] at H
 revert A; refine dgo [4, 5] hs128 ?_; intro A H
 refine dw 6 H rfl hs128 ((op_add H rfl rfl rfl).int (IntWalk.i64_in _ (by omega))) ?_
 clear H A; intro A H
 obtain ⟨u137, hu138, hr139⟩ := Rds.part h_list U32 ti69 none (some (.int .i64 ((i + 1) : Nat))) 0 ((i + 1)) (.inl ⟨rfl, rfl⟩) (.inr ⟨.i64, rfl⟩) (by omega) (by omega)
 replace hr139 := hr139.cast (ys := list.take ((i + 1))) (by simp)
 refine dw 7 H rfl hs128 (op_slice_t (by omega) H rfl rfl rfl hu138) ?_
 clear H A; intro A H
 refine dw 8 H rfl hs128 (fa H U69 ti9) ?_
 clear H A; intro A H
 refine dv 9 H rfl hs128 (fun w' hw' => lf 2 H U9 (hb36.ext hw').cells) ?_
 clear H A; intro A H
 refine dr_one (i := 10) (by kernel_rfl) ?_
 refine pc H cb91 rfl (c_spec_l33Owes _ u137 (list.take ((i + 1))) x14.2.2.1 (hr139.ext pos_shEnt (hx127.trans' hs128)) (by exact day_pre hA (by assumption) (by assumption)) (by simp; omega)) ?_
 clear H A; rintro v143 w144 he145 rfl A H
 have hs147 := hs128.trans' he145
 obtain ⟨hx148, _⟩ := nx hx127 he145
 refine ⟨hs147, ?_⟩
 revert A; refine dgo [11, 12] hs147 ?_; intro A H
 refine dr_end (by kernel_rfl) ?_
 replace hb36 := hb36.ext hs147
 refine then_n ?_
 by_cases c151 : (owS x14.2.2.1 (list.take ((i + 1))) : Int) < (0 : Int)
 rw [decide_eq_true c151] at H
 revert A; refine go ?_; intro A H
 refine ret1 H rfl rfl ?_
 clear H A
 exact ret_mk hx148 (congrArg Value.bool (by rw [dbB_no hx14 (dbAt_no hx14 (by right; right; exact ⟨by assumption, by assumption⟩))]))
 rw [decide_eq_false c151] at H
 revert A; refine go ?_; intro A H
 refine wv H ((op_add H rfl rfl rfl).int (IntWalk.i64_in _ (by omega))) ?_
 clear H A; refine go ?_; intro A H
 refine ⟨((i + 1)), ?_, ?_⟩
 refine ⟨(sl H), hx148, (by omega), (by omega), (by exact upB_step hA (dbAt_ok hx14 (by assumption) (by right; exact ⟨_, hx60, by omega, by omega⟩) (by right; assumption)))⟩
 show (list.length - ((i + 1)) : Nat) < list.length - i; omega
 rw [decide_eq_false c133] at H
 revert A; refine dgo [4, 5, 6, 7, 8, 9, 10, 11, 12] hs128 ?_; intro A H
 refine dr_end (by kernel_rfl) ?_
 replace hb36 := hb36.ext hs128
 revert A; refine go ?_; intro A H
 refine wv H ((op_add H rfl rfl rfl).int (IntWalk.i64_in _ (by omega))) ?_
 clear H A; refine go ?_; intro A H
 refine ⟨((i + 1)), ?_, ?_⟩
 refine ⟨(sl H), hx127, (by omega), (by omega), (by exact upB_step hA (dbAt_ok hx14 (by assumption) (by right; exact ⟨_, hx60, by omega, by omega⟩) (by left; assumption)))⟩
 show (list.length - ((i + 1)) : Nat) < list.length - i; omega
 rw [decide_eq_false c111] at H
 revert A; refine dgo [27, 28, 29, 30, 31, 32, 33, 34, 35, 36, 37] hs48 ?_; intro A H
 refine dr_end (by kernel_rfl) ?_
 replace hb36 := hb36.ext hs48
 revert A; refine go ?_; intro A H
 refine dre Ext follows_mixed ?_
 intro w179 he180 hs182
 obtain ⟨hx181, _⟩ := nx hx49 he180
 replace hb36 := hb36.ext he180
 refine dw 0 H rfl hs182 (fa H U69 ti2) ?_
 clear H A; intro A H
 refine dv 1 H rfl hs182 (fun w' hw' => lf 1 H U2 (hb36.ext hw').cells) ?_
 clear H A; refine dgo [2, 3] hs182 ?_; intro A H
 by_cases c187 : x14.2.1 = (1 : Int)
 rw [decide_eq_true c187] at H
 revert A; refine dgo [4, 5] hs182 ?_; intro A H
 refine dw 6 H rfl hs182 ((op_add H rfl rfl rfl).int (IntWalk.i64_in _ (by omega))) ?_
 clear H A; intro A H
 obtain ⟨u191, hu192, hr193⟩ := Rds.part h_list U32 ti69 none (some (.int .i64 ((i + 1) : Nat))) 0 ((i + 1)) (.inl ⟨rfl, rfl⟩) (.inr ⟨.i64, rfl⟩) (by omega) (by omega)
 replace hr193 := hr193.cast (ys := list.take ((i + 1))) (by simp)
 refine dw 7 H rfl hs182 (op_slice_t (by omega) H rfl rfl rfl hu192) ?_
 clear H A; intro A H
 refine dw 8 H rfl hs182 (fa H U69 ti9) ?_
 clear H A; intro A H
 refine dv 9 H rfl hs182 (fun w' hw' => lf 2 H U9 (hb36.ext hw').cells) ?_
 clear H A; intro A H
 refine dr_one (i := 10) (by kernel_rfl) ?_
 refine pc H cb91 rfl (c_spec_l33Owes _ u191 (list.take ((i + 1))) x14.2.2.1 (hr193.ext pos_shEnt (hx181.trans' hs182)) (by exact day_pre hA (by assumption) (by assumption)) (by simp; omega)) ?_
 clear H A; rintro v197 w198 he199 rfl A H
 have hs201 := hs182.trans' he199
 obtain ⟨hx202, _⟩ := nx hx181 he199
 refine ⟨hs201, ?_⟩
 revert A; refine dgo [11, 12] hs201 ?_; intro A H
 refine dr_end (by kernel_rfl) ?_
 replace hb36 := hb36.ext hs201
 refine then_n ?_
 by_cases c205 : (owS x14.2.2.1 (list.take ((i + 1))) : Int) < (0 : Int)
 rw [decide_eq_true c205] at H
 revert A; refine go ?_; intro A H
 refine ret1 H rfl rfl ?_
 clear H A
 exact ret_mk hx202 (congrArg Value.bool (by rw [dbB_no hx14 (dbAt_no hx14 (by right; right; exact ⟨by assumption, by assumption⟩))]))
 rw [decide_eq_false c205] at H
 revert A; refine go ?_; intro A H
 refine wv H ((op_add H rfl rfl rfl).int (IntWalk.i64_in _ (by omega))) ?_
 clear H A; refine go ?_; intro A H
 refine ⟨((i + 1)), ?_, ?_⟩
 refine ⟨(sl H), hx202, (by omega), (by omega), (by exact upB_step hA (dbAt_ok hx14 (by assumption) (by right; exact ⟨_, hx60, by omega, by omega⟩) (by right; assumption)))⟩
 show (list.length - ((i + 1)) : Nat) < list.length - i; omega
 rw [decide_eq_false c187] at H
 revert A; refine dgo [4, 5, 6, 7, 8, 9, 10, 11, 12] hs182 ?_; intro A H
 refine dr_end (by kernel_rfl) ?_
 replace hb36 := hb36.ext hs182
 revert A; refine go ?_; intro A H
 refine wv H ((op_add H rfl rfl rfl).int (IntWalk.i64_in _ (by omega))) ?_
 clear H A; refine go ?_; intro A H
 refine ⟨((i + 1)), ?_, ?_⟩
 refine ⟨(sl H), hx181, (by omega), (by omega), (by exact upB_step hA (dbAt_ok hx14 (by assumption) (by right; exact ⟨_, hx60, by omega, by omega⟩) (by left; assumption)))⟩
 show (list.length - ((i + 1)) : Nat) < list.length - i; omega
 rw [decide_eq_false c56] at H
 revert A; refine dgo [7, 8, 9, 10, 11, 12, 13, 14, 15, 16, 17, 18, 19, 20, 21, 22, 23, 24, 25, 26, 27, 28, 29, 30, 31, 32, 33, 34, 35, 36, 37] hs48 ?_; intro A H
 refine dr_end (by kernel_rfl) ?_
 replace hb36 := hb36.ext hs48
 revert A; refine go ?_; intro A H
 refine dre Ext follows_mixed ?_
 intro w253 he254 hs256
 obtain ⟨hx255, _⟩ := nx hx49 he254
 replace hb36 := hb36.ext he254
 refine dw 0 H rfl hs256 (fa H U69 ti2) ?_
 clear H A; intro A H
 refine dv 1 H rfl hs256 (fun w' hw' => lf 1 H U2 (hb36.ext hw').cells) ?_
 clear H A; refine dgo [2, 3] hs256 ?_; intro A H
 by_cases c261 : x14.2.1 = (1 : Int)
 rw [decide_eq_true c261] at H
 revert A; refine dgo [4, 5] hs256 ?_; intro A H
 refine dw 6 H rfl hs256 ((op_add H rfl rfl rfl).int (IntWalk.i64_in _ (by omega))) ?_
 clear H A; intro A H
 obtain ⟨u265, hu266, hr267⟩ := Rds.part h_list U32 ti69 none (some (.int .i64 ((i + 1) : Nat))) 0 ((i + 1)) (.inl ⟨rfl, rfl⟩) (.inr ⟨.i64, rfl⟩) (by omega) (by omega)
 replace hr267 := hr267.cast (ys := list.take ((i + 1))) (by simp)
 refine dw 7 H rfl hs256 (op_slice_t (by omega) H rfl rfl rfl hu266) ?_
 clear H A; intro A H
 refine dw 8 H rfl hs256 (fa H U69 ti9) ?_
 clear H A; intro A H
 refine dv 9 H rfl hs256 (fun w' hw' => lf 2 H U9 (hb36.ext hw').cells) ?_
 clear H A; intro A H
 refine dr_one (i := 10) (by kernel_rfl) ?_
 refine pc H cb91 rfl (c_spec_l33Owes _ u265 (list.take ((i + 1))) x14.2.2.1 (hr267.ext pos_shEnt (hx255.trans' hs256)) (by exact day_pre hA (by assumption) (by assumption)) (by simp; omega)) ?_
 clear H A; rintro v271 w272 he273 rfl A H
 have hs275 := hs256.trans' he273
 obtain ⟨hx276, _⟩ := nx hx255 he273
 refine ⟨hs275, ?_⟩
 revert A; refine dgo [11, 12] hs275 ?_; intro A H
 refine dr_end (by kernel_rfl) ?_
 replace hb36 := hb36.ext hs275
 refine then_n ?_
 by_cases c279 : (owS x14.2.2.1 (list.take ((i + 1))) : Int) < (0 : Int)
 rw [decide_eq_true c279] at H
 revert A; refine go ?_; intro A H
 refine ret1 H rfl rfl ?_
 clear H A
 exact ret_mk hx276 (congrArg Value.bool (by rw [dbB_no hx14 (dbAt_no hx14 (by right; right; exact ⟨by assumption, by assumption⟩))]))
 rw [decide_eq_false c279] at H
 revert A; refine go ?_; intro A H
 refine wv H ((op_add H rfl rfl rfl).int (IntWalk.i64_in _ (by omega))) ?_
 clear H A; refine go ?_; intro A H
 refine ⟨((i + 1)), ?_, ?_⟩
 refine ⟨(sl H), hx276, (by omega), (by omega), (by exact upB_step hA (dbAt_ok hx14 (by assumption) (by left; omega) (by right; assumption)))⟩
 show (list.length - ((i + 1)) : Nat) < list.length - i; omega
 rw [decide_eq_false c261] at H
 revert A; refine dgo [4, 5, 6, 7, 8, 9, 10, 11, 12] hs256 ?_; intro A H
 refine dr_end (by kernel_rfl) ?_
 replace hb36 := hb36.ext hs256
 revert A; refine go ?_; intro A H
 refine wv H ((op_add H rfl rfl rfl).int (IntWalk.i64_in _ (by omega))) ?_
 clear H A; refine go ?_; intro A H
 refine ⟨((i + 1)), ?_, ?_⟩
 refine ⟨(sl H), hx255, (by omega), (by omega), (by exact upB_step hA (dbAt_ok hx14 (by assumption) (by left; omega) (by left; assumption)))⟩
 show (list.length - ((i + 1)) : Nat) < list.length - i; omega
 rw [c52] at H
 revert A; refine dgo [4, 5, 6, 7, 8, 9, 10, 11, 12, 13, 14, 15, 16, 17, 18, 19, 20, 21, 22, 23, 24, 25, 26, 27, 28, 29, 30, 31, 32, 33, 34, 35, 36, 37] hs48 ?_; intro A H
 refine dr_end (by kernel_rfl) ?_
 replace hb36 := hb36.ext hs48
 revert A; refine go ?_; intro A H
 refine ret1 H rfl rfl ?_
 clear H A
 exact ret_mk hx49 (congrArg Value.bool (by rw [dbB_no hx14 (dbAt_no hx14 (by left; assumption))]))
 rw [decide_eq_false c11] at H
 revert A; refine go ?_; intro A H
 refine wv H (ln H U32 h_list) ?_
 clear H A; refine go ?_; intro A H
 refine ret1 H rfl rfl ?_
 clear H A
 exact ret_mk hx4 (congrArg Value.bool (by have e : i = list.length := (by omega); rw [e] at hA; unfold dbB; rw [hA]; simp; try omega))




end Go.Proofs.YthbehhhblchhhaaGreat
