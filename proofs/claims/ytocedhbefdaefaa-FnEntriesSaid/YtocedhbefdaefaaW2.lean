/- Is it a day book? -/
import Derived.Test.YtocedhbefdaefaaW1
namespace Go.Proofs.Ytocedhbefdaefaa
open Go Go.RowKit

/-- Is it an entry? -/
def entB (e : Ent) : Bool := (dateB e.1 && (decide (0 ≤ e.2.1) && decide (e.2.1 ≤ 3))) && (if e.2.1 = 3 then decide (e.2.2.1 = []) && decide (e.2.2.2 = 0) else wordB e.2.2.1 && (decide (1 ≤ e.2.2.2) && decide (e.2.2.2 ≤ 10000000)))
theorem ent_bd {e : Ent} (h : entB e = true) : 0 ≤ e.1 ∧ e.1 ≤ 100000 ∧ 0 ≤ e.2.1 ∧ e.2.1 ≤ 3 ∧ 0 ≤ e.2.2.2 ∧ e.2.2.2 ≤ 10000000 ∧ e.2.2.1.length ≤ 16 := by
  unfold entB dateB at h
  simp only [Bool.and_eq_true, decide_eq_true_eq] at h
  obtain ⟨⟨⟨h1, h2⟩, h3, h4⟩, h5⟩ := h
  split at h5
  · simp only [Bool.and_eq_true, decide_eq_true_eq] at h5
    obtain ⟨h6, h7⟩ := h5
    rw [h6]; simp; omega
  · simp only [Bool.and_eq_true, decide_eq_true_eq] at h5
    have := wordB_len h5.1
    omega
/-- What an entry adds to what one owes. -/
def owE (n : Str) (e : Ent) : Int := if e.2.2.1 = n then (if e.2.1 = 0 then e.2.2.2 else if e.2.1 = 1 then 0 - e.2.2.2 else 0) else 0
theorem owE_def (n : Str) (e : Ent) : owE n e = if e.2.2.1 = n then (if e.2.1 = 0 then e.2.2.2 else if e.2.1 = 1 then 0 - e.2.2.2 else 0) else 0 := rfl
abbrev owS (n : Str) (xs : List Ent) : Int := sumI (owE n) xs
theorem owE_bd {n : Str} {e : Ent} (h : entB e = true) : -10000000 ≤ owE n e ∧ owE n e ≤ 10000000 := by
  have := ent_bd h
  unfold owE
  split
  · split
    · omega
    · split <;> omega
  · omega
theorem owS_bd {n : Str} {xs : List Ent} (h : ∀ e ∈ xs, entB e = true) : -10000000 * (xs.length : Int) ≤ owS n xs ∧ owS n xs ≤ 10000000 * (xs.length : Int) := sumI_bd fun e he => owE_bd (h e he)
def prevOk : Option Ent → Ent → Bool
  | none, _ => true
  | some b, e => !(decide (e.1 < b.1) || (decide (b.1 = e.1) && decide (b.2.1 = 3)))
def dbAt (xs : List Ent) (i : Nat) : Bool := match xs[i]? with
  | none => false
  | some e => entB e && (decide (i = 0) || prevOk xs[i - 1]? e) && (!decide (e.2.1 = 1) || !decide (owS e.2.2.1 (xs.take (i + 1)) < 0))
/-- Is it a day book? -/
def dbB (xs : List Ent) : Bool := decide (xs.length ≤ 60) && upB (dbAt xs) xs.length
theorem dbAt_ok {xs : List Ent} {i : Nat} {e : Ent} (h : xs[i]? = some e) (h1 : entB e = true) (h2 : i = 0 ∨ ∃ b, xs[i - 1]? = some b ∧ ¬ e.1 < b.1 ∧ ¬ (b.1 = e.1 ∧ b.2.1 = 3)) (h3 : ¬ e.2.1 = 1 ∨ ¬ owS e.2.2.1 (xs.take (i + 1)) < 0) : dbAt xs i = true := by
  unfold dbAt; rw [h]
  simp only [h1, Bool.true_and, Bool.and_eq_true, Bool.or_eq_true, decide_eq_true_eq, Bool.not_eq_true', decide_eq_false_iff_not]
  refine ⟨?_, h3⟩
  rcases h2 with h2 | ⟨b, hb, h4, h5⟩
  · exact .inl h2
  · right; rw [hb]
    simp only [prevOk, Bool.not_eq_true', Bool.or_eq_false_iff, decide_eq_false_iff_not, Bool.and_eq_false_iff]
    exact ⟨h4, by omega⟩
theorem dbAt_eq {xs : List Ent} {i : Nat} {e : Ent} (h : xs[i]? = some e) : dbAt xs i = (entB e && (decide (i = 0) || prevOk xs[i - 1]? e) && (!decide (e.2.1 = 1) || !decide (owS e.2.2.1 (xs.take (i + 1)) < 0))) := by unfold dbAt; rw [h]
theorem dbAt_no {xs : List Ent} {i : Nat} {e : Ent} (h : xs[i]? = some e) (h1 : entB e = false ∨ (0 < i ∧ ∃ b, xs[i - 1]? = some b ∧ (e.1 < b.1 ∨ (b.1 = e.1 ∧ b.2.1 = 3))) ∨ (e.2.1 = 1 ∧ owS e.2.2.1 (xs.take (i + 1)) < 0)) : dbAt xs i = false := by
  rw [dbAt_eq h]
  rcases h1 with h1 | ⟨hi, b, hb, h2⟩ | ⟨h2, h3⟩
  · simp [h1]
  · have e1 : prevOk xs[i - 1]? e = false := by
      rw [hb]
      simp only [prevOk, Bool.not_eq_false', Bool.or_eq_true, decide_eq_true_eq, Bool.and_eq_true]
      exact h2
    have e2 : decide (i = 0) = false := by simp; omega
    simp only [e1, e2, Bool.or_false, Bool.and_false, Bool.false_and]
  · rw [decide_eq_true h2, decide_eq_true h3]; simp
theorem dbAt_ent {xs : List Ent} {i : Nat} {e : Ent} (h : dbAt xs i = true) (hx : xs[i]? = some e) : entB e = true := by
  unfold dbAt at h; rw [hx] at h
  simp only [Bool.and_eq_true] at h
  exact h.1.1
theorem dbB_len {xs : List Ent} (h : dbB xs = true) : xs.length ≤ 60 := by
  unfold dbB at h; simp only [Bool.and_eq_true, decide_eq_true_eq] at h; exact h.1
theorem dbB_up {xs : List Ent} (h : dbB xs = true) : upB (dbAt xs) xs.length = true := by
  unfold dbB at h; simp only [Bool.and_eq_true] at h; exact h.2
theorem up_ent {xs : List Ent} {i : Nat} (h : upB (dbAt xs) i = true) : ∀ e ∈ xs.take i, entB e = true := by
  intro e he
  obtain ⟨j, hj⟩ := List.getElem?_of_mem he
  rw [List.getElem?_take] at hj
  split at hj
  · exact dbAt_ent (upB_get h ‹_›) hj
  · cases hj
theorem dbB_ent {xs : List Ent} (h : dbB xs = true) : ∀ e ∈ xs, entB e = true := by
  have := up_ent (dbB_up h); rwa [List.take_length] at this
theorem day_pre {xs : List Ent} {i : Nat} {e : Ent} (h : upB (dbAt xs) i = true) (hx : xs[i]? = some e) (he : entB e = true) : ∀ e ∈ xs.take (i + 1), entB e = true := by
  intro y hy
  rw [take_snoc hx, List.mem_append, List.mem_singleton] at hy
  rcases hy with hy | rfl
  · exact up_ent h y hy
  · exact he
theorem dbB_no {xs : List Ent} {i : Nat} {e : Ent} (hx : xs[i]? = some e) (h : dbAt xs i = false) : dbB xs = false := by
  unfold dbB; rw [upB_bad (List.getElem?_eq_some_iff.1 hx).1 h, Bool.and_false]
theorem dbB_big {xs : List Ent} (h : 60 < xs.length) : dbB xs = false := by
  unfold dbB; rw [decide_eq_false (by omega), Bool.false_and]

theorem c_impl_isEntry (w0 : World) (e : Int × Int × Str × Int) (g0 : e.2.2.1.length ≤ 9223372036854775807) :
  Calls Try.prog 58 #[.agg #[.int .i64 e.1, .int .i64 e.2.1, St e.2.2.1, .int .i64 e.2.2.2]] w0 (Ret w0 (fun v _ => v = .bool (entB e))) := by
 refine enter (N := 32) Try.func58 rfl rfl rfl ?_
 intro a0 ha0
 have hx0 := Ext.rfl' w0
 refine wp_seq ?_
 refine wp_region_lit ?_
 refine wl_eff ha0 rfl rfl rfl (op_box' ha0 rfl rfl rfl) ?_
 rintro _ w2 ⟨rfl, he3, hb4, hz5⟩ a6 ha6; clear ha0 a0
 have hx7 := hx0.trans' he3
 have hzhx7 := he3.size
 refine wl_val ha6 rfl rfl rfl (op_assign ha6 rfl rfl) ?_
 intro a8 ha8; clear ha6 a6
 refine wpList_nil ?_
 refine then_n ?_
 refine wp_seq ?_
 refine wp_seq ?_
 refine wp_region_lit ?_
 refine wl_val ha8 rfl rfl rfl (op_fieldAddr (sz := 0) ha8 rfl Try.underlying41 rfl rfl ti2 rfl) ?_
 intro a9 ha9; clear ha8 a8
 refine wl_val ha9 rfl rfl rfl (op_loadF (off := 0) ha9 rfl Try.underlying2 rfl rfl hb4.cells rfl) ?_
 intro a10 ha10; clear ha9 a9
 refine wl_callR ha10 rfl rfl rfl (op_call ha10 rfl cb66 rfl) (c_impl_isDate _ e.1 ) ?_
 rintro v11 w12 he13 rfl a14 ha14; clear ha10 a10
 have hx15 := hx7.trans' he13
 have hzhx15 := he13.size
 replace hb4 := hb4.ext he13
 refine wl_val ha14 rfl rfl rfl (op_not ha14 rfl rfl) ?_
 intro a16 ha16; clear ha14 a14
 refine wl_val ha16 rfl rfl rfl (op_move ha16 rfl rfl) ?_
 intro a17 ha17; clear ha16 a16
 rcases Bool.eq_false_or_eq_true (dateB e.1) with c18 | c18
 ·
  rw [c18] at ha17
  refine wl_val ha17 rfl rfl rfl (op_fieldAddr (sz := 0) ha17 rfl Try.underlying41 rfl rfl ti2 rfl) ?_
  intro a19 ha19; clear ha17 a17
  refine wl_val ha19 rfl rfl rfl (op_loadF (off := 1) ha19 rfl Try.underlying2 rfl rfl hb4.cells rfl) ?_
  intro a20 ha20; clear ha19 a19
  refine wl_callR ha20 rfl rfl rfl (op_call ha20 rfl cb76 rfl) (c_impl_within _ e.2.1 (0 : Int) (3 : Int) ) ?_
  rintro v21 w22 he23 rfl a24 ha24; clear ha20 a20
  have hx25 := hx15.trans' he23
  have hzhx25 := he23.size
  replace hb4 := hb4.ext he23
  refine wl_val ha24 rfl rfl rfl (op_not ha24 rfl rfl) ?_
  intro a26 ha26; clear ha24 a24
  refine wl_val ha26 rfl rfl rfl (op_pick_f ha26 rfl rfl rfl) ?_
  intro a27 ha27; clear ha26 a26
  refine wpList_nil ?_
  refine then_n ?_
  rcases Bool.eq_false_or_eq_true (decide ((0 : Int) ≤ e.2.1) && decide (e.2.1 ≤ (3 : Int))) with c28 | c28
  ·
   rw [c28] at ha27
   refine cond_f ha27 rfl ?_
   refine wp_skip ?_
   refine then_n ?_
   refine wp_seq ?_
   refine wp_seq ?_
   refine wp_region_lit ?_
   refine wl_val ha27 rfl rfl rfl (op_fieldAddr (sz := 0) ha27 rfl Try.underlying41 rfl rfl ti2 rfl) ?_
   intro a29 ha29; clear ha27 a27
   refine wl_val ha29 rfl rfl rfl (op_loadF (off := 1) ha29 rfl Try.underlying2 rfl rfl hb4.cells rfl) ?_
   intro a30 ha30; clear ha29 a29
   refine wl_val ha30 rfl rfl rfl (op_eql ha30 rfl rfl rfl) ?_
   intro a31 ha31; clear ha30 a30
   refine wpList_nil ?_
   refine then_n ?_
   by_cases c32 : e.2.1 = (3 : Int)
   ·
    rw [decide_eq_true c32] at ha31
    refine cond_t ha31 rfl ?_
    refine wp_seq ?_
    refine wp_region_lit ?_
    refine wl_val ha31 rfl rfl rfl (op_fieldAddr (sz := 0) ha31 rfl Try.underlying41 rfl rfl ti9 rfl) ?_
    intro a33 ha33; clear ha31 a31
    refine wl_val ha33 rfl rfl rfl (op_loadF (off := 2) ha33 rfl Try.underlying9 rfl rfl hb4.cells rfl) ?_
    intro a34 ha34; clear ha33 a33
    refine wl_val ha34 rfl rfl rfl (op_seql ha34 rfl rfl rfl) ?_
    intro a35 ha35; clear ha34 a34
    refine wl_val ha35 rfl rfl rfl (op_move ha35 rfl rfl) ?_
    intro a36 ha36; clear ha35 a35
    by_cases c37 : e.2.2.1 = ([] : Str)
    ·
     rw [decide_eq_true c37] at ha36
     refine wl_val ha36 rfl rfl rfl (op_fieldAddr (sz := 0) ha36 rfl Try.underlying41 rfl rfl ti2 rfl) ?_
     intro a38 ha38; clear ha36 a36
     refine wl_val ha38 rfl rfl rfl (op_loadF (off := 3) ha38 rfl Try.underlying2 rfl rfl hb4.cells rfl) ?_
     intro a39 ha39; clear ha38 a38
     refine wl_val ha39 rfl rfl rfl (op_eql ha39 rfl rfl rfl) ?_
     intro a40 ha40; clear ha39 a39
     refine wl_val ha40 rfl rfl rfl (op_pick_t ha40 rfl rfl rfl) ?_
     intro a41 ha41; clear ha40 a40
     refine wl_val ha41 rfl rfl rfl (op_assign ha41 rfl rfl) ?_
     intro a42 ha42; clear ha41 a41
     refine wpList_nil ?_
     refine then_n ?_
     refine wp_ret ?_
     refine then_r ?_
     refine ret1 ha42 rfl rfl ?_
     clear ha42 a42
     exact ret_mk hx25 (congrArg Value.bool (by first | (simp [entB, c18, c28, c32, c37]; done) | (simp [entB, c18, c28, c32, c37]; omega) | first | (simp [entB, dateB, c18, c28, c32, c37]; done) | (simp [entB, dateB, c18, c28, c32, c37]; omega) | (rw [Bool.eq_iff_iff]; simp [entB, dateB, c18, c28, c32, c37]; done) | (rw [Bool.eq_iff_iff]; simp [entB, dateB, c18, c28, c32, c37]; omega)))
    ·
     rw [decide_eq_false c37] at ha36
     refine wl_skip ha36 rfl rfl rfl ?_
     intro a43 ha43; clear ha36 a36
     refine wl_skip ha43 rfl rfl rfl ?_
     intro a44 ha44; clear ha43 a43
     refine wl_skip ha44 rfl rfl rfl ?_
     intro a45 ha45; clear ha44 a44
     refine wl_val ha45 rfl rfl rfl (op_pick_f ha45 rfl rfl rfl) ?_
     intro a46 ha46; clear ha45 a45
     refine wl_val ha46 rfl rfl rfl (op_assign ha46 rfl rfl) ?_
     intro a47 ha47; clear ha46 a46
     refine wpList_nil ?_
     refine then_n ?_
     refine wp_ret ?_
     refine then_r ?_
     refine ret1 ha47 rfl rfl ?_
     clear ha47 a47
     exact ret_mk hx25 (congrArg Value.bool (by first | (simp [entB, c18, c28, c32, c37]; done) | (simp [entB, c18, c28, c32, c37]; omega) | first | (simp [entB, dateB, c18, c28, c32, c37]; done) | (simp [entB, dateB, c18, c28, c32, c37]; omega) | (rw [Bool.eq_iff_iff]; simp [entB, dateB, c18, c28, c32, c37]; done) | (rw [Bool.eq_iff_iff]; simp [entB, dateB, c18, c28, c32, c37]; omega)))
   ·
    rw [decide_eq_false c32] at ha31
    refine cond_f ha31 rfl ?_
    refine wp_skip ?_
    refine then_n ?_
    refine wp_seq ?_
    refine wp_region_lit ?_
    refine wl_val ha31 rfl rfl rfl (op_fieldAddr (sz := 0) ha31 rfl Try.underlying41 rfl rfl ti9 rfl) ?_
    intro a48 ha48; clear ha31 a31
    refine wl_val ha48 rfl rfl rfl (op_loadF (off := 2) ha48 rfl Try.underlying9 rfl rfl hb4.cells rfl) ?_
    intro a49 ha49; clear ha48 a48
    refine wl_callR ha49 rfl rfl rfl (op_call ha49 rfl cb62 rfl) (c_impl_IsWord _ e.2.2.1 (by first | assumption | omega | (simp; omega) | (simp [mkN_length]; omega))) ?_
    rintro v50 w51 he52 rfl a53 ha53; clear ha49 a49
    have hx54 := hx25.trans' he52
    have hzhx54 := he52.size
    replace hb4 := hb4.ext he52
    refine wl_val ha53 rfl rfl rfl (op_move ha53 rfl rfl) ?_
    intro a55 ha55; clear ha53 a53
    rcases Bool.eq_false_or_eq_true (wordB e.2.2.1) with c56 | c56
    ·
     rw [c56] at ha55
     refine wl_val ha55 rfl rfl rfl (op_fieldAddr (sz := 0) ha55 rfl Try.underlying41 rfl rfl ti2 rfl) ?_
     intro a57 ha57; clear ha55 a55
     refine wl_val ha57 rfl rfl rfl (op_loadF (off := 3) ha57 rfl Try.underlying2 rfl rfl hb4.cells rfl) ?_
     intro a58 ha58; clear ha57 a57
     refine wl_callR ha58 rfl rfl rfl (op_call ha58 rfl cb76 rfl) (c_impl_within _ e.2.2.2 (1 : Int) (10000000 : Int) ) ?_
     rintro v59 w60 he61 rfl a62 ha62; clear ha58 a58
     have hx63 := hx54.trans' he61
     have hzhx63 := he61.size
     replace hb4 := hb4.ext he61
     refine wl_val ha62 rfl rfl rfl (op_pick_t ha62 rfl rfl rfl) ?_
     intro a64 ha64; clear ha62 a62
     refine wl_val ha64 rfl rfl rfl (op_assign ha64 rfl rfl) ?_
     intro a65 ha65; clear ha64 a64
     refine wpList_nil ?_
     refine then_n ?_
     refine wp_ret ?_
     refine ret1 ha65 rfl rfl ?_
     clear ha65 a65
     exact ret_mk hx63 (congrArg Value.bool (by first | (simp [entB, c18, c28, c32, c56]; done) | (simp [entB, c18, c28, c32, c56]; omega) | first | (simp [entB, dateB, c18, c28, c32, c56]; done) | (simp [entB, dateB, c18, c28, c32, c56]; omega) | (rw [Bool.eq_iff_iff]; simp [entB, dateB, c18, c28, c32, c56]; done) | (rw [Bool.eq_iff_iff]; simp [entB, dateB, c18, c28, c32, c56]; omega)))
    ·
     rw [c56] at ha55
     refine wl_skip ha55 rfl rfl rfl ?_
     intro a66 ha66; clear ha55 a55
     refine wl_skip ha66 rfl rfl rfl ?_
     intro a67 ha67; clear ha66 a66
     refine wl_skip ha67 rfl rfl rfl ?_
     intro a68 ha68; clear ha67 a67
     refine wl_val ha68 rfl rfl rfl (op_pick_f ha68 rfl rfl rfl) ?_
     intro a69 ha69; clear ha68 a68
     refine wl_val ha69 rfl rfl rfl (op_assign ha69 rfl rfl) ?_
     intro a70 ha70; clear ha69 a69
     refine wpList_nil ?_
     refine then_n ?_
     refine wp_ret ?_
     refine ret1 ha70 rfl rfl ?_
     clear ha70 a70
     exact ret_mk hx54 (congrArg Value.bool (by first | (simp [entB, c18, c28, c32, c56]; done) | (simp [entB, c18, c28, c32, c56]; omega) | first | (simp [entB, dateB, c18, c28, c32, c56]; done) | (simp [entB, dateB, c18, c28, c32, c56]; omega) | (rw [Bool.eq_iff_iff]; simp [entB, dateB, c18, c28, c32, c56]; done) | (rw [Bool.eq_iff_iff]; simp [entB, dateB, c18, c28, c32, c56]; omega)))
  ·
   rw [c28] at ha27
   refine cond_t ha27 rfl ?_
   refine wp_seq ?_
   refine wp_region_lit ?_
   refine wl_val ha27 rfl rfl rfl (op_assign ha27 rfl rfl) ?_
   intro a71 ha71; clear ha27 a27
   refine wpList_nil ?_
   refine then_n ?_
   refine wp_ret ?_
   refine then_r ?_
   refine ret1 ha71 rfl rfl ?_
   clear ha71 a71
   exact ret_mk hx25 (congrArg Value.bool (by first | (simp [entB, c18, c28]; done) | (simp [entB, c18, c28]; omega) | first | (simp [entB, dateB, c18, c28]; done) | (simp [entB, dateB, c18, c28]; omega) | (rw [Bool.eq_iff_iff]; simp [entB, dateB, c18, c28]; done) | (rw [Bool.eq_iff_iff]; simp [entB, dateB, c18, c28]; omega)))
 ·
  rw [c18] at ha17
  refine wl_skip ha17 rfl rfl rfl ?_
  intro a72 ha72; clear ha17 a17
  refine wl_skip ha72 rfl rfl rfl ?_
  intro a73 ha73; clear ha72 a72
  refine wl_skip ha73 rfl rfl rfl ?_
  intro a74 ha74; clear ha73 a73
  refine wl_skip ha74 rfl rfl rfl ?_
  intro a75 ha75; clear ha74 a74
  refine wl_val ha75 rfl rfl rfl (op_pick_t ha75 rfl rfl rfl) ?_
  intro a76 ha76; clear ha75 a75
  refine wpList_nil ?_
  refine then_n ?_
  refine cond_t ha76 rfl ?_
  refine wp_seq ?_
  refine wp_region_lit ?_
  refine wl_val ha76 rfl rfl rfl (op_assign ha76 rfl rfl) ?_
  intro a77 ha77; clear ha76 a76
  refine wpList_nil ?_
  refine then_n ?_
  refine wp_ret ?_
  refine then_r ?_
  refine ret1 ha77 rfl rfl ?_
  clear ha77 a77
  exact ret_mk hx15 (congrArg Value.bool (by first | (simp [entB, c18]; done) | (simp [entB, c18]; omega) | first | (simp [entB, dateB, c18]; done) | (simp [entB, dateB, c18]; omega) | (rw [Bool.eq_iff_iff]; simp [entB, dateB, c18]; done) | (rw [Bool.eq_iff_iff]; simp [entB, dateB, c18]; omega)))

theorem c_spec_l33Is (w0 : World) (e : Int × Int × Str × Int) (g0 : e.2.2.1.length ≤ 9223372036854775807) :
  Calls Try.prog 56 #[.agg #[.int .i64 e.1, .int .i64 e.2.1, St e.2.2.1, .int .i64 e.2.2.2]] w0 (Ret w0 (fun v _ => v = .bool (entB e))) := by
 refine enter (N := 32) Try.func56 rfl rfl rfl ?_
 intro a0 ha0
 have hx0 := Ext.rfl' w0
 refine wp_seq ?_
 refine wp_region_lit ?_
 refine wl_eff ha0 rfl rfl rfl (op_box' ha0 rfl rfl rfl) ?_
 rintro _ w2 ⟨rfl, he3, hb4, hz5⟩ a6 ha6; clear ha0 a0
 have hx7 := hx0.trans' he3
 have hzhx7 := he3.size
 refine wl_val ha6 rfl rfl rfl (op_assign ha6 rfl rfl) ?_
 intro a8 ha8; clear ha6 a6
 refine wpList_nil ?_
 refine then_n ?_
 refine wp_seq ?_
 refine wp_seq ?_
 refine wp_region_lit ?_
 refine wl_val ha8 rfl rfl rfl (op_fieldAddr (sz := 0) ha8 rfl Try.underlying41 rfl rfl ti2 rfl) ?_
 intro a9 ha9; clear ha8 a8
 refine wl_val ha9 rfl rfl rfl (op_loadF (off := 0) ha9 rfl Try.underlying2 rfl rfl hb4.cells rfl) ?_
 intro a10 ha10; clear ha9 a9
 refine wl_callR ha10 rfl rfl rfl (op_call ha10 rfl cb75 rfl) (c_spec_l01In _ e.1 (0 : Int) (100000 : Int) ) ?_
 rintro v11 w12 he13 rfl a14 ha14; clear ha10 a10
 have hx15 := hx7.trans' he13
 have hzhx15 := he13.size
 replace hb4 := hb4.ext he13
 refine wl_val ha14 rfl rfl rfl (op_not ha14 rfl rfl) ?_
 intro a16 ha16; clear ha14 a14
 refine wl_val ha16 rfl rfl rfl (op_move ha16 rfl rfl) ?_
 intro a17 ha17; clear ha16 a16
 rcases Bool.eq_false_or_eq_true (decide ((0 : Int) ≤ e.1) && decide (e.1 ≤ (100000 : Int))) with c18 | c18
 ·
  rw [c18] at ha17
  refine wl_val ha17 rfl rfl rfl (op_fieldAddr (sz := 0) ha17 rfl Try.underlying41 rfl rfl ti2 rfl) ?_
  intro a19 ha19; clear ha17 a17
  refine wl_val ha19 rfl rfl rfl (op_loadF (off := 1) ha19 rfl Try.underlying2 rfl rfl hb4.cells rfl) ?_
  intro a20 ha20; clear ha19 a19
  refine wl_callR ha20 rfl rfl rfl (op_call ha20 rfl cb75 rfl) (c_spec_l01In _ e.2.1 (0 : Int) (3 : Int) ) ?_
  rintro v21 w22 he23 rfl a24 ha24; clear ha20 a20
  have hx25 := hx15.trans' he23
  have hzhx25 := he23.size
  replace hb4 := hb4.ext he23
  refine wl_val ha24 rfl rfl rfl (op_not ha24 rfl rfl) ?_
  intro a26 ha26; clear ha24 a24
  refine wl_val ha26 rfl rfl rfl (op_pick_f ha26 rfl rfl rfl) ?_
  intro a27 ha27; clear ha26 a26
  refine wpList_nil ?_
  refine then_n ?_
  rcases Bool.eq_false_or_eq_true (decide ((0 : Int) ≤ e.2.1) && decide (e.2.1 ≤ (3 : Int))) with c28 | c28
  ·
   rw [c28] at ha27
   refine cond_f ha27 rfl ?_
   refine wp_skip ?_
   refine then_n ?_
   refine wp_seq ?_
   refine wp_seq ?_
   refine wp_region_lit ?_
   refine wl_val ha27 rfl rfl rfl (op_fieldAddr (sz := 0) ha27 rfl Try.underlying41 rfl rfl ti2 rfl) ?_
   intro a29 ha29; clear ha27 a27
   refine wl_val ha29 rfl rfl rfl (op_loadF (off := 1) ha29 rfl Try.underlying2 rfl rfl hb4.cells rfl) ?_
   intro a30 ha30; clear ha29 a29
   refine wl_val ha30 rfl rfl rfl (op_eql ha30 rfl rfl rfl) ?_
   intro a31 ha31; clear ha30 a30
   refine wpList_nil ?_
   refine then_n ?_
   by_cases c32 : e.2.1 = (3 : Int)
   ·
    rw [decide_eq_true c32] at ha31
    refine cond_t ha31 rfl ?_
    refine wp_seq ?_
    refine wp_region_lit ?_
    refine wl_val ha31 rfl rfl rfl (op_fieldAddr (sz := 0) ha31 rfl Try.underlying41 rfl rfl ti9 rfl) ?_
    intro a33 ha33; clear ha31 a31
    refine wl_val ha33 rfl rfl rfl (op_loadF (off := 2) ha33 rfl Try.underlying9 rfl rfl hb4.cells rfl) ?_
    intro a34 ha34; clear ha33 a33
    refine wl_val ha34 rfl rfl rfl (op_seql ha34 rfl rfl rfl) ?_
    intro a35 ha35; clear ha34 a34
    refine wl_val ha35 rfl rfl rfl (op_move ha35 rfl rfl) ?_
    intro a36 ha36; clear ha35 a35
    by_cases c37 : e.2.2.1 = ([] : Str)
    ·
     rw [decide_eq_true c37] at ha36
     refine wl_val ha36 rfl rfl rfl (op_fieldAddr (sz := 0) ha36 rfl Try.underlying41 rfl rfl ti2 rfl) ?_
     intro a38 ha38; clear ha36 a36
     refine wl_val ha38 rfl rfl rfl (op_loadF (off := 3) ha38 rfl Try.underlying2 rfl rfl hb4.cells rfl) ?_
     intro a39 ha39; clear ha38 a38
     refine wl_val ha39 rfl rfl rfl (op_eql ha39 rfl rfl rfl) ?_
     intro a40 ha40; clear ha39 a39
     refine wl_val ha40 rfl rfl rfl (op_pick_t ha40 rfl rfl rfl) ?_
     intro a41 ha41; clear ha40 a40
     refine wl_val ha41 rfl rfl rfl (op_assign ha41 rfl rfl) ?_
     intro a42 ha42; clear ha41 a41
     refine wpList_nil ?_
     refine then_n ?_
     refine wp_ret ?_
     refine then_r ?_
     refine ret1 ha42 rfl rfl ?_
     clear ha42 a42
     exact ret_mk hx25 (congrArg Value.bool (by first | (simp [entB, c18, c28, c32, c37]; done) | (simp [entB, c18, c28, c32, c37]; omega) | first | (simp [entB, dateB, c18, c28, c32, c37]; done) | (simp [entB, dateB, c18, c28, c32, c37]; omega) | (rw [Bool.eq_iff_iff]; simp [entB, dateB, c18, c28, c32, c37]; done) | (rw [Bool.eq_iff_iff]; simp [entB, dateB, c18, c28, c32, c37]; omega)))
    ·
     rw [decide_eq_false c37] at ha36
     refine wl_skip ha36 rfl rfl rfl ?_
     intro a43 ha43; clear ha36 a36
     refine wl_skip ha43 rfl rfl rfl ?_
     intro a44 ha44; clear ha43 a43
     refine wl_skip ha44 rfl rfl rfl ?_
     intro a45 ha45; clear ha44 a44
     refine wl_val ha45 rfl rfl rfl (op_pick_f ha45 rfl rfl rfl) ?_
     intro a46 ha46; clear ha45 a45
     refine wl_val ha46 rfl rfl rfl (op_assign ha46 rfl rfl) ?_
     intro a47 ha47; clear ha46 a46
     refine wpList_nil ?_
     refine then_n ?_
     refine wp_ret ?_
     refine then_r ?_
     refine ret1 ha47 rfl rfl ?_
     clear ha47 a47
     exact ret_mk hx25 (congrArg Value.bool (by first | (simp [entB, c18, c28, c32, c37]; done) | (simp [entB, c18, c28, c32, c37]; omega) | first | (simp [entB, dateB, c18, c28, c32, c37]; done) | (simp [entB, dateB, c18, c28, c32, c37]; omega) | (rw [Bool.eq_iff_iff]; simp [entB, dateB, c18, c28, c32, c37]; done) | (rw [Bool.eq_iff_iff]; simp [entB, dateB, c18, c28, c32, c37]; omega)))
   ·
    rw [decide_eq_false c32] at ha31
    refine cond_f ha31 rfl ?_
    refine wp_skip ?_
    refine then_n ?_
    refine wp_seq ?_
    refine wp_region_lit ?_
    refine wl_val ha31 rfl rfl rfl (op_fieldAddr (sz := 0) ha31 rfl Try.underlying41 rfl rfl ti9 rfl) ?_
    intro a48 ha48; clear ha31 a31
    refine wl_val ha48 rfl rfl rfl (op_loadF (off := 2) ha48 rfl Try.underlying9 rfl rfl hb4.cells rfl) ?_
    intro a49 ha49; clear ha48 a48
    refine wl_callR ha49 rfl rfl rfl (op_call ha49 rfl cb61 rfl) (c_spec_IsWord _ e.2.2.1 (by first | assumption | omega | (simp; omega) | (simp [mkN_length]; omega))) ?_
    rintro v50 w51 he52 rfl a53 ha53; clear ha49 a49
    have hx54 := hx25.trans' he52
    have hzhx54 := he52.size
    replace hb4 := hb4.ext he52
    refine wl_val ha53 rfl rfl rfl (op_move ha53 rfl rfl) ?_
    intro a55 ha55; clear ha53 a53
    rcases Bool.eq_false_or_eq_true (wordB e.2.2.1) with c56 | c56
    ·
     rw [c56] at ha55
     refine wl_val ha55 rfl rfl rfl (op_fieldAddr (sz := 0) ha55 rfl Try.underlying41 rfl rfl ti2 rfl) ?_
     intro a57 ha57; clear ha55 a55
     refine wl_val ha57 rfl rfl rfl (op_loadF (off := 3) ha57 rfl Try.underlying2 rfl rfl hb4.cells rfl) ?_
     intro a58 ha58; clear ha57 a57
     refine wl_callR ha58 rfl rfl rfl (op_call ha58 rfl cb75 rfl) (c_spec_l01In _ e.2.2.2 (1 : Int) (10000000 : Int) ) ?_
     rintro v59 w60 he61 rfl a62 ha62; clear ha58 a58
     have hx63 := hx54.trans' he61
     have hzhx63 := he61.size
     replace hb4 := hb4.ext he61
     refine wl_val ha62 rfl rfl rfl (op_pick_t ha62 rfl rfl rfl) ?_
     intro a64 ha64; clear ha62 a62
     refine wl_val ha64 rfl rfl rfl (op_assign ha64 rfl rfl) ?_
     intro a65 ha65; clear ha64 a64
     refine wpList_nil ?_
     refine then_n ?_
     refine wp_ret ?_
     refine ret1 ha65 rfl rfl ?_
     clear ha65 a65
     exact ret_mk hx63 (congrArg Value.bool (by first | (simp [entB, c18, c28, c32, c56]; done) | (simp [entB, c18, c28, c32, c56]; omega) | first | (simp [entB, dateB, c18, c28, c32, c56]; done) | (simp [entB, dateB, c18, c28, c32, c56]; omega) | (rw [Bool.eq_iff_iff]; simp [entB, dateB, c18, c28, c32, c56]; done) | (rw [Bool.eq_iff_iff]; simp [entB, dateB, c18, c28, c32, c56]; omega)))
    ·
     rw [c56] at ha55
     refine wl_skip ha55 rfl rfl rfl ?_
     intro a66 ha66; clear ha55 a55
     refine wl_skip ha66 rfl rfl rfl ?_
     intro a67 ha67; clear ha66 a66
     refine wl_skip ha67 rfl rfl rfl ?_
     intro a68 ha68; clear ha67 a67
     refine wl_val ha68 rfl rfl rfl (op_pick_f ha68 rfl rfl rfl) ?_
     intro a69 ha69; clear ha68 a68
     refine wl_val ha69 rfl rfl rfl (op_assign ha69 rfl rfl) ?_
     intro a70 ha70; clear ha69 a69
     refine wpList_nil ?_
     refine then_n ?_
     refine wp_ret ?_
     refine ret1 ha70 rfl rfl ?_
     clear ha70 a70
     exact ret_mk hx54 (congrArg Value.bool (by first | (simp [entB, c18, c28, c32, c56]; done) | (simp [entB, c18, c28, c32, c56]; omega) | first | (simp [entB, dateB, c18, c28, c32, c56]; done) | (simp [entB, dateB, c18, c28, c32, c56]; omega) | (rw [Bool.eq_iff_iff]; simp [entB, dateB, c18, c28, c32, c56]; done) | (rw [Bool.eq_iff_iff]; simp [entB, dateB, c18, c28, c32, c56]; omega)))
  ·
   rw [c28] at ha27
   refine cond_t ha27 rfl ?_
   refine wp_seq ?_
   refine wp_region_lit ?_
   refine wl_val ha27 rfl rfl rfl (op_assign ha27 rfl rfl) ?_
   intro a71 ha71; clear ha27 a27
   refine wpList_nil ?_
   refine then_n ?_
   refine wp_ret ?_
   refine then_r ?_
   refine ret1 ha71 rfl rfl ?_
   clear ha71 a71
   exact ret_mk hx25 (congrArg Value.bool (by first | (simp [entB, c18, c28]; done) | (simp [entB, c18, c28]; omega) | first | (simp [entB, dateB, c18, c28]; done) | (simp [entB, dateB, c18, c28]; omega) | (rw [Bool.eq_iff_iff]; simp [entB, dateB, c18, c28]; done) | (rw [Bool.eq_iff_iff]; simp [entB, dateB, c18, c28]; omega)))
 ·
  rw [c18] at ha17
  refine wl_skip ha17 rfl rfl rfl ?_
  intro a72 ha72; clear ha17 a17
  refine wl_skip ha72 rfl rfl rfl ?_
  intro a73 ha73; clear ha72 a72
  refine wl_skip ha73 rfl rfl rfl ?_
  intro a74 ha74; clear ha73 a73
  refine wl_skip ha74 rfl rfl rfl ?_
  intro a75 ha75; clear ha74 a74
  refine wl_val ha75 rfl rfl rfl (op_pick_t ha75 rfl rfl rfl) ?_
  intro a76 ha76; clear ha75 a75
  refine wpList_nil ?_
  refine then_n ?_
  refine cond_t ha76 rfl ?_
  refine wp_seq ?_
  refine wp_region_lit ?_
  refine wl_val ha76 rfl rfl rfl (op_assign ha76 rfl rfl) ?_
  intro a77 ha77; clear ha76 a76
  refine wpList_nil ?_
  refine then_n ?_
  refine wp_ret ?_
  refine then_r ?_
  refine ret1 ha77 rfl rfl ?_
  clear ha77 a77
  exact ret_mk hx15 (congrArg Value.bool (by first | (simp [entB, c18]; done) | (simp [entB, c18]; omega) | first | (simp [entB, dateB, c18]; done) | (simp [entB, dateB, c18]; omega) | (rw [Bool.eq_iff_iff]; simp [entB, dateB, c18]; done) | (rw [Bool.eq_iff_iff]; simp [entB, dateB, c18]; omega)))

theorem c_impl_owesOf (w0 : World) (v_list : Value) (list : List (Int × Int × Str × Int)) {S_list : Nat → Prop} (name : Str) (h_list : Rds shEnt S_list w0 v_list list) (g0 : ∀ e ∈ list, entB e = true) (g1 : list.length ≤ 1048576) :
  Calls Try.prog 59 #[v_list, St name] w0 (Ret w0 (fun v _ => v = .int .i64 (owS name list))) := by
 refine enter (N := 34) Try.func59 rfl rfl rfl ?_
 intro a0 ha0
 have hx0 := Ext.rfl' w0
 have hl_list := h_list.length_le
 refine wp_seq ?_
 refine wp_region_lit ?_
 refine wl_val ha0 rfl rfl rfl (op_assign ha0 rfl rfl) ?_
 intro a1 ha1; clear ha0 a0
 refine wpList_nil ?_
 refine then_n ?_
 refine wp_seq ?_
 refine wp_region_lit ?_
 refine wl_val ha1 rfl rfl rfl (op_assign ha1 rfl rfl) ?_
 intro a2 ha2; clear ha1 a1
 refine wpList_nil ?_
 refine then_n ?_
 refine wp_seq ?_
 refine wp_seq ?_
 refine wp_region_lit ?_
 refine wl_val ha2 rfl rfl rfl (op_move ha2 rfl rfl) ?_
 intro a3 ha3; clear ha2 a2
 refine wl_val ha3 rfl rfl rfl (op_len_sl ha3 rfl Try.underlying25 rfl h_list) ?_
 intro a4 ha4; clear ha3 a3
 refine wl_val ha4 rfl rfl rfl (op_move ha4 rfl rfl) ?_
 intro a5 ha5; clear ha4 a4
 refine wpList_nil ?_
 refine then_n ?_
 refine wp_block ?_
 refine loop_inv (X := Nat × Int) (fun (⟨i, q⟩ : Nat × Int) fr wl => Sl 34 fr [(1, St name), (5, .int .i64 q), (8, v_list), (9, .int .i64 ((list.length : Nat) : Int)), (10, .int .i64 ((i : Nat) : Int))] ∧ Ext w0 wl ∧ w0.heap.size ≤ wl.heap.size ∧ (i ≤ list.length) ∧ (-10000000 * (i : Int) ≤ q) ∧ (q ≤ 10000000 * (i : Int)) ∧ (q + sumI (owE name) (list.drop i) = owS name list)) (fun (⟨i, q⟩ : Nat × Int) => list.length - i) (0, (0 : Int)) ?_ ?_
 ·
  exact ⟨(Sl.cons_ ha5 rfl rfl (Sl.cons_ ha5 rfl (int_eq (by omega)) (Sl.cons_ ha5 rfl rfl (Sl.cons_ ha5 rfl rfl (Sl.cons_ ha5 rfl (int_eq (by omega)) (Sl.nil_ ha5)))))), hx0, (by omega), (by omega), (by omega), (by omega), (by simp)⟩
 ·
  clear ha5 a5
  rintro ⟨i, q⟩ a8 w6 ⟨ha8, hx7, hzl9, hi, hq0, hq1, hF⟩
  have hzhx7 := hx7.size
  refine wp_seq ?_
  refine wp_region_lit ?_
  refine wl_val ha8 rfl rfl rfl (op_lss ha8 rfl rfl rfl) ?_
  intro a10 ha10; clear ha8 a8
  refine wpList_nil ?_
  refine then_n ?_
  refine wp_seq ?_
  by_cases c11 : ((i : Nat) : Int) < ((list.length : Nat) : Int)
  ·
   rw [decide_eq_true c11] at ha10
   refine cond_t ha10 rfl ?_
   refine wp_skip ?_
   refine then_n ?_
   refine wp_seq ?_
   refine wp_block ?_
   refine wp_seq ?_
   refine wp_region_lit ?_
   obtain ⟨x12, hx12⟩ := get_ex (xs := list) (j := i) (by omega)
   obtain ⟨p13, c14, hi15, hc16, hr17, hs18⟩ := Rds.at_ h_list hx12
   obtain ⟨rfl, b19, b20, b21, b22⟩ := inv_shEnt hr17
   have hbx12 := ent_bd (g0 _ (List.mem_of_getElem? hx12))
   refine wl_val ha10 rfl rfl rfl (op_indexAddr ha10 rfl Try.underlying25 ti41 rfl rfl (by omega) hi15) ?_
   intro a23 ha23; clear ha10 a10
   refine wl_val ha23 rfl rfl rfl (op_loadS ha23 rfl Try.underlying41 ti41 rfl rfl (hc16.ext hx7)) ?_
   intro a24 ha24; clear ha23 a23
   refine wl_eff ha24 rfl rfl rfl (op_alloc' rfl ti41 rfl) ?_
   rintro _ w26 ⟨rfl, he27, hb28, hz29⟩ a30 ha30; clear ha24 a24
   have hx31 := hx7.trans' he27
   have hzhx31 := he27.size
   refine wl_effS ha30 rfl rfl (op_storeAll' ha30 rfl ti41 rfl rfl hb28 rfl rfl (by simp [Value.oneCell']) rfl) ?_
   rintro w32 ⟨hb34, hst33, hz35⟩
   have hx36 := hx31.stp hst33 (by intro q hq; cases hq; exact (by omega))
   have hzhx36 := hst33.size
   clear hb28
   refine wpList_nil ?_
   refine then_n ?_
   refine wp_seq ?_
   refine wp_seq ?_
   refine wp_region_lit ?_
   refine wl_val ha30 rfl rfl rfl (op_fieldAddr (sz := 0) ha30 rfl Try.underlying41 rfl rfl ti9 rfl) ?_
   intro a37 ha37; clear ha30 a30
   refine wl_val ha37 rfl rfl rfl (op_loadF (off := 2) ha37 rfl Try.underlying9 rfl rfl hb34.cells rfl) ?_
   intro a38 ha38; clear ha37 a37
   refine wl_val ha38 rfl rfl rfl (op_move ha38 rfl rfl) ?_
   intro a39 ha39; clear ha38 a38
   refine wl_val ha39 rfl rfl rfl ((op_sneq ha39 rfl rfl rfl).to (congrArg Value.bool decide_not)) ?_
   intro a40 ha40; clear ha39 a39
   refine wpList_nil ?_
   refine then_n ?_
   by_cases c41 : x12.2.2.1 = name
   ·
    rw [decide_eq_true c41] at ha40
    refine cond_f ha40 rfl ?_
    refine wp_skip ?_
    refine then_n ?_
    refine wp_seq ?_
    refine wp_region_lit ?_
    refine wl_val ha40 rfl rfl rfl (op_fieldAddr (sz := 0) ha40 rfl Try.underlying41 rfl rfl ti2 rfl) ?_
    intro a42 ha42; clear ha40 a40
    refine wl_val ha42 rfl rfl rfl (op_loadF (off := 1) ha42 rfl Try.underlying2 rfl rfl hb34.cells rfl) ?_
    intro a43 ha43; clear ha42 a42
    refine wpList_nil ?_
    refine then_n ?_
    refine wp_block ?_
    refine wp_seq ?_
    refine wp_region_lit ?_
    refine wl_val ha43 rfl rfl rfl (op_eql ha43 rfl rfl rfl) ?_
    intro a44 ha44; clear ha43 a43
    refine wl_val ha44 rfl rfl rfl (op_assign ha44 rfl rfl) ?_
    intro a45 ha45; clear ha44 a44
    refine wpList_nil ?_
    refine then_n ?_
    by_cases c46 : x12.2.1 = (0 : Int)
    ·
     rw [decide_eq_true c46] at ha45
     refine cond_t ha45 rfl ?_
     refine wp_region_lit ?_
     refine wl_val ha45 rfl rfl rfl (op_move ha45 rfl rfl) ?_
     intro a47 ha47; clear ha45 a45
     refine wl_val ha47 rfl rfl rfl (op_fieldAddr (sz := 0) ha47 rfl Try.underlying41 rfl rfl ti2 rfl) ?_
     intro a48 ha48; clear ha47 a47
     refine wl_val ha48 rfl rfl rfl (op_loadF (off := 3) ha48 rfl Try.underlying2 rfl rfl hb34.cells rfl) ?_
     intro a49 ha49; clear ha48 a48
     refine wl_val ha49 rfl rfl rfl ((op_add ha49 rfl rfl rfl).int (IntWalk.i64_in _ (by omega))) ?_
     intro a50 ha50; clear ha49 a49
     refine wl_val ha50 rfl rfl rfl (op_assign ha50 rfl rfl) ?_
     intro a51 ha51; clear ha50 a50
     refine wpList_nil ?_
     refine block_n ?_
     refine block_n ?_
     refine then_n ?_
     refine wp_region_lit ?_
     refine wl_val ha51 rfl rfl rfl ((op_add ha51 rfl rfl rfl).int (IntWalk.i64_in _ (by omega))) ?_
     intro a52 ha52; clear ha51 a51
     refine wl_val ha52 rfl rfl rfl (op_move ha52 rfl rfl) ?_
     intro a53 ha53; clear ha52 a52
     refine wpList_nil ?_
     refine round_end (x := (i, q)) ((i + 1), (q + x12.2.2.2)) ?_ ?_
     ·
      refine ⟨(Sl.cons_ ha53 rfl rfl (Sl.cons_ ha53 rfl (int_eq (by omega)) (Sl.cons_ ha53 rfl rfl (Sl.cons_ ha53 rfl rfl (Sl.cons_ ha53 rfl (int_eq (by omega)) (Sl.nil_ ha53)))))), hx36, (by omega), (by omega), (by omega), (by omega), (by rw [drop_cons hx12, sumI] at hF; have e := owE_def name x12; simp [c11, c41, c46] at e; omega)⟩
     ·show (list.length - ((i + 1)) : Nat) < list.length - i; omega
    ·
     rw [decide_eq_false c46] at ha45
     refine cond_f ha45 rfl ?_
     refine wp_seq ?_
     refine wp_region_lit ?_
     refine wl_val ha45 rfl rfl rfl (op_eql ha45 rfl rfl rfl) ?_
     intro a54 ha54; clear ha45 a45
     refine wl_val ha54 rfl rfl rfl (op_assign ha54 rfl rfl) ?_
     intro a55 ha55; clear ha54 a54
     refine wpList_nil ?_
     refine then_n ?_
     by_cases c56 : x12.2.1 = (1 : Int)
     ·
      rw [decide_eq_true c56] at ha55
      refine cond_t ha55 rfl ?_
      refine wp_region_lit ?_
      refine wl_val ha55 rfl rfl rfl (op_move ha55 rfl rfl) ?_
      intro a57 ha57; clear ha55 a55
      refine wl_val ha57 rfl rfl rfl (op_fieldAddr (sz := 0) ha57 rfl Try.underlying41 rfl rfl ti2 rfl) ?_
      intro a58 ha58; clear ha57 a57
      refine wl_val ha58 rfl rfl rfl (op_loadF (off := 3) ha58 rfl Try.underlying2 rfl rfl hb34.cells rfl) ?_
      intro a59 ha59; clear ha58 a58
      refine wl_val ha59 rfl rfl rfl ((op_sub ha59 rfl rfl rfl).int (IntWalk.i64_in _ (by omega))) ?_
      intro a60 ha60; clear ha59 a59
      refine wl_val ha60 rfl rfl rfl (op_assign ha60 rfl rfl) ?_
      intro a61 ha61; clear ha60 a60
      refine wpList_nil ?_
      refine block_n ?_
      refine block_n ?_
      refine then_n ?_
      refine wp_region_lit ?_
      refine wl_val ha61 rfl rfl rfl ((op_add ha61 rfl rfl rfl).int (IntWalk.i64_in _ (by omega))) ?_
      intro a62 ha62; clear ha61 a61
      refine wl_val ha62 rfl rfl rfl (op_move ha62 rfl rfl) ?_
      intro a63 ha63; clear ha62 a62
      refine wpList_nil ?_
      refine round_end (x := (i, q)) ((i + 1), (q - x12.2.2.2)) ?_ ?_
      ·
       refine ⟨(Sl.cons_ ha63 rfl rfl (Sl.cons_ ha63 rfl (int_eq (by omega)) (Sl.cons_ ha63 rfl rfl (Sl.cons_ ha63 rfl rfl (Sl.cons_ ha63 rfl (int_eq (by omega)) (Sl.nil_ ha63)))))), hx36, (by omega), (by omega), (by omega), (by omega), (by rw [drop_cons hx12, sumI] at hF; have e := owE_def name x12; simp [c11, c41, c46, c56] at e; omega)⟩
      ·show (list.length - ((i + 1)) : Nat) < list.length - i; omega
     ·
      rw [decide_eq_false c56] at ha55
      refine cond_f ha55 rfl ?_
      refine wp_skip ?_
      refine block_n ?_
      refine block_n ?_
      refine then_n ?_
      refine wp_region_lit ?_
      refine wl_val ha55 rfl rfl rfl ((op_add ha55 rfl rfl rfl).int (IntWalk.i64_in _ (by omega))) ?_
      intro a64 ha64; clear ha55 a55
      refine wl_val ha64 rfl rfl rfl (op_move ha64 rfl rfl) ?_
      intro a65 ha65; clear ha64 a64
      refine wpList_nil ?_
      refine round_end (x := (i, q)) ((i + 1), q) ?_ ?_
      ·
       refine ⟨(Sl.cons_ ha65 rfl rfl (Sl.cons_ ha65 rfl (int_eq (by omega)) (Sl.cons_ ha65 rfl rfl (Sl.cons_ ha65 rfl rfl (Sl.cons_ ha65 rfl (int_eq (by omega)) (Sl.nil_ ha65)))))), hx36, (by omega), (by omega), (by omega), (by omega), (by rw [drop_cons hx12, sumI] at hF; have e := owE_def name x12; simp [c11, c41, c46, c56] at e; omega)⟩
      ·show (list.length - ((i + 1)) : Nat) < list.length - i; omega
   ·
    rw [decide_eq_false c41] at ha40
    refine cond_t ha40 rfl ?_
    refine wp_exit ?_
    refine then_e ?_
    refine block_hit ?_
    refine then_n ?_
    refine wp_region_lit ?_
    refine wl_val ha40 rfl rfl rfl ((op_add ha40 rfl rfl rfl).int (IntWalk.i64_in _ (by omega))) ?_
    intro a66 ha66; clear ha40 a40
    refine wl_val ha66 rfl rfl rfl (op_move ha66 rfl rfl) ?_
    intro a67 ha67; clear ha66 a66
    refine wpList_nil ?_
    refine round_end (x := (i, q)) ((i + 1), q) ?_ ?_
    ·
     refine ⟨(Sl.cons_ ha67 rfl rfl (Sl.cons_ ha67 rfl (int_eq (by omega)) (Sl.cons_ ha67 rfl rfl (Sl.cons_ ha67 rfl rfl (Sl.cons_ ha67 rfl (int_eq (by omega)) (Sl.nil_ ha67)))))), hx36, (by omega), (by omega), (by omega), (by omega), (by rw [drop_cons hx12, sumI] at hF; have e := owE_def name x12; simp [c11, c41] at e; omega)⟩
    ·show (list.length - ((i + 1)) : Nat) < list.length - i; omega
  ·
   rw [decide_eq_false c11] at ha10
   refine cond_f ha10 rfl ?_
   refine wp_exit ?_
   refine then_e ?_
   refine then_e ?_
   refine block_hit ?_
   refine then_n ?_
   refine wp_seq ?_
   refine wp_region_lit ?_
   refine wl_val ha10 rfl rfl rfl (op_move ha10 rfl rfl) ?_
   intro a68 ha68; clear ha10 a10
   refine wl_val ha68 rfl rfl rfl (op_assign ha68 rfl rfl) ?_
   intro a69 ha69; clear ha68 a68
   refine wpList_nil ?_
   refine then_n ?_
   refine wp_ret ?_
   refine ret1 ha69 rfl rfl ?_
   clear ha69 a69
   exact ret_mk hx7 (int_eq (by rw [drop_nil (by omega), sumI] at hF; omega))

theorem c_spec_l33Owes (w0 : World) (v_list : Value) (list : List (Int × Int × Str × Int)) {S_list : Nat → Prop} (name : Str) (h_list : Rds shEnt S_list w0 v_list list) (g0 : ∀ e ∈ list, entB e = true) (g1 : list.length ≤ 1048576) :
  Calls Try.prog 57 #[v_list, St name] w0 (Ret w0 (fun v _ => v = .int .i64 (owS name list))) := by
 refine enter (N := 50) Try.func57 rfl rfl rfl ?_
 intro a0 ha0
 have hx0 := Ext.rfl' w0
 have hl_list := h_list.length_le
 refine wp_seq ?_
 refine wp_region_lit ?_
 refine wl_val ha0 rfl rfl rfl (op_assign ha0 rfl rfl) ?_
 intro a1 ha1; clear ha0 a0
 refine wpList_nil ?_
 refine then_n ?_
 refine wp_seq ?_
 refine wp_region_lit ?_
 refine wl_val ha1 rfl rfl rfl (op_assign ha1 rfl rfl) ?_
 intro a2 ha2; clear ha1 a1
 refine wpList_nil ?_
 refine then_n ?_
 refine wp_seq ?_
 refine wp_seq ?_
 refine wp_region_lit ?_
 refine wl_val ha2 rfl rfl rfl (op_assign ha2 rfl rfl) ?_
 intro a3 ha3; clear ha2 a2
 refine wpList_nil ?_
 refine then_n ?_
 refine wp_block ?_
 refine loop_inv (X := Nat × Int) (fun (⟨i, q⟩ : Nat × Int) fr wl => Sl 50 fr [(0, v_list), (1, St name), (5, .int .i64 q), (6, .int .i64 ((i : Nat) : Int))] ∧ Ext w0 wl ∧ w0.heap.size ≤ wl.heap.size ∧ (i ≤ list.length) ∧ (-10000000 * (i : Int) ≤ q) ∧ (q ≤ 10000000 * (i : Int)) ∧ (q + sumI (owE name) (list.drop i) = owS name list)) (fun (⟨i, q⟩ : Nat × Int) => list.length - i) (0, (0 : Int)) ?_ ?_
 ·
  exact ⟨(Sl.cons_ ha3 rfl rfl (Sl.cons_ ha3 rfl rfl (Sl.cons_ ha3 rfl (int_eq (by omega)) (Sl.cons_ ha3 rfl (int_eq (by omega)) (Sl.nil_ ha3))))), hx0, (by omega), (by omega), (by omega), (by omega), (by simp)⟩
 ·
  clear ha3 a3
  rintro ⟨i, q⟩ a6 w4 ⟨ha6, hx5, hzl7, hi, hq0, hq1, hF⟩
  have hzhx5 := hx5.size
  refine wp_seq ?_
  refine wp_seq ?_
  refine wp_region_lit ?_
  refine wl_val ha6 rfl rfl rfl (op_move ha6 rfl rfl) ?_
  intro a8 ha8; clear ha6 a6
  refine wl_val ha8 rfl rfl rfl (op_move ha8 rfl rfl) ?_
  intro a9 ha9; clear ha8 a8
  refine wl_val ha9 rfl rfl rfl (op_len_sl ha9 rfl Try.underlying25 rfl h_list) ?_
  intro a10 ha10; clear ha9 a9
  refine wl_val ha10 rfl rfl rfl (op_lss ha10 rfl rfl rfl) ?_
  intro a11 ha11; clear ha10 a10
  refine wpList_nil ?_
  refine then_n ?_
  by_cases c12 : ((i : Nat) : Int) < ((list.length : Nat) : Int)
  ·
   rw [decide_eq_true c12] at ha11
   refine cond_t ha11 rfl ?_
   refine wp_skip ?_
   refine then_n ?_
   refine wp_seq ?_
   refine wp_block ?_
   refine wp_block ?_
   refine wp_seq ?_
   refine wp_region_lit ?_
   refine wl_val ha11 rfl rfl rfl (op_move ha11 rfl rfl) ?_
   intro a13 ha13; clear ha11 a11
   refine wl_val ha13 rfl rfl rfl (op_move ha13 rfl rfl) ?_
   intro a14 ha14; clear ha13 a13
   obtain ⟨x15, hx15⟩ := get_ex (xs := list) (j := i) (by omega)
   obtain ⟨p16, c17, hi18, hc19, hr20, hs21⟩ := Rds.at_ h_list hx15
   obtain ⟨rfl, b22, b23, b24, b25⟩ := inv_shEnt hr20
   have hbx15 := ent_bd (g0 _ (List.mem_of_getElem? hx15))
   refine wl_val ha14 rfl rfl rfl (op_indexAddr ha14 rfl Try.underlying25 ti41 rfl rfl (by omega) hi18) ?_
   intro a26 ha26; clear ha14 a14
   refine wl_val ha26 rfl rfl rfl (op_fieldAddr (sz := 0) ha26 rfl Try.underlying41 rfl rfl ti9 rfl) ?_
   intro a27 ha27; clear ha26 a26
   refine wl_val ha27 rfl rfl rfl (op_loadF (off := 2) ha27 rfl Try.underlying9 rfl rfl (hc19.ext hx5) rfl) ?_
   intro a28 ha28; clear ha27 a27
   refine wl_val ha28 rfl rfl rfl (op_move ha28 rfl rfl) ?_
   intro a29 ha29; clear ha28 a28
   refine wl_val ha29 rfl rfl rfl ((op_sneq ha29 rfl rfl rfl).to (congrArg Value.bool decide_not)) ?_
   intro a30 ha30; clear ha29 a29
   refine wl_val ha30 rfl rfl rfl (op_assign ha30 rfl rfl) ?_
   intro a31 ha31; clear ha30 a30
   refine wpList_nil ?_
   refine then_n ?_
   by_cases c32 : x15.2.2.1 = name
   ·
    rw [decide_eq_true c32] at ha31
    refine cond_f ha31 rfl ?_
    refine wp_seq ?_
    refine wp_region_lit ?_
    refine wl_val ha31 rfl rfl rfl (op_move ha31 rfl rfl) ?_
    intro a33 ha33; clear ha31 a31
    refine wl_val ha33 rfl rfl rfl (op_move ha33 rfl rfl) ?_
    intro a34 ha34; clear ha33 a33
    refine wl_val ha34 rfl rfl rfl (op_indexAddr ha34 rfl Try.underlying25 ti41 rfl rfl (by omega) hi18) ?_
    intro a35 ha35; clear ha34 a34
    refine wl_val ha35 rfl rfl rfl (op_fieldAddr (sz := 0) ha35 rfl Try.underlying41 rfl rfl ti2 rfl) ?_
    intro a36 ha36; clear ha35 a35
    refine wl_val ha36 rfl rfl rfl (op_loadF (off := 1) ha36 rfl Try.underlying2 rfl rfl (hc19.ext hx5) rfl) ?_
    intro a37 ha37; clear ha36 a36
    refine wl_val ha37 rfl rfl rfl (op_eql ha37 rfl rfl rfl) ?_
    intro a38 ha38; clear ha37 a37
    refine wl_val ha38 rfl rfl rfl (op_assign ha38 rfl rfl) ?_
    intro a39 ha39; clear ha38 a38
    refine wpList_nil ?_
    refine then_n ?_
    by_cases c40 : x15.2.1 = (0 : Int)
    ·
     rw [decide_eq_true c40] at ha39
     refine cond_t ha39 rfl ?_
     refine wp_region_lit ?_
     refine wl_val ha39 rfl rfl rfl (op_move ha39 rfl rfl) ?_
     intro a41 ha41; clear ha39 a39
     refine wl_val ha41 rfl rfl rfl (op_move ha41 rfl rfl) ?_
     intro a42 ha42; clear ha41 a41
     refine wl_val ha42 rfl rfl rfl (op_move ha42 rfl rfl) ?_
     intro a43 ha43; clear ha42 a42
     refine wl_val ha43 rfl rfl rfl (op_indexAddr ha43 rfl Try.underlying25 ti41 rfl rfl (by omega) hi18) ?_
     intro a44 ha44; clear ha43 a43
     refine wl_val ha44 rfl rfl rfl (op_fieldAddr (sz := 0) ha44 rfl Try.underlying41 rfl rfl ti2 rfl) ?_
     intro a45 ha45; clear ha44 a44
     refine wl_val ha45 rfl rfl rfl (op_loadF (off := 3) ha45 rfl Try.underlying2 rfl rfl (hc19.ext hx5) rfl) ?_
     intro a46 ha46; clear ha45 a45
     refine wl_val ha46 rfl rfl rfl ((op_add ha46 rfl rfl rfl).int (IntWalk.i64_in _ (by omega))) ?_
     intro a47 ha47; clear ha46 a46
     refine wl_val ha47 rfl rfl rfl (op_assign ha47 rfl rfl) ?_
     intro a48 ha48; clear ha47 a47
     refine wpList_nil ?_
     refine block_n ?_
     refine block_n ?_
     refine then_n ?_
     refine wp_region_lit ?_
     refine wl_val ha48 rfl rfl rfl (op_move ha48 rfl rfl) ?_
     intro a49 ha49; clear ha48 a48
     refine wl_val ha49 rfl rfl rfl ((op_add ha49 rfl rfl rfl).int (IntWalk.i64_in _ (by omega))) ?_
     intro a50 ha50; clear ha49 a49
     refine wl_val ha50 rfl rfl rfl (op_assign ha50 rfl rfl) ?_
     intro a51 ha51; clear ha50 a50
     refine wpList_nil ?_
     refine round_end (x := (i, q)) ((i + 1), (q + x15.2.2.2)) ?_ ?_
     ·
      refine ⟨(Sl.cons_ ha51 rfl rfl (Sl.cons_ ha51 rfl rfl (Sl.cons_ ha51 rfl (int_eq (by omega)) (Sl.cons_ ha51 rfl (int_eq (by omega)) (Sl.nil_ ha51))))), hx5, (by omega), (by omega), (by omega), (by omega), (by rw [drop_cons hx15, sumI] at hF; have e := owE_def name x15; simp [c12, c32, c40] at e; omega)⟩
     ·show (list.length - ((i + 1)) : Nat) < list.length - i; omega
    ·
     rw [decide_eq_false c40] at ha39
     refine cond_f ha39 rfl ?_
     refine wp_seq ?_
     refine wp_region_lit ?_
     refine wl_val ha39 rfl rfl rfl (op_move ha39 rfl rfl) ?_
     intro a52 ha52; clear ha39 a39
     refine wl_val ha52 rfl rfl rfl (op_move ha52 rfl rfl) ?_
     intro a53 ha53; clear ha52 a52
     refine wl_val ha53 rfl rfl rfl (op_indexAddr ha53 rfl Try.underlying25 ti41 rfl rfl (by omega) hi18) ?_
     intro a54 ha54; clear ha53 a53
     refine wl_val ha54 rfl rfl rfl (op_fieldAddr (sz := 0) ha54 rfl Try.underlying41 rfl rfl ti2 rfl) ?_
     intro a55 ha55; clear ha54 a54
     refine wl_val ha55 rfl rfl rfl (op_loadF (off := 1) ha55 rfl Try.underlying2 rfl rfl (hc19.ext hx5) rfl) ?_
     intro a56 ha56; clear ha55 a55
     refine wl_val ha56 rfl rfl rfl (op_eql ha56 rfl rfl rfl) ?_
     intro a57 ha57; clear ha56 a56
     refine wl_val ha57 rfl rfl rfl (op_assign ha57 rfl rfl) ?_
     intro a58 ha58; clear ha57 a57
     refine wpList_nil ?_
     refine then_n ?_
     by_cases c59 : x15.2.1 = (1 : Int)
     ·
      rw [decide_eq_true c59] at ha58
      refine cond_t ha58 rfl ?_
      refine wp_region_lit ?_
      refine wl_val ha58 rfl rfl rfl (op_move ha58 rfl rfl) ?_
      intro a60 ha60; clear ha58 a58
      refine wl_val ha60 rfl rfl rfl (op_move ha60 rfl rfl) ?_
      intro a61 ha61; clear ha60 a60
      refine wl_val ha61 rfl rfl rfl (op_move ha61 rfl rfl) ?_
      intro a62 ha62; clear ha61 a61
      refine wl_val ha62 rfl rfl rfl (op_indexAddr ha62 rfl Try.underlying25 ti41 rfl rfl (by omega) hi18) ?_
      intro a63 ha63; clear ha62 a62
      refine wl_val ha63 rfl rfl rfl (op_fieldAddr (sz := 0) ha63 rfl Try.underlying41 rfl rfl ti2 rfl) ?_
      intro a64 ha64; clear ha63 a63
      refine wl_val ha64 rfl rfl rfl (op_loadF (off := 3) ha64 rfl Try.underlying2 rfl rfl (hc19.ext hx5) rfl) ?_
      intro a65 ha65; clear ha64 a64
      refine wl_val ha65 rfl rfl rfl ((op_sub ha65 rfl rfl rfl).int (IntWalk.i64_in _ (by omega))) ?_
      intro a66 ha66; clear ha65 a65
      refine wl_val ha66 rfl rfl rfl (op_assign ha66 rfl rfl) ?_
      intro a67 ha67; clear ha66 a66
      refine wpList_nil ?_
      refine block_n ?_
      refine block_n ?_
      refine then_n ?_
      refine wp_region_lit ?_
      refine wl_val ha67 rfl rfl rfl (op_move ha67 rfl rfl) ?_
      intro a68 ha68; clear ha67 a67
      refine wl_val ha68 rfl rfl rfl ((op_add ha68 rfl rfl rfl).int (IntWalk.i64_in _ (by omega))) ?_
      intro a69 ha69; clear ha68 a68
      refine wl_val ha69 rfl rfl rfl (op_assign ha69 rfl rfl) ?_
      intro a70 ha70; clear ha69 a69
      refine wpList_nil ?_
      refine round_end (x := (i, q)) ((i + 1), (q - x15.2.2.2)) ?_ ?_
      ·
       refine ⟨(Sl.cons_ ha70 rfl rfl (Sl.cons_ ha70 rfl rfl (Sl.cons_ ha70 rfl (int_eq (by omega)) (Sl.cons_ ha70 rfl (int_eq (by omega)) (Sl.nil_ ha70))))), hx5, (by omega), (by omega), (by omega), (by omega), (by rw [drop_cons hx15, sumI] at hF; have e := owE_def name x15; simp [c12, c32, c40, c59] at e; omega)⟩
      ·show (list.length - ((i + 1)) : Nat) < list.length - i; omega
     ·
      rw [decide_eq_false c59] at ha58
      refine cond_f ha58 rfl ?_
      refine wp_skip ?_
      refine block_n ?_
      refine block_n ?_
      refine then_n ?_
      refine wp_region_lit ?_
      refine wl_val ha58 rfl rfl rfl (op_move ha58 rfl rfl) ?_
      intro a71 ha71; clear ha58 a58
      refine wl_val ha71 rfl rfl rfl ((op_add ha71 rfl rfl rfl).int (IntWalk.i64_in _ (by omega))) ?_
      intro a72 ha72; clear ha71 a71
      refine wl_val ha72 rfl rfl rfl (op_assign ha72 rfl rfl) ?_
      intro a73 ha73; clear ha72 a72
      refine wpList_nil ?_
      refine round_end (x := (i, q)) ((i + 1), q) ?_ ?_
      ·
       refine ⟨(Sl.cons_ ha73 rfl rfl (Sl.cons_ ha73 rfl rfl (Sl.cons_ ha73 rfl (int_eq (by omega)) (Sl.cons_ ha73 rfl (int_eq (by omega)) (Sl.nil_ ha73))))), hx5, (by omega), (by omega), (by omega), (by omega), (by rw [drop_cons hx15, sumI] at hF; have e := owE_def name x15; simp [c12, c32, c40, c59] at e; omega)⟩
      ·show (list.length - ((i + 1)) : Nat) < list.length - i; omega
   ·
    rw [decide_eq_false c32] at ha31
    refine cond_t ha31 rfl ?_
    refine wp_skip ?_
    refine block_n ?_
    refine block_n ?_
    refine then_n ?_
    refine wp_region_lit ?_
    refine wl_val ha31 rfl rfl rfl (op_move ha31 rfl rfl) ?_
    intro a74 ha74; clear ha31 a31
    refine wl_val ha74 rfl rfl rfl ((op_add ha74 rfl rfl rfl).int (IntWalk.i64_in _ (by omega))) ?_
    intro a75 ha75; clear ha74 a74
    refine wl_val ha75 rfl rfl rfl (op_assign ha75 rfl rfl) ?_
    intro a76 ha76; clear ha75 a75
    refine wpList_nil ?_
    refine round_end (x := (i, q)) ((i + 1), q) ?_ ?_
    ·
     refine ⟨(Sl.cons_ ha76 rfl rfl (Sl.cons_ ha76 rfl rfl (Sl.cons_ ha76 rfl (int_eq (by omega)) (Sl.cons_ ha76 rfl (int_eq (by omega)) (Sl.nil_ ha76))))), hx5, (by omega), (by omega), (by omega), (by omega), (by rw [drop_cons hx15, sumI] at hF; have e := owE_def name x15; simp [c12, c32] at e; omega)⟩
    ·show (list.length - ((i + 1)) : Nat) < list.length - i; omega
  ·
   rw [decide_eq_false c12] at ha11
   refine cond_f ha11 rfl ?_
   refine wp_exit ?_
   refine then_e ?_
   refine then_e ?_
   refine block_hit ?_
   refine then_n ?_
   refine wp_seq ?_
   refine wp_region_lit ?_
   refine wl_val ha11 rfl rfl rfl (op_move ha11 rfl rfl) ?_
   intro a77 ha77; clear ha11 a11
   refine wl_val ha77 rfl rfl rfl (op_assign ha77 rfl rfl) ?_
   intro a78 ha78; clear ha77 a77
   refine wpList_nil ?_
   refine then_n ?_
   refine wp_ret ?_
   refine ret1 ha78 rfl rfl ?_
   clear ha78 a78
   exact ret_mk hx5 (int_eq (by rw [drop_nil (by omega), sumI] at hF; omega))

theorem c_impl_IsDayBook (w0 : World) (v_list : Value) (list : List (Int × Int × Str × Int)) {S_list : Nat → Prop} (h_list : Rds shEnt S_list w0 v_list list) (g0 : list.length ≤ 1048576) :
  Calls Try.prog 18 #[v_list] w0 (Ret w0 (fun v _ => v = .bool (dbB list))) := by
 refine enter (N := 57) Try.func18 rfl rfl rfl ?_
 intro a0 ha0
 have hx0 := Ext.rfl' w0
 have hl_list := h_list.length_le
 refine wp_seq ?_
 refine wp_region_lit ?_
 refine wl_val ha0 rfl rfl rfl (op_assign ha0 rfl rfl) ?_
 intro a1 ha1; clear ha0 a0
 refine wpList_nil ?_
 refine then_n ?_
 refine wp_seq ?_
 refine wp_seq ?_
 refine wp_region_lit ?_
 refine wl_val ha1 rfl rfl rfl (op_move ha1 rfl rfl) ?_
 intro a2 ha2; clear ha1 a1
 refine wl_val ha2 rfl rfl rfl (op_len_sl ha2 rfl Try.underlying25 rfl h_list) ?_
 intro a3 ha3; clear ha2 a2
 refine wl_val ha3 rfl rfl rfl (op_gtr ha3 rfl rfl rfl) ?_
 intro a4 ha4; clear ha3 a3
 refine wpList_nil ?_
 refine then_n ?_
 by_cases c5 : (60 : Int) < ((list.length : Nat) : Int)
 ·
  rw [decide_eq_true c5] at ha4
  refine cond_t ha4 rfl ?_
  refine wp_seq ?_
  refine wp_region_lit ?_
  refine wl_val ha4 rfl rfl rfl (op_assign ha4 rfl rfl) ?_
  intro a6 ha6; clear ha4 a4
  refine wpList_nil ?_
  refine then_n ?_
  refine wp_ret ?_
  refine then_r ?_
  refine ret1 ha6 rfl rfl ?_
  clear ha6 a6
  exact ret_mk hx0 (congrArg Value.bool (by rw [dbB_big (by omega)]))
 ·
  rw [decide_eq_false c5] at ha4
  refine cond_f ha4 rfl ?_
  refine wp_skip ?_
  refine then_n ?_
  refine wp_seq ?_
  refine wp_seq ?_
  refine wp_region_lit ?_
  refine wl_val ha4 rfl rfl rfl (op_move ha4 rfl rfl) ?_
  intro a7 ha7; clear ha4 a4
  refine wl_val ha7 rfl rfl rfl (op_len_sl ha7 rfl Try.underlying25 rfl h_list) ?_
  intro a8 ha8; clear ha7 a7
  refine wl_val ha8 rfl rfl rfl (op_move ha8 rfl rfl) ?_
  intro a9 ha9; clear ha8 a8
  refine wpList_nil ?_
  refine then_n ?_
  refine wp_block ?_
  refine loop_inv (X := Nat) (fun (i : Nat) fr wl => Sl 57 fr [(0, v_list), (9, v_list), (10, .int .i64 ((list.length : Nat) : Int)), (11, .int .i64 ((i : Nat) : Int))] ∧ Ext w0 wl ∧ w0.heap.size ≤ wl.heap.size ∧ (i ≤ list.length) ∧ (upB (dbAt list) i = true)) (fun (i : Nat) => list.length - i) (0) ?_ ?_
  ·
   exact ⟨(Sl.cons_ ha9 rfl rfl (Sl.cons_ ha9 rfl rfl (Sl.cons_ ha9 rfl rfl (Sl.cons_ ha9 rfl (int_eq (by omega)) (Sl.nil_ ha9))))), hx0, (by omega), (by omega), (by rfl)⟩
  ·
   clear ha9 a9
   rintro i a12 w10 ⟨ha12, hx11, hzl13, hi, hA⟩
   have hzhx11 := hx11.size
   refine wp_seq ?_
   refine wp_region_lit ?_
   refine wl_val ha12 rfl rfl rfl (op_lss ha12 rfl rfl rfl) ?_
   intro a14 ha14; clear ha12 a12
   refine wpList_nil ?_
   refine then_n ?_
   refine wp_seq ?_
   by_cases c15 : ((i : Nat) : Int) < ((list.length : Nat) : Int)
   ·
    rw [decide_eq_true c15] at ha14
    refine cond_t ha14 rfl ?_
    refine wp_skip ?_
    refine then_n ?_
    refine wp_seq ?_
    refine wp_block ?_
    refine wp_seq ?_
    refine wp_region_lit ?_
    refine wl_val ha14 rfl rfl rfl (op_move ha14 rfl rfl) ?_
    intro a16 ha16; clear ha14 a14
    obtain ⟨x17, hx17⟩ := get_ex (xs := list) (j := i) (by omega)
    obtain ⟨p18, c19, hi20, hc21, hr22, hs23⟩ := Rds.at_ h_list hx17
    obtain ⟨rfl, b24, b25, b26, b27⟩ := inv_shEnt hr22
    refine wl_val ha16 rfl rfl rfl (op_indexAddr ha16 rfl Try.underlying25 ti41 rfl rfl (by omega) hi20) ?_
    intro a28 ha28; clear ha16 a16
    refine wl_val ha28 rfl rfl rfl (op_loadS ha28 rfl Try.underlying41 ti41 rfl rfl (hc21.ext hx11)) ?_
    intro a29 ha29; clear ha28 a28
    refine wl_eff ha29 rfl rfl rfl (op_alloc' rfl ti41 rfl) ?_
    rintro _ w31 ⟨rfl, he32, hb33, hz34⟩ a35 ha35; clear ha29 a29
    have hx36 := hx11.trans' he32
    have hzhx36 := he32.size
    refine wl_val ha35 rfl rfl rfl (op_assign ha35 rfl rfl) ?_
    intro a37 ha37; clear ha35 a35
    refine wl_effS ha37 rfl rfl (op_storeAll' ha37 rfl ti41 rfl rfl hb33 rfl rfl (by simp [Value.oneCell']) rfl) ?_
    rintro w38 ⟨hb40, hst39, hz41⟩
    have hx42 := hx36.stp hst39 (by intro q hq; cases hq; exact (by omega))
    have hzhx42 := hst39.size
    clear hb33
    refine wpList_nil ?_
    refine then_n ?_
    refine wp_seq ?_
    refine wp_seq ?_
    refine wp_region_lit ?_
    refine wl_val ha37 rfl rfl rfl (op_loadS ha37 rfl Try.underlying41 ti41 rfl rfl hb40.cells) ?_
    intro a43 ha43; clear ha37 a37
    refine wl_callR ha43 rfl rfl rfl (op_call ha43 rfl cb58 rfl) (c_impl_isEntry _ x17 (by first | assumption | omega | exact day_pre hA (by assumption) (by assumption) | (simp; omega))) ?_
    rintro v44 w45 he46 rfl a47 ha47; clear ha43 a43
    have hx48 := hx42.trans' he46
    have hzhx48 := he46.size
    replace hb40 := hb40.ext he46
    refine wl_val ha47 rfl rfl rfl (op_not ha47 rfl rfl) ?_
    intro a49 ha49; clear ha47 a47
    refine wpList_nil ?_
    refine then_n ?_
    rcases Bool.eq_false_or_eq_true (entB x17) with c50 | c50
    ·
     rw [c50] at ha49
     refine cond_f ha49 rfl ?_
     refine wp_skip ?_
     refine then_n ?_
     refine wp_seq ?_
     refine wp_seq ?_
     refine wp_region_lit ?_
     refine wl_val ha49 rfl rfl rfl (op_move ha49 rfl rfl) ?_
     intro a51 ha51; clear ha49 a49
     refine wl_val ha51 rfl rfl rfl (op_gtr ha51 rfl rfl rfl) ?_
     intro a52 ha52; clear ha51 a51
     refine wpList_nil ?_
     refine then_n ?_
     by_cases c53 : (0 : Int) < ((i : Nat) : Int)
     ·
      rw [decide_eq_true c53] at ha52
      refine cond_t ha52 rfl ?_
      refine wp_seq ?_
      refine wp_region_lit ?_
      refine wl_val ha52 rfl rfl rfl (op_move ha52 rfl rfl) ?_
      intro a54 ha54; clear ha52 a52
      refine wl_val ha54 rfl rfl rfl (op_move ha54 rfl rfl) ?_
      intro a55 ha55; clear ha54 a54
      refine wl_val ha55 rfl rfl rfl ((op_sub ha55 rfl rfl rfl).int (IntWalk.i64_in _ (by omega))) ?_
      intro a56 ha56; clear ha55 a55
      obtain ⟨x57, hx57⟩ := get_ex (xs := list) (j := (i - 1)) (by omega)
      obtain ⟨p58, c59, hi60, hc61, hr62, hs63⟩ := Rds.at_ h_list hx57
      obtain ⟨rfl, b64, b65, b66, b67⟩ := inv_shEnt hr62
      refine wl_val ha56 rfl rfl rfl (op_indexAddr ha56 rfl Try.underlying25 ti41 rfl rfl (by omega) hi60) ?_
      intro a68 ha68; clear ha56 a56
      refine wl_val ha68 rfl rfl rfl (op_loadS ha68 rfl Try.underlying41 ti41 rfl rfl (hc61.ext hx48)) ?_
      intro a69 ha69; clear ha68 a68
      refine wl_eff ha69 rfl rfl rfl (op_alloc' rfl ti41 rfl) ?_
      rintro _ w71 ⟨rfl, he72, hb73, hz74⟩ a75 ha75; clear ha69 a69
      have hx76 := hx48.trans' he72
      have hzhx76 := he72.size
      replace hb40 := hb40.ext he72
      refine wl_effS ha75 rfl rfl (op_storeAll' ha75 rfl ti41 rfl rfl hb73 rfl rfl (by simp [Value.oneCell']) rfl) ?_
      rintro w77 ⟨hb79, hst78, hz80⟩
      have hx81 := hx76.stp hst78 (by intro q hq; cases hq; exact (by omega))
      have hzhx81 := hst78.size
      replace hb40 := hb40.stp hst78 (by intro q hq; cases hq; omega)
      clear hb73
      refine wpList_nil ?_
      refine then_n ?_
      refine wp_seq ?_
      refine wp_region_lit ?_
      refine wl_val ha75 rfl rfl rfl (op_fieldAddr (sz := 0) ha75 rfl Try.underlying41 rfl rfl ti2 rfl) ?_
      intro a82 ha82; clear ha75 a75
      refine wl_val ha82 rfl rfl rfl (op_loadF (off := 0) ha82 rfl Try.underlying2 rfl rfl hb79.cells rfl) ?_
      intro a83 ha83; clear ha82 a82
      refine wl_val ha83 rfl rfl rfl (op_fieldAddr (sz := 0) ha83 rfl Try.underlying41 rfl rfl ti2 rfl) ?_
      intro a84 ha84; clear ha83 a83
      refine wl_val ha84 rfl rfl rfl (op_loadF (off := 0) ha84 rfl Try.underlying2 rfl rfl hb40.cells rfl) ?_
      intro a85 ha85; clear ha84 a84
      refine wl_val ha85 rfl rfl rfl (op_gtr ha85 rfl rfl rfl) ?_
      intro a86 ha86; clear ha85 a85
      refine wl_val ha86 rfl rfl rfl (op_move ha86 rfl rfl) ?_
      intro a87 ha87; clear ha86 a86
      by_cases c88 : x17.1 < x57.1
      ·
       rw [decide_eq_true c88] at ha87
       refine wl_skip ha87 rfl rfl rfl ?_
       intro a89 ha89; clear ha87 a87
       refine wl_skip ha89 rfl rfl rfl ?_
       intro a90 ha90; clear ha89 a89
       refine wl_skip ha90 rfl rfl rfl ?_
       intro a91 ha91; clear ha90 a90
       refine wl_skip ha91 rfl rfl rfl ?_
       intro a92 ha92; clear ha91 a91
       refine wl_skip ha92 rfl rfl rfl ?_
       intro a93 ha93; clear ha92 a92
       refine wl_skip ha93 rfl rfl rfl ?_
       intro a94 ha94; clear ha93 a93
       refine wl_skip ha94 rfl rfl rfl ?_
       intro a95 ha95; clear ha94 a94
       refine wl_skip ha95 rfl rfl rfl ?_
       intro a96 ha96; clear ha95 a95
       refine wl_skip ha96 rfl rfl rfl ?_
       intro a97 ha97; clear ha96 a96
       refine wl_skip ha97 rfl rfl rfl ?_
       intro a98 ha98; clear ha97 a97
       refine wl_val ha98 rfl rfl rfl (op_pick_t ha98 rfl rfl rfl) ?_
       intro a99 ha99; clear ha98 a98
       refine wpList_nil ?_
       refine then_n ?_
       refine cond_t ha99 rfl ?_
       refine wp_seq ?_
       refine wp_region_lit ?_
       refine wl_val ha99 rfl rfl rfl (op_assign ha99 rfl rfl) ?_
       intro a100 ha100; clear ha99 a99
       refine wpList_nil ?_
       refine then_n ?_
       refine wp_ret ?_
       refine then_r ?_
       refine block_r ?_
       refine then_r ?_
       refine then_r ?_
       refine block_r ?_
       refine then_r ?_
       refine ret1 ha100 rfl rfl ?_
       clear ha100 a100
       exact ret_mk hx81 (congrArg Value.bool (by rw [dbB_no hx17 (dbAt_no hx17 (by first | (left; assumption) | (right; left; exact ⟨by omega, _, hx57, by omega⟩) | (right; right; exact ⟨by assumption, by assumption⟩)))]))
      ·
       rw [decide_eq_false c88] at ha87
       refine wl_val ha87 rfl rfl rfl (op_fieldAddr (sz := 0) ha87 rfl Try.underlying41 rfl rfl ti2 rfl) ?_
       intro a101 ha101; clear ha87 a87
       refine wl_val ha101 rfl rfl rfl (op_loadF (off := 0) ha101 rfl Try.underlying2 rfl rfl hb79.cells rfl) ?_
       intro a102 ha102; clear ha101 a101
       refine wl_val ha102 rfl rfl rfl (op_fieldAddr (sz := 0) ha102 rfl Try.underlying41 rfl rfl ti2 rfl) ?_
       intro a103 ha103; clear ha102 a102
       refine wl_val ha103 rfl rfl rfl (op_loadF (off := 0) ha103 rfl Try.underlying2 rfl rfl hb40.cells rfl) ?_
       intro a104 ha104; clear ha103 a103
       refine wl_val ha104 rfl rfl rfl (op_eql ha104 rfl rfl rfl) ?_
       intro a105 ha105; clear ha104 a104
       refine wl_val ha105 rfl rfl rfl (op_move ha105 rfl rfl) ?_
       intro a106 ha106; clear ha105 a105
       by_cases c107 : x57.1 = x17.1
       ·
        rw [decide_eq_true c107] at ha106
        refine wl_val ha106 rfl rfl rfl (op_fieldAddr (sz := 0) ha106 rfl Try.underlying41 rfl rfl ti2 rfl) ?_
        intro a108 ha108; clear ha106 a106
        refine wl_val ha108 rfl rfl rfl (op_loadF (off := 1) ha108 rfl Try.underlying2 rfl rfl hb79.cells rfl) ?_
        intro a109 ha109; clear ha108 a108
        refine wl_val ha109 rfl rfl rfl (op_eql ha109 rfl rfl rfl) ?_
        intro a110 ha110; clear ha109 a109
        refine wl_val ha110 rfl rfl rfl (op_pick_t ha110 rfl rfl rfl) ?_
        intro a111 ha111; clear ha110 a110
        refine wl_val ha111 rfl rfl rfl (op_pick_f ha111 rfl rfl rfl) ?_
        intro a112 ha112; clear ha111 a111
        refine wpList_nil ?_
        refine then_n ?_
        by_cases c113 : x57.2.1 = (3 : Int)
        ·
         rw [decide_eq_true c113] at ha112
         refine cond_t ha112 rfl ?_
         refine wp_seq ?_
         refine wp_region_lit ?_
         refine wl_val ha112 rfl rfl rfl (op_assign ha112 rfl rfl) ?_
         intro a114 ha114; clear ha112 a112
         refine wpList_nil ?_
         refine then_n ?_
         refine wp_ret ?_
         refine then_r ?_
         refine block_r ?_
         refine then_r ?_
         refine then_r ?_
         refine block_r ?_
         refine then_r ?_
         refine ret1 ha114 rfl rfl ?_
         clear ha114 a114
         exact ret_mk hx81 (congrArg Value.bool (by rw [dbB_no hx17 (dbAt_no hx17 (by first | (left; assumption) | (right; left; exact ⟨by omega, _, hx57, by omega⟩) | (right; right; exact ⟨by assumption, by assumption⟩)))]))
        ·
         rw [decide_eq_false c113] at ha112
         refine cond_f ha112 rfl ?_
         refine wp_skip ?_
         refine then_n ?_
         refine wp_seq ?_
         refine dr_enter Ext follows_mixed ?_
         intro w115 he116
         have hx117 := hx81.trans' he116
         have hzhx117 := he116.size
         replace hb40 := hb40.ext he116
         replace hb79 := hb79.ext he116
         have hs118 : Ext w115 w115 := Ext.rfl' _
         refine dr_val (i := 0) ha112 rfl (by kernel_rfl) (by kernel_rfl) (by kernel_rfl) rfl rfl rfl hs118 (fun w' hw' => op_fieldAddr (sz := 0) ha112 rfl Try.underlying41 rfl rfl ti2 rfl) ?_
         intro a119 ha119; clear ha112 a112
         refine dr_val (i := 1) ha119 rfl (by kernel_rfl) (by kernel_rfl) (by kernel_rfl) rfl rfl rfl hs118 (fun w' hw' => op_loadF (off := 1) ha119 rfl Try.underlying2 rfl rfl (hb40.ext hw').cells rfl) ?_
         intro a120 ha120; clear ha119 a119
         refine dr_val (i := 2) ha120 rfl (by kernel_rfl) (by kernel_rfl) (by kernel_rfl) rfl rfl rfl hs118 (fun w' hw' => op_eql ha120 rfl rfl rfl) ?_
         intro a121 ha121; clear ha120 a120
         refine dr_val (i := 3) ha121 rfl (by kernel_rfl) (by kernel_rfl) (by kernel_rfl) rfl rfl rfl hs118 (fun w' hw' => op_move ha121 rfl rfl) ?_
         intro a122 ha122; clear ha121 a121
         by_cases c123 : x17.2.1 = (1 : Int)
         ·
          rw [decide_eq_true c123] at ha122
          refine dr_val (i := 4) ha122 rfl (by kernel_rfl) (by kernel_rfl) (by kernel_rfl) rfl rfl rfl hs118 (fun w' hw' => op_move ha122 rfl rfl) ?_
          intro a124 ha124; clear ha122 a122
          refine dr_val (i := 5) ha124 rfl (by kernel_rfl) (by kernel_rfl) (by kernel_rfl) rfl rfl rfl hs118 (fun w' hw' => op_move ha124 rfl rfl) ?_
          intro a125 ha125; clear ha124 a124
          refine dr_val (i := 6) ha125 rfl (by kernel_rfl) (by kernel_rfl) (by kernel_rfl) rfl rfl rfl hs118 (fun w' hw' => (op_add ha125 rfl rfl rfl).int (IntWalk.i64_in _ (by omega))) ?_
          intro a126 ha126; clear ha125 a125
          obtain ⟨u127, hu128, hr129⟩ := Rds.part h_list Try.underlying25 ti41 none (some (.int .i64 ((i + 1) : Nat))) 0 ((i + 1)) (.inl ⟨rfl, rfl⟩) (.inr ⟨.i64, rfl⟩) (by omega) (by omega)
          replace hr129 := hr129.cast (ys := list.take ((i + 1))) (by first | rw [List.take_length] | simp)
          refine dr_val (i := 7) ha126 rfl (by kernel_rfl) (by kernel_rfl) (by kernel_rfl) rfl rfl rfl hs118 (fun w' hw' => op_slice_t (by omega) ha126 rfl rfl rfl hu128) ?_
          intro a130 ha130; clear ha126 a126
          refine dr_val (i := 8) ha130 rfl (by kernel_rfl) (by kernel_rfl) (by kernel_rfl) rfl rfl rfl hs118 (fun w' hw' => op_fieldAddr (sz := 0) ha130 rfl Try.underlying41 rfl rfl ti9 rfl) ?_
          intro a131 ha131; clear ha130 a130
          refine dr_val (i := 9) ha131 rfl (by kernel_rfl) (by kernel_rfl) (by kernel_rfl) rfl rfl rfl hs118 (fun w' hw' => op_loadF (off := 2) ha131 rfl Try.underlying9 rfl rfl (hb40.ext hw').cells rfl) ?_
          intro a132 ha132; clear ha131 a131
          refine dr_one (i := 10) (by kernel_rfl) ?_
          refine po_callR ha132 rfl rfl rfl rfl (op_call ha132 rfl cb59 rfl) (c_impl_owesOf _ u127 (list.take ((i + 1))) x17.2.2.1 (hr129.ext pos_shEnt (hx117.trans' hs118)) (by first | assumption | omega | exact day_pre hA (by assumption) (by assumption) | (simp; omega)) (by first | assumption | omega | exact day_pre hA (by assumption) (by assumption) | (simp; omega))) ?_
          rintro v133 w134 he135 rfl a136 ha136; clear ha132 a132
          have hs137 := hs118.trans' he135
          have hx138 := hx117.trans' he135
          have hzhx138 := he135.size
          refine ⟨hs137, ?_⟩
          refine dr_val (i := 11) ha136 rfl (by kernel_rfl) (by kernel_rfl) (by kernel_rfl) rfl rfl rfl hs137 (fun w' hw' => op_lss ha136 rfl rfl rfl) ?_
          intro a139 ha139; clear ha136 a136
          refine dr_val (i := 12) ha139 rfl (by kernel_rfl) (by kernel_rfl) (by kernel_rfl) rfl rfl rfl hs137 (fun w' hw' => op_pick_t ha139 rfl rfl rfl) ?_
          intro a140 ha140; clear ha139 a139
          refine dr_end (by kernel_rfl) ?_
          replace hb40 := hb40.ext hs137
          replace hb79 := hb79.ext hs137
          refine then_n ?_
          by_cases c141 : (owS x17.2.2.1 (list.take ((i + 1))) : Int) < (0 : Int)
          ·
           rw [decide_eq_true c141] at ha140
           refine cond_t ha140 rfl ?_
           refine wp_seq ?_
           refine wp_region_lit ?_
           refine wl_val ha140 rfl rfl rfl (op_assign ha140 rfl rfl) ?_
           intro a142 ha142; clear ha140 a140
           refine wpList_nil ?_
           refine then_n ?_
           refine wp_ret ?_
           refine block_r ?_
           refine then_r ?_
           refine then_r ?_
           refine block_r ?_
           refine then_r ?_
           refine ret1 ha142 rfl rfl ?_
           clear ha142 a142
           exact ret_mk hx138 (congrArg Value.bool (by rw [dbB_no hx17 (dbAt_no hx17 (by first | (left; assumption) | (right; left; exact ⟨by omega, _, hx57, by omega⟩) | (right; right; exact ⟨by assumption, by assumption⟩)))]))
          ·
           rw [decide_eq_false c141] at ha140
           refine cond_f ha140 rfl ?_
           refine wp_skip ?_
           refine block_n ?_
           refine then_n ?_
           refine wp_region_lit ?_
           refine wl_val ha140 rfl rfl rfl ((op_add ha140 rfl rfl rfl).int (IntWalk.i64_in _ (by omega))) ?_
           intro a143 ha143; clear ha140 a140
           refine wl_val ha143 rfl rfl rfl (op_move ha143 rfl rfl) ?_
           intro a144 ha144; clear ha143 a143
           refine wpList_nil ?_
           refine round_end (x := i) ((i + 1)) ?_ ?_
           ·
            refine ⟨(Sl.cons_ ha144 rfl rfl (Sl.cons_ ha144 rfl rfl (Sl.cons_ ha144 rfl rfl (Sl.cons_ ha144 rfl (int_eq (by omega)) (Sl.nil_ ha144))))), hx138, (by omega), (by omega), (by exact upB_step hA (dbAt_ok hx17 (by assumption) (by first | (left; omega) | (right; exact ⟨_, hx57, by omega, by omega⟩)) (by first | (left; assumption) | (right; assumption))))⟩
           ·show (list.length - ((i + 1)) : Nat) < list.length - i; omega
         ·
          rw [decide_eq_false c123] at ha122
          refine dr_skip (i := 4) ha122 rfl (by kernel_rfl) (by kernel_rfl) (by kernel_rfl) rfl rfl rfl hs118 ?_
          intro a145 ha145; clear ha122 a122
          refine dr_skip (i := 5) ha145 rfl (by kernel_rfl) (by kernel_rfl) (by kernel_rfl) rfl rfl rfl hs118 ?_
          intro a146 ha146; clear ha145 a145
          refine dr_skip (i := 6) ha146 rfl (by kernel_rfl) (by kernel_rfl) (by kernel_rfl) rfl rfl rfl hs118 ?_
          intro a147 ha147; clear ha146 a146
          refine dr_skip (i := 7) ha147 rfl (by kernel_rfl) (by kernel_rfl) (by kernel_rfl) rfl rfl rfl hs118 ?_
          intro a148 ha148; clear ha147 a147
          refine dr_skip (i := 8) ha148 rfl (by kernel_rfl) (by kernel_rfl) (by kernel_rfl) rfl rfl rfl hs118 ?_
          intro a149 ha149; clear ha148 a148
          refine dr_skip (i := 9) ha149 rfl (by kernel_rfl) (by kernel_rfl) (by kernel_rfl) rfl rfl rfl hs118 ?_
          intro a150 ha150; clear ha149 a149
          refine dr_skip (i := 10) ha150 rfl (by kernel_rfl) (by kernel_rfl) (by kernel_rfl) rfl rfl rfl hs118 ?_
          intro a151 ha151; clear ha150 a150
          refine dr_skip (i := 11) ha151 rfl (by kernel_rfl) (by kernel_rfl) (by kernel_rfl) rfl rfl rfl hs118 ?_
          intro a152 ha152; clear ha151 a151
          refine dr_val (i := 12) ha152 rfl (by kernel_rfl) (by kernel_rfl) (by kernel_rfl) rfl rfl rfl hs118 (fun w' hw' => op_pick_f ha152 rfl rfl rfl) ?_
          intro a153 ha153; clear ha152 a152
          refine dr_end (by kernel_rfl) ?_
          replace hb40 := hb40.ext hs118
          replace hb79 := hb79.ext hs118
          refine then_n ?_
          refine cond_f ha153 rfl ?_
          refine wp_skip ?_
          refine block_n ?_
          refine then_n ?_
          refine wp_region_lit ?_
          refine wl_val ha153 rfl rfl rfl ((op_add ha153 rfl rfl rfl).int (IntWalk.i64_in _ (by omega))) ?_
          intro a154 ha154; clear ha153 a153
          refine wl_val ha154 rfl rfl rfl (op_move ha154 rfl rfl) ?_
          intro a155 ha155; clear ha154 a154
          refine wpList_nil ?_
          refine round_end (x := i) ((i + 1)) ?_ ?_
          ·
           refine ⟨(Sl.cons_ ha155 rfl rfl (Sl.cons_ ha155 rfl rfl (Sl.cons_ ha155 rfl rfl (Sl.cons_ ha155 rfl (int_eq (by omega)) (Sl.nil_ ha155))))), hx117, (by omega), (by omega), (by exact upB_step hA (dbAt_ok hx17 (by assumption) (by first | (left; omega) | (right; exact ⟨_, hx57, by omega, by omega⟩)) (by first | (left; assumption) | (right; assumption))))⟩
          ·show (list.length - ((i + 1)) : Nat) < list.length - i; omega
       ·
        rw [decide_eq_false c107] at ha106
        refine wl_skip ha106 rfl rfl rfl ?_
        intro a156 ha156; clear ha106 a106
        refine wl_skip ha156 rfl rfl rfl ?_
        intro a157 ha157; clear ha156 a156
        refine wl_skip ha157 rfl rfl rfl ?_
        intro a158 ha158; clear ha157 a157
        refine wl_val ha158 rfl rfl rfl (op_pick_f ha158 rfl rfl rfl) ?_
        intro a159 ha159; clear ha158 a158
        refine wl_val ha159 rfl rfl rfl (op_pick_f ha159 rfl rfl rfl) ?_
        intro a160 ha160; clear ha159 a159
        refine wpList_nil ?_
        refine then_n ?_
        refine cond_f ha160 rfl ?_
        refine wp_skip ?_
        refine then_n ?_
        refine wp_seq ?_
        refine dr_enter Ext follows_mixed ?_
        intro w161 he162
        have hx163 := hx81.trans' he162
        have hzhx163 := he162.size
        replace hb40 := hb40.ext he162
        replace hb79 := hb79.ext he162
        have hs164 : Ext w161 w161 := Ext.rfl' _
        refine dr_val (i := 0) ha160 rfl (by kernel_rfl) (by kernel_rfl) (by kernel_rfl) rfl rfl rfl hs164 (fun w' hw' => op_fieldAddr (sz := 0) ha160 rfl Try.underlying41 rfl rfl ti2 rfl) ?_
        intro a165 ha165; clear ha160 a160
        refine dr_val (i := 1) ha165 rfl (by kernel_rfl) (by kernel_rfl) (by kernel_rfl) rfl rfl rfl hs164 (fun w' hw' => op_loadF (off := 1) ha165 rfl Try.underlying2 rfl rfl (hb40.ext hw').cells rfl) ?_
        intro a166 ha166; clear ha165 a165
        refine dr_val (i := 2) ha166 rfl (by kernel_rfl) (by kernel_rfl) (by kernel_rfl) rfl rfl rfl hs164 (fun w' hw' => op_eql ha166 rfl rfl rfl) ?_
        intro a167 ha167; clear ha166 a166
        refine dr_val (i := 3) ha167 rfl (by kernel_rfl) (by kernel_rfl) (by kernel_rfl) rfl rfl rfl hs164 (fun w' hw' => op_move ha167 rfl rfl) ?_
        intro a168 ha168; clear ha167 a167
        by_cases c169 : x17.2.1 = (1 : Int)
        ·
         rw [decide_eq_true c169] at ha168
         refine dr_val (i := 4) ha168 rfl (by kernel_rfl) (by kernel_rfl) (by kernel_rfl) rfl rfl rfl hs164 (fun w' hw' => op_move ha168 rfl rfl) ?_
         intro a170 ha170; clear ha168 a168
         refine dr_val (i := 5) ha170 rfl (by kernel_rfl) (by kernel_rfl) (by kernel_rfl) rfl rfl rfl hs164 (fun w' hw' => op_move ha170 rfl rfl) ?_
         intro a171 ha171; clear ha170 a170
         refine dr_val (i := 6) ha171 rfl (by kernel_rfl) (by kernel_rfl) (by kernel_rfl) rfl rfl rfl hs164 (fun w' hw' => (op_add ha171 rfl rfl rfl).int (IntWalk.i64_in _ (by omega))) ?_
         intro a172 ha172; clear ha171 a171
         obtain ⟨u173, hu174, hr175⟩ := Rds.part h_list Try.underlying25 ti41 none (some (.int .i64 ((i + 1) : Nat))) 0 ((i + 1)) (.inl ⟨rfl, rfl⟩) (.inr ⟨.i64, rfl⟩) (by omega) (by omega)
         replace hr175 := hr175.cast (ys := list.take ((i + 1))) (by first | rw [List.take_length] | simp)
         refine dr_val (i := 7) ha172 rfl (by kernel_rfl) (by kernel_rfl) (by kernel_rfl) rfl rfl rfl hs164 (fun w' hw' => op_slice_t (by omega) ha172 rfl rfl rfl hu174) ?_
         intro a176 ha176; clear ha172 a172
         refine dr_val (i := 8) ha176 rfl (by kernel_rfl) (by kernel_rfl) (by kernel_rfl) rfl rfl rfl hs164 (fun w' hw' => op_fieldAddr (sz := 0) ha176 rfl Try.underlying41 rfl rfl ti9 rfl) ?_
         intro a177 ha177; clear ha176 a176
         refine dr_val (i := 9) ha177 rfl (by kernel_rfl) (by kernel_rfl) (by kernel_rfl) rfl rfl rfl hs164 (fun w' hw' => op_loadF (off := 2) ha177 rfl Try.underlying9 rfl rfl (hb40.ext hw').cells rfl) ?_
         intro a178 ha178; clear ha177 a177
         refine dr_one (i := 10) (by kernel_rfl) ?_
         refine po_callR ha178 rfl rfl rfl rfl (op_call ha178 rfl cb59 rfl) (c_impl_owesOf _ u173 (list.take ((i + 1))) x17.2.2.1 (hr175.ext pos_shEnt (hx163.trans' hs164)) (by first | assumption | omega | exact day_pre hA (by assumption) (by assumption) | (simp; omega)) (by first | assumption | omega | exact day_pre hA (by assumption) (by assumption) | (simp; omega))) ?_
         rintro v179 w180 he181 rfl a182 ha182; clear ha178 a178
         have hs183 := hs164.trans' he181
         have hx184 := hx163.trans' he181
         have hzhx184 := he181.size
         refine ⟨hs183, ?_⟩
         refine dr_val (i := 11) ha182 rfl (by kernel_rfl) (by kernel_rfl) (by kernel_rfl) rfl rfl rfl hs183 (fun w' hw' => op_lss ha182 rfl rfl rfl) ?_
         intro a185 ha185; clear ha182 a182
         refine dr_val (i := 12) ha185 rfl (by kernel_rfl) (by kernel_rfl) (by kernel_rfl) rfl rfl rfl hs183 (fun w' hw' => op_pick_t ha185 rfl rfl rfl) ?_
         intro a186 ha186; clear ha185 a185
         refine dr_end (by kernel_rfl) ?_
         replace hb40 := hb40.ext hs183
         replace hb79 := hb79.ext hs183
         refine then_n ?_
         by_cases c187 : (owS x17.2.2.1 (list.take ((i + 1))) : Int) < (0 : Int)
         ·
          rw [decide_eq_true c187] at ha186
          refine cond_t ha186 rfl ?_
          refine wp_seq ?_
          refine wp_region_lit ?_
          refine wl_val ha186 rfl rfl rfl (op_assign ha186 rfl rfl) ?_
          intro a188 ha188; clear ha186 a186
          refine wpList_nil ?_
          refine then_n ?_
          refine wp_ret ?_
          refine block_r ?_
          refine then_r ?_
          refine then_r ?_
          refine block_r ?_
          refine then_r ?_
          refine ret1 ha188 rfl rfl ?_
          clear ha188 a188
          exact ret_mk hx184 (congrArg Value.bool (by rw [dbB_no hx17 (dbAt_no hx17 (by first | (left; assumption) | (right; left; exact ⟨by omega, _, hx57, by omega⟩) | (right; right; exact ⟨by assumption, by assumption⟩)))]))
         ·
          rw [decide_eq_false c187] at ha186
          refine cond_f ha186 rfl ?_
          refine wp_skip ?_
          refine block_n ?_
          refine then_n ?_
          refine wp_region_lit ?_
          refine wl_val ha186 rfl rfl rfl ((op_add ha186 rfl rfl rfl).int (IntWalk.i64_in _ (by omega))) ?_
          intro a189 ha189; clear ha186 a186
          refine wl_val ha189 rfl rfl rfl (op_move ha189 rfl rfl) ?_
          intro a190 ha190; clear ha189 a189
          refine wpList_nil ?_
          refine round_end (x := i) ((i + 1)) ?_ ?_
          ·
           refine ⟨(Sl.cons_ ha190 rfl rfl (Sl.cons_ ha190 rfl rfl (Sl.cons_ ha190 rfl rfl (Sl.cons_ ha190 rfl (int_eq (by omega)) (Sl.nil_ ha190))))), hx184, (by omega), (by omega), (by exact upB_step hA (dbAt_ok hx17 (by assumption) (by first | (left; omega) | (right; exact ⟨_, hx57, by omega, by omega⟩)) (by first | (left; assumption) | (right; assumption))))⟩
          ·show (list.length - ((i + 1)) : Nat) < list.length - i; omega
        ·
         rw [decide_eq_false c169] at ha168
         refine dr_skip (i := 4) ha168 rfl (by kernel_rfl) (by kernel_rfl) (by kernel_rfl) rfl rfl rfl hs164 ?_
         intro a191 ha191; clear ha168 a168
         refine dr_skip (i := 5) ha191 rfl (by kernel_rfl) (by kernel_rfl) (by kernel_rfl) rfl rfl rfl hs164 ?_
         intro a192 ha192; clear ha191 a191
         refine dr_skip (i := 6) ha192 rfl (by kernel_rfl) (by kernel_rfl) (by kernel_rfl) rfl rfl rfl hs164 ?_
         intro a193 ha193; clear ha192 a192
         refine dr_skip (i := 7) ha193 rfl (by kernel_rfl) (by kernel_rfl) (by kernel_rfl) rfl rfl rfl hs164 ?_
         intro a194 ha194; clear ha193 a193
         refine dr_skip (i := 8) ha194 rfl (by kernel_rfl) (by kernel_rfl) (by kernel_rfl) rfl rfl rfl hs164 ?_
         intro a195 ha195; clear ha194 a194
         refine dr_skip (i := 9) ha195 rfl (by kernel_rfl) (by kernel_rfl) (by kernel_rfl) rfl rfl rfl hs164 ?_
         intro a196 ha196; clear ha195 a195
         refine dr_skip (i := 10) ha196 rfl (by kernel_rfl) (by kernel_rfl) (by kernel_rfl) rfl rfl rfl hs164 ?_
         intro a197 ha197; clear ha196 a196
         refine dr_skip (i := 11) ha197 rfl (by kernel_rfl) (by kernel_rfl) (by kernel_rfl) rfl rfl rfl hs164 ?_
         intro a198 ha198; clear ha197 a197
         refine dr_val (i := 12) ha198 rfl (by kernel_rfl) (by kernel_rfl) (by kernel_rfl) rfl rfl rfl hs164 (fun w' hw' => op_pick_f ha198 rfl rfl rfl) ?_
         intro a199 ha199; clear ha198 a198
         refine dr_end (by kernel_rfl) ?_
         replace hb40 := hb40.ext hs164
         replace hb79 := hb79.ext hs164
         refine then_n ?_
         refine cond_f ha199 rfl ?_
         refine wp_skip ?_
         refine block_n ?_
         refine then_n ?_
         refine wp_region_lit ?_
         refine wl_val ha199 rfl rfl rfl ((op_add ha199 rfl rfl rfl).int (IntWalk.i64_in _ (by omega))) ?_
         intro a200 ha200; clear ha199 a199
         refine wl_val ha200 rfl rfl rfl (op_move ha200 rfl rfl) ?_
         intro a201 ha201; clear ha200 a200
         refine wpList_nil ?_
         refine round_end (x := i) ((i + 1)) ?_ ?_
         ·
          refine ⟨(Sl.cons_ ha201 rfl rfl (Sl.cons_ ha201 rfl rfl (Sl.cons_ ha201 rfl rfl (Sl.cons_ ha201 rfl (int_eq (by omega)) (Sl.nil_ ha201))))), hx163, (by omega), (by omega), (by exact upB_step hA (dbAt_ok hx17 (by assumption) (by first | (left; omega) | (right; exact ⟨_, hx57, by omega, by omega⟩)) (by first | (left; assumption) | (right; assumption))))⟩
         ·show (list.length - ((i + 1)) : Nat) < list.length - i; omega
     ·
      rw [decide_eq_false c53] at ha52
      refine cond_f ha52 rfl ?_
      refine wp_skip ?_
      refine then_n ?_
      refine wp_seq ?_
      refine dr_enter Ext follows_mixed ?_
      intro w202 he203
      have hx204 := hx48.trans' he203
      have hzhx204 := he203.size
      replace hb40 := hb40.ext he203
      have hs205 : Ext w202 w202 := Ext.rfl' _
      refine dr_val (i := 0) ha52 rfl (by kernel_rfl) (by kernel_rfl) (by kernel_rfl) rfl rfl rfl hs205 (fun w' hw' => op_fieldAddr (sz := 0) ha52 rfl Try.underlying41 rfl rfl ti2 rfl) ?_
      intro a206 ha206; clear ha52 a52
      refine dr_val (i := 1) ha206 rfl (by kernel_rfl) (by kernel_rfl) (by kernel_rfl) rfl rfl rfl hs205 (fun w' hw' => op_loadF (off := 1) ha206 rfl Try.underlying2 rfl rfl (hb40.ext hw').cells rfl) ?_
      intro a207 ha207; clear ha206 a206
      refine dr_val (i := 2) ha207 rfl (by kernel_rfl) (by kernel_rfl) (by kernel_rfl) rfl rfl rfl hs205 (fun w' hw' => op_eql ha207 rfl rfl rfl) ?_
      intro a208 ha208; clear ha207 a207
      refine dr_val (i := 3) ha208 rfl (by kernel_rfl) (by kernel_rfl) (by kernel_rfl) rfl rfl rfl hs205 (fun w' hw' => op_move ha208 rfl rfl) ?_
      intro a209 ha209; clear ha208 a208
      by_cases c210 : x17.2.1 = (1 : Int)
      ·
       rw [decide_eq_true c210] at ha209
       refine dr_val (i := 4) ha209 rfl (by kernel_rfl) (by kernel_rfl) (by kernel_rfl) rfl rfl rfl hs205 (fun w' hw' => op_move ha209 rfl rfl) ?_
       intro a211 ha211; clear ha209 a209
       refine dr_val (i := 5) ha211 rfl (by kernel_rfl) (by kernel_rfl) (by kernel_rfl) rfl rfl rfl hs205 (fun w' hw' => op_move ha211 rfl rfl) ?_
       intro a212 ha212; clear ha211 a211
       refine dr_val (i := 6) ha212 rfl (by kernel_rfl) (by kernel_rfl) (by kernel_rfl) rfl rfl rfl hs205 (fun w' hw' => (op_add ha212 rfl rfl rfl).int (IntWalk.i64_in _ (by omega))) ?_
       intro a213 ha213; clear ha212 a212
       obtain ⟨u214, hu215, hr216⟩ := Rds.part h_list Try.underlying25 ti41 none (some (.int .i64 ((i + 1) : Nat))) 0 ((i + 1)) (.inl ⟨rfl, rfl⟩) (.inr ⟨.i64, rfl⟩) (by omega) (by omega)
       replace hr216 := hr216.cast (ys := list.take ((i + 1))) (by first | rw [List.take_length] | simp)
       refine dr_val (i := 7) ha213 rfl (by kernel_rfl) (by kernel_rfl) (by kernel_rfl) rfl rfl rfl hs205 (fun w' hw' => op_slice_t (by omega) ha213 rfl rfl rfl hu215) ?_
       intro a217 ha217; clear ha213 a213
       refine dr_val (i := 8) ha217 rfl (by kernel_rfl) (by kernel_rfl) (by kernel_rfl) rfl rfl rfl hs205 (fun w' hw' => op_fieldAddr (sz := 0) ha217 rfl Try.underlying41 rfl rfl ti9 rfl) ?_
       intro a218 ha218; clear ha217 a217
       refine dr_val (i := 9) ha218 rfl (by kernel_rfl) (by kernel_rfl) (by kernel_rfl) rfl rfl rfl hs205 (fun w' hw' => op_loadF (off := 2) ha218 rfl Try.underlying9 rfl rfl (hb40.ext hw').cells rfl) ?_
       intro a219 ha219; clear ha218 a218
       refine dr_one (i := 10) (by kernel_rfl) ?_
       refine po_callR ha219 rfl rfl rfl rfl (op_call ha219 rfl cb59 rfl) (c_impl_owesOf _ u214 (list.take ((i + 1))) x17.2.2.1 (hr216.ext pos_shEnt (hx204.trans' hs205)) (by first | assumption | omega | exact day_pre hA (by assumption) (by assumption) | (simp; omega)) (by first | assumption | omega | exact day_pre hA (by assumption) (by assumption) | (simp; omega))) ?_
       rintro v220 w221 he222 rfl a223 ha223; clear ha219 a219
       have hs224 := hs205.trans' he222
       have hx225 := hx204.trans' he222
       have hzhx225 := he222.size
       refine ⟨hs224, ?_⟩
       refine dr_val (i := 11) ha223 rfl (by kernel_rfl) (by kernel_rfl) (by kernel_rfl) rfl rfl rfl hs224 (fun w' hw' => op_lss ha223 rfl rfl rfl) ?_
       intro a226 ha226; clear ha223 a223
       refine dr_val (i := 12) ha226 rfl (by kernel_rfl) (by kernel_rfl) (by kernel_rfl) rfl rfl rfl hs224 (fun w' hw' => op_pick_t ha226 rfl rfl rfl) ?_
       intro a227 ha227; clear ha226 a226
       refine dr_end (by kernel_rfl) ?_
       replace hb40 := hb40.ext hs224
       refine then_n ?_
       by_cases c228 : (owS x17.2.2.1 (list.take ((i + 1))) : Int) < (0 : Int)
       ·
        rw [decide_eq_true c228] at ha227
        refine cond_t ha227 rfl ?_
        refine wp_seq ?_
        refine wp_region_lit ?_
        refine wl_val ha227 rfl rfl rfl (op_assign ha227 rfl rfl) ?_
        intro a229 ha229; clear ha227 a227
        refine wpList_nil ?_
        refine then_n ?_
        refine wp_ret ?_
        refine block_r ?_
        refine then_r ?_
        refine then_r ?_
        refine block_r ?_
        refine then_r ?_
        refine ret1 ha229 rfl rfl ?_
        clear ha229 a229
        exact ret_mk hx225 (congrArg Value.bool (by rw [dbB_no hx17 (dbAt_no hx17 (by first | (left; assumption) | (right; left; exact ⟨by omega, _, hx17, by omega⟩) | (right; right; exact ⟨by assumption, by assumption⟩)))]))
       ·
        rw [decide_eq_false c228] at ha227
        refine cond_f ha227 rfl ?_
        refine wp_skip ?_
        refine block_n ?_
        refine then_n ?_
        refine wp_region_lit ?_
        refine wl_val ha227 rfl rfl rfl ((op_add ha227 rfl rfl rfl).int (IntWalk.i64_in _ (by omega))) ?_
        intro a230 ha230; clear ha227 a227
        refine wl_val ha230 rfl rfl rfl (op_move ha230 rfl rfl) ?_
        intro a231 ha231; clear ha230 a230
        refine wpList_nil ?_
        refine round_end (x := i) ((i + 1)) ?_ ?_
        ·
         refine ⟨(Sl.cons_ ha231 rfl rfl (Sl.cons_ ha231 rfl rfl (Sl.cons_ ha231 rfl rfl (Sl.cons_ ha231 rfl (int_eq (by omega)) (Sl.nil_ ha231))))), hx225, (by omega), (by omega), (by exact upB_step hA (dbAt_ok hx17 (by assumption) (by first | (left; omega) | (right; exact ⟨_, hx17, by omega, by omega⟩)) (by first | (left; assumption) | (right; assumption))))⟩
        ·show (list.length - ((i + 1)) : Nat) < list.length - i; omega
      ·
       rw [decide_eq_false c210] at ha209
       refine dr_skip (i := 4) ha209 rfl (by kernel_rfl) (by kernel_rfl) (by kernel_rfl) rfl rfl rfl hs205 ?_
       intro a232 ha232; clear ha209 a209
       refine dr_skip (i := 5) ha232 rfl (by kernel_rfl) (by kernel_rfl) (by kernel_rfl) rfl rfl rfl hs205 ?_
       intro a233 ha233; clear ha232 a232
       refine dr_skip (i := 6) ha233 rfl (by kernel_rfl) (by kernel_rfl) (by kernel_rfl) rfl rfl rfl hs205 ?_
       intro a234 ha234; clear ha233 a233
       refine dr_skip (i := 7) ha234 rfl (by kernel_rfl) (by kernel_rfl) (by kernel_rfl) rfl rfl rfl hs205 ?_
       intro a235 ha235; clear ha234 a234
       refine dr_skip (i := 8) ha235 rfl (by kernel_rfl) (by kernel_rfl) (by kernel_rfl) rfl rfl rfl hs205 ?_
       intro a236 ha236; clear ha235 a235
       refine dr_skip (i := 9) ha236 rfl (by kernel_rfl) (by kernel_rfl) (by kernel_rfl) rfl rfl rfl hs205 ?_
       intro a237 ha237; clear ha236 a236
       refine dr_skip (i := 10) ha237 rfl (by kernel_rfl) (by kernel_rfl) (by kernel_rfl) rfl rfl rfl hs205 ?_
       intro a238 ha238; clear ha237 a237
       refine dr_skip (i := 11) ha238 rfl (by kernel_rfl) (by kernel_rfl) (by kernel_rfl) rfl rfl rfl hs205 ?_
       intro a239 ha239; clear ha238 a238
       refine dr_val (i := 12) ha239 rfl (by kernel_rfl) (by kernel_rfl) (by kernel_rfl) rfl rfl rfl hs205 (fun w' hw' => op_pick_f ha239 rfl rfl rfl) ?_
       intro a240 ha240; clear ha239 a239
       refine dr_end (by kernel_rfl) ?_
       replace hb40 := hb40.ext hs205
       refine then_n ?_
       refine cond_f ha240 rfl ?_
       refine wp_skip ?_
       refine block_n ?_
       refine then_n ?_
       refine wp_region_lit ?_
       refine wl_val ha240 rfl rfl rfl ((op_add ha240 rfl rfl rfl).int (IntWalk.i64_in _ (by omega))) ?_
       intro a241 ha241; clear ha240 a240
       refine wl_val ha241 rfl rfl rfl (op_move ha241 rfl rfl) ?_
       intro a242 ha242; clear ha241 a241
       refine wpList_nil ?_
       refine round_end (x := i) ((i + 1)) ?_ ?_
       ·
        refine ⟨(Sl.cons_ ha242 rfl rfl (Sl.cons_ ha242 rfl rfl (Sl.cons_ ha242 rfl rfl (Sl.cons_ ha242 rfl (int_eq (by omega)) (Sl.nil_ ha242))))), hx204, (by omega), (by omega), (by exact upB_step hA (dbAt_ok hx17 (by assumption) (by first | (left; omega) | (right; exact ⟨_, hx17, by omega, by omega⟩)) (by first | (left; assumption) | (right; assumption))))⟩
       ·show (list.length - ((i + 1)) : Nat) < list.length - i; omega
    ·
     rw [c50] at ha49
     refine cond_t ha49 rfl ?_
     refine wp_seq ?_
     refine wp_region_lit ?_
     refine wl_val ha49 rfl rfl rfl (op_assign ha49 rfl rfl) ?_
     intro a243 ha243; clear ha49 a49
     refine wpList_nil ?_
     refine then_n ?_
     refine wp_ret ?_
     refine then_r ?_
     refine block_r ?_
     refine then_r ?_
     refine then_r ?_
     refine block_r ?_
     refine then_r ?_
     refine ret1 ha243 rfl rfl ?_
     clear ha243 a243
     exact ret_mk hx48 (congrArg Value.bool (by rw [dbB_no hx17 (dbAt_no hx17 (by first | (left; assumption) | (right; left; exact ⟨by omega, _, hx17, by omega⟩) | (right; right; exact ⟨by assumption, by assumption⟩)))]))
   ·
    rw [decide_eq_false c15] at ha14
    refine cond_f ha14 rfl ?_
    refine wp_exit ?_
    refine then_e ?_
    refine then_e ?_
    refine block_hit ?_
    refine then_n ?_
    refine wp_seq ?_
    refine wp_region_lit ?_
    refine wl_val ha14 rfl rfl rfl (op_assign ha14 rfl rfl) ?_
    intro a244 ha244; clear ha14 a14
    refine wpList_nil ?_
    refine then_n ?_
    refine wp_ret ?_
    refine ret1 ha244 rfl rfl ?_
    clear ha244 a244
    exact ret_mk hx11 (congrArg Value.bool (by have e : i = list.length := (by omega); rw [e] at hA; unfold dbB; rw [hA]; simp; try omega))

theorem c_spec_IsDayBook (w0 : World) (v_list : Value) (list : List (Int × Int × Str × Int)) {S_list : Nat → Prop} (h_list : Rds shEnt S_list w0 v_list list) (g0 : list.length ≤ 1048576) :
  Calls Try.prog 16 #[v_list] w0 (Ret w0 (fun v _ => v = .bool (dbB list))) := by
 refine enter (N := 69) Try.func16 rfl rfl rfl ?_
 intro a0 ha0
 have hx0 := Ext.rfl' w0
 have hl_list := h_list.length_le
 refine wp_seq ?_
 refine wp_region_lit ?_
 refine wl_val ha0 rfl rfl rfl (op_assign ha0 rfl rfl) ?_
 intro a1 ha1; clear ha0 a0
 refine wpList_nil ?_
 refine then_n ?_
 refine wp_seq ?_
 refine wp_seq ?_
 refine wp_region_lit ?_
 refine wl_val ha1 rfl rfl rfl (op_assign ha1 rfl rfl) ?_
 intro a2 ha2; clear ha1 a1
 refine wpList_nil ?_
 refine then_n ?_
 refine wp_block ?_
 refine loop_inv (X := Nat) (fun (i : Nat) fr wl => Sl 69 fr [(0, v_list), (3, .int .i64 ((i : Nat) : Int))] ∧ Ext w0 wl ∧ w0.heap.size ≤ wl.heap.size ∧ (i ≤ list.length) ∧ (upB (dbAt list) i = true)) (fun (i : Nat) => list.length - i) (0) ?_ ?_
 ·
  exact ⟨(Sl.cons_ ha2 rfl rfl (Sl.cons_ ha2 rfl (int_eq (by omega)) (Sl.nil_ ha2))), hx0, (by omega), (by omega), (by rfl)⟩
 ·
  clear ha2 a2
  rintro i a5 w3 ⟨ha5, hx4, hzl6, hi, hA⟩
  have hzhx4 := hx4.size
  refine wp_seq ?_
  refine wp_seq ?_
  refine wp_region_lit ?_
  refine wl_val ha5 rfl rfl rfl (op_move ha5 rfl rfl) ?_
  intro a7 ha7; clear ha5 a5
  refine wl_val ha7 rfl rfl rfl (op_move ha7 rfl rfl) ?_
  intro a8 ha8; clear ha7 a7
  refine wl_val ha8 rfl rfl rfl (op_len_sl ha8 rfl Try.underlying25 rfl h_list) ?_
  intro a9 ha9; clear ha8 a8
  refine wl_val ha9 rfl rfl rfl (op_lss ha9 rfl rfl rfl) ?_
  intro a10 ha10; clear ha9 a9
  refine wpList_nil ?_
  refine then_n ?_
  by_cases c11 : ((i : Nat) : Int) < ((list.length : Nat) : Int)
  ·
   rw [decide_eq_true c11] at ha10
   refine cond_t ha10 rfl ?_
   refine wp_skip ?_
   refine then_n ?_
   refine wp_seq ?_
   refine wp_block ?_
   refine wp_seq ?_
   refine wp_region_lit ?_
   refine wl_val ha10 rfl rfl rfl (op_move ha10 rfl rfl) ?_
   intro a12 ha12; clear ha10 a10
   refine wl_val ha12 rfl rfl rfl (op_move ha12 rfl rfl) ?_
   intro a13 ha13; clear ha12 a12
   obtain ⟨x14, hx14⟩ := get_ex (xs := list) (j := i) (by omega)
   obtain ⟨p15, c16, hi17, hc18, hr19, hs20⟩ := Rds.at_ h_list hx14
   obtain ⟨rfl, b21, b22, b23, b24⟩ := inv_shEnt hr19
   refine wl_val ha13 rfl rfl rfl (op_indexAddr ha13 rfl Try.underlying25 ti41 rfl rfl (by omega) hi17) ?_
   intro a25 ha25; clear ha13 a13
   refine wl_val ha25 rfl rfl rfl (op_loadS ha25 rfl Try.underlying41 ti41 rfl rfl (hc18.ext hx4)) ?_
   intro a26 ha26; clear ha25 a25
   refine wl_eff ha26 rfl rfl rfl (op_alloc' rfl ti41 rfl) ?_
   rintro _ w28 ⟨rfl, he29, hb30, hz31⟩ a32 ha32; clear ha26 a26
   have hx33 := hx4.trans' he29
   have hzhx33 := he29.size
   refine wl_effS ha32 rfl rfl (op_storeAll' ha32 rfl ti41 rfl rfl hb30 rfl rfl (by simp [Value.oneCell']) rfl) ?_
   rintro w34 ⟨hb36, hst35, hz37⟩
   have hx38 := hx33.stp hst35 (by intro q hq; cases hq; exact (by omega))
   have hzhx38 := hst35.size
   clear hb30
   refine wpList_nil ?_
   refine then_n ?_
   refine wp_seq ?_
   refine wp_seq ?_
   refine dr_enter Ext follows_mixed ?_
   intro w39 he40
   have hx41 := hx38.trans' he40
   have hzhx41 := he40.size
   replace hb36 := hb36.ext he40
   have hs42 : Ext w39 w39 := Ext.rfl' _
   refine dr_val (i := 0) ha32 rfl (by kernel_rfl) (by kernel_rfl) (by kernel_rfl) rfl rfl rfl hs42 (fun w' hw' => op_loadS ha32 rfl Try.underlying41 ti41 rfl rfl (hb36.ext hw').cells) ?_
   intro a43 ha43; clear ha32 a32
   refine dr_one (i := 1) (by kernel_rfl) ?_
   refine po_callR ha43 rfl rfl rfl rfl (op_call ha43 rfl cb56 rfl) (c_spec_l33Is _ x14 (by first | assumption | omega | exact day_pre hA (by assumption) (by assumption) | (simp; omega))) ?_
   rintro v44 w45 he46 rfl a47 ha47; clear ha43 a43
   have hs48 := hs42.trans' he46
   have hx49 := hx41.trans' he46
   have hzhx49 := he46.size
   refine ⟨hs48, ?_⟩
   refine dr_val (i := 2) ha47 rfl (by kernel_rfl) (by kernel_rfl) (by kernel_rfl) rfl rfl rfl hs48 (fun w' hw' => op_not ha47 rfl rfl) ?_
   intro a50 ha50; clear ha47 a47
   refine dr_val (i := 3) ha50 rfl (by kernel_rfl) (by kernel_rfl) (by kernel_rfl) rfl rfl rfl hs48 (fun w' hw' => op_move ha50 rfl rfl) ?_
   intro a51 ha51; clear ha50 a50
   rcases Bool.eq_false_or_eq_true (entB x14) with c52 | c52
   ·
    rw [c52] at ha51
    refine dr_val (i := 4) ha51 rfl (by kernel_rfl) (by kernel_rfl) (by kernel_rfl) rfl rfl rfl hs48 (fun w' hw' => op_move ha51 rfl rfl) ?_
    intro a53 ha53; clear ha51 a51
    refine dr_val (i := 5) ha53 rfl (by kernel_rfl) (by kernel_rfl) (by kernel_rfl) rfl rfl rfl hs48 (fun w' hw' => op_gtr ha53 rfl rfl rfl) ?_
    intro a54 ha54; clear ha53 a53
    refine dr_val (i := 6) ha54 rfl (by kernel_rfl) (by kernel_rfl) (by kernel_rfl) rfl rfl rfl hs48 (fun w' hw' => op_move ha54 rfl rfl) ?_
    intro a55 ha55; clear ha54 a54
    by_cases c56 : (0 : Int) < ((i : Nat) : Int)
    ·
     rw [decide_eq_true c56] at ha55
     refine dr_val (i := 7) ha55 rfl (by kernel_rfl) (by kernel_rfl) (by kernel_rfl) rfl rfl rfl hs48 (fun w' hw' => op_move ha55 rfl rfl) ?_
     intro a57 ha57; clear ha55 a55
     refine dr_val (i := 8) ha57 rfl (by kernel_rfl) (by kernel_rfl) (by kernel_rfl) rfl rfl rfl hs48 (fun w' hw' => op_move ha57 rfl rfl) ?_
     intro a58 ha58; clear ha57 a57
     refine dr_val (i := 9) ha58 rfl (by kernel_rfl) (by kernel_rfl) (by kernel_rfl) rfl rfl rfl hs48 (fun w' hw' => (op_sub ha58 rfl rfl rfl).int (IntWalk.i64_in _ (by omega))) ?_
     intro a59 ha59; clear ha58 a58
     obtain ⟨x60, hx60⟩ := get_ex (xs := list) (j := (i - 1)) (by omega)
     obtain ⟨p61, c62, hi63, hc64, hr65, hs66⟩ := Rds.at_ h_list hx60
     obtain ⟨rfl, b67, b68, b69, b70⟩ := inv_shEnt hr65
     refine dr_val (i := 10) ha59 rfl (by kernel_rfl) (by kernel_rfl) (by kernel_rfl) rfl rfl rfl hs48 (fun w' hw' => op_indexAddr ha59 rfl Try.underlying25 ti41 rfl rfl (by omega) hi63) ?_
     intro a71 ha71; clear ha59 a59
     refine dr_val (i := 11) ha71 rfl (by kernel_rfl) (by kernel_rfl) (by kernel_rfl) rfl rfl rfl hs48 (fun w' hw' => op_fieldAddr (sz := 0) ha71 rfl Try.underlying41 rfl rfl ti2 rfl) ?_
     intro a72 ha72; clear ha71 a71
     refine dr_val (i := 12) ha72 rfl (by kernel_rfl) (by kernel_rfl) (by kernel_rfl) rfl rfl rfl hs48 (fun w' hw' => op_loadF (off := 0) ha72 rfl Try.underlying2 rfl rfl (hc64.ext (hx41.trans' hw')) rfl) ?_
     intro a73 ha73; clear ha72 a72
     refine dr_val (i := 13) ha73 rfl (by kernel_rfl) (by kernel_rfl) (by kernel_rfl) rfl rfl rfl hs48 (fun w' hw' => op_fieldAddr (sz := 0) ha73 rfl Try.underlying41 rfl rfl ti2 rfl) ?_
     intro a74 ha74; clear ha73 a73
     refine dr_val (i := 14) ha74 rfl (by kernel_rfl) (by kernel_rfl) (by kernel_rfl) rfl rfl rfl hs48 (fun w' hw' => op_loadF (off := 0) ha74 rfl Try.underlying2 rfl rfl (hb36.ext hw').cells rfl) ?_
     intro a75 ha75; clear ha74 a74
     refine dr_val (i := 15) ha75 rfl (by kernel_rfl) (by kernel_rfl) (by kernel_rfl) rfl rfl rfl hs48 (fun w' hw' => op_gtr ha75 rfl rfl rfl) ?_
     intro a76 ha76; clear ha75 a75
     refine dr_val (i := 16) ha76 rfl (by kernel_rfl) (by kernel_rfl) (by kernel_rfl) rfl rfl rfl hs48 (fun w' hw' => op_move ha76 rfl rfl) ?_
     intro a77 ha77; clear ha76 a76
     by_cases c78 : x14.1 < x60.1
     ·
      rw [decide_eq_true c78] at ha77
      refine dr_skip (i := 17) ha77 rfl (by kernel_rfl) (by kernel_rfl) (by kernel_rfl) rfl rfl rfl hs48 ?_
      intro a79 ha79; clear ha77 a77
      refine dr_skip (i := 18) ha79 rfl (by kernel_rfl) (by kernel_rfl) (by kernel_rfl) rfl rfl rfl hs48 ?_
      intro a80 ha80; clear ha79 a79
      refine dr_skip (i := 19) ha80 rfl (by kernel_rfl) (by kernel_rfl) (by kernel_rfl) rfl rfl rfl hs48 ?_
      intro a81 ha81; clear ha80 a80
      refine dr_skip (i := 20) ha81 rfl (by kernel_rfl) (by kernel_rfl) (by kernel_rfl) rfl rfl rfl hs48 ?_
      intro a82 ha82; clear ha81 a81
      refine dr_skip (i := 21) ha82 rfl (by kernel_rfl) (by kernel_rfl) (by kernel_rfl) rfl rfl rfl hs48 ?_
      intro a83 ha83; clear ha82 a82
      refine dr_skip (i := 22) ha83 rfl (by kernel_rfl) (by kernel_rfl) (by kernel_rfl) rfl rfl rfl hs48 ?_
      intro a84 ha84; clear ha83 a83
      refine dr_skip (i := 23) ha84 rfl (by kernel_rfl) (by kernel_rfl) (by kernel_rfl) rfl rfl rfl hs48 ?_
      intro a85 ha85; clear ha84 a84
      refine dr_skip (i := 24) ha85 rfl (by kernel_rfl) (by kernel_rfl) (by kernel_rfl) rfl rfl rfl hs48 ?_
      intro a86 ha86; clear ha85 a85
      refine dr_skip (i := 25) ha86 rfl (by kernel_rfl) (by kernel_rfl) (by kernel_rfl) rfl rfl rfl hs48 ?_
      intro a87 ha87; clear ha86 a86
      refine dr_skip (i := 26) ha87 rfl (by kernel_rfl) (by kernel_rfl) (by kernel_rfl) rfl rfl rfl hs48 ?_
      intro a88 ha88; clear ha87 a87
      refine dr_skip (i := 27) ha88 rfl (by kernel_rfl) (by kernel_rfl) (by kernel_rfl) rfl rfl rfl hs48 ?_
      intro a89 ha89; clear ha88 a88
      refine dr_skip (i := 28) ha89 rfl (by kernel_rfl) (by kernel_rfl) (by kernel_rfl) rfl rfl rfl hs48 ?_
      intro a90 ha90; clear ha89 a89
      refine dr_skip (i := 29) ha90 rfl (by kernel_rfl) (by kernel_rfl) (by kernel_rfl) rfl rfl rfl hs48 ?_
      intro a91 ha91; clear ha90 a90
      refine dr_skip (i := 30) ha91 rfl (by kernel_rfl) (by kernel_rfl) (by kernel_rfl) rfl rfl rfl hs48 ?_
      intro a92 ha92; clear ha91 a91
      refine dr_skip (i := 31) ha92 rfl (by kernel_rfl) (by kernel_rfl) (by kernel_rfl) rfl rfl rfl hs48 ?_
      intro a93 ha93; clear ha92 a92
      refine dr_skip (i := 32) ha93 rfl (by kernel_rfl) (by kernel_rfl) (by kernel_rfl) rfl rfl rfl hs48 ?_
      intro a94 ha94; clear ha93 a93
      refine dr_skip (i := 33) ha94 rfl (by kernel_rfl) (by kernel_rfl) (by kernel_rfl) rfl rfl rfl hs48 ?_
      intro a95 ha95; clear ha94 a94
      refine dr_skip (i := 34) ha95 rfl (by kernel_rfl) (by kernel_rfl) (by kernel_rfl) rfl rfl rfl hs48 ?_
      intro a96 ha96; clear ha95 a95
      refine dr_val (i := 35) ha96 rfl (by kernel_rfl) (by kernel_rfl) (by kernel_rfl) rfl rfl rfl hs48 (fun w' hw' => op_pick_t ha96 rfl rfl rfl) ?_
      intro a97 ha97; clear ha96 a96
      refine dr_val (i := 36) ha97 rfl (by kernel_rfl) (by kernel_rfl) (by kernel_rfl) rfl rfl rfl hs48 (fun w' hw' => op_pick_t ha97 rfl rfl rfl) ?_
      intro a98 ha98; clear ha97 a97
      refine dr_val (i := 37) ha98 rfl (by kernel_rfl) (by kernel_rfl) (by kernel_rfl) rfl rfl rfl hs48 (fun w' hw' => op_pick_f ha98 rfl rfl rfl) ?_
      intro a99 ha99; clear ha98 a98
      refine dr_end (by kernel_rfl) ?_
      replace hb36 := hb36.ext hs48
      refine then_n ?_
      refine cond_t ha99 rfl ?_
      refine wp_seq ?_
      refine wp_region_lit ?_
      refine wl_val ha99 rfl rfl rfl (op_assign ha99 rfl rfl) ?_
      intro a100 ha100; clear ha99 a99
      refine wpList_nil ?_
      refine then_n ?_
      refine wp_ret ?_
      refine then_r ?_
      refine block_r ?_
      refine then_r ?_
      refine then_r ?_
      refine block_r ?_
      refine then_r ?_
      refine ret1 ha100 rfl rfl ?_
      clear ha100 a100
      exact ret_mk hx49 (congrArg Value.bool (by rw [dbB_no hx14 (dbAt_no hx14 (by first | (left; assumption) | (right; left; exact ⟨by omega, _, hx60, by omega⟩) | (right; right; exact ⟨by assumption, by assumption⟩)))]))
     ·
      rw [decide_eq_false c78] at ha77
      refine dr_val (i := 17) ha77 rfl (by kernel_rfl) (by kernel_rfl) (by kernel_rfl) rfl rfl rfl hs48 (fun w' hw' => op_move ha77 rfl rfl) ?_
      intro a101 ha101; clear ha77 a77
      refine dr_val (i := 18) ha101 rfl (by kernel_rfl) (by kernel_rfl) (by kernel_rfl) rfl rfl rfl hs48 (fun w' hw' => op_move ha101 rfl rfl) ?_
      intro a102 ha102; clear ha101 a101
      refine dr_val (i := 19) ha102 rfl (by kernel_rfl) (by kernel_rfl) (by kernel_rfl) rfl rfl rfl hs48 (fun w' hw' => (op_sub ha102 rfl rfl rfl).int (IntWalk.i64_in _ (by omega))) ?_
      intro a103 ha103; clear ha102 a102
      refine dr_val (i := 20) ha103 rfl (by kernel_rfl) (by kernel_rfl) (by kernel_rfl) rfl rfl rfl hs48 (fun w' hw' => op_indexAddr ha103 rfl Try.underlying25 ti41 rfl rfl (by omega) hi63) ?_
      intro a104 ha104; clear ha103 a103
      refine dr_val (i := 21) ha104 rfl (by kernel_rfl) (by kernel_rfl) (by kernel_rfl) rfl rfl rfl hs48 (fun w' hw' => op_fieldAddr (sz := 0) ha104 rfl Try.underlying41 rfl rfl ti2 rfl) ?_
      intro a105 ha105; clear ha104 a104
      refine dr_val (i := 22) ha105 rfl (by kernel_rfl) (by kernel_rfl) (by kernel_rfl) rfl rfl rfl hs48 (fun w' hw' => op_loadF (off := 0) ha105 rfl Try.underlying2 rfl rfl (hc64.ext (hx41.trans' hw')) rfl) ?_
      intro a106 ha106; clear ha105 a105
      refine dr_val (i := 23) ha106 rfl (by kernel_rfl) (by kernel_rfl) (by kernel_rfl) rfl rfl rfl hs48 (fun w' hw' => op_fieldAddr (sz := 0) ha106 rfl Try.underlying41 rfl rfl ti2 rfl) ?_
      intro a107 ha107; clear ha106 a106
      refine dr_val (i := 24) ha107 rfl (by kernel_rfl) (by kernel_rfl) (by kernel_rfl) rfl rfl rfl hs48 (fun w' hw' => op_loadF (off := 0) ha107 rfl Try.underlying2 rfl rfl (hb36.ext hw').cells rfl) ?_
      intro a108 ha108; clear ha107 a107
      refine dr_val (i := 25) ha108 rfl (by kernel_rfl) (by kernel_rfl) (by kernel_rfl) rfl rfl rfl hs48 (fun w' hw' => op_eql ha108 rfl rfl rfl) ?_
      intro a109 ha109; clear ha108 a108
      refine dr_val (i := 26) ha109 rfl (by kernel_rfl) (by kernel_rfl) (by kernel_rfl) rfl rfl rfl hs48 (fun w' hw' => op_move ha109 rfl rfl) ?_
      intro a110 ha110; clear ha109 a109
      by_cases c111 : x60.1 = x14.1
      ·
       rw [decide_eq_true c111] at ha110
       refine dr_val (i := 27) ha110 rfl (by kernel_rfl) (by kernel_rfl) (by kernel_rfl) rfl rfl rfl hs48 (fun w' hw' => op_move ha110 rfl rfl) ?_
       intro a112 ha112; clear ha110 a110
       refine dr_val (i := 28) ha112 rfl (by kernel_rfl) (by kernel_rfl) (by kernel_rfl) rfl rfl rfl hs48 (fun w' hw' => op_move ha112 rfl rfl) ?_
       intro a113 ha113; clear ha112 a112
       refine dr_val (i := 29) ha113 rfl (by kernel_rfl) (by kernel_rfl) (by kernel_rfl) rfl rfl rfl hs48 (fun w' hw' => (op_sub ha113 rfl rfl rfl).int (IntWalk.i64_in _ (by omega))) ?_
       intro a114 ha114; clear ha113 a113
       refine dr_val (i := 30) ha114 rfl (by kernel_rfl) (by kernel_rfl) (by kernel_rfl) rfl rfl rfl hs48 (fun w' hw' => op_indexAddr ha114 rfl Try.underlying25 ti41 rfl rfl (by omega) hi63) ?_
       intro a115 ha115; clear ha114 a114
       refine dr_val (i := 31) ha115 rfl (by kernel_rfl) (by kernel_rfl) (by kernel_rfl) rfl rfl rfl hs48 (fun w' hw' => op_fieldAddr (sz := 0) ha115 rfl Try.underlying41 rfl rfl ti2 rfl) ?_
       intro a116 ha116; clear ha115 a115
       refine dr_val (i := 32) ha116 rfl (by kernel_rfl) (by kernel_rfl) (by kernel_rfl) rfl rfl rfl hs48 (fun w' hw' => op_loadF (off := 1) ha116 rfl Try.underlying2 rfl rfl (hc64.ext (hx41.trans' hw')) rfl) ?_
       intro a117 ha117; clear ha116 a116
       refine dr_val (i := 33) ha117 rfl (by kernel_rfl) (by kernel_rfl) (by kernel_rfl) rfl rfl rfl hs48 (fun w' hw' => op_eql ha117 rfl rfl rfl) ?_
       intro a118 ha118; clear ha117 a117
       refine dr_val (i := 34) ha118 rfl (by kernel_rfl) (by kernel_rfl) (by kernel_rfl) rfl rfl rfl hs48 (fun w' hw' => op_pick_t ha118 rfl rfl rfl) ?_
       intro a119 ha119; clear ha118 a118
       refine dr_val (i := 35) ha119 rfl (by kernel_rfl) (by kernel_rfl) (by kernel_rfl) rfl rfl rfl hs48 (fun w' hw' => op_pick_f ha119 rfl rfl rfl) ?_
       intro a120 ha120; clear ha119 a119
       refine dr_val (i := 36) ha120 rfl (by kernel_rfl) (by kernel_rfl) (by kernel_rfl) rfl rfl rfl hs48 (fun w' hw' => op_pick_t ha120 rfl rfl rfl) ?_
       intro a121 ha121; clear ha120 a120
       refine dr_val (i := 37) ha121 rfl (by kernel_rfl) (by kernel_rfl) (by kernel_rfl) rfl rfl rfl hs48 (fun w' hw' => op_pick_f ha121 rfl rfl rfl) ?_
       intro a122 ha122; clear ha121 a121
       refine dr_end (by kernel_rfl) ?_
       replace hb36 := hb36.ext hs48
       refine then_n ?_
       by_cases c123 : x60.2.1 = (3 : Int)
       ·
        rw [decide_eq_true c123] at ha122
        refine cond_t ha122 rfl ?_
        refine wp_seq ?_
        refine wp_region_lit ?_
        refine wl_val ha122 rfl rfl rfl (op_assign ha122 rfl rfl) ?_
        intro a124 ha124; clear ha122 a122
        refine wpList_nil ?_
        refine then_n ?_
        refine wp_ret ?_
        refine then_r ?_
        refine block_r ?_
        refine then_r ?_
        refine then_r ?_
        refine block_r ?_
        refine then_r ?_
        refine ret1 ha124 rfl rfl ?_
        clear ha124 a124
        exact ret_mk hx49 (congrArg Value.bool (by rw [dbB_no hx14 (dbAt_no hx14 (by first | (left; assumption) | (right; left; exact ⟨by omega, _, hx60, by omega⟩) | (right; right; exact ⟨by assumption, by assumption⟩)))]))
       ·
        rw [decide_eq_false c123] at ha122
        refine cond_f ha122 rfl ?_
        refine wp_skip ?_
        refine then_n ?_
        refine wp_seq ?_
        refine dr_enter Ext follows_mixed ?_
        intro w125 he126
        have hx127 := hx49.trans' he126
        have hzhx127 := he126.size
        replace hb36 := hb36.ext he126
        have hs128 : Ext w125 w125 := Ext.rfl' _
        refine dr_val (i := 0) ha122 rfl (by kernel_rfl) (by kernel_rfl) (by kernel_rfl) rfl rfl rfl hs128 (fun w' hw' => op_fieldAddr (sz := 0) ha122 rfl Try.underlying41 rfl rfl ti2 rfl) ?_
        intro a129 ha129; clear ha122 a122
        refine dr_val (i := 1) ha129 rfl (by kernel_rfl) (by kernel_rfl) (by kernel_rfl) rfl rfl rfl hs128 (fun w' hw' => op_loadF (off := 1) ha129 rfl Try.underlying2 rfl rfl (hb36.ext hw').cells rfl) ?_
        intro a130 ha130; clear ha129 a129
        refine dr_val (i := 2) ha130 rfl (by kernel_rfl) (by kernel_rfl) (by kernel_rfl) rfl rfl rfl hs128 (fun w' hw' => op_eql ha130 rfl rfl rfl) ?_
        intro a131 ha131; clear ha130 a130
        refine dr_val (i := 3) ha131 rfl (by kernel_rfl) (by kernel_rfl) (by kernel_rfl) rfl rfl rfl hs128 (fun w' hw' => op_move ha131 rfl rfl) ?_
        intro a132 ha132; clear ha131 a131
        by_cases c133 : x14.2.1 = (1 : Int)
        ·
         rw [decide_eq_true c133] at ha132
         refine dr_val (i := 4) ha132 rfl (by kernel_rfl) (by kernel_rfl) (by kernel_rfl) rfl rfl rfl hs128 (fun w' hw' => op_move ha132 rfl rfl) ?_
         intro a134 ha134; clear ha132 a132
         refine dr_val (i := 5) ha134 rfl (by kernel_rfl) (by kernel_rfl) (by kernel_rfl) rfl rfl rfl hs128 (fun w' hw' => op_move ha134 rfl rfl) ?_
         intro a135 ha135; clear ha134 a134
         refine dr_val (i := 6) ha135 rfl (by kernel_rfl) (by kernel_rfl) (by kernel_rfl) rfl rfl rfl hs128 (fun w' hw' => (op_add ha135 rfl rfl rfl).int (IntWalk.i64_in _ (by omega))) ?_
         intro a136 ha136; clear ha135 a135
         obtain ⟨u137, hu138, hr139⟩ := Rds.part h_list Try.underlying25 ti41 none (some (.int .i64 ((i + 1) : Nat))) 0 ((i + 1)) (.inl ⟨rfl, rfl⟩) (.inr ⟨.i64, rfl⟩) (by omega) (by omega)
         replace hr139 := hr139.cast (ys := list.take ((i + 1))) (by first | rw [List.take_length] | simp)
         refine dr_val (i := 7) ha136 rfl (by kernel_rfl) (by kernel_rfl) (by kernel_rfl) rfl rfl rfl hs128 (fun w' hw' => op_slice_t (by omega) ha136 rfl rfl rfl hu138) ?_
         intro a140 ha140; clear ha136 a136
         refine dr_val (i := 8) ha140 rfl (by kernel_rfl) (by kernel_rfl) (by kernel_rfl) rfl rfl rfl hs128 (fun w' hw' => op_fieldAddr (sz := 0) ha140 rfl Try.underlying41 rfl rfl ti9 rfl) ?_
         intro a141 ha141; clear ha140 a140
         refine dr_val (i := 9) ha141 rfl (by kernel_rfl) (by kernel_rfl) (by kernel_rfl) rfl rfl rfl hs128 (fun w' hw' => op_loadF (off := 2) ha141 rfl Try.underlying9 rfl rfl (hb36.ext hw').cells rfl) ?_
         intro a142 ha142; clear ha141 a141
         refine dr_one (i := 10) (by kernel_rfl) ?_
         refine po_callR ha142 rfl rfl rfl rfl (op_call ha142 rfl cb57 rfl) (c_spec_l33Owes _ u137 (list.take ((i + 1))) x14.2.2.1 (hr139.ext pos_shEnt (hx127.trans' hs128)) (by first | assumption | omega | exact day_pre hA (by assumption) (by assumption) | (simp; omega)) (by first | assumption | omega | exact day_pre hA (by assumption) (by assumption) | (simp; omega))) ?_
         rintro v143 w144 he145 rfl a146 ha146; clear ha142 a142
         have hs147 := hs128.trans' he145
         have hx148 := hx127.trans' he145
         have hzhx148 := he145.size
         refine ⟨hs147, ?_⟩
         refine dr_val (i := 11) ha146 rfl (by kernel_rfl) (by kernel_rfl) (by kernel_rfl) rfl rfl rfl hs147 (fun w' hw' => op_lss ha146 rfl rfl rfl) ?_
         intro a149 ha149; clear ha146 a146
         refine dr_val (i := 12) ha149 rfl (by kernel_rfl) (by kernel_rfl) (by kernel_rfl) rfl rfl rfl hs147 (fun w' hw' => op_pick_t ha149 rfl rfl rfl) ?_
         intro a150 ha150; clear ha149 a149
         refine dr_end (by kernel_rfl) ?_
         replace hb36 := hb36.ext hs147
         refine then_n ?_
         by_cases c151 : (owS x14.2.2.1 (list.take ((i + 1))) : Int) < (0 : Int)
         ·
          rw [decide_eq_true c151] at ha150
          refine cond_t ha150 rfl ?_
          refine wp_seq ?_
          refine wp_region_lit ?_
          refine wl_val ha150 rfl rfl rfl (op_assign ha150 rfl rfl) ?_
          intro a152 ha152; clear ha150 a150
          refine wpList_nil ?_
          refine then_n ?_
          refine wp_ret ?_
          refine block_r ?_
          refine then_r ?_
          refine then_r ?_
          refine block_r ?_
          refine then_r ?_
          refine ret1 ha152 rfl rfl ?_
          clear ha152 a152
          exact ret_mk hx148 (congrArg Value.bool (by rw [dbB_no hx14 (dbAt_no hx14 (by first | (left; assumption) | (right; left; exact ⟨by omega, _, hx60, by omega⟩) | (right; right; exact ⟨by assumption, by assumption⟩)))]))
         ·
          rw [decide_eq_false c151] at ha150
          refine cond_f ha150 rfl ?_
          refine wp_skip ?_
          refine block_n ?_
          refine then_n ?_
          refine wp_region_lit ?_
          refine wl_val ha150 rfl rfl rfl (op_move ha150 rfl rfl) ?_
          intro a153 ha153; clear ha150 a150
          refine wl_val ha153 rfl rfl rfl ((op_add ha153 rfl rfl rfl).int (IntWalk.i64_in _ (by omega))) ?_
          intro a154 ha154; clear ha153 a153
          refine wl_val ha154 rfl rfl rfl (op_assign ha154 rfl rfl) ?_
          intro a155 ha155; clear ha154 a154
          refine wpList_nil ?_
          refine round_end (x := i) ((i + 1)) ?_ ?_
          ·
           refine ⟨(Sl.cons_ ha155 rfl rfl (Sl.cons_ ha155 rfl (int_eq (by omega)) (Sl.nil_ ha155))), hx148, (by omega), (by omega), (by exact upB_step hA (dbAt_ok hx14 (by assumption) (by first | (left; omega) | (right; exact ⟨_, hx60, by omega, by omega⟩)) (by first | (left; assumption) | (right; assumption))))⟩
          ·show (list.length - ((i + 1)) : Nat) < list.length - i; omega
        ·
         rw [decide_eq_false c133] at ha132
         refine dr_skip (i := 4) ha132 rfl (by kernel_rfl) (by kernel_rfl) (by kernel_rfl) rfl rfl rfl hs128 ?_
         intro a156 ha156; clear ha132 a132
         refine dr_skip (i := 5) ha156 rfl (by kernel_rfl) (by kernel_rfl) (by kernel_rfl) rfl rfl rfl hs128 ?_
         intro a157 ha157; clear ha156 a156
         refine dr_skip (i := 6) ha157 rfl (by kernel_rfl) (by kernel_rfl) (by kernel_rfl) rfl rfl rfl hs128 ?_
         intro a158 ha158; clear ha157 a157
         refine dr_skip (i := 7) ha158 rfl (by kernel_rfl) (by kernel_rfl) (by kernel_rfl) rfl rfl rfl hs128 ?_
         intro a159 ha159; clear ha158 a158
         refine dr_skip (i := 8) ha159 rfl (by kernel_rfl) (by kernel_rfl) (by kernel_rfl) rfl rfl rfl hs128 ?_
         intro a160 ha160; clear ha159 a159
         refine dr_skip (i := 9) ha160 rfl (by kernel_rfl) (by kernel_rfl) (by kernel_rfl) rfl rfl rfl hs128 ?_
         intro a161 ha161; clear ha160 a160
         refine dr_skip (i := 10) ha161 rfl (by kernel_rfl) (by kernel_rfl) (by kernel_rfl) rfl rfl rfl hs128 ?_
         intro a162 ha162; clear ha161 a161
         refine dr_skip (i := 11) ha162 rfl (by kernel_rfl) (by kernel_rfl) (by kernel_rfl) rfl rfl rfl hs128 ?_
         intro a163 ha163; clear ha162 a162
         refine dr_val (i := 12) ha163 rfl (by kernel_rfl) (by kernel_rfl) (by kernel_rfl) rfl rfl rfl hs128 (fun w' hw' => op_pick_f ha163 rfl rfl rfl) ?_
         intro a164 ha164; clear ha163 a163
         refine dr_end (by kernel_rfl) ?_
         replace hb36 := hb36.ext hs128
         refine then_n ?_
         refine cond_f ha164 rfl ?_
         refine wp_skip ?_
         refine block_n ?_
         refine then_n ?_
         refine wp_region_lit ?_
         refine wl_val ha164 rfl rfl rfl (op_move ha164 rfl rfl) ?_
         intro a165 ha165; clear ha164 a164
         refine wl_val ha165 rfl rfl rfl ((op_add ha165 rfl rfl rfl).int (IntWalk.i64_in _ (by omega))) ?_
         intro a166 ha166; clear ha165 a165
         refine wl_val ha166 rfl rfl rfl (op_assign ha166 rfl rfl) ?_
         intro a167 ha167; clear ha166 a166
         refine wpList_nil ?_
         refine round_end (x := i) ((i + 1)) ?_ ?_
         ·
          refine ⟨(Sl.cons_ ha167 rfl rfl (Sl.cons_ ha167 rfl (int_eq (by omega)) (Sl.nil_ ha167))), hx127, (by omega), (by omega), (by exact upB_step hA (dbAt_ok hx14 (by assumption) (by first | (left; omega) | (right; exact ⟨_, hx60, by omega, by omega⟩)) (by first | (left; assumption) | (right; assumption))))⟩
         ·show (list.length - ((i + 1)) : Nat) < list.length - i; omega
      ·
       rw [decide_eq_false c111] at ha110
       refine dr_skip (i := 27) ha110 rfl (by kernel_rfl) (by kernel_rfl) (by kernel_rfl) rfl rfl rfl hs48 ?_
       intro a168 ha168; clear ha110 a110
       refine dr_skip (i := 28) ha168 rfl (by kernel_rfl) (by kernel_rfl) (by kernel_rfl) rfl rfl rfl hs48 ?_
       intro a169 ha169; clear ha168 a168
       refine dr_skip (i := 29) ha169 rfl (by kernel_rfl) (by kernel_rfl) (by kernel_rfl) rfl rfl rfl hs48 ?_
       intro a170 ha170; clear ha169 a169
       refine dr_skip (i := 30) ha170 rfl (by kernel_rfl) (by kernel_rfl) (by kernel_rfl) rfl rfl rfl hs48 ?_
       intro a171 ha171; clear ha170 a170
       refine dr_skip (i := 31) ha171 rfl (by kernel_rfl) (by kernel_rfl) (by kernel_rfl) rfl rfl rfl hs48 ?_
       intro a172 ha172; clear ha171 a171
       refine dr_skip (i := 32) ha172 rfl (by kernel_rfl) (by kernel_rfl) (by kernel_rfl) rfl rfl rfl hs48 ?_
       intro a173 ha173; clear ha172 a172
       refine dr_skip (i := 33) ha173 rfl (by kernel_rfl) (by kernel_rfl) (by kernel_rfl) rfl rfl rfl hs48 ?_
       intro a174 ha174; clear ha173 a173
       refine dr_val (i := 34) ha174 rfl (by kernel_rfl) (by kernel_rfl) (by kernel_rfl) rfl rfl rfl hs48 (fun w' hw' => op_pick_f ha174 rfl rfl rfl) ?_
       intro a175 ha175; clear ha174 a174
       refine dr_val (i := 35) ha175 rfl (by kernel_rfl) (by kernel_rfl) (by kernel_rfl) rfl rfl rfl hs48 (fun w' hw' => op_pick_f ha175 rfl rfl rfl) ?_
       intro a176 ha176; clear ha175 a175
       refine dr_val (i := 36) ha176 rfl (by kernel_rfl) (by kernel_rfl) (by kernel_rfl) rfl rfl rfl hs48 (fun w' hw' => op_pick_t ha176 rfl rfl rfl) ?_
       intro a177 ha177; clear ha176 a176
       refine dr_val (i := 37) ha177 rfl (by kernel_rfl) (by kernel_rfl) (by kernel_rfl) rfl rfl rfl hs48 (fun w' hw' => op_pick_f ha177 rfl rfl rfl) ?_
       intro a178 ha178; clear ha177 a177
       refine dr_end (by kernel_rfl) ?_
       replace hb36 := hb36.ext hs48
       refine then_n ?_
       refine cond_f ha178 rfl ?_
       refine wp_skip ?_
       refine then_n ?_
       refine wp_seq ?_
       refine dr_enter Ext follows_mixed ?_
       intro w179 he180
       have hx181 := hx49.trans' he180
       have hzhx181 := he180.size
       replace hb36 := hb36.ext he180
       have hs182 : Ext w179 w179 := Ext.rfl' _
       refine dr_val (i := 0) ha178 rfl (by kernel_rfl) (by kernel_rfl) (by kernel_rfl) rfl rfl rfl hs182 (fun w' hw' => op_fieldAddr (sz := 0) ha178 rfl Try.underlying41 rfl rfl ti2 rfl) ?_
       intro a183 ha183; clear ha178 a178
       refine dr_val (i := 1) ha183 rfl (by kernel_rfl) (by kernel_rfl) (by kernel_rfl) rfl rfl rfl hs182 (fun w' hw' => op_loadF (off := 1) ha183 rfl Try.underlying2 rfl rfl (hb36.ext hw').cells rfl) ?_
       intro a184 ha184; clear ha183 a183
       refine dr_val (i := 2) ha184 rfl (by kernel_rfl) (by kernel_rfl) (by kernel_rfl) rfl rfl rfl hs182 (fun w' hw' => op_eql ha184 rfl rfl rfl) ?_
       intro a185 ha185; clear ha184 a184
       refine dr_val (i := 3) ha185 rfl (by kernel_rfl) (by kernel_rfl) (by kernel_rfl) rfl rfl rfl hs182 (fun w' hw' => op_move ha185 rfl rfl) ?_
       intro a186 ha186; clear ha185 a185
       by_cases c187 : x14.2.1 = (1 : Int)
       ·
        rw [decide_eq_true c187] at ha186
        refine dr_val (i := 4) ha186 rfl (by kernel_rfl) (by kernel_rfl) (by kernel_rfl) rfl rfl rfl hs182 (fun w' hw' => op_move ha186 rfl rfl) ?_
        intro a188 ha188; clear ha186 a186
        refine dr_val (i := 5) ha188 rfl (by kernel_rfl) (by kernel_rfl) (by kernel_rfl) rfl rfl rfl hs182 (fun w' hw' => op_move ha188 rfl rfl) ?_
        intro a189 ha189; clear ha188 a188
        refine dr_val (i := 6) ha189 rfl (by kernel_rfl) (by kernel_rfl) (by kernel_rfl) rfl rfl rfl hs182 (fun w' hw' => (op_add ha189 rfl rfl rfl).int (IntWalk.i64_in _ (by omega))) ?_
        intro a190 ha190; clear ha189 a189
        obtain ⟨u191, hu192, hr193⟩ := Rds.part h_list Try.underlying25 ti41 none (some (.int .i64 ((i + 1) : Nat))) 0 ((i + 1)) (.inl ⟨rfl, rfl⟩) (.inr ⟨.i64, rfl⟩) (by omega) (by omega)
        replace hr193 := hr193.cast (ys := list.take ((i + 1))) (by first | rw [List.take_length] | simp)
        refine dr_val (i := 7) ha190 rfl (by kernel_rfl) (by kernel_rfl) (by kernel_rfl) rfl rfl rfl hs182 (fun w' hw' => op_slice_t (by omega) ha190 rfl rfl rfl hu192) ?_
        intro a194 ha194; clear ha190 a190
        refine dr_val (i := 8) ha194 rfl (by kernel_rfl) (by kernel_rfl) (by kernel_rfl) rfl rfl rfl hs182 (fun w' hw' => op_fieldAddr (sz := 0) ha194 rfl Try.underlying41 rfl rfl ti9 rfl) ?_
        intro a195 ha195; clear ha194 a194
        refine dr_val (i := 9) ha195 rfl (by kernel_rfl) (by kernel_rfl) (by kernel_rfl) rfl rfl rfl hs182 (fun w' hw' => op_loadF (off := 2) ha195 rfl Try.underlying9 rfl rfl (hb36.ext hw').cells rfl) ?_
        intro a196 ha196; clear ha195 a195
        refine dr_one (i := 10) (by kernel_rfl) ?_
        refine po_callR ha196 rfl rfl rfl rfl (op_call ha196 rfl cb57 rfl) (c_spec_l33Owes _ u191 (list.take ((i + 1))) x14.2.2.1 (hr193.ext pos_shEnt (hx181.trans' hs182)) (by first | assumption | omega | exact day_pre hA (by assumption) (by assumption) | (simp; omega)) (by first | assumption | omega | exact day_pre hA (by assumption) (by assumption) | (simp; omega))) ?_
        rintro v197 w198 he199 rfl a200 ha200; clear ha196 a196
        have hs201 := hs182.trans' he199
        have hx202 := hx181.trans' he199
        have hzhx202 := he199.size
        refine ⟨hs201, ?_⟩
        refine dr_val (i := 11) ha200 rfl (by kernel_rfl) (by kernel_rfl) (by kernel_rfl) rfl rfl rfl hs201 (fun w' hw' => op_lss ha200 rfl rfl rfl) ?_
        intro a203 ha203; clear ha200 a200
        refine dr_val (i := 12) ha203 rfl (by kernel_rfl) (by kernel_rfl) (by kernel_rfl) rfl rfl rfl hs201 (fun w' hw' => op_pick_t ha203 rfl rfl rfl) ?_
        intro a204 ha204; clear ha203 a203
        refine dr_end (by kernel_rfl) ?_
        replace hb36 := hb36.ext hs201
        refine then_n ?_
        by_cases c205 : (owS x14.2.2.1 (list.take ((i + 1))) : Int) < (0 : Int)
        ·
         rw [decide_eq_true c205] at ha204
         refine cond_t ha204 rfl ?_
         refine wp_seq ?_
         refine wp_region_lit ?_
         refine wl_val ha204 rfl rfl rfl (op_assign ha204 rfl rfl) ?_
         intro a206 ha206; clear ha204 a204
         refine wpList_nil ?_
         refine then_n ?_
         refine wp_ret ?_
         refine block_r ?_
         refine then_r ?_
         refine then_r ?_
         refine block_r ?_
         refine then_r ?_
         refine ret1 ha206 rfl rfl ?_
         clear ha206 a206
         exact ret_mk hx202 (congrArg Value.bool (by rw [dbB_no hx14 (dbAt_no hx14 (by first | (left; assumption) | (right; left; exact ⟨by omega, _, hx60, by omega⟩) | (right; right; exact ⟨by assumption, by assumption⟩)))]))
        ·
         rw [decide_eq_false c205] at ha204
         refine cond_f ha204 rfl ?_
         refine wp_skip ?_
         refine block_n ?_
         refine then_n ?_
         refine wp_region_lit ?_
         refine wl_val ha204 rfl rfl rfl (op_move ha204 rfl rfl) ?_
         intro a207 ha207; clear ha204 a204
         refine wl_val ha207 rfl rfl rfl ((op_add ha207 rfl rfl rfl).int (IntWalk.i64_in _ (by omega))) ?_
         intro a208 ha208; clear ha207 a207
         refine wl_val ha208 rfl rfl rfl (op_assign ha208 rfl rfl) ?_
         intro a209 ha209; clear ha208 a208
         refine wpList_nil ?_
         refine round_end (x := i) ((i + 1)) ?_ ?_
         ·
          refine ⟨(Sl.cons_ ha209 rfl rfl (Sl.cons_ ha209 rfl (int_eq (by omega)) (Sl.nil_ ha209))), hx202, (by omega), (by omega), (by exact upB_step hA (dbAt_ok hx14 (by assumption) (by first | (left; omega) | (right; exact ⟨_, hx60, by omega, by omega⟩)) (by first | (left; assumption) | (right; assumption))))⟩
         ·show (list.length - ((i + 1)) : Nat) < list.length - i; omega
       ·
        rw [decide_eq_false c187] at ha186
        refine dr_skip (i := 4) ha186 rfl (by kernel_rfl) (by kernel_rfl) (by kernel_rfl) rfl rfl rfl hs182 ?_
        intro a210 ha210; clear ha186 a186
        refine dr_skip (i := 5) ha210 rfl (by kernel_rfl) (by kernel_rfl) (by kernel_rfl) rfl rfl rfl hs182 ?_
        intro a211 ha211; clear ha210 a210
        refine dr_skip (i := 6) ha211 rfl (by kernel_rfl) (by kernel_rfl) (by kernel_rfl) rfl rfl rfl hs182 ?_
        intro a212 ha212; clear ha211 a211
        refine dr_skip (i := 7) ha212 rfl (by kernel_rfl) (by kernel_rfl) (by kernel_rfl) rfl rfl rfl hs182 ?_
        intro a213 ha213; clear ha212 a212
        refine dr_skip (i := 8) ha213 rfl (by kernel_rfl) (by kernel_rfl) (by kernel_rfl) rfl rfl rfl hs182 ?_
        intro a214 ha214; clear ha213 a213
        refine dr_skip (i := 9) ha214 rfl (by kernel_rfl) (by kernel_rfl) (by kernel_rfl) rfl rfl rfl hs182 ?_
        intro a215 ha215; clear ha214 a214
        refine dr_skip (i := 10) ha215 rfl (by kernel_rfl) (by kernel_rfl) (by kernel_rfl) rfl rfl rfl hs182 ?_
        intro a216 ha216; clear ha215 a215
        refine dr_skip (i := 11) ha216 rfl (by kernel_rfl) (by kernel_rfl) (by kernel_rfl) rfl rfl rfl hs182 ?_
        intro a217 ha217; clear ha216 a216
        refine dr_val (i := 12) ha217 rfl (by kernel_rfl) (by kernel_rfl) (by kernel_rfl) rfl rfl rfl hs182 (fun w' hw' => op_pick_f ha217 rfl rfl rfl) ?_
        intro a218 ha218; clear ha217 a217
        refine dr_end (by kernel_rfl) ?_
        replace hb36 := hb36.ext hs182
        refine then_n ?_
        refine cond_f ha218 rfl ?_
        refine wp_skip ?_
        refine block_n ?_
        refine then_n ?_
        refine wp_region_lit ?_
        refine wl_val ha218 rfl rfl rfl (op_move ha218 rfl rfl) ?_
        intro a219 ha219; clear ha218 a218
        refine wl_val ha219 rfl rfl rfl ((op_add ha219 rfl rfl rfl).int (IntWalk.i64_in _ (by omega))) ?_
        intro a220 ha220; clear ha219 a219
        refine wl_val ha220 rfl rfl rfl (op_assign ha220 rfl rfl) ?_
        intro a221 ha221; clear ha220 a220
        refine wpList_nil ?_
        refine round_end (x := i) ((i + 1)) ?_ ?_
        ·
         refine ⟨(Sl.cons_ ha221 rfl rfl (Sl.cons_ ha221 rfl (int_eq (by omega)) (Sl.nil_ ha221))), hx181, (by omega), (by omega), (by exact upB_step hA (dbAt_ok hx14 (by assumption) (by first | (left; omega) | (right; exact ⟨_, hx60, by omega, by omega⟩)) (by first | (left; assumption) | (right; assumption))))⟩
        ·show (list.length - ((i + 1)) : Nat) < list.length - i; omega
    ·
     rw [decide_eq_false c56] at ha55
     refine dr_skip (i := 7) ha55 rfl (by kernel_rfl) (by kernel_rfl) (by kernel_rfl) rfl rfl rfl hs48 ?_
     intro a222 ha222; clear ha55 a55
     refine dr_skip (i := 8) ha222 rfl (by kernel_rfl) (by kernel_rfl) (by kernel_rfl) rfl rfl rfl hs48 ?_
     intro a223 ha223; clear ha222 a222
     refine dr_skip (i := 9) ha223 rfl (by kernel_rfl) (by kernel_rfl) (by kernel_rfl) rfl rfl rfl hs48 ?_
     intro a224 ha224; clear ha223 a223
     refine dr_skip (i := 10) ha224 rfl (by kernel_rfl) (by kernel_rfl) (by kernel_rfl) rfl rfl rfl hs48 ?_
     intro a225 ha225; clear ha224 a224
     refine dr_skip (i := 11) ha225 rfl (by kernel_rfl) (by kernel_rfl) (by kernel_rfl) rfl rfl rfl hs48 ?_
     intro a226 ha226; clear ha225 a225
     refine dr_skip (i := 12) ha226 rfl (by kernel_rfl) (by kernel_rfl) (by kernel_rfl) rfl rfl rfl hs48 ?_
     intro a227 ha227; clear ha226 a226
     refine dr_skip (i := 13) ha227 rfl (by kernel_rfl) (by kernel_rfl) (by kernel_rfl) rfl rfl rfl hs48 ?_
     intro a228 ha228; clear ha227 a227
     refine dr_skip (i := 14) ha228 rfl (by kernel_rfl) (by kernel_rfl) (by kernel_rfl) rfl rfl rfl hs48 ?_
     intro a229 ha229; clear ha228 a228
     refine dr_skip (i := 15) ha229 rfl (by kernel_rfl) (by kernel_rfl) (by kernel_rfl) rfl rfl rfl hs48 ?_
     intro a230 ha230; clear ha229 a229
     refine dr_skip (i := 16) ha230 rfl (by kernel_rfl) (by kernel_rfl) (by kernel_rfl) rfl rfl rfl hs48 ?_
     intro a231 ha231; clear ha230 a230
     refine dr_skip (i := 17) ha231 rfl (by kernel_rfl) (by kernel_rfl) (by kernel_rfl) rfl rfl rfl hs48 ?_
     intro a232 ha232; clear ha231 a231
     refine dr_skip (i := 18) ha232 rfl (by kernel_rfl) (by kernel_rfl) (by kernel_rfl) rfl rfl rfl hs48 ?_
     intro a233 ha233; clear ha232 a232
     refine dr_skip (i := 19) ha233 rfl (by kernel_rfl) (by kernel_rfl) (by kernel_rfl) rfl rfl rfl hs48 ?_
     intro a234 ha234; clear ha233 a233
     refine dr_skip (i := 20) ha234 rfl (by kernel_rfl) (by kernel_rfl) (by kernel_rfl) rfl rfl rfl hs48 ?_
     intro a235 ha235; clear ha234 a234
     refine dr_skip (i := 21) ha235 rfl (by kernel_rfl) (by kernel_rfl) (by kernel_rfl) rfl rfl rfl hs48 ?_
     intro a236 ha236; clear ha235 a235
     refine dr_skip (i := 22) ha236 rfl (by kernel_rfl) (by kernel_rfl) (by kernel_rfl) rfl rfl rfl hs48 ?_
     intro a237 ha237; clear ha236 a236
     refine dr_skip (i := 23) ha237 rfl (by kernel_rfl) (by kernel_rfl) (by kernel_rfl) rfl rfl rfl hs48 ?_
     intro a238 ha238; clear ha237 a237
     refine dr_skip (i := 24) ha238 rfl (by kernel_rfl) (by kernel_rfl) (by kernel_rfl) rfl rfl rfl hs48 ?_
     intro a239 ha239; clear ha238 a238
     refine dr_skip (i := 25) ha239 rfl (by kernel_rfl) (by kernel_rfl) (by kernel_rfl) rfl rfl rfl hs48 ?_
     intro a240 ha240; clear ha239 a239
     refine dr_skip (i := 26) ha240 rfl (by kernel_rfl) (by kernel_rfl) (by kernel_rfl) rfl rfl rfl hs48 ?_
     intro a241 ha241; clear ha240 a240
     refine dr_skip (i := 27) ha241 rfl (by kernel_rfl) (by kernel_rfl) (by kernel_rfl) rfl rfl rfl hs48 ?_
     intro a242 ha242; clear ha241 a241
     refine dr_skip (i := 28) ha242 rfl (by kernel_rfl) (by kernel_rfl) (by kernel_rfl) rfl rfl rfl hs48 ?_
     intro a243 ha243; clear ha242 a242
     refine dr_skip (i := 29) ha243 rfl (by kernel_rfl) (by kernel_rfl) (by kernel_rfl) rfl rfl rfl hs48 ?_
     intro a244 ha244; clear ha243 a243
     refine dr_skip (i := 30) ha244 rfl (by kernel_rfl) (by kernel_rfl) (by kernel_rfl) rfl rfl rfl hs48 ?_
     intro a245 ha245; clear ha244 a244
     refine dr_skip (i := 31) ha245 rfl (by kernel_rfl) (by kernel_rfl) (by kernel_rfl) rfl rfl rfl hs48 ?_
     intro a246 ha246; clear ha245 a245
     refine dr_skip (i := 32) ha246 rfl (by kernel_rfl) (by kernel_rfl) (by kernel_rfl) rfl rfl rfl hs48 ?_
     intro a247 ha247; clear ha246 a246
     refine dr_skip (i := 33) ha247 rfl (by kernel_rfl) (by kernel_rfl) (by kernel_rfl) rfl rfl rfl hs48 ?_
     intro a248 ha248; clear ha247 a247
     refine dr_skip (i := 34) ha248 rfl (by kernel_rfl) (by kernel_rfl) (by kernel_rfl) rfl rfl rfl hs48 ?_
     intro a249 ha249; clear ha248 a248
     refine dr_skip (i := 35) ha249 rfl (by kernel_rfl) (by kernel_rfl) (by kernel_rfl) rfl rfl rfl hs48 ?_
     intro a250 ha250; clear ha249 a249
     refine dr_val (i := 36) ha250 rfl (by kernel_rfl) (by kernel_rfl) (by kernel_rfl) rfl rfl rfl hs48 (fun w' hw' => op_pick_f ha250 rfl rfl rfl) ?_
     intro a251 ha251; clear ha250 a250
     refine dr_val (i := 37) ha251 rfl (by kernel_rfl) (by kernel_rfl) (by kernel_rfl) rfl rfl rfl hs48 (fun w' hw' => op_pick_f ha251 rfl rfl rfl) ?_
     intro a252 ha252; clear ha251 a251
     refine dr_end (by kernel_rfl) ?_
     replace hb36 := hb36.ext hs48
     refine then_n ?_
     refine cond_f ha252 rfl ?_
     refine wp_skip ?_
     refine then_n ?_
     refine wp_seq ?_
     refine dr_enter Ext follows_mixed ?_
     intro w253 he254
     have hx255 := hx49.trans' he254
     have hzhx255 := he254.size
     replace hb36 := hb36.ext he254
     have hs256 : Ext w253 w253 := Ext.rfl' _
     refine dr_val (i := 0) ha252 rfl (by kernel_rfl) (by kernel_rfl) (by kernel_rfl) rfl rfl rfl hs256 (fun w' hw' => op_fieldAddr (sz := 0) ha252 rfl Try.underlying41 rfl rfl ti2 rfl) ?_
     intro a257 ha257; clear ha252 a252
     refine dr_val (i := 1) ha257 rfl (by kernel_rfl) (by kernel_rfl) (by kernel_rfl) rfl rfl rfl hs256 (fun w' hw' => op_loadF (off := 1) ha257 rfl Try.underlying2 rfl rfl (hb36.ext hw').cells rfl) ?_
     intro a258 ha258; clear ha257 a257
     refine dr_val (i := 2) ha258 rfl (by kernel_rfl) (by kernel_rfl) (by kernel_rfl) rfl rfl rfl hs256 (fun w' hw' => op_eql ha258 rfl rfl rfl) ?_
     intro a259 ha259; clear ha258 a258
     refine dr_val (i := 3) ha259 rfl (by kernel_rfl) (by kernel_rfl) (by kernel_rfl) rfl rfl rfl hs256 (fun w' hw' => op_move ha259 rfl rfl) ?_
     intro a260 ha260; clear ha259 a259
     by_cases c261 : x14.2.1 = (1 : Int)
     ·
      rw [decide_eq_true c261] at ha260
      refine dr_val (i := 4) ha260 rfl (by kernel_rfl) (by kernel_rfl) (by kernel_rfl) rfl rfl rfl hs256 (fun w' hw' => op_move ha260 rfl rfl) ?_
      intro a262 ha262; clear ha260 a260
      refine dr_val (i := 5) ha262 rfl (by kernel_rfl) (by kernel_rfl) (by kernel_rfl) rfl rfl rfl hs256 (fun w' hw' => op_move ha262 rfl rfl) ?_
      intro a263 ha263; clear ha262 a262
      refine dr_val (i := 6) ha263 rfl (by kernel_rfl) (by kernel_rfl) (by kernel_rfl) rfl rfl rfl hs256 (fun w' hw' => (op_add ha263 rfl rfl rfl).int (IntWalk.i64_in _ (by omega))) ?_
      intro a264 ha264; clear ha263 a263
      obtain ⟨u265, hu266, hr267⟩ := Rds.part h_list Try.underlying25 ti41 none (some (.int .i64 ((i + 1) : Nat))) 0 ((i + 1)) (.inl ⟨rfl, rfl⟩) (.inr ⟨.i64, rfl⟩) (by omega) (by omega)
      replace hr267 := hr267.cast (ys := list.take ((i + 1))) (by first | rw [List.take_length] | simp)
      refine dr_val (i := 7) ha264 rfl (by kernel_rfl) (by kernel_rfl) (by kernel_rfl) rfl rfl rfl hs256 (fun w' hw' => op_slice_t (by omega) ha264 rfl rfl rfl hu266) ?_
      intro a268 ha268; clear ha264 a264
      refine dr_val (i := 8) ha268 rfl (by kernel_rfl) (by kernel_rfl) (by kernel_rfl) rfl rfl rfl hs256 (fun w' hw' => op_fieldAddr (sz := 0) ha268 rfl Try.underlying41 rfl rfl ti9 rfl) ?_
      intro a269 ha269; clear ha268 a268
      refine dr_val (i := 9) ha269 rfl (by kernel_rfl) (by kernel_rfl) (by kernel_rfl) rfl rfl rfl hs256 (fun w' hw' => op_loadF (off := 2) ha269 rfl Try.underlying9 rfl rfl (hb36.ext hw').cells rfl) ?_
      intro a270 ha270; clear ha269 a269
      refine dr_one (i := 10) (by kernel_rfl) ?_
      refine po_callR ha270 rfl rfl rfl rfl (op_call ha270 rfl cb57 rfl) (c_spec_l33Owes _ u265 (list.take ((i + 1))) x14.2.2.1 (hr267.ext pos_shEnt (hx255.trans' hs256)) (by first | assumption | omega | exact day_pre hA (by assumption) (by assumption) | (simp; omega)) (by first | assumption | omega | exact day_pre hA (by assumption) (by assumption) | (simp; omega))) ?_
      rintro v271 w272 he273 rfl a274 ha274; clear ha270 a270
      have hs275 := hs256.trans' he273
      have hx276 := hx255.trans' he273
      have hzhx276 := he273.size
      refine ⟨hs275, ?_⟩
      refine dr_val (i := 11) ha274 rfl (by kernel_rfl) (by kernel_rfl) (by kernel_rfl) rfl rfl rfl hs275 (fun w' hw' => op_lss ha274 rfl rfl rfl) ?_
      intro a277 ha277; clear ha274 a274
      refine dr_val (i := 12) ha277 rfl (by kernel_rfl) (by kernel_rfl) (by kernel_rfl) rfl rfl rfl hs275 (fun w' hw' => op_pick_t ha277 rfl rfl rfl) ?_
      intro a278 ha278; clear ha277 a277
      refine dr_end (by kernel_rfl) ?_
      replace hb36 := hb36.ext hs275
      refine then_n ?_
      by_cases c279 : (owS x14.2.2.1 (list.take ((i + 1))) : Int) < (0 : Int)
      ·
       rw [decide_eq_true c279] at ha278
       refine cond_t ha278 rfl ?_
       refine wp_seq ?_
       refine wp_region_lit ?_
       refine wl_val ha278 rfl rfl rfl (op_assign ha278 rfl rfl) ?_
       intro a280 ha280; clear ha278 a278
       refine wpList_nil ?_
       refine then_n ?_
       refine wp_ret ?_
       refine block_r ?_
       refine then_r ?_
       refine then_r ?_
       refine block_r ?_
       refine then_r ?_
       refine ret1 ha280 rfl rfl ?_
       clear ha280 a280
       exact ret_mk hx276 (congrArg Value.bool (by rw [dbB_no hx14 (dbAt_no hx14 (by first | (left; assumption) | (right; left; exact ⟨by omega, _, hx14, by omega⟩) | (right; right; exact ⟨by assumption, by assumption⟩)))]))
      ·
       rw [decide_eq_false c279] at ha278
       refine cond_f ha278 rfl ?_
       refine wp_skip ?_
       refine block_n ?_
       refine then_n ?_
       refine wp_region_lit ?_
       refine wl_val ha278 rfl rfl rfl (op_move ha278 rfl rfl) ?_
       intro a281 ha281; clear ha278 a278
       refine wl_val ha281 rfl rfl rfl ((op_add ha281 rfl rfl rfl).int (IntWalk.i64_in _ (by omega))) ?_
       intro a282 ha282; clear ha281 a281
       refine wl_val ha282 rfl rfl rfl (op_assign ha282 rfl rfl) ?_
       intro a283 ha283; clear ha282 a282
       refine wpList_nil ?_
       refine round_end (x := i) ((i + 1)) ?_ ?_
       ·
        refine ⟨(Sl.cons_ ha283 rfl rfl (Sl.cons_ ha283 rfl (int_eq (by omega)) (Sl.nil_ ha283))), hx276, (by omega), (by omega), (by exact upB_step hA (dbAt_ok hx14 (by assumption) (by first | (left; omega) | (right; exact ⟨_, hx14, by omega, by omega⟩)) (by first | (left; assumption) | (right; assumption))))⟩
       ·show (list.length - ((i + 1)) : Nat) < list.length - i; omega
     ·
      rw [decide_eq_false c261] at ha260
      refine dr_skip (i := 4) ha260 rfl (by kernel_rfl) (by kernel_rfl) (by kernel_rfl) rfl rfl rfl hs256 ?_
      intro a284 ha284; clear ha260 a260
      refine dr_skip (i := 5) ha284 rfl (by kernel_rfl) (by kernel_rfl) (by kernel_rfl) rfl rfl rfl hs256 ?_
      intro a285 ha285; clear ha284 a284
      refine dr_skip (i := 6) ha285 rfl (by kernel_rfl) (by kernel_rfl) (by kernel_rfl) rfl rfl rfl hs256 ?_
      intro a286 ha286; clear ha285 a285
      refine dr_skip (i := 7) ha286 rfl (by kernel_rfl) (by kernel_rfl) (by kernel_rfl) rfl rfl rfl hs256 ?_
      intro a287 ha287; clear ha286 a286
      refine dr_skip (i := 8) ha287 rfl (by kernel_rfl) (by kernel_rfl) (by kernel_rfl) rfl rfl rfl hs256 ?_
      intro a288 ha288; clear ha287 a287
      refine dr_skip (i := 9) ha288 rfl (by kernel_rfl) (by kernel_rfl) (by kernel_rfl) rfl rfl rfl hs256 ?_
      intro a289 ha289; clear ha288 a288
      refine dr_skip (i := 10) ha289 rfl (by kernel_rfl) (by kernel_rfl) (by kernel_rfl) rfl rfl rfl hs256 ?_
      intro a290 ha290; clear ha289 a289
      refine dr_skip (i := 11) ha290 rfl (by kernel_rfl) (by kernel_rfl) (by kernel_rfl) rfl rfl rfl hs256 ?_
      intro a291 ha291; clear ha290 a290
      refine dr_val (i := 12) ha291 rfl (by kernel_rfl) (by kernel_rfl) (by kernel_rfl) rfl rfl rfl hs256 (fun w' hw' => op_pick_f ha291 rfl rfl rfl) ?_
      intro a292 ha292; clear ha291 a291
      refine dr_end (by kernel_rfl) ?_
      replace hb36 := hb36.ext hs256
      refine then_n ?_
      refine cond_f ha292 rfl ?_
      refine wp_skip ?_
      refine block_n ?_
      refine then_n ?_
      refine wp_region_lit ?_
      refine wl_val ha292 rfl rfl rfl (op_move ha292 rfl rfl) ?_
      intro a293 ha293; clear ha292 a292
      refine wl_val ha293 rfl rfl rfl ((op_add ha293 rfl rfl rfl).int (IntWalk.i64_in _ (by omega))) ?_
      intro a294 ha294; clear ha293 a293
      refine wl_val ha294 rfl rfl rfl (op_assign ha294 rfl rfl) ?_
      intro a295 ha295; clear ha294 a294
      refine wpList_nil ?_
      refine round_end (x := i) ((i + 1)) ?_ ?_
      ·
       refine ⟨(Sl.cons_ ha295 rfl rfl (Sl.cons_ ha295 rfl (int_eq (by omega)) (Sl.nil_ ha295))), hx255, (by omega), (by omega), (by exact upB_step hA (dbAt_ok hx14 (by assumption) (by first | (left; omega) | (right; exact ⟨_, hx14, by omega, by omega⟩)) (by first | (left; assumption) | (right; assumption))))⟩
      ·show (list.length - ((i + 1)) : Nat) < list.length - i; omega
   ·
    rw [c52] at ha51
    refine dr_skip (i := 4) ha51 rfl (by kernel_rfl) (by kernel_rfl) (by kernel_rfl) rfl rfl rfl hs48 ?_
    intro a296 ha296; clear ha51 a51
    refine dr_skip (i := 5) ha296 rfl (by kernel_rfl) (by kernel_rfl) (by kernel_rfl) rfl rfl rfl hs48 ?_
    intro a297 ha297; clear ha296 a296
    refine dr_skip (i := 6) ha297 rfl (by kernel_rfl) (by kernel_rfl) (by kernel_rfl) rfl rfl rfl hs48 ?_
    intro a298 ha298; clear ha297 a297
    refine dr_skip (i := 7) ha298 rfl (by kernel_rfl) (by kernel_rfl) (by kernel_rfl) rfl rfl rfl hs48 ?_
    intro a299 ha299; clear ha298 a298
    refine dr_skip (i := 8) ha299 rfl (by kernel_rfl) (by kernel_rfl) (by kernel_rfl) rfl rfl rfl hs48 ?_
    intro a300 ha300; clear ha299 a299
    refine dr_skip (i := 9) ha300 rfl (by kernel_rfl) (by kernel_rfl) (by kernel_rfl) rfl rfl rfl hs48 ?_
    intro a301 ha301; clear ha300 a300
    refine dr_skip (i := 10) ha301 rfl (by kernel_rfl) (by kernel_rfl) (by kernel_rfl) rfl rfl rfl hs48 ?_
    intro a302 ha302; clear ha301 a301
    refine dr_skip (i := 11) ha302 rfl (by kernel_rfl) (by kernel_rfl) (by kernel_rfl) rfl rfl rfl hs48 ?_
    intro a303 ha303; clear ha302 a302
    refine dr_skip (i := 12) ha303 rfl (by kernel_rfl) (by kernel_rfl) (by kernel_rfl) rfl rfl rfl hs48 ?_
    intro a304 ha304; clear ha303 a303
    refine dr_skip (i := 13) ha304 rfl (by kernel_rfl) (by kernel_rfl) (by kernel_rfl) rfl rfl rfl hs48 ?_
    intro a305 ha305; clear ha304 a304
    refine dr_skip (i := 14) ha305 rfl (by kernel_rfl) (by kernel_rfl) (by kernel_rfl) rfl rfl rfl hs48 ?_
    intro a306 ha306; clear ha305 a305
    refine dr_skip (i := 15) ha306 rfl (by kernel_rfl) (by kernel_rfl) (by kernel_rfl) rfl rfl rfl hs48 ?_
    intro a307 ha307; clear ha306 a306
    refine dr_skip (i := 16) ha307 rfl (by kernel_rfl) (by kernel_rfl) (by kernel_rfl) rfl rfl rfl hs48 ?_
    intro a308 ha308; clear ha307 a307
    refine dr_skip (i := 17) ha308 rfl (by kernel_rfl) (by kernel_rfl) (by kernel_rfl) rfl rfl rfl hs48 ?_
    intro a309 ha309; clear ha308 a308
    refine dr_skip (i := 18) ha309 rfl (by kernel_rfl) (by kernel_rfl) (by kernel_rfl) rfl rfl rfl hs48 ?_
    intro a310 ha310; clear ha309 a309
    refine dr_skip (i := 19) ha310 rfl (by kernel_rfl) (by kernel_rfl) (by kernel_rfl) rfl rfl rfl hs48 ?_
    intro a311 ha311; clear ha310 a310
    refine dr_skip (i := 20) ha311 rfl (by kernel_rfl) (by kernel_rfl) (by kernel_rfl) rfl rfl rfl hs48 ?_
    intro a312 ha312; clear ha311 a311
    refine dr_skip (i := 21) ha312 rfl (by kernel_rfl) (by kernel_rfl) (by kernel_rfl) rfl rfl rfl hs48 ?_
    intro a313 ha313; clear ha312 a312
    refine dr_skip (i := 22) ha313 rfl (by kernel_rfl) (by kernel_rfl) (by kernel_rfl) rfl rfl rfl hs48 ?_
    intro a314 ha314; clear ha313 a313
    refine dr_skip (i := 23) ha314 rfl (by kernel_rfl) (by kernel_rfl) (by kernel_rfl) rfl rfl rfl hs48 ?_
    intro a315 ha315; clear ha314 a314
    refine dr_skip (i := 24) ha315 rfl (by kernel_rfl) (by kernel_rfl) (by kernel_rfl) rfl rfl rfl hs48 ?_
    intro a316 ha316; clear ha315 a315
    refine dr_skip (i := 25) ha316 rfl (by kernel_rfl) (by kernel_rfl) (by kernel_rfl) rfl rfl rfl hs48 ?_
    intro a317 ha317; clear ha316 a316
    refine dr_skip (i := 26) ha317 rfl (by kernel_rfl) (by kernel_rfl) (by kernel_rfl) rfl rfl rfl hs48 ?_
    intro a318 ha318; clear ha317 a317
    refine dr_skip (i := 27) ha318 rfl (by kernel_rfl) (by kernel_rfl) (by kernel_rfl) rfl rfl rfl hs48 ?_
    intro a319 ha319; clear ha318 a318
    refine dr_skip (i := 28) ha319 rfl (by kernel_rfl) (by kernel_rfl) (by kernel_rfl) rfl rfl rfl hs48 ?_
    intro a320 ha320; clear ha319 a319
    refine dr_skip (i := 29) ha320 rfl (by kernel_rfl) (by kernel_rfl) (by kernel_rfl) rfl rfl rfl hs48 ?_
    intro a321 ha321; clear ha320 a320
    refine dr_skip (i := 30) ha321 rfl (by kernel_rfl) (by kernel_rfl) (by kernel_rfl) rfl rfl rfl hs48 ?_
    intro a322 ha322; clear ha321 a321
    refine dr_skip (i := 31) ha322 rfl (by kernel_rfl) (by kernel_rfl) (by kernel_rfl) rfl rfl rfl hs48 ?_
    intro a323 ha323; clear ha322 a322
    refine dr_skip (i := 32) ha323 rfl (by kernel_rfl) (by kernel_rfl) (by kernel_rfl) rfl rfl rfl hs48 ?_
    intro a324 ha324; clear ha323 a323
    refine dr_skip (i := 33) ha324 rfl (by kernel_rfl) (by kernel_rfl) (by kernel_rfl) rfl rfl rfl hs48 ?_
    intro a325 ha325; clear ha324 a324
    refine dr_skip (i := 34) ha325 rfl (by kernel_rfl) (by kernel_rfl) (by kernel_rfl) rfl rfl rfl hs48 ?_
    intro a326 ha326; clear ha325 a325
    refine dr_skip (i := 35) ha326 rfl (by kernel_rfl) (by kernel_rfl) (by kernel_rfl) rfl rfl rfl hs48 ?_
    intro a327 ha327; clear ha326 a326
    refine dr_skip (i := 36) ha327 rfl (by kernel_rfl) (by kernel_rfl) (by kernel_rfl) rfl rfl rfl hs48 ?_
    intro a328 ha328; clear ha327 a327
    refine dr_val (i := 37) ha328 rfl (by kernel_rfl) (by kernel_rfl) (by kernel_rfl) rfl rfl rfl hs48 (fun w' hw' => op_pick_t ha328 rfl rfl rfl) ?_
    intro a329 ha329; clear ha328 a328
    refine dr_end (by kernel_rfl) ?_
    replace hb36 := hb36.ext hs48
    refine then_n ?_
    refine cond_t ha329 rfl ?_
    refine wp_seq ?_
    refine wp_region_lit ?_
    refine wl_val ha329 rfl rfl rfl (op_assign ha329 rfl rfl) ?_
    intro a330 ha330; clear ha329 a329
    refine wpList_nil ?_
    refine then_n ?_
    refine wp_ret ?_
    refine then_r ?_
    refine block_r ?_
    refine then_r ?_
    refine then_r ?_
    refine block_r ?_
    refine then_r ?_
    refine ret1 ha330 rfl rfl ?_
    clear ha330 a330
    exact ret_mk hx49 (congrArg Value.bool (by rw [dbB_no hx14 (dbAt_no hx14 (by first | (left; assumption) | (right; left; exact ⟨by omega, _, hx14, by omega⟩) | (right; right; exact ⟨by assumption, by assumption⟩)))]))
  ·
   rw [decide_eq_false c11] at ha10
   refine cond_f ha10 rfl ?_
   refine wp_exit ?_
   refine then_e ?_
   refine then_e ?_
   refine block_hit ?_
   refine then_n ?_
   refine wp_seq ?_
   refine wp_region_lit ?_
   refine wl_val ha10 rfl rfl rfl (op_move ha10 rfl rfl) ?_
   intro a331 ha331; clear ha10 a10
   refine wl_val ha331 rfl rfl rfl (op_len_sl ha331 rfl Try.underlying25 rfl h_list) ?_
   intro a332 ha332; clear ha331 a331
   refine wl_val ha332 rfl rfl rfl (op_leq ha332 rfl rfl rfl) ?_
   intro a333 ha333; clear ha332 a332
   refine wl_val ha333 rfl rfl rfl (op_assign ha333 rfl rfl) ?_
   intro a334 ha334; clear ha333 a333
   refine wpList_nil ?_
   refine then_n ?_
   refine wp_ret ?_
   refine ret1 ha334 rfl rfl ?_
   clear ha334 a334
   exact ret_mk hx4 (congrArg Value.bool (by have e : i = list.length := (by omega); rw [e] at hA; unfold dbB; rw [hA]; simp; try omega))


end Go.Proofs.Ytocedhbefdaefaa
