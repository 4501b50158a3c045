/- What stocks are asked for. -/
import Derived.Test.YthbehhhblchhhaaGreatS1
namespace Go.Proofs.YthbehhhblchhhaaGreat
open Go Go.RowKit
set_option maxHeartbeats 16000000

theorem binB_bd {b : Bin} (h : binB b = true) : wordB b.1 = true ∧ (0 ≤ b.2.1 ∧ b.2.1 ≤ 100000) ∧ (0 ≤ b.2.2.1 ∧ b.2.2.1 ≤ b.2.1) ∧ (0 ≤ b.2.2.2.1 ∧ b.2.2.2.1 ≤ 100000) ∧ 1 ≤ b.2.2.2.2 ∧ b.2.2.2.2 ≤ 100000 := by
  unfold binB at h; simp only [Bool.and_eq_true, decide_eq_true_eq] at h
  obtain ⟨⟨⟨⟨h1, h2, h3⟩, h4, h5⟩, h6, h7⟩, h8, h9⟩ := h
  exact ⟨h1, ⟨h2, h3⟩, ⟨h4, h5⟩, ⟨h6, h7⟩, h8, h9⟩
theorem stB_len {xs : List Bin} (h : stB xs = true) : xs.length ≤ 20 := by unfold stB at h; simp only [Bool.and_eq_true, decide_eq_true_eq] at h; exact h.1
theorem stB_at {xs : List Bin} (h : stB xs = true) {i : Nat} {b : Bin} (hb : xs[i]? = some b) : binB b = true ∧ (i = 0 ∨ ∃ a, xs[i - 1]? = some a ∧ a.1 < b.1) := by
  have hi := (List.getElem?_eq_some_iff.1 hb).1
  unfold stB at h; simp only [Bool.and_eq_true] at h
  have h1 := upB_get h.2 hi
  rw [stAt_eq hb] at h1; simp only [Bool.and_eq_true, Bool.or_eq_true, decide_eq_true_eq] at h1
  refine ⟨h1.1, ?_⟩
  rcases h1.2 with h2 | h2
  · exact .inl h2
  · rcases Nat.eq_zero_or_pos i with h3 | h3
    · exact .inl h3
    · obtain ⟨a, ha⟩ := get_ex (xs := xs) (j := i - 1) (by omega)
      rw [ha] at h2; exact .inr ⟨a, ha, by simpa [stPrev] using h2⟩
theorem stB_bd {xs : List Bin} (h : stB xs = true) {i : Nat} {b : Bin} (hb : xs[i]? = some b) : wordB b.1 = true ∧ (0 ≤ b.2.1 ∧ b.2.1 ≤ 100000) ∧ (0 ≤ b.2.2.1 ∧ b.2.2.1 ≤ b.2.1) ∧ (0 ≤ b.2.2.2.1 ∧ b.2.2.2.1 ≤ 100000) ∧ 1 ≤ b.2.2.2.2 ∧ b.2.2.2.2 ≤ 100000 := binB_bd (stB_at h hb).1
def cnB (c : Str) (b : Bin) : Bool := decide (b.1 = c)
def fnB (xs : List Bin) (c : Str) : Int := fdF (cnB c) xs
theorem fnB_bd (xs : List Bin) (c : Str) : -1 ≤ fnB xs c ∧ fnB xs c < xs.length := fdF_bd _ _
/-- What is wrong with a stock, a code and a number of pieces. -/
def stC (xs : List Bin) (c : Str) (p : Int) : Int := if stB xs = true then (if 1 ≤ p ∧ p ≤ 100000 then (if fnB xs c < 0 then 4 else 0) else 2) else 1
theorem stC_0 {xs : List Bin} {c : Str} {p : Int} (h : stC xs c p = 0) : stB xs = true ∧ (1 ≤ p ∧ p ≤ 100000) ∧ 0 ≤ fnB xs c := by
  unfold stC at h
  split at h
  · split at h
    · split at h
      · omega
      · exact ⟨‹_›, ‹_›, by omega⟩
    · omega
  · omega
def bnO (xs : List Bin) (c : Str) : Bin := (xs[(fnB xs c).toNat]?).getD ([], 0, 0, 0, 0)
theorem bnO_eq {xs : List Bin} {c : Str} {x : Bin} (h : xs[(fnB xs c).toNat]? = some x) : bnO xs c = x := by unfold bnO; rw [h]; rfl
def adB (b : Bin) (x y : Int) : Bin := (b.1, b.2.1 + x, b.2.2.1 + y, b.2.2.2.1, b.2.2.2.2)
def chL (xs : List Bin) (k : Nat) (x y : Int) : List Bin := match xs[k]? with
  | none => xs
  | some b => xs.set k (adB b x y)
theorem chL_eq {xs : List Bin} {k : Nat} {b : Bin} (h : xs[k]? = some b) (x y : Int) : chL xs k x y = xs.set k (adB b x y) := by unfold chL; rw [h]
theorem chL_set {xs : List Bin} {k : Nat} {b : Bin} (h : xs[k]? = some b) {x y : Int} {b' : Bin} (hb : b' = adB b x y) : xs.set k b' = chL xs k x y := by rw [chL_eq h, hb]
theorem chL_len (xs : List Bin) (k : Nat) (x y : Int) : (chL xs k x y).length = xs.length := by unfold chL; split <;> simp
theorem bin_ext {a b : Bin} (h1 : a.1 = b.1) (h2 : a.2.1 = b.2.1) (h3 : a.2.2.1 = b.2.2.1) (h4 : a.2.2.2.1 = b.2.2.2.1) (h5 : a.2.2.2.2 = b.2.2.2.2) : a = b := by
  obtain ⟨a1, a2, a3, a4, a5⟩ := a; obtain ⟨b1, b2, b3, b4, b5⟩ := b
  simp only at h1 h2 h3 h4 h5; subst h1; subst h2; subst h3; subst h4; subst h5; rfl
def rsC (xs : List Bin) (c : Str) (p : Int) : Int := if stC xs c p = 0 then (if (bnO xs c).2.1 - (bnO xs c).2.2.1 < p then 5 else 0) else stC xs c p
def rlC (xs : List Bin) (c : Str) (p : Int) : Int := if stC xs c p = 0 then (if (bnO xs c).2.2.1 < p then 5 else 0) else stC xs c p
def flC (xs : List Bin) (c : Str) (p : Int) : Int := if stC xs c p = 0 then (if 100000 < (bnO xs c).2.1 + p then 3 else 0) else stC xs c p
def opL (xs : List Bin) (c : Str) (e x y : Int) : List Bin := if e = 0 then chL xs (fnB xs c).toNat x y else []
theorem opL_ok {xs : List Bin} {c : Str} {e x y : Int} (h : e = 0) : opL xs c e x y = chL xs (fnB xs c).toNat x y := if_pos h
theorem opL_no {xs : List Bin} {c : Str} {e x y : Int} (h : ¬ e = 0) : opL xs c e x y = [] := if_neg h
theorem opL_len (xs : List Bin) (c : Str) (e x y : Int) : (opL xs c e x y).length ≤ xs.length := by unfold opL; split <;> simp [chL_len]
/-- The stock itself, if nothing is wrong. -/
def boL (xs : List Bin) (c : Str) (p : Int) : List Bin := if stC xs c p = 0 then xs else []
def biI (xs : List Bin) (c : Str) (p : Int) : Int := if stC xs c p = 0 then fnB xs c else 0
theorem bo_ok {xs : List Bin} {c : Str} {p : Int} (h : stC xs c p = 0) : boL xs c p = xs ∧ biI xs c p = fnB xs c := ⟨if_pos h, if_pos h⟩
theorem fnB_of {xs : List Bin} {c : Str} {k : Nat} {x : Bin} (h : xs[k]? = some x) (he : x.1 = c) (hl : ∀ j y, j < k → xs[j]? = some y → y.1 ≠ c) : fnB xs c = k := fdF_hit h (by simp [cnB, he]) fun j y hj hy => by simpa [cnB] using hl j y hj hy
theorem fnB_at {xs : List Bin} {c : Str} (h : 0 ≤ fnB xs c) : ∃ x, xs[(fnB xs c).toNat]? = some x ∧ x.1 = c ∧ ∀ j y, j < (fnB xs c).toNat → xs[j]? = some y → y.1 ≠ c := by
  obtain ⟨⟨x, hx, hp⟩, hl⟩ := fdF_at (p := cnB c) (xs := xs) (by unfold fnB at h; omega)
  exact ⟨x, hx, by simpa [cnB] using hp, fun j y hj hy => by have := hl j y hj hy; simpa [cnB] using this⟩
/-- A bin changed: it is found where it was. -/
theorem fnB_ch {xs : List Bin} {c : Str} (h : 0 ≤ fnB xs c) (x y : Int) : fnB (chL xs (fnB xs c).toNat x y) c = fnB xs c := by
  obtain ⟨b, hb, hc, hl⟩ := fnB_at h
  rw [chL_eq hb]
  have hk := (List.getElem?_eq_some_iff.1 hb).1
  rw [fnB_of (k := (fnB xs c).toNat) (x := adB b x y) (by rw [List.getElem?_set_self hk]) hc fun j z hj hz => hl j z hj (by rwa [List.getElem?_set_ne (by omega)] at hz)]
  omega
theorem rl_know {xs : List Bin} {c : Str} {p : Int} (h : rlC xs c p = 0) : stC xs c p = 0 ∧ stB xs = true ∧ (1 ≤ p ∧ p ≤ 100000) ∧ 0 ≤ fnB xs c ∧ p ≤ (bnO xs c).2.2.1 := by
  unfold rlC at h
  split at h
  · rename_i h0; obtain ⟨h1, h2, h3⟩ := stC_0 h0
    split at h
    · omega
    · exact ⟨h0, h1, h2, h3, by omega⟩
  · omega
/-- A stock with more pieces in a bin is one as long as there are not too many. -/
theorem stB_fill {xs : List Bin} {c : Str} {p : Int} (h : stC xs c p = 0) : stB (chL xs (fnB xs c).toNat p 0) = decide ((bnO xs c).2.1 + p ≤ 100000) := by
  obtain ⟨h1, h2, h3⟩ := stC_0 h
  obtain ⟨b, hb, hc, hl⟩ := fnB_at h3
  have hk := (List.getElem?_eq_some_iff.1 hb).1
  obtain ⟨w1, w2, w3, w4, w5⟩ := stB_bd h1 hb
  rw [chL_eq hb, bnO_eq hb]
  have hlen := stB_len h1
  by_cases hp : b.2.1 + p ≤ 100000
  · rw [decide_eq_true hp]
    suffices hu : upB (stAt (xs.set (fnB xs c).toNat (adB b p 0))) (xs.set (fnB xs c).toNat (adB b p 0)).length = true by
      rw [stB_up hu, List.length_set]; exact decide_eq_true hlen
    rw [upB_iff]; intro i hi
    rw [List.length_set] at hi
    obtain ⟨z, hz⟩ := get_ex (xs := xs) (j := i) hi
    obtain ⟨q1, q2⟩ := stB_at h1 hz
    have hprev : ∀ a, xs[i - 1]? = some a → ∃ a', (xs.set (fnB xs c).toNat (adB b p 0))[i - 1]? = some a' ∧ a'.1 = a.1 := by
      intro a ha
      by_cases e : i - 1 = (fnB xs c).toNat
      · rw [e] at ha ⊢; rw [hb] at ha; cases ha; exact ⟨_, List.getElem?_set_self hk, rfl⟩
      · exact ⟨a, by rw [List.getElem?_set_ne (by omega)]; exact ha, rfl⟩
    by_cases e : i = (fnB xs c).toNat
    · have hz' : (xs.set (fnB xs c).toNat (adB b p 0))[i]? = some (adB b p 0) := by rw [e]; exact List.getElem?_set_self hk
      rw [e, hb] at hz; cases hz
      refine stAt_ok hz' ?_ ?_
      · unfold binB adB; simp only [Bool.and_eq_true, decide_eq_true_eq]; exact ⟨⟨⟨⟨w1, by omega, by omega⟩, by omega, by omega⟩, by omega, by omega⟩, by omega, by omega⟩
      · rcases q2 with q2 | ⟨a, ha, q3⟩
        · exact .inl q2
        · obtain ⟨a', ha', e'⟩ := hprev a ha; exact .inr ⟨a', ha', by rw [e']; exact q3⟩
    · refine stAt_ok (b := z) (by rw [List.getElem?_set_ne (by omega)]; exact hz) q1 ?_
      rcases q2 with q2 | ⟨a, ha, q3⟩
      · exact .inl q2
      · obtain ⟨a', ha', e'⟩ := hprev a ha; exact .inr ⟨a', ha', by rw [e']; exact q3⟩
  · rw [decide_eq_false hp]
    refine stB_no (i := (fnB xs c).toNat) (List.getElem?_set_self hk) (stAt_no (List.getElem?_set_self hk) (.inl ?_))
    cases e : binB (adB b p 0) with
    | false => rfl
    | true => have := (binB_bd e).2.1; simp only [adB] at this; omega

theorem c_impl_findBin (w0 : World) (v_list : Value) (list : List (Str × Int × Int × Int × Int)) {S_list : Nat → Prop} (code : Str) (h_list : Rds shBin S_list w0 v_list list) :
    Calls Tryz.prog 115 #[v_list, St code] w0 (Ret w0 (fun v _ => v = .int .i64 (fnB list code))) := by
 refine enter (N := 20) Tryz.func115 rfl rfl rfl ?_
 intro A H
 have hx0 := Ext.rfl' w0
 have hl_list := h_list.length_le
 revert A; refine go ?_; intro A H
 refine wv H (ln H U30 h_list) ?_
 clear H A; refine go ?_; intro A H
 refine loop_inv (X := Nat) (fun i fr wl => Sl 20 fr [(1, St code), (7, v_list), (8, .int .i64 ((list.length : Nat) : Int)), (9, .int .i64 ((i : Nat) : Int))] ∧ Ext w0 wl ∧ w0.heap.size ≤ wl.heap.size ∧ (i ≤ list.length) ∧ (∀ (j : Nat) (y : Str × Int × Int × Int × Int), j < i → list[j]? = some y → (cnB code) y = false)) (fun i => list.length - i) (0) ?_ ?_
 exact ⟨(sl H), hx0, (by omega), (by omega), (by exact all_zero)⟩
 clear H A
 rintro i A w5 ⟨H, hx6, hzl8, hi, hA⟩
 have hzhx6 := hx6.size
 revert A; refine go ?_; intro A H
 by_cases c10 : ((i : Nat) : Int) < ((list.length : Nat) : Int)
 rw [decide_eq_true c10] at H
 revert A; refine go ?_; intro A H
 obtain ⟨x12, hx12⟩ := get_ex (xs := list) (j := i) (by omega)
 obtain ⟨p13, hi15, hc16, b19, b20, b21, b22, b23, hs18⟩ := at_shBin h_list hx12
 refine wv H (ix H U30 ti65 hi15) ?_
 clear H A; intro A H
 refine wv H (ls H U65 ti65 (hc16.ext hx6)) ?_
 clear H A; intro A H
 refine we H (op_alloc' rfl ti65 rfl) ?_
 clear H A; rintro _ w27 ⟨rfl, he28, hb29, hz30⟩ A H
 obtain ⟨hx32, _⟩ := nx hx6 he28
 refine wv H (op_assign H rfl rfl) ?_
 clear H A; intro A H
 refine ws H (op_sa H ti65 hb29) ?_
 rintro w34 ⟨hb36, hst35, hz37⟩
 obtain ⟨hx38, _⟩ := nb hx32 hst35
 clear hb29
 revert A; refine go ?_; intro A H
 refine fl 0 H U65 ti9 U9 hb36.cells ?_
 clear H A; refine go ?_; intro A H
 by_cases c43 : x12.1 = code
 rw [decide_eq_true c43] at H
 revert A; refine go ?_; intro A H
 refine ret1 H rfl rfl ?_
 clear H A
 exact ret_mk hx38 (int_eq (by exact (fdF_hit hx12 (by simp [cnB, c43]) hA).symm))
 rw [decide_eq_false c43] at H
 revert A; refine go ?_; intro A H
 refine wv H ((op_add H rfl rfl rfl).int (IntWalk.i64_in _ (by omega))) ?_
 clear H A; refine go ?_; intro A H
 refine ⟨((i + 1)), ?_, ?_⟩
 refine ⟨(sl H), hx38, (by omega), (by omega), (by exact all_snoc (p := fun y => (cnB code) y = false) hA hx12 (by simp [cnB, c43]))⟩
 show (list.length - ((i + 1)) : Nat) < list.length - i; omega
 rw [decide_eq_false c10] at H
 revert A; refine go ?_; intro A H
 refine ret1 H rfl rfl ?_
 clear H A
 exact ret_mk hx6 (int_eq (by exact (fdF_none fun j y hj hy => hA j y (by omega) hy).symm))



theorem c_spec_l24Find (w0 : World) (v_list : Value) (list : List (Str × Int × Int × Int × Int)) {S_list : Nat → Prop} (code : Str) (h_list : Rds shBin S_list w0 v_list list) :
    Calls Tryz.prog 145 #[v_list, St code] w0 (Ret w0 (fun v _ => v = .int .i64 (fnB list code))) := by
 refine enter (N := 20) Tryz.func145 rfl rfl rfl ?_
 intro A H
 have hx0 := Ext.rfl' w0
 have hl_list := h_list.length_le
 revert A; refine go ?_; intro A H
 refine loop_inv (X := Nat) (fun i fr wl => Sl 20 fr [(0, v_list), (1, St code), (5, .int .i64 ((i : Nat) : Int))] ∧ Ext w0 wl ∧ w0.heap.size ≤ wl.heap.size ∧ (i ≤ list.length) ∧ (∀ (j : Nat) (y : Str × Int × Int × Int × Int), j < i → list[j]? = some y → (cnB code) y = false)) (fun i => list.length - i) (0) ?_ ?_
 exact ⟨(sl H), hx0, (by omega), (by omega), (by exact all_zero)⟩
 clear H A
 rintro i A w3 ⟨H, hx4, hzl6, hi, hA⟩
 have hzhx4 := hx4.size
 revert A; refine go ?_; intro A H
 refine wv H (ln H U30 h_list) ?_
 clear H A; refine go ?_; intro A H
 by_cases c11 : ((i : Nat) : Int) < ((list.length : Nat) : Int)
 rw [decide_eq_true c11] at H
 revert A; refine go ?_; intro A H
 obtain ⟨x14, hx14⟩ := get_ex (xs := list) (j := i) (by omega)
 obtain ⟨p15, hi17, hc18, b21, b22, b23, b24, b25, hs20⟩ := at_shBin h_list hx14
 refine wv H (ix H U30 ti65 hi17) ?_
 clear H A; intro A H
 refine wv H (fa H U65 ti9) ?_
 clear H A; intro A H
 refine wv H (lf 0 H U9 (hc18.ext hx4)) ?_
 clear H A; refine go ?_; intro A H
 by_cases c31 : x14.1 = code
 rw [decide_eq_true c31] at H
 revert A; refine go ?_; intro A H
 refine ret1 H rfl rfl ?_
 clear H A
 exact ret_mk hx4 (int_eq (by exact (fdF_hit hx14 (by simp [cnB, c31]) hA).symm))
 rw [decide_eq_false c31] at H
 revert A; refine go ?_; intro A H
 refine wv H ((op_add H rfl rfl rfl).int (IntWalk.i64_in _ (by omega))) ?_
 clear H A; refine go ?_; intro A H
 refine ⟨((i + 1)), ?_, ?_⟩
 refine ⟨(sl H), hx4, (by omega), (by omega), (by exact all_snoc (p := fun y => (cnB code) y = false) hA hx14 (by simp [cnB, c31]))⟩
 show (list.length - ((i + 1)) : Nat) < list.length - i; omega
 rw [decide_eq_false c11] at H
 revert A; refine go ?_; intro A H
 refine ret1 H rfl rfl ?_
 clear H A
 exact ret_mk hx4 (int_eq (by exact (fdF_none fun j y hj hy => hA j y (by omega) hy).symm))



theorem c_spec_l24Code (w0 : World) (v_list : Value) (list : List (Str × Int × Int × Int × Int)) {S_list : Nat → Prop} (code : Str) (pieces : Int) (h_list : Rds shBin S_list w0 v_list list) :
    Calls Tryz.prog 146 #[v_list, St code, .int .i64 pieces] w0 (Ret w0 (fun v _ => v = .int .i64 (stC list code pieces))) := by
 refine enter (N := 20) Tryz.func146 rfl rfl rfl ?_
 intro A H
 have hx0 := Ext.rfl' w0
 have hl_list := h_list.length_le
 have hfb := fnB_bd list code
 revert A; refine go ?_; intro A H
 refine wc H cb56 (c_spec_IsStock _ v_list list (h_list.ext pos_shBin hx0)) ?_
 clear H A; rintro v3 w4 he5 rfl A H
 obtain ⟨hx7, _⟩ := nx hx0 he5
 revert A; refine go ?_; intro A H
 rcases Bool.eq_false_or_eq_true (stB list) with c10 | c10
 rw [c10] at H
 have hlenc10 := stB_len c10
 revert A; refine go ?_; intro A H
 refine wc H cb87 (c_spec_l01In _ pieces (1 : Int) (100000 : Int) ) ?_
 clear H A; rintro v12 w13 he14 rfl A H
 obtain ⟨hx16, _⟩ := nx hx7 he14
 revert A; refine go ?_; intro A H
 rcases Bool.eq_false_or_eq_true (decide ((1 : Int) ≤ pieces) && decide (pieces ≤ (100000 : Int))) with c19 | c19
 rw [c19] at H
 revert A; refine go ?_; intro A H
 refine wc H cb145 (c_spec_l24Find _ v_list list code (h_list.ext pos_shBin hx16)) ?_
 clear H A; rintro v22 w23 he24 rfl A H
 obtain ⟨hx26, _⟩ := nx hx16 he24
 revert A; refine go ?_; intro A H
 by_cases c29 : (fnB list code : Int) < (0 : Int)
 rw [decide_eq_true c29] at H
 revert A; refine go ?_; intro A H
 refine ret1 H rfl rfl ?_
 clear H A
 exact ret_mk hx26 (int_eq (by simp_all [stC]))
 rw [decide_eq_false c29] at H
 revert A; refine go ?_; intro A H
 refine ret1 H rfl rfl ?_
 clear H A
 exact ret_mk hx26 (int_eq (by simp_all [stC]))
 rw [c19] at H
 revert A; refine go ?_; intro A H
 refine ret1 H rfl rfl ?_
 clear H A
 exact ret_mk hx16 (int_eq (by simp_all [stC]; omega))
 rw [c10] at H
 revert A; refine go ?_; intro A H
 refine ret1 H rfl rfl ?_
 clear H A
 exact ret_mk hx7 (int_eq (by simp [stC, c10]))



theorem c_spec_l24Free (w0 : World) (b : Str × Int × Int × Int × Int) (g0 : 0 ≤ b.2.1 ∧ b.2.1 ≤ 100000) (g1 : 0 ≤ b.2.2.1 ∧ b.2.2.1 ≤ 100000) :
    Calls Tryz.prog 148 #[.agg #[St b.1, .int .i64 b.2.1, .int .i64 b.2.2.1, .int .i64 b.2.2.2.1, .int .i64 b.2.2.2.2]] w0 (Ret w0 (fun v _ => v = .int .i64 (b.2.1 - b.2.2.1))) := by
 refine enter (N := 8) Tryz.func148 rfl rfl rfl ?_
 intro A H
 have hx0 := Ext.rfl' w0
 revert A; refine go ?_; intro A H
 refine we H (op_box' H rfl rfl rfl) ?_
 clear H A; rintro _ w2 ⟨rfl, he3, hb4, hz5⟩ A H
 obtain ⟨hx7, _⟩ := nx hx0 he3
 revert A; refine go ?_; intro A H
 refine fl 1 H U65 ti2 U2 hb4.cells ?_
 clear H A; intro A H
 refine fl 2 H U65 ti2 U2 hb4.cells ?_
 clear H A; intro A H
 refine wv H ((op_sub H rfl rfl rfl).int (IntWalk.i64_in _ (by omega))) ?_
 clear H A; refine go ?_; intro A H
 refine ret1 H rfl rfl ?_
 clear H A
 exact ret_mk hx7 (int_eq (by rfl))



theorem c_impl_FreePieces (w0 : World) (v_list : Value) (list : List (Str × Int × Int × Int × Int)) {S_list : Nat → Prop} (code : Str) (h_list : Rds shBin S_list w0 v_list list) :
    Calls Tryz.prog 98 #[v_list, St code] w0 (Ret w0 (fun v _ => v = .tuple #[.int .i64 (if stC list code 1 = 0 then (bnO list code).2.1 - (bnO list code).2.2.1 else 0), .int .i64 (stC list code 1)])) := by
 refine enter (N := 26) Tryz.func98 rfl rfl rfl ?_
 intro A H
 have hx0 := Ext.rfl' w0
 have hl_list := h_list.length_le
 have hfb := fnB_bd list code
 revert A; refine go ?_; intro A H
 refine wc H cb53 (c_impl_IsStock _ v_list list (h_list.ext pos_shBin hx0)) ?_
 clear H A; rintro v4 w5 he6 rfl A H
 obtain ⟨hx8, _⟩ := nx hx0 he6
 revert A; refine go ?_; intro A H
 rcases Bool.eq_false_or_eq_true (stB list) with c10 | c10
 rw [c10] at H
 have hlenc10 := stB_len c10
 revert A; refine go ?_; intro A H
 refine wc H cb115 (c_impl_findBin _ v_list list code (h_list.ext pos_shBin hx8)) ?_
 clear H A; rintro v13 w14 he15 rfl A H
 obtain ⟨hx17, _⟩ := nx hx8 he15
 revert A; refine go ?_; intro A H
 by_cases c21 : (fnB list code : Int) < (0 : Int)
 rw [decide_eq_true c21] at H
 revert A; refine go ?_; intro A H
 refine ret2 H rfl rfl rfl ?_
 clear H A
 exact ret_mk hx17 (tup2_eq (int_eq (by simp [stC, c10, c21])) (int_eq (by simp [stC, c10, c21])))
 rw [decide_eq_false c21] at H
 revert A; refine go ?_; intro A H
 refine dre Ext follows_mixed ?_
 intro w24 he25 hs27
 obtain ⟨hx26, _⟩ := nx hx17 he25
 revert A; refine dgo [0, 1] hs27 ?_; intro A H
 obtain ⟨x30, hx30⟩ := get_ex (xs := list) (j := ((fnB list code : Int)).toNat) (by omega)
 obtain ⟨p31, hi33, hc34, b37, b38, b39, b40, b41, hs36⟩ := at_shBin h_list hx30
 have hbx30 := stB_bd c10 hx30
 have hnx30 := bnO_eq (c := code) hx30
 refine dw 2 H rfl hs27 (ix H U30 ti65 hi33) ?_
 clear H A; intro A H
 refine dw 3 H rfl hs27 (fa H U65 ti2) ?_
 clear H A; intro A H
 refine dv 4 H rfl hs27 (fun w' hw' => lf 1 H U2 (hc34.ext (hx26.trans' hw'))) ?_
 clear H A; refine dgo [5, 6] hs27 ?_; intro A H
 refine dw 7 H rfl hs27 (ix H U30 ti65 hi33) ?_
 clear H A; intro A H
 refine dw 8 H rfl hs27 (fa H U65 ti2) ?_
 clear H A; intro A H
 refine dv 9 H rfl hs27 (fun w' hw' => lf 2 H U2 (hc34.ext (hx26.trans' hw'))) ?_
 clear H A; intro A H
 refine dw 10 H rfl hs27 ((op_sub H rfl rfl rfl).int (IntWalk.i64_in _ (by omega))) ?_
 clear H A; refine dgo [11, 12] hs27 ?_; intro A H
 refine dr_end (by kernel_rfl) ?_
 revert A; refine go ?_; intro A H
 refine ret2 H rfl rfl rfl ?_
 clear H A
 exact ret_mk hx26 (tup2_eq (int_eq (by simp [stC, bnO, c10, c21, hx30])) (int_eq (by simp [stC, c10, c21])))
 rw [c10] at H
 revert A; refine go ?_; intro A H
 refine ret2 H rfl rfl rfl ?_
 clear H A
 exact ret_mk hx8 (tup2_eq (int_eq (by simp [stC, c10])) (int_eq (by simp [stC, c10])))



theorem c_spec_FreePieces (w0 : World) (v_list : Value) (list : List (Str × Int × Int × Int × Int)) {S_list : Nat → Prop} (code : Str) (h_list : Rds shBin S_list w0 v_list list) :
    Calls Tryz.prog 135 #[v_list, St code] w0 (Ret w0 (fun v _ => v = .tuple #[.int .i64 (if stC list code 1 = 0 then (bnO list code).2.1 - (bnO list code).2.2.1 else 0), .int .i64 (stC list code 1)])) := by
 refine enter (N := 20) Tryz.func135 rfl rfl rfl ?_
 intro A H
 have hx0 := Ext.rfl' w0
 have hl_list := h_list.length_le
 have hfb := fnB_bd list code
 revert A; refine go ?_; intro A H
 refine wc H cb146 (c_spec_l24Code _ v_list list code (1 : Int) (h_list.ext pos_shBin hx0)) ?_
 clear H A; rintro v5 w6 he7 rfl A H
 obtain ⟨hx9, _⟩ := nx hx0 he7
 revert A; refine go ?_; intro A H
 by_cases c13 : (stC list code (1 : Int) : Int) = (0 : Int)
 rw [decide_eq_true c13] at H
 obtain ⟨hk1c13, hk2c13, hk3c13⟩ := stC_0 c13
 have hlenc13 := stB_len hk1c13
 obtain ⟨hboc13, hbic13⟩ := bo_ok c13
 have hblc13 := congrArg List.length hboc13
 revert A; refine go ?_; intro A H
 refine wc H cb145 (c_spec_l24Find _ v_list list code (h_list.ext pos_shBin hx9)) ?_
 clear H A; rintro v17 w18 he19 rfl A H
 obtain ⟨hx21, _⟩ := nx hx9 he19
 obtain ⟨x22, hx22⟩ := get_ex (xs := list) (j := ((fnB list code : Int)).toNat) (by omega)
 obtain ⟨p23, hi25, hc26, b29, b30, b31, b32, b33, hs28⟩ := at_shBin h_list hx22
 have hbx22 := stB_bd hk1c13 hx22
 have hnx22 := bnO_eq (c := code) hx22
 refine wv H (ix H U30 ti65 hi25) ?_
 clear H A; intro A H
 refine wv H (ls H U65 ti65 (hc26.ext hx21)) ?_
 clear H A; intro A H
 refine wc H cb148 (c_spec_l24Free _ x22 (by omega) (by omega)) ?_
 clear H A; rintro v36 w37 he38 rfl A H
 obtain ⟨hx40, _⟩ := nx hx21 he38
 revert A; refine go ?_; intro A H
 refine ret2 H rfl rfl rfl ?_
 clear H A
 exact ret_mk hx40 (tup2_eq (int_eq (by simp_all [stC, bnO])) (int_eq (by simp_all [stC])))
 rw [decide_eq_false c13] at H
 revert A; refine go ?_; intro A H
 refine ret2 H rfl rfl rfl ?_
 clear H A
 exact ret_mk hx9 (tup2_eq (int_eq (by simp_all [stC])) (int_eq (by simp [stC])))



theorem c_impl_binOf (w0 : World) (v_list : Value) (list : List (Str × Int × Int × Int × Int)) {S_list : Nat → Prop} (code : Str) (pieces : Int) (h_list : Rds shBin S_list w0 v_list list) :
    Calls Tryz.prog 116 #[v_list, St code, .int .i64 pieces] w0 (Ret w0 (fun v w1 => ∃ r0, v = .tuple #[r0, .int .i64 (biI list code pieces), .int .i64 (stC list code pieces)] ∧ Own shBin 65 w0.heap.size w0.heap.size w1.heap.size w1 r0 (boL list code pieces))) := by
 refine enter (N := 25) Tryz.func116 rfl rfl rfl ?_
 intro A H
 have hx0 := Ext.rfl' w0
 have hl_list := h_list.length_le
 have hfb := fnB_bd list code
 revert A; refine go ?_; intro A H
 refine wc H cb53 (c_impl_IsStock _ v_list list (h_list.ext pos_shBin hx0)) ?_
 clear H A; rintro v5 w6 he7 rfl A H
 obtain ⟨hx9, _⟩ := nx hx0 he7
 revert A; refine go ?_; intro A H
 rcases Bool.eq_false_or_eq_true (stB list) with c11 | c11
 rw [c11] at H
 have hlenc11 := stB_len c11
 revert A; refine go ?_; intro A H
 refine wc H cb81 (c_impl_within _ pieces (1 : Int) (100000 : Int) ) ?_
 clear H A; rintro v13 w14 he15 rfl A H
 obtain ⟨hx17, _⟩ := nx hx9 he15
 revert A; refine go ?_; intro A H
 rcases Bool.eq_false_or_eq_true (decide ((1 : Int) ≤ pieces) && decide (pieces ≤ (100000 : Int))) with c19 | c19
 rw [c19] at H
 revert A; refine go ?_; intro A H
 refine wc H cb115 (c_impl_findBin _ v_list list code (h_list.ext pos_shBin hx17)) ?_
 clear H A; rintro v22 w23 he24 rfl A H
 obtain ⟨hx26, _⟩ := nx hx17 he24
 revert A; refine go ?_; intro A H
 by_cases c30 : (fnB list code : Int) < (0 : Int)
 rw [decide_eq_true c30] at H
 revert A; refine go ?_; intro A H
 refine ret3 H rfl rfl rfl rfl ?_
 clear H A
 have hs : stC list code pieces = 4 := by (simp_all [stC]; done)
 refine ret_mk hx26 ⟨.slice none 0 0, (tup3_eq rfl (int_eq (by simp [biI, hs])) (int_eq (by exact hs.symm))), ?_⟩
 refine Own.nil_ _ _ _ _ _ _ ?_
 simp [boL, hs]
 rw [decide_eq_false c30] at H
 revert A; refine go ?_; intro A H
 refine we H (op_b0 H pos_shBin U30 ti65) ?_
 clear H A; rintro v34 w35 ⟨ho36, he37, hob38⟩ A H
 obtain ⟨hx40, _⟩ := nx hx26 he37
 refine wv H (op_move H rfl rfl) ?_
 clear H A; intro A H
 refine we H (op_ap (ts := #[]) H U30 ti65 pos_shBin ho36 (h_list.ext pos_shBin hx40) flat_shBin) ?_
 clear H A; rintro v42 w43 ⟨ho44, hst45, hob46⟩ A H
 replace ho44 := ho44.cast (List.nil_append _)
 obtain ⟨hx48, _⟩ := no hx40 ho36 hst45
 revert A; refine go ?_; intro A H
 refine ret3 H rfl rfl rfl rfl ?_
 clear H A
 have hs : stC list code pieces = 0 := by (simp_all [stC]; done)
 refine ret_mk hx48 ⟨v42, (tup3_eq rfl (int_eq (by simp [biI, hs])) (int_eq (by exact hs.symm))), ?_⟩
 refine (fi ho44).cast ?_
 simp [boL, hs]
 rw [c19] at H
 revert A; refine go ?_; intro A H
 refine ret3 H rfl rfl rfl rfl ?_
 clear H A
 have hs : stC list code pieces = 2 := by (simp_all [stC]; omega)
 refine ret_mk hx17 ⟨.slice none 0 0, (tup3_eq rfl (int_eq (by simp [biI, hs])) (int_eq (by exact hs.symm))), ?_⟩
 refine Own.nil_ _ _ _ _ _ _ ?_
 simp [boL, hs]
 rw [c11] at H
 revert A; refine go ?_; intro A H
 refine ret3 H rfl rfl rfl rfl ?_
 clear H A
 have hs : stC list code pieces = 1 := by (simp [stC, c11]; done)
 refine ret_mk hx9 ⟨.slice none 0 0, (tup3_eq rfl (int_eq (by simp [biI, hs])) (int_eq (by exact hs.symm))), ?_⟩
 refine Own.nil_ _ _ _ _ _ _ ?_
 simp [boL, hs]




end Go.Proofs.YthbehhhblchhhaaGreat
