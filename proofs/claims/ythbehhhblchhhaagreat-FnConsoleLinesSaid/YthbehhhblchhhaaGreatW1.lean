/- Small functions over numbers and words. -/
import Derived.Test.YthbehhhblchhhaaGreatShapes
import Derived.Test.YthbehhhblchhhaaGreatShort
namespace Go.Proofs.YthbehhhblchhhaaGreat
open Go Go.RowKit
set_option maxHeartbeats 16000000

/-- Does f hold below n? -/
def upB (f : Nat → Bool) : Nat → Bool
  | 0 => true
  | n + 1 => upB f n && f n
theorem upB_zero (f : Nat → Bool) : upB f 0 = true := rfl
theorem upB_step {f : Nat → Bool} {n : Nat} (h : upB f n = true) (h' : f n = true) : upB f (n + 1) = true := by rw [upB, h, h']; rfl
theorem upB_bad {f : Nat → Bool} {i : Nat} : ∀ {n : Nat}, i < n → f i = false → upB f n = false
  | n + 1, hi, h => by
    rw [upB]
    by_cases e : i = n
    · subst e; rw [h, Bool.and_false]
    · rw [upB_bad (by omega) h, Bool.false_and]
theorem upB_get {f : Nat → Bool} {i : Nat} : ∀ {n : Nat}, upB f n = true → i < n → f i = true
  | n + 1, h, hi => by
    rw [upB, Bool.and_eq_true] at h
    by_cases e : i = n
    · subst e; exact h.2
    · exact upB_get h.1 (by omega)
theorem upB_iff {f : Nat → Bool} : ∀ {n : Nat}, upB f n = true ↔ ∀ i, i < n → f i = true
  | 0 => ⟨fun _ i hi => absurd hi (by omega), fun _ => rfl⟩
  | n + 1 => by
    rw [upB, Bool.and_eq_true, upB_iff]
    exact ⟨fun ⟨h, k⟩ i hi => by
      by_cases e : i = n
      · subst e; exact k
      · exact h i (by omega), fun h => ⟨fun i hi => h i (by omega), h n (by omega)⟩⟩
theorem upB_congr {f g : Nat → Bool} : ∀ {n : Nat}, (∀ i, i < n → f i = g i) → upB f n = upB g n
  | 0, _ => rfl
  | n + 1, h => by rw [upB, upB, upB_congr (fun i hi => h i (by omega)), h n (by omega)]
def sumI {α : Type} (f : α → Int) : List α → Int
  | [] => 0
  | x :: xs => f x + sumI f xs
theorem sumI_bd {α : Type} {f : α → Int} {A B : Int} : ∀ {xs : List α}, (∀ x ∈ xs, A ≤ f x ∧ f x ≤ B) → A * (xs.length : Int) ≤ sumI f xs ∧ sumI f xs ≤ B * (xs.length : Int)
  | [], _ => by simp [sumI]
  | x :: xs, h => by
    have h1 := h x (by simp)
    have h2 := sumI_bd (xs := xs) (A := A) (B := B) (fun y hy => h y (by simp [hy]))
    have e : (((x :: xs).length : Nat) : Int) = (xs.length : Int) + 1 := by simp
    simp only [sumI]
    rw [e, Int.mul_add, Int.mul_add]
    omega
theorem sumI_append {α : Type} (f : α → Int) : ∀ (xs ys : List α), sumI f (xs ++ ys) = sumI f xs + sumI f ys
  | [], ys => by simp [sumI]
  | x :: xs, ys => by rw [List.cons_append, sumI, sumI, sumI_append f xs ys]; omega

def loB (c : UInt8) : Bool := decide (97 ≤ c.toNat) && decide (c.toNat ≤ 122)
theorem loB_t {c : UInt8} (h : 97 ≤ c.toNat ∧ c.toNat ≤ 122) : loB c = true := by simp [loB, h.1, h.2]
theorem loB_f {c : UInt8} (h : c.toNat < 97 ∨ 122 < c.toNat) : loB c = false := by
  unfold loB; rw [Bool.and_eq_false_iff, decide_eq_false_iff_not, decide_eq_false_iff_not]; omega
/-- Is it a word? -/
def wordB (s : Str) : Bool := (decide (1 ≤ s.length) && decide (s.length ≤ 16)) && s.all loB
theorem wordB_len {s : Str} (h : wordB s = true) : 1 ≤ s.length ∧ s.length ≤ 16 := by
  unfold wordB at h; simp only [Bool.and_eq_true, decide_eq_true_eq] at h; exact h.1
theorem wordB_nil : wordB [] = false := rfl

def dateB (d : Int) : Bool := decide (0 ≤ d) && decide (d ≤ 100000)

abbrev Ent : Type := Int × Int × Str × Int

/-- The first place at which p holds, counted on from k; -1: none. -/
def fdG {α : Type} (p : α → Bool) : List α → Int → Int
  | [], _ => -1
  | x :: xs, k => if p x then k else fdG p xs (k + 1)
def fdF {α : Type} (p : α → Bool) (xs : List α) : Int := fdG p xs 0
theorem fdG_neg {α : Type} {p : α → Bool} : ∀ {xs : List α} {k : Int}, 0 ≤ k → (fdG p xs k < 0 ↔ ∀ x ∈ xs, p x = false)
  | [], k, _ => by simp [fdG]
  | x :: xs, k, h => by
    rw [fdG]; split
    · rename_i e; constructor
      · intro q; omega
      · intro q; rw [q x (by simp)] at e; cases e
    · rename_i e; rw [fdG_neg (by omega)]
      simp at e; simp [e]
theorem fdG_bd {α : Type} {p : α → Bool} : ∀ {xs : List α} {k : Int}, 0 ≤ k → -1 ≤ fdG p xs k ∧ fdG p xs k < k + xs.length ∧ (0 ≤ fdG p xs k → k ≤ fdG p xs k)
  | [], k, h => by simp [fdG]; omega
  | x :: xs, k, h => by
    have := fdG_bd (p := p) (xs := xs) (k := k + 1) (by omega)
    rw [fdG]; split <;> simp <;> omega
theorem fdG_at {α : Type} {p : α → Bool} : ∀ {xs : List α} {k : Int} {m : Nat}, 0 ≤ k → fdG p xs k = k + m → (∃ x, xs[m]? = some x ∧ p x = true) ∧ ∀ j y, j < m → xs[j]? = some y → p y = false
  | [], k, m, h, e => by simp [fdG] at e; omega
  | x :: xs, k, m, h, e => by
    rw [fdG] at e; split at e
    · have : m = 0 := by omega
      subst this; exact ⟨⟨x, rfl, ‹_›⟩, fun j y hj => by omega⟩
    · rename_i hpx
      have hb := fdG_bd (p := p) (xs := xs) (k := k + 1) (by omega)
      cases m with
      | zero => omega
      | succ m =>
        obtain ⟨⟨z, hz, hp⟩, hl⟩ := fdG_at (p := p) (xs := xs) (k := k + 1) (m := m) (by omega) (by omega)
        refine ⟨⟨z, by simpa using hz, hp⟩, fun j y hj hy => ?_⟩
        cases j with
        | zero => simp at hy; subst hy; simpa using hpx
        | succ j => exact hl j y (by omega) (by simpa using hy)
theorem fdF_neg {α : Type} {p : α → Bool} {xs : List α} : fdF p xs < 0 ↔ ∀ x ∈ xs, p x = false := fdG_neg (by omega)
theorem fdF_bd {α : Type} (p : α → Bool) (xs : List α) : -1 ≤ fdF p xs ∧ fdF p xs < xs.length := by
  have := fdG_bd (p := p) (xs := xs) (k := 0) (by omega); unfold fdF; omega
theorem fdF_at {α : Type} {p : α → Bool} {xs : List α} (h : ¬ fdF p xs < 0) : (∃ x, xs[(fdF p xs).toNat]? = some x ∧ p x = true) ∧ ∀ j y, j < (fdF p xs).toNat → xs[j]? = some y → p y = false :=
  fdG_at (p := p) (xs := xs) (k := 0) (m := (fdF p xs).toNat) (by omega) (by show fdF p xs = _; omega)
theorem fdG_hit {α : Type} {p : α → Bool} : ∀ {xs : List α} {k : Int} {m : Nat} {x : α}, xs[m]? = some x → p x = true → (∀ j y, j < m → xs[j]? = some y → p y = false) → fdG p xs k = k + m
  | [], _, _, _, h, _, _ => by simp at h
  | y :: ys, k, 0, x, h, hp, _ => by simp at h; subst h; rw [fdG, if_pos hp]; simp
  | y :: ys, k, m + 1, x, h, hp, hl => by
    rw [fdG, if_neg (by rw [hl 0 y (by omega) rfl]; simp), fdG_hit (m := m) (by simpa using h) hp fun j z hj hz => hl (j + 1) z (by omega) (by simpa using hz)]
    omega
theorem fdF_hit {α : Type} {p : α → Bool} {xs : List α} {m : Nat} {x : α} (h : xs[m]? = some x) (hp : p x = true) (hl : ∀ j y, j < m → xs[j]? = some y → p y = false) : fdF p xs = m := by
  unfold fdF; rw [fdG_hit h hp hl]; omega

theorem fdF_none {α : Type} {p : α → Bool} {xs : List α} (h : ∀ j y, j < xs.length → xs[j]? = some y → p y = false) : fdF p xs = -1 := by
  have h1 : fdF p xs < 0 := fdF_neg.2 fun x hx => by
    obtain ⟨j, hj⟩ := List.getElem?_of_mem hx
    exact h j x (List.getElem?_eq_some_iff.1 hj).1 hj
  have := fdF_bd p xs; omega
theorem all_snoc {α : Type} {xs : List α} {p : α → Prop} {i : Nat} {x : α} (h : ∀ j y, j < i → xs[j]? = some y → p y) (hx : xs[i]? = some x) (hp : p x) : ∀ j y, j < i + 1 → xs[j]? = some y → p y := by
  intro j y hj hy
  rcases Nat.lt_or_ge j i with q | q
  · exact h j y q hy
  · have e : j = i := by omega
    subst e; rw [hx] at hy; cases hy; exact hp
theorem all_mem {α : Type} {xs : List α} {p : α → Prop} {i : Nat} (h : ∀ j y, j < i → xs[j]? = some y → p y) (hi : xs.length ≤ i) : ∀ x ∈ xs, p x := by
  intro x hx
  obtain ⟨j, hj⟩ := List.getElem?_of_mem hx
  exact h j x (by have := (List.getElem?_eq_some_iff.1 hj).1; omega) hj
theorem all_zero {α : Type} {xs : List α} {p : α → Prop} : ∀ j y, j < 0 → xs[j]? = some y → p y := fun j y hj => absurd hj (by omega)

theorem c_impl_within (w0 : World) (n : Int) (lo : Int) (hi : Int)  :
    Calls Tryz.prog 81 #[.int .i64 n, .int .i64 lo, .int .i64 hi] w0 (Ret w0 (fun v _ => v = .bool (decide (lo ≤ n) && decide (n ≤ hi)))) := by
 refine enter (N := 15) Tryz.func81 rfl rfl rfl ?_
 intro A H
 have hx0 := Ext.rfl' w0
 revert A; refine go ?_; intro A H
 by_cases c6 : lo ≤ n
 rw [decide_eq_true c6] at H
 revert A; refine go ?_; intro A H
 refine ret1 H rfl rfl ?_
 clear H A
 exact ret_mk hx0 (congrArg Value.bool (by simp_all <;> omega))
 rw [decide_eq_false c6] at H
 revert A; refine go ?_; intro A H
 refine ret1 H rfl rfl ?_
 clear H A
 exact ret_mk hx0 (congrArg Value.bool (by simp_all <;> omega))



theorem c_spec_l01In (w0 : World) (n : Int) (lo : Int) (hi : Int)  :
    Calls Tryz.prog 87 #[.int .i64 n, .int .i64 lo, .int .i64 hi] w0 (Ret w0 (fun v _ => v = .bool (decide (lo ≤ n) && decide (n ≤ hi)))) := by
 refine enter (N := 15) Tryz.func87 rfl rfl rfl ?_
 intro A H
 have hx0 := Ext.rfl' w0
 revert A; refine go ?_; intro A H
 by_cases c6 : lo ≤ n
 rw [decide_eq_true c6] at H
 revert A; refine go ?_; intro A H
 refine ret1 H rfl rfl ?_
 clear H A
 exact ret_mk hx0 (congrArg Value.bool (by simp_all <;> omega))
 rw [decide_eq_false c6] at H
 revert A; refine go ?_; intro A H
 refine ret1 H rfl rfl ?_
 clear H A
 exact ret_mk hx0 (congrArg Value.bool (by simp_all <;> omega))



theorem c_impl_IsWord (w0 : World) (s : Str) (g0 : s.length ≤ 9223372036854775807) :
    Calls Tryz.prog 80 #[St s] w0 (Ret w0 (fun v _ => v = .bool (wordB s))) := by
 refine enter (N := 28) Tryz.func80 rfl rfl rfl ?_
 intro A H
 have hx0 := Ext.rfl' w0
 revert A; refine go ?_; intro A H
 refine wv H (op_len_str H rfl U9 rfl) ?_
 clear H A; refine go ?_; intro A H
 by_cases c6 : ((s.length : Nat) : Int) < (1 : Int)
 rw [decide_eq_true c6] at H
 revert A; refine go ?_; intro A H
 refine ret1 H rfl rfl ?_
 clear H A
 exact ret_mk hx0 (congrArg Value.bool (by simp [wordB]; omega))
 rw [decide_eq_false c6] at H
 refine wv H (op_move H rfl rfl) ?_
 clear H A; intro A H
 refine wv H (op_len_str H rfl U9 rfl) ?_
 clear H A; refine go ?_; intro A H
 by_cases c16 : (16 : Int) < ((s.length : Nat) : Int)
 rw [decide_eq_true c16] at H
 revert A; refine go ?_; intro A H
 refine ret1 H rfl rfl ?_
 clear H A
 exact ret_mk hx0 (congrArg Value.bool (by simp [wordB]; omega))
 rw [decide_eq_false c16] at H
 revert A; refine go ?_; intro A H
 refine loop_inv (X := Nat) (fun i fr wl => Sl 28 fr [(0, St s), (3, .int .i64 ((i : Nat) : Int))] ∧ Ext w0 wl ∧ w0.heap.size ≤ wl.heap.size ∧ (i ≤ s.length) ∧ ((s.drop i).all loB = s.all loB)) (fun i => s.length - i) (0) ?_ ?_
 exact ⟨(sl H), hx0, (by omega), (by omega), (by simp)⟩
 clear H A
 rintro i A w19 ⟨H, hx20, hzl22, hi, hF⟩
 have hzhx20 := hx20.size
 revert A; refine go ?_; intro A H
 refine wv H (op_len_str H rfl U9 rfl) ?_
 clear H A; refine go ?_; intro A H
 by_cases c27 : ((i : Nat) : Int) < ((s.length : Nat) : Int)
 rw [decide_eq_true c27] at H
 revert A; refine go ?_; intro A H
 obtain ⟨b30, hb30⟩ := get_ex (xs := s) (j := i) (by omega)
 have b30_lt := b30.toNat_lt
 refine wv H (op_index_str H rfl U9 rfl rfl (by omega) hb30) ?_
 clear H A; refine go ?_; intro A H
 by_cases c34 : (b30.toNat : Int) < (97 : Int)
 rw [decide_eq_true c34] at H
 revert A; refine go ?_; intro A H
 refine ret1 H rfl rfl ?_
 clear H A
 rw [drop_cons hb30, List.all_cons, loB_f (by omega), Bool.false_and] at hF
 exact ret_mk hx20 (congrArg Value.bool (by simp [← hF, wordB]))
 rw [decide_eq_false c34] at H
 revert A; refine go ?_; intro A H
 refine wv H (op_index_str H rfl U9 rfl rfl (by omega) hb30) ?_
 clear H A; refine go ?_; intro A H
 by_cases c46 : (122 : Int) < (b30.toNat : Int)
 rw [decide_eq_true c46] at H
 revert A; refine go ?_; intro A H
 refine ret1 H rfl rfl ?_
 clear H A
 rw [drop_cons hb30, List.all_cons, loB_f (by omega), Bool.false_and] at hF
 exact ret_mk hx20 (congrArg Value.bool (by simp [← hF, wordB]))
 rw [decide_eq_false c46] at H
 revert A; refine go ?_; intro A H
 refine wv H ((op_add H rfl rfl rfl).int (IntWalk.i64_in _ (by omega))) ?_
 clear H A; refine go ?_; intro A H
 refine ⟨((i + 1)), ?_, ?_⟩
 refine ⟨(sl H), hx20, (by omega), (by omega), (by rw [drop_cons hb30, List.all_cons, loB_t (by omega), Bool.true_and] at hF; exact hF)⟩
 show (s.length - ((i + 1)) : Nat) < s.length - i; omega
 rw [decide_eq_false c27] at H
 revert A; refine go ?_; intro A H
 refine ret1 H rfl rfl ?_
 clear H A
 rw [drop_nil (by omega), List.all_nil] at hF
 exact ret_mk hx20 (congrArg Value.bool (by simp [← hF, wordB]; omega))



theorem c_spec_IsWord (w0 : World) (s : Str) (g0 : s.length ≤ 9223372036854775807) :
    Calls Tryz.prog 86 #[St s] w0 (Ret w0 (fun v _ => v = .bool (wordB s))) := by
 refine enter (N := 23) Tryz.func86 rfl rfl rfl ?_
 intro A H
 have hx0 := Ext.rfl' w0
 revert A; refine go ?_; intro A H
 refine loop_inv (X := Nat) (fun i fr wl => Sl 23 fr [(0, St s), (3, .int .i64 ((i : Nat) : Int))] ∧ Ext w0 wl ∧ w0.heap.size ≤ wl.heap.size ∧ (i ≤ s.length) ∧ ((s.drop i).all loB = s.all loB)) (fun i => s.length - i) (0) ?_ ?_
 exact ⟨(sl H), hx0, (by omega), (by omega), (by simp)⟩
 clear H A
 rintro i A w3 ⟨H, hx4, hzl6, hi, hF⟩
 have hzhx4 := hx4.size
 revert A; refine go ?_; intro A H
 refine wv H (op_len_str H rfl U9 rfl) ?_
 clear H A; refine go ?_; intro A H
 by_cases c11 : ((i : Nat) : Int) < ((s.length : Nat) : Int)
 rw [decide_eq_true c11] at H
 revert A; refine go ?_; intro A H
 obtain ⟨b14, hb14⟩ := get_ex (xs := s) (j := i) (by omega)
 have b14_lt := b14.toNat_lt
 refine wv H (op_index_str H rfl U9 rfl rfl (by omega) hb14) ?_
 clear H A; refine go ?_; intro A H
 by_cases c18 : (b14.toNat : Int) < (97 : Int)
 rw [decide_eq_true c18] at H
 revert A; refine go ?_; intro A H
 refine ret1 H rfl rfl ?_
 clear H A
 rw [drop_cons hb14, List.all_cons, loB_f (by omega), Bool.false_and] at hF
 exact ret_mk hx4 (congrArg Value.bool (by simp [← hF, wordB]))
 rw [decide_eq_false c18] at H
 revert A; refine go ?_; intro A H
 refine wv H (op_index_str H rfl U9 rfl rfl (by omega) hb14) ?_
 clear H A; refine go ?_; intro A H
 by_cases c30 : (122 : Int) < (b14.toNat : Int)
 rw [decide_eq_true c30] at H
 revert A; refine go ?_; intro A H
 refine ret1 H rfl rfl ?_
 clear H A
 rw [drop_cons hb14, List.all_cons, loB_f (by omega), Bool.false_and] at hF
 exact ret_mk hx4 (congrArg Value.bool (by simp [← hF, wordB]))
 rw [decide_eq_false c30] at H
 revert A; refine go ?_; intro A H
 refine wv H ((op_add H rfl rfl rfl).int (IntWalk.i64_in _ (by omega))) ?_
 clear H A; refine go ?_; intro A H
 refine ⟨((i + 1)), ?_, ?_⟩
 refine ⟨(sl H), hx4, (by omega), (by omega), (by rw [drop_cons hb14, List.all_cons, loB_t (by omega), Bool.true_and] at hF; exact hF)⟩
 show (s.length - ((i + 1)) : Nat) < s.length - i; omega
 rw [decide_eq_false c11] at H
 revert A; refine go ?_; intro A H
 refine wv H (op_len_str H rfl U9 rfl) ?_
 clear H A; intro A H
 refine wc H cb87 (c_spec_l01In _ ((s.length : Nat) : Int) (1 : Int) (16 : Int) ) ?_
 clear H A; rintro v37 w38 he39 rfl A H
 obtain ⟨hx41, _⟩ := nx hx4 he39
 revert A; refine go ?_; intro A H
 refine ret1 H rfl rfl ?_
 clear H A
 rw [drop_nil (by omega), List.all_nil] at hF
 exact ret_mk hx41 (congrArg Value.bool (by rw [Bool.eq_iff_iff]; simp [← hF, wordB]; omega))



theorem c_impl_isDate (w0 : World) (n : Int)  :
    Calls Tryz.prog 114 #[.int .i64 n] w0 (Ret w0 (fun v _ => v = .bool (dateB n))) := by
 refine enter (N := 5) Tryz.func114 rfl rfl rfl ?_
 intro A H
 have hx0 := Ext.rfl' w0
 revert A; refine go ?_; intro A H
 refine wc H cb81 (c_impl_within _ n (0 : Int) (100000 : Int) ) ?_
 clear H A; rintro v3 w4 he5 rfl A H
 obtain ⟨hx7, _⟩ := nx hx0 he5
 revert A; refine go ?_; intro A H
 refine ret1 H rfl rfl ?_
 clear H A
 exact ret_mk hx7 (congrArg Value.bool (by rfl))




end Go.Proofs.YthbehhhblchhhaaGreat
