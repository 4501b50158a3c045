/- Small functions over numbers and words. -/
import Derived.Test.YtllpdkidaldkiaaShapes
namespace Go.Proofs.Ytllpdkidaldkiaa
open Go Go.RowKit

/-- Does f hold below n? -/
def upB (f : Nat → Bool) : Nat → Bool
  | 0 => true
  | n + 1 => upB f n && f n
theorem upB_zero (f : Nat → Bool) : upB f 0 = true := rfl
theorem upB_step {f : Nat → Bool} {n : Nat} (h : upB f n = true) (h' : f n = true) : upB f (n + 1) = true := by rw [upB, h, h']; rfl
theorem upB_bad {f : Nat → Bool} {i : Nat} : ∀ {n : Nat}, i < n → f i = false → upB f n = false
  | n + 1, hi, h => by
    rw [upB]
    by_cases e : i = n
    · subst e; rw [h, Bool.and_false]
    · rw [upB_bad (by omega) h, Bool.false_and]
theorem upB_get {f : Nat → Bool} {i : Nat} : ∀ {n : Nat}, upB f n = true → i < n → f i = true
  | n + 1, h, hi => by
    rw [upB, Bool.and_eq_true] at h
    by_cases e : i = n
    · subst e; exact h.2
    · exact upB_get h.1 (by omega)
theorem upB_iff {f : Nat → Bool} : ∀ {n : Nat}, upB f n = true ↔ ∀ i, i < n → f i = true
  | 0 => ⟨fun _ i hi => absurd hi (by omega), fun _ => rfl⟩
  | n + 1 => by
    rw [upB, Bool.and_eq_true, upB_iff]
    exact ⟨fun ⟨h, k⟩ i hi => by
      by_cases e : i = n
      · subst e; exact k
      · exact h i (by omega), fun h => ⟨fun i hi => h i (by omega), h n (by omega)⟩⟩
theorem upB_congr {f g : Nat → Bool} : ∀ {n : Nat}, (∀ i, i < n → f i = g i) → upB f n = upB g n
  | 0, _ => rfl
  | n + 1, h => by rw [upB, upB, upB_congr (fun i hi => h i (by omega)), h n (by omega)]
def sumI {α : Type} (f : α → Int) : List α → Int
  | [] => 0
  | x :: xs => f x + sumI f xs
theorem sumI_bd {α : Type} {f : α → Int} {A B : Int} : ∀ {xs : List α}, (∀ x ∈ xs, A ≤ f x ∧ f x ≤ B) → A * (xs.length : Int) ≤ sumI f xs ∧ sumI f xs ≤ B * (xs.length : Int)
  | [], _ => by simp [sumI]
  | x :: xs, h => by
    have h1 := h x (by simp)
    have h2 := sumI_bd (xs := xs) (A := A) (B := B) (fun y hy => h y (by simp [hy]))
    have e : (((x :: xs).length : Nat) : Int) = (xs.length : Int) + 1 := by simp
    simp only [sumI]
    rw [e, Int.mul_add, Int.mul_add]
    omega
theorem sumI_append {α : Type} (f : α → Int) : ∀ (xs ys : List α), sumI f (xs ++ ys) = sumI f xs + sumI f ys
  | [], ys => by simp [sumI]
  | x :: xs, ys => by rw [List.cons_append, sumI, sumI, sumI_append f xs ys]; omega

def loB (c : UInt8) : Bool := decide (97 ≤ c.toNat) && decide (c.toNat ≤ 122)
theorem loB_t {c : UInt8} (h : 97 ≤ c.toNat ∧ c.toNat ≤ 122) : loB c = true := by simp [loB, h.1, h.2]
theorem loB_f {c : UInt8} (h : c.toNat < 97 ∨ 122 < c.toNat) : loB c = false := by
  unfold loB; rw [Bool.and_eq_false_iff, decide_eq_false_iff_not, decide_eq_false_iff_not]; omega
/-- Is it a word? -/
def wordB (s : Str) : Bool := (decide (1 ≤ s.length) && decide (s.length ≤ 16)) && s.all loB
theorem wordB_len {s : Str} (h : wordB s = true) : 1 ≤ s.length ∧ s.length ≤ 16 := by
  unfold wordB at h; simp only [Bool.and_eq_true, decide_eq_true_eq] at h; exact h.1
theorem wordB_nil : wordB [] = false := rfl

/-- The first place at which p holds, counted on from k; -1: none. -/
def fdG {α : Type} (p : α → Bool) : List α → Int → Int
  | [], _ => -1
  | x :: xs, k => if p x then k else fdG p xs (k + 1)
def fdF {α : Type} (p : α → Bool) (xs : List α) : Int := fdG p xs 0
theorem fdG_neg {α : Type} {p : α → Bool} : ∀ {xs : List α} {k : Int}, 0 ≤ k → (fdG p xs k < 0 ↔ ∀ x ∈ xs, p x = false)
  | [], k, _ => by simp [fdG]
  | x :: xs, k, h => by
    rw [fdG]; split
    · rename_i e; constructor
      · intro q; omega
      · intro q; rw [q x (by simp)] at e; cases e
    · rename_i e; rw [fdG_neg (by omega)]
      simp at e; simp [e]
theorem fdG_bd {α : Type} {p : α → Bool} : ∀ {xs : List α} {k : Int}, 0 ≤ k → -1 ≤ fdG p xs k ∧ fdG p xs k < k + xs.length ∧ (0 ≤ fdG p xs k → k ≤ fdG p xs k)
  | [], k, h => by simp [fdG]; omega
  | x :: xs, k, h => by
    have := fdG_bd (p := p) (xs := xs) (k := k + 1) (by omega)
    rw [fdG]; split <;> simp <;> omega
theorem fdG_at {α : Type} {p : α → Bool} : ∀ {xs : List α} {k : Int} {m : Nat}, 0 ≤ k → fdG p xs k = k + m → (∃ x, xs[m]? = some x ∧ p x = true) ∧ ∀ j y, j < m → xs[j]? = some y → p y = false
  | [], k, m, h, e => by simp [fdG] at e; omega
  | x :: xs, k, m, h, e => by
    rw [fdG] at e; split at e
    · have : m = 0 := by omega
      subst this; exact ⟨⟨x, rfl, ‹_›⟩, fun j y hj => by omega⟩
    · rename_i hpx
      have hb := fdG_bd (p := p) (xs := xs) (k := k + 1) (by omega)
      cases m with
      | zero => omega
      | succ m =>
        obtain ⟨⟨z, hz, hp⟩, hl⟩ := fdG_at (p := p) (xs := xs) (k := k + 1) (m := m) (by omega) (by omega)
        refine ⟨⟨z, by simpa using hz, hp⟩, fun j y hj hy => ?_⟩
        cases j with
        | zero => simp at hy; subst hy; simpa using hpx
        | succ j => exact hl j y (by omega) (by simpa using hy)
theorem fdF_neg {α : Type} {p : α → Bool} {xs : List α} : fdF p xs < 0 ↔ ∀ x ∈ xs, p x = false := fdG_neg (by omega)
theorem fdF_bd {α : Type} (p : α → Bool) (xs : List α) : -1 ≤ fdF p xs ∧ fdF p xs < xs.length := by
  have := fdG_bd (p := p) (xs := xs) (k := 0) (by omega); unfold fdF; omega
theorem fdF_at {α : Type} {p : α → Bool} {xs : List α} (h : ¬ fdF p xs < 0) : (∃ x, xs[(fdF p xs).toNat]? = some x ∧ p x = true) ∧ ∀ j y, j < (fdF p xs).toNat → xs[j]? = some y → p y = false :=
  fdG_at (p := p) (xs := xs) (k := 0) (m := (fdF p xs).toNat) (by omega) (by show fdF p xs = _; omega)
theorem fdG_hit {α : Type} {p : α → Bool} : ∀ {xs : List α} {k : Int} {m : Nat} {x : α}, xs[m]? = some x → p x = true → (∀ j y, j < m → xs[j]? = some y → p y = false) → fdG p xs k = k + m
  | [], _, _, _, h, _, _ => by simp at h
  | y :: ys, k, 0, x, h, hp, _ => by simp at h; subst h; rw [fdG, if_pos hp]; simp
  | y :: ys, k, m + 1, x, h, hp, hl => by
    rw [fdG, if_neg (by rw [hl 0 y (by omega) rfl]; simp), fdG_hit (m := m) (by simpa using h) hp fun j z hj hz => hl (j + 1) z (by omega) (by simpa using hz)]
    omega
theorem fdF_hit {α : Type} {p : α → Bool} {xs : List α} {m : Nat} {x : α} (h : xs[m]? = some x) (hp : p x = true) (hl : ∀ j y, j < m → xs[j]? = some y → p y = false) : fdF p xs = m := by
  unfold fdF; rw [fdG_hit h hp hl]; omega

theorem fdF_none {α : Type} {p : α → Bool} {xs : List α} (h : ∀ j y, j < xs.length → xs[j]? = some y → p y = false) : fdF p xs = -1 := by
  have h1 : fdF p xs < 0 := fdF_neg.2 fun x hx => by
    obtain ⟨j, hj⟩ := List.getElem?_of_mem hx
    exact h j x (List.getElem?_eq_some_iff.1 hj).1 hj
  have := fdF_bd p xs; omega
theorem all_snoc {α : Type} {xs : List α} {p : α → Prop} {i : Nat} {x : α} (h : ∀ j y, j < i → xs[j]? = some y → p y) (hx : xs[i]? = some x) (hp : p x) : ∀ j y, j < i + 1 → xs[j]? = some y → p y := by
  intro j y hj hy
  rcases Nat.lt_or_ge j i with q | q
  · exact h j y q hy
  · have e : j = i := by omega
    subst e; rw [hx] at hy; cases hy; exact hp
theorem all_mem {α : Type} {xs : List α} {p : α → Prop} {i : Nat} (h : ∀ j y, j < i → xs[j]? = some y → p y) (hi : xs.length ≤ i) : ∀ x ∈ xs, p x := by
  intro x hx
  obtain ⟨j, hj⟩ := List.getElem?_of_mem hx
  exact h j x (by have := (List.getElem?_eq_some_iff.1 hj).1; omega) hj
theorem all_zero {α : Type} {xs : List α} {p : α → Prop} : ∀ j y, j < 0 → xs[j]? = some y → p y := fun j y hj => absurd hj (by omega)

/-- Texts that rise strictly. -/
abbrev UpS (xs : List Str) : Prop := xs.Pairwise (fun x y => x < y)
theorem ups_ext : ∀ {a b : List Str}, UpS a → UpS b → (∀ z, z ∈ a ↔ z ∈ b) → a = b
  | [], [], _, _, _ => rfl
  | [], y :: ys, _, _, h => by have := (h y).2 (by simp); simp at this
  | x :: xs, [], _, _, h => by have := (h x).1 (by simp); simp at this
  | x :: xs, y :: ys, ha, hb, h => by
    rw [UpS, List.pairwise_cons] at ha hb
    have e : x = y := by
      rcases List.mem_cons.1 ((h x).1 (by simp)) with e | hx
      · exact e
      · rcases List.mem_cons.1 ((h y).2 (by simp)) with e | hy
        · exact e.symm
        · exact absurd (ha.1 y hy) (str_as (hb.1 x hx))
    subst e
    rw [ups_ext ha.2 hb.2 fun z => ?_]
    constructor
    · intro hz
      rcases List.mem_cons.1 ((h z).1 (by simp [hz])) with e | hz2
      · subst e; exact absurd (ha.1 z hz) (str_irr z)
      · exact hz2
    · intro hz
      rcases List.mem_cons.1 ((h z).2 (by simp [hz])) with e | hz2
      · subst e; exact absurd (hb.1 z hz) (str_irr z)
      · exact hz2
/-- A text at its place, once. -/
def insU (x : Str) : List Str → List Str
  | [] => [x]
  | y :: ys => if y < x then y :: insU x ys else if y = x then y :: ys else x :: y :: ys
theorem insU_mem {x z : Str} : ∀ {xs : List Str}, z ∈ insU x xs ↔ z = x ∨ z ∈ xs
  | [] => by simp [insU]
  | y :: ys => by
    rw [insU]; split
    · rw [List.mem_cons, insU_mem, List.mem_cons]
      constructor
      · rintro (e | e | e) <;> simp [e]
      · rintro (e | e | e) <;> simp [e]
    · split
      · rename_i e; subst e; simp
      · simp
theorem insU_up {x : Str} : ∀ {xs : List Str}, UpS xs → UpS (insU x xs)
  | [], _ => by simp [insU, UpS]
  | y :: ys, h => by
    have h' := List.pairwise_cons.1 h
    rw [insU]; split
    · refine List.Pairwise.cons (fun z hz => ?_) (insU_up h'.2)
      rcases insU_mem.1 hz with e | e
      · subst e; assumption
      · exact h'.1 z e
    · split
      · exact h
      · have hxy := ((str_le ‹¬ y < x›).resolve_right fun e => ‹¬ y = x› e.symm)
        refine List.Pairwise.cons (fun z hz => ?_) h
        rcases List.mem_cons.1 hz with e | e
        · subst e; exact hxy
        · exact str_tr hxy (h'.1 z e)
theorem insU_len (x : Str) : ∀ (xs : List Str), (insU x xs).length ≤ xs.length + 1
  | [] => by simp [insU]
  | y :: ys => by
    have := insU_len x ys
    rw [insU]; split
    · simp only [List.length_cons]; omega
    · split <;> simp
theorem ups_at {xs : List Str} (h : UpS xs) {i j : Nat} {x y : Str} (hij : i < j) (hx : xs[i]? = some x) (hy : xs[j]? = some y) : x < y := by
  obtain ⟨hi, rfl⟩ := List.getElem?_eq_some_iff.1 hx
  obtain ⟨hj, rfl⟩ := List.getElem?_eq_some_iff.1 hy
  exact List.pairwise_iff_getElem.1 h _ _ hi hj hij
theorem insU_has {x : Str} : ∀ {xs : List Str}, UpS xs → x ∈ xs → insU x xs = xs
  | y :: ys, h, hm => by
    have h' := List.pairwise_cons.1 h
    rw [insU]
    rcases List.mem_cons.1 hm with e | e
    · subst e; rw [if_neg (str_irr x), if_pos rfl]
    · rw [if_pos (h'.1 x e), insU_has h'.2 e]
theorem insU_cut {x : Str} : ∀ {xs : List Str} {k : Nat}, (∀ j y, j < k → xs[j]? = some y → y < x) → (∀ j y, k ≤ j → xs[j]? = some y → x < y) → insU x xs = xs.take k ++ x :: xs.drop k
  | [], k, _, _ => by simp [insU]
  | y :: ys, 0, _, h => by
    have := h 0 y (Nat.le_refl _) rfl
    rw [insU, if_neg (str_as this), if_neg (fun e => str_ne this e.symm)]; rfl
  | y :: ys, k + 1, h, h' => by
    rw [insU, if_pos (h 0 y (by omega) rfl), insU_cut (k := k) (fun j z hj hz => h (j + 1) z (by omega) (by simpa using hz)) (fun j z hj hz => h' (j + 1) z (by omega) (by simpa using hz))]
    rfl
/-- Gone through from behind: what stands from k on is greater; what stands in front of it is not. -/
theorem insU_back {x : Str} {xs : List Str} {k : Nat} (h : UpS xs) (hk : ∀ j y, k ≤ j → xs[j]? = some y → x < y) (h0 : k = 0 ∨ ∃ b, xs[k - 1]? = some b ∧ ¬ x < b ∧ ¬ b = x) : insU x xs = xs.take k ++ x :: xs.drop k := by
  refine insU_cut (fun j y hj hy => ?_) hk
  rcases h0 with h0 | ⟨b, hb, h1, h2⟩
  · omega
  · have hbx := (str_le h1).resolve_right h2
    by_cases e : j = k - 1
    · subst e; rw [hb] at hy; cases hy; exact hbx
    · exact str_tr (ups_at h (by omega) hy hb) hbx
theorem insU_front {x : Str} {xs : List Str} {k : Nat} (h : UpS xs) (hk : ∀ j y, j < k → xs[j]? = some y → y < x) (h0 : xs.length ≤ k ∨ ∃ b, xs[k]? = some b ∧ ¬ b < x ∧ ¬ b = x) : insU x xs = xs.take k ++ x :: xs.drop k := by
  refine insU_cut hk (fun j y hj hy => ?_)
  rcases h0 with h0 | ⟨b, hb, h1, h2⟩
  · have := (List.getElem?_eq_some_iff.1 hy).1; omega
  · have hbx := (str_le h1).resolve_right (fun e => h2 e.symm)
    by_cases e : j = k
    · subst e; rw [hb] at hy; cases hy; exact hbx
    · exact str_tr hbx (ups_at h (by omega) hb hy)
/-- What 'append, copy, store' makes of a list. -/
theorem ins_eq {α : Type} {acc : List α} {k : Nat} {x z : α} (hk : k ≤ acc.length) :
    (((acc ++ [z]).take (k + 1) ++ ((acc ++ [z]).drop k).take (min ((acc ++ [z]).length - (k + 1)) ((acc ++ [z]).length - k)) ++ (acc ++ [z]).drop (k + 1 + min ((acc ++ [z]).length - (k + 1)) ((acc ++ [z]).length - k))).set k x) = acc.take k ++ x :: acc.drop k := by
  have hl : (acc ++ [z]).length = acc.length + 1 := by simp
  have e1 : min ((acc ++ [z]).length - (k + 1)) ((acc ++ [z]).length - k) = acc.length - k := by omega
  rw [e1]
  have e2 : (acc ++ [z]).drop (k + 1 + (acc.length - k)) = [] := List.drop_of_length_le (by omega)
  have e3 : ((acc ++ [z]).drop k).take (acc.length - k) = acc.drop k := by
    rw [List.drop_append_of_le_length hk, List.take_append_of_le_length (by rw [List.length_drop]; omega), List.take_of_length_le (by rw [List.length_drop]; omega)]
  rw [e2, e3, List.append_nil]
  have hlt : k < (acc ++ [z]).length := by omega
  obtain ⟨q, hq⟩ := get_ex hlt
  rw [take_snoc hq, List.take_append_of_le_length hk, List.append_assoc, List.set_append_right _ _ (by rw [List.length_take]; omega), List.length_take, Nat.min_eq_left hk, Nat.sub_self]
  rfl

theorem c_impl_within (w0 : World) (n : Int) (lo : Int) (hi : Int)  :
  Calls Try.prog 79 #[.int .i64 n, .int .i64 lo, .int .i64 hi] w0 (Ret w0 (fun v _ => v = .bool (decide (lo ≤ n) && decide (n ≤ hi)))) := by
 refine enter (N := 15) Try.func79 rfl rfl rfl ?_
 intro a0 ha0
 have hx0 := Ext.rfl' w0
 refine wp_seq ?_
 refine wp_region_lit ?_
 refine wl_val ha0 rfl rfl rfl (op_assign ha0 rfl rfl) ?_
 intro a1 ha1; clear ha0 a0
 refine wpList_nil ?_
 refine then_n ?_
 refine wp_seq ?_
 refine wp_region_lit ?_
 refine wl_val ha1 rfl rfl rfl (op_move ha1 rfl rfl) ?_
 intro a2 ha2; clear ha1 a1
 refine wl_val ha2 rfl rfl rfl (op_move ha2 rfl rfl) ?_
 intro a3 ha3; clear ha2 a2
 refine wl_val ha3 rfl rfl rfl (op_leq ha3 rfl rfl rfl) ?_
 intro a4 ha4; clear ha3 a3
 refine wl_val ha4 rfl rfl rfl (op_move ha4 rfl rfl) ?_
 intro a5 ha5; clear ha4 a4
 by_cases c6 : lo ≤ n
 ·
  rw [decide_eq_true c6] at ha5
  refine wl_val ha5 rfl rfl rfl (op_move ha5 rfl rfl) ?_
  intro a7 ha7; clear ha5 a5
  refine wl_val ha7 rfl rfl rfl (op_move ha7 rfl rfl) ?_
  intro a8 ha8; clear ha7 a7
  refine wl_val ha8 rfl rfl rfl (op_leq ha8 rfl rfl rfl) ?_
  intro a9 ha9; clear ha8 a8
  refine wl_val ha9 rfl rfl rfl (op_pick_t ha9 rfl rfl rfl) ?_
  intro a10 ha10; clear ha9 a9
  refine wl_val ha10 rfl rfl rfl (op_assign ha10 rfl rfl) ?_
  intro a11 ha11; clear ha10 a10
  refine wpList_nil ?_
  refine then_n ?_
  refine wp_ret ?_
  refine ret1 ha11 rfl rfl ?_
  clear ha11 a11
  exact ret_mk hx0 (congrArg Value.bool (by simp_all <;> omega))
 ·
  rw [decide_eq_false c6] at ha5
  refine wl_skip ha5 rfl rfl rfl ?_
  intro a12 ha12; clear ha5 a5
  refine wl_skip ha12 rfl rfl rfl ?_
  intro a13 ha13; clear ha12 a12
  refine wl_skip ha13 rfl rfl rfl ?_
  intro a14 ha14; clear ha13 a13
  refine wl_val ha14 rfl rfl rfl (op_pick_f ha14 rfl rfl rfl) ?_
  intro a15 ha15; clear ha14 a14
  refine wl_val ha15 rfl rfl rfl (op_assign ha15 rfl rfl) ?_
  intro a16 ha16; clear ha15 a15
  refine wpList_nil ?_
  refine then_n ?_
  refine wp_ret ?_
  refine ret1 ha16 rfl rfl ?_
  clear ha16 a16
  exact ret_mk hx0 (congrArg Value.bool (by simp_all <;> omega))

theorem c_spec_l01In (w0 : World) (n : Int) (lo : Int) (hi : Int)  :
  Calls Try.prog 71 #[.int .i64 n, .int .i64 lo, .int .i64 hi] w0 (Ret w0 (fun v _ => v = .bool (decide (lo ≤ n) && decide (n ≤ hi)))) := by
 refine enter (N := 15) Try.func71 rfl rfl rfl ?_
 intro a0 ha0
 have hx0 := Ext.rfl' w0
 refine wp_seq ?_
 refine wp_region_lit ?_
 refine wl_val ha0 rfl rfl rfl (op_assign ha0 rfl rfl) ?_
 intro a1 ha1; clear ha0 a0
 refine wpList_nil ?_
 refine then_n ?_
 refine wp_seq ?_
 refine wp_region_lit ?_
 refine wl_val ha1 rfl rfl rfl (op_move ha1 rfl rfl) ?_
 intro a2 ha2; clear ha1 a1
 refine wl_val ha2 rfl rfl rfl (op_move ha2 rfl rfl) ?_
 intro a3 ha3; clear ha2 a2
 refine wl_val ha3 rfl rfl rfl (op_geq ha3 rfl rfl rfl) ?_
 intro a4 ha4; clear ha3 a3
 refine wl_val ha4 rfl rfl rfl (op_move ha4 rfl rfl) ?_
 intro a5 ha5; clear ha4 a4
 by_cases c6 : lo ≤ n
 ·
  rw [decide_eq_true c6] at ha5
  refine wl_val ha5 rfl rfl rfl (op_move ha5 rfl rfl) ?_
  intro a7 ha7; clear ha5 a5
  refine wl_val ha7 rfl rfl rfl (op_move ha7 rfl rfl) ?_
  intro a8 ha8; clear ha7 a7
  refine wl_val ha8 rfl rfl rfl (op_leq ha8 rfl rfl rfl) ?_
  intro a9 ha9; clear ha8 a8
  refine wl_val ha9 rfl rfl rfl (op_pick_t ha9 rfl rfl rfl) ?_
  intro a10 ha10; clear ha9 a9
  refine wl_val ha10 rfl rfl rfl (op_assign ha10 rfl rfl) ?_
  intro a11 ha11; clear ha10 a10
  refine wpList_nil ?_
  refine then_n ?_
  refine wp_ret ?_
  refine ret1 ha11 rfl rfl ?_
  clear ha11 a11
  exact ret_mk hx0 (congrArg Value.bool (by simp_all <;> omega))
 ·
  rw [decide_eq_false c6] at ha5
  refine wl_skip ha5 rfl rfl rfl ?_
  intro a12 ha12; clear ha5 a5
  refine wl_skip ha12 rfl rfl rfl ?_
  intro a13 ha13; clear ha12 a12
  refine wl_skip ha13 rfl rfl rfl ?_
  intro a14 ha14; clear ha13 a13
  refine wl_val ha14 rfl rfl rfl (op_pick_f ha14 rfl rfl rfl) ?_
  intro a15 ha15; clear ha14 a14
  refine wl_val ha15 rfl rfl rfl (op_assign ha15 rfl rfl) ?_
  intro a16 ha16; clear ha15 a15
  refine wpList_nil ?_
  refine then_n ?_
  refine wp_ret ?_
  refine ret1 ha16 rfl rfl ?_
  clear ha16 a16
  exact ret_mk hx0 (congrArg Value.bool (by simp_all <;> omega))

theorem c_impl_IsWord (w0 : World) (s : Str) (g0 : s.length ≤ 9223372036854775807) :
  Calls Try.prog 66 #[St s] w0 (Ret w0 (fun v _ => v = .bool (wordB s))) := by
 refine enter (N := 28) Try.func66 rfl rfl rfl ?_
 intro a0 ha0
 have hx0 := Ext.rfl' w0
 refine wp_seq ?_
 refine wp_region_lit ?_
 refine wl_val ha0 rfl rfl rfl (op_assign ha0 rfl rfl) ?_
 intro a1 ha1; clear ha0 a0
 refine wpList_nil ?_
 refine then_n ?_
 refine wp_seq ?_
 refine wp_seq ?_
 refine wp_region_lit ?_
 refine wl_val ha1 rfl rfl rfl (op_move ha1 rfl rfl) ?_
 intro a2 ha2; clear ha1 a1
 refine wl_val ha2 rfl rfl rfl (op_len_str ha2 rfl Try.underlying9 rfl) ?_
 intro a3 ha3; clear ha2 a2
 refine wl_val ha3 rfl rfl rfl (op_lss ha3 rfl rfl rfl) ?_
 intro a4 ha4; clear ha3 a3
 refine wl_val ha4 rfl rfl rfl (op_move ha4 rfl rfl) ?_
 intro a5 ha5; clear ha4 a4
 by_cases c6 : ((s.length : Nat) : Int) < (1 : Int)
 ·
  rw [decide_eq_true c6] at ha5
  refine wl_skip ha5 rfl rfl rfl ?_
  intro a7 ha7; clear ha5 a5
  refine wl_skip ha7 rfl rfl rfl ?_
  intro a8 ha8; clear ha7 a7
  refine wl_skip ha8 rfl rfl rfl ?_
  intro a9 ha9; clear ha8 a8
  refine wl_val ha9 rfl rfl rfl (op_pick_t ha9 rfl rfl rfl) ?_
  intro a10 ha10; clear ha9 a9
  refine wpList_nil ?_
  refine then_n ?_
  refine cond_t ha10 rfl ?_
  refine wp_seq ?_
  refine wp_region_lit ?_
  refine wl_val ha10 rfl rfl rfl (op_assign ha10 rfl rfl) ?_
  intro a11 ha11; clear ha10 a10
  refine wpList_nil ?_
  refine then_n ?_
  refine wp_ret ?_
  refine then_r ?_
  refine ret1 ha11 rfl rfl ?_
  clear ha11 a11
  
  exact ret_mk hx0 (congrArg Value.bool (by first | (simp [wordB, c6]; done) | (simp [wordB, c6]; omega) | (rw [Bool.eq_iff_iff]; simp [wordB, c6]; done) | (rw [Bool.eq_iff_iff]; simp [wordB, c6]; omega)))
 ·
  rw [decide_eq_false c6] at ha5
  refine wl_val ha5 rfl rfl rfl (op_move ha5 rfl rfl) ?_
  intro a12 ha12; clear ha5 a5
  refine wl_val ha12 rfl rfl rfl (op_len_str ha12 rfl Try.underlying9 rfl) ?_
  intro a13 ha13; clear ha12 a12
  refine wl_val ha13 rfl rfl rfl (op_gtr ha13 rfl rfl rfl) ?_
  intro a14 ha14; clear ha13 a13
  refine wl_val ha14 rfl rfl rfl (op_pick_f ha14 rfl rfl rfl) ?_
  intro a15 ha15; clear ha14 a14
  refine wpList_nil ?_
  refine then_n ?_
  by_cases c16 : (16 : Int) < ((s.length : Nat) : Int)
  ·
   rw [decide_eq_true c16] at ha15
   refine cond_t ha15 rfl ?_
   refine wp_seq ?_
   refine wp_region_lit ?_
   refine wl_val ha15 rfl rfl rfl (op_assign ha15 rfl rfl) ?_
   intro a17 ha17; clear ha15 a15
   refine wpList_nil ?_
   refine then_n ?_
   refine wp_ret ?_
   refine then_r ?_
   refine ret1 ha17 rfl rfl ?_
   clear ha17 a17
   
   exact ret_mk hx0 (congrArg Value.bool (by first | (simp [wordB, c6, c16]; done) | (simp [wordB, c6, c16]; omega) | (rw [Bool.eq_iff_iff]; simp [wordB, c6, c16]; done) | (rw [Bool.eq_iff_iff]; simp [wordB, c6, c16]; omega)))
  ·
   rw [decide_eq_false c16] at ha15
   refine cond_f ha15 rfl ?_
   refine wp_skip ?_
   refine then_n ?_
   refine wp_seq ?_
   refine wp_seq ?_
   refine wp_region_lit ?_
   refine wl_val ha15 rfl rfl rfl (op_assign ha15 rfl rfl) ?_
   intro a18 ha18; clear ha15 a15
   refine wpList_nil ?_
   refine then_n ?_
   refine wp_block ?_
   refine loop_inv (X := Nat) (fun (i : Nat) fr wl => Sl 28 fr [(0, St s), (3, .int .i64 ((i : Nat) : Int))] ∧ Ext w0 wl ∧ w0.heap.size ≤ wl.heap.size ∧ (i ≤ s.length) ∧ ((s.drop i).all loB = s.all loB)) (fun (i : Nat) => s.length - i) (0) ?_ ?_
   ·
    exact ⟨(Sl.cons_ ha18 rfl rfl (Sl.cons_ ha18 rfl (int_eq (by omega)) (Sl.nil_ ha18))), hx0, (by omega), (by first | omega | (simp; done) | (simp; omega) | assumption), (by first | omega | (simp; done) | (simp; omega) | assumption)⟩
   ·
    clear ha18 a18
    rintro i a21 w19 ⟨ha21, hx20, hzl22, hi, hF⟩
    have hzhx20 := hx20.size
    refine wp_seq ?_
    refine wp_seq ?_
    refine wp_region_lit ?_
    refine wl_val ha21 rfl rfl rfl (op_move ha21 rfl rfl) ?_
    intro a23 ha23; clear ha21 a21
    refine wl_val ha23 rfl rfl rfl (op_move ha23 rfl rfl) ?_
    intro a24 ha24; clear ha23 a23
    refine wl_val ha24 rfl rfl rfl (op_len_str ha24 rfl Try.underlying9 rfl) ?_
    intro a25 ha25; clear ha24 a24
    refine wl_val ha25 rfl rfl rfl (op_lss ha25 rfl rfl rfl) ?_
    intro a26 ha26; clear ha25 a25
    refine wpList_nil ?_
    refine then_n ?_
    by_cases c27 : ((i : Nat) : Int) < ((s.length : Nat) : Int)
    ·
     rw [decide_eq_true c27] at ha26
     refine cond_t ha26 rfl ?_
     refine wp_skip ?_
     refine then_n ?_
     refine wp_seq ?_
     refine wp_block ?_
     refine wp_seq ?_
     refine wp_region_lit ?_
     refine wl_val ha26 rfl rfl rfl (op_move ha26 rfl rfl) ?_
     intro a28 ha28; clear ha26 a26
     refine wl_val ha28 rfl rfl rfl (op_move ha28 rfl rfl) ?_
     intro a29 ha29; clear ha28 a28
     obtain ⟨b30, hb30⟩ := get_ex (xs := s) (j := i) (by omega)
     have b30_lt := b30.toNat_lt
     refine wl_val ha29 rfl rfl rfl (op_index_str ha29 rfl Try.underlying9 rfl rfl (by omega) hb30) ?_
     intro a31 ha31; clear ha29 a29
     refine wl_val ha31 rfl rfl rfl (op_lss ha31 rfl rfl rfl) ?_
     intro a32 ha32; clear ha31 a31
     refine wl_val ha32 rfl rfl rfl (op_move ha32 rfl rfl) ?_
     intro a33 ha33; clear ha32 a32
     by_cases c34 : (b30.toNat : Int) < (97 : Int)
     ·
      rw [decide_eq_true c34] at ha33
      refine wl_skip ha33 rfl rfl rfl ?_
      intro a35 ha35; clear ha33 a33
      refine wl_skip ha35 rfl rfl rfl ?_
      intro a36 ha36; clear ha35 a35
      refine wl_skip ha36 rfl rfl rfl ?_
      intro a37 ha37; clear ha36 a36
      refine wl_skip ha37 rfl rfl rfl ?_
      intro a38 ha38; clear ha37 a37
      refine wl_val ha38 rfl rfl rfl (op_pick_t ha38 rfl rfl rfl) ?_
      intro a39 ha39; clear ha38 a38
      refine wpList_nil ?_
      refine then_n ?_
      refine cond_t ha39 rfl ?_
      refine wp_seq ?_
      refine wp_region_lit ?_
      refine wl_val ha39 rfl rfl rfl (op_assign ha39 rfl rfl) ?_
      intro a40 ha40; clear ha39 a39
      refine wpList_nil ?_
      refine then_n ?_
      refine wp_ret ?_
      refine block_r ?_
      refine then_r ?_
      refine then_r ?_
      refine block_r ?_
      refine then_r ?_
      refine ret1 ha40 rfl rfl ?_
      clear ha40 a40
      rw [drop_cons hb30, List.all_cons, loB_f (by omega), Bool.false_and] at hF
      exact ret_mk hx20 (congrArg Value.bool (by first | (simp [← hF, wordB, c6, c16, c27, c34]; done) | (simp [← hF, wordB, c6, c16, c27, c34]; omega) | (rw [Bool.eq_iff_iff]; simp [← hF, wordB, c6, c16, c27, c34]; done) | (rw [Bool.eq_iff_iff]; simp [← hF, wordB, c6, c16, c27, c34]; omega)))
     ·
      rw [decide_eq_false c34] at ha33
      refine wl_val ha33 rfl rfl rfl (op_move ha33 rfl rfl) ?_
      intro a41 ha41; clear ha33 a33
      refine wl_val ha41 rfl rfl rfl (op_move ha41 rfl rfl) ?_
      intro a42 ha42; clear ha41 a41
      refine wl_val ha42 rfl rfl rfl (op_index_str ha42 rfl Try.underlying9 rfl rfl (by omega) hb30) ?_
      intro a43 ha43; clear ha42 a42
      refine wl_val ha43 rfl rfl rfl (op_gtr ha43 rfl rfl rfl) ?_
      intro a44 ha44; clear ha43 a43
      refine wl_val ha44 rfl rfl rfl (op_pick_f ha44 rfl rfl rfl) ?_
      intro a45 ha45; clear ha44 a44
      refine wpList_nil ?_
      refine then_n ?_
      by_cases c46 : (122 : Int) < (b30.toNat : Int)
      ·
       rw [decide_eq_true c46] at ha45
       refine cond_t ha45 rfl ?_
       refine wp_seq ?_
       refine wp_region_lit ?_
       refine wl_val ha45 rfl rfl rfl (op_assign ha45 rfl rfl) ?_
       intro a47 ha47; clear ha45 a45
       refine wpList_nil ?_
       refine then_n ?_
       refine wp_ret ?_
       refine block_r ?_
       refine then_r ?_
       refine then_r ?_
       refine block_r ?_
       refine then_r ?_
       refine ret1 ha47 rfl rfl ?_
       clear ha47 a47
       rw [drop_cons hb30, List.all_cons, loB_f (by omega), Bool.false_and] at hF
       exact ret_mk hx20 (congrArg Value.bool (by first | (simp [← hF, wordB, c6, c16, c27, c34, c46]; done) | (simp [← hF, wordB, c6, c16, c27, c34, c46]; omega) | (rw [Bool.eq_iff_iff]; simp [← hF, wordB, c6, c16, c27, c34, c46]; done) | (rw [Bool.eq_iff_iff]; simp [← hF, wordB, c6, c16, c27, c34, c46]; omega)))
      ·
       rw [decide_eq_false c46] at ha45
       refine cond_f ha45 rfl ?_
       refine wp_skip ?_
       refine block_n ?_
       refine then_n ?_
       refine wp_region_lit ?_
       refine wl_val ha45 rfl rfl rfl (op_move ha45 rfl rfl) ?_
       intro a48 ha48; clear ha45 a45
       refine wl_val ha48 rfl rfl rfl ((op_add ha48 rfl rfl rfl).int (IntWalk.i64_in _ (by omega))) ?_
       intro a49 ha49; clear ha48 a48
       refine wl_val ha49 rfl rfl rfl (op_assign ha49 rfl rfl) ?_
       intro a50 ha50; clear ha49 a49
       refine wpList_nil ?_
       refine round_end (x := i) ((i + 1)) ?_ ?_
       ·
        refine ⟨(Sl.cons_ ha50 rfl rfl (Sl.cons_ ha50 rfl (int_eq (by omega)) (Sl.nil_ ha50))), hx20, (by omega), (by omega), (by rw [drop_cons hb30, List.all_cons, loB_t (by omega), Bool.true_and] at hF; exact hF)⟩
       ·show (s.length - ((i + 1)) : Nat) < s.length - i; omega
    ·
     rw [decide_eq_false c27] at ha26
     refine cond_f ha26 rfl ?_
     refine wp_exit ?_
     refine then_e ?_
     refine then_e ?_
     refine block_hit ?_
     refine then_n ?_
     refine wp_seq ?_
     refine wp_region_lit ?_
     refine wl_val ha26 rfl rfl rfl (op_assign ha26 rfl rfl) ?_
     intro a51 ha51; clear ha26 a26
     refine wpList_nil ?_
     refine then_n ?_
     refine wp_ret ?_
     refine ret1 ha51 rfl rfl ?_
     clear ha51 a51
     rw [drop_nil (by omega), List.all_nil] at hF
     exact ret_mk hx20 (congrArg Value.bool (by first | (simp [← hF, wordB, c6, c16, c27]; done) | (simp [← hF, wordB, c6, c16, c27]; omega) | (rw [Bool.eq_iff_iff]; simp [← hF, wordB, c6, c16, c27]; done) | (rw [Bool.eq_iff_iff]; simp [← hF, wordB, c6, c16, c27]; omega)))

theorem c_spec_IsWord (w0 : World) (s : Str) (g0 : s.length ≤ 9223372036854775807) :
  Calls Try.prog 70 #[St s] w0 (Ret w0 (fun v _ => v = .bool (wordB s))) := by
 refine enter (N := 23) Try.func70 rfl rfl rfl ?_
 intro a0 ha0
 have hx0 := Ext.rfl' w0
 refine wp_seq ?_
 refine wp_region_lit ?_
 refine wl_val ha0 rfl rfl rfl (op_assign ha0 rfl rfl) ?_
 intro a1 ha1; clear ha0 a0
 refine wpList_nil ?_
 refine then_n ?_
 refine wp_seq ?_
 refine wp_seq ?_
 refine wp_region_lit ?_
 refine wl_val ha1 rfl rfl rfl (op_assign ha1 rfl rfl) ?_
 intro a2 ha2; clear ha1 a1
 refine wpList_nil ?_
 refine then_n ?_
 refine wp_block ?_
 refine loop_inv (X := Nat) (fun (i : Nat) fr wl => Sl 23 fr [(0, St s), (3, .int .i64 ((i : Nat) : Int))] ∧ Ext w0 wl ∧ w0.heap.size ≤ wl.heap.size ∧ (i ≤ s.length) ∧ ((s.drop i).all loB = s.all loB)) (fun (i : Nat) => s.length - i) (0) ?_ ?_
 ·
  exact ⟨(Sl.cons_ ha2 rfl rfl (Sl.cons_ ha2 rfl (int_eq (by omega)) (Sl.nil_ ha2))), hx0, (by omega), (by first | omega | (simp; done) | (simp; omega) | assumption), (by first | omega | (simp; done) | (simp; omega) | assumption)⟩
 ·
  clear ha2 a2
  rintro i a5 w3 ⟨ha5, hx4, hzl6, hi, hF⟩
  have hzhx4 := hx4.size
  refine wp_seq ?_
  refine wp_seq ?_
  refine wp_region_lit ?_
  refine wl_val ha5 rfl rfl rfl (op_move ha5 rfl rfl) ?_
  intro a7 ha7; clear ha5 a5
  refine wl_val ha7 rfl rfl rfl (op_move ha7 rfl rfl) ?_
  intro a8 ha8; clear ha7 a7
  refine wl_val ha8 rfl rfl rfl (op_len_str ha8 rfl Try.underlying9 rfl) ?_
  intro a9 ha9; clear ha8 a8
  refine wl_val ha9 rfl rfl rfl (op_lss ha9 rfl rfl rfl) ?_
  intro a10 ha10; clear ha9 a9
  refine wpList_nil ?_
  refine then_n ?_
  by_cases c11 : ((i : Nat) : Int) < ((s.length : Nat) : Int)
  ·
   rw [decide_eq_true c11] at ha10
   refine cond_t ha10 rfl ?_
   refine wp_skip ?_
   refine then_n ?_
   refine wp_seq ?_
   refine wp_block ?_
   refine wp_seq ?_
   refine wp_region_lit ?_
   refine wl_val ha10 rfl rfl rfl (op_move ha10 rfl rfl) ?_
   intro a12 ha12; clear ha10 a10
   refine wl_val ha12 rfl rfl rfl (op_move ha12 rfl rfl) ?_
   intro a13 ha13; clear ha12 a12
   obtain ⟨b14, hb14⟩ := get_ex (xs := s) (j := i) (by omega)
   have b14_lt := b14.toNat_lt
   refine wl_val ha13 rfl rfl rfl (op_index_str ha13 rfl Try.underlying9 rfl rfl (by omega) hb14) ?_
   intro a15 ha15; clear ha13 a13
   refine wl_val ha15 rfl rfl rfl (op_lss ha15 rfl rfl rfl) ?_
   intro a16 ha16; clear ha15 a15
   refine wl_val ha16 rfl rfl rfl (op_move ha16 rfl rfl) ?_
   intro a17 ha17; clear ha16 a16
   by_cases c18 : (b14.toNat : Int) < (97 : Int)
   ·
    rw [decide_eq_true c18] at ha17
    refine wl_skip ha17 rfl rfl rfl ?_
    intro a19 ha19; clear ha17 a17
    refine wl_skip ha19 rfl rfl rfl ?_
    intro a20 ha20; clear ha19 a19
    refine wl_skip ha20 rfl rfl rfl ?_
    intro a21 ha21; clear ha20 a20
    refine wl_skip ha21 rfl rfl rfl ?_
    intro a22 ha22; clear ha21 a21
    refine wl_val ha22 rfl rfl rfl (op_pick_t ha22 rfl rfl rfl) ?_
    intro a23 ha23; clear ha22 a22
    refine wpList_nil ?_
    refine then_n ?_
    refine cond_t ha23 rfl ?_
    refine wp_seq ?_
    refine wp_region_lit ?_
    refine wl_val ha23 rfl rfl rfl (op_assign ha23 rfl rfl) ?_
    intro a24 ha24; clear ha23 a23
    refine wpList_nil ?_
    refine then_n ?_
    refine wp_ret ?_
    refine block_r ?_
    refine then_r ?_
    refine then_r ?_
    refine block_r ?_
    refine then_r ?_
    refine ret1 ha24 rfl rfl ?_
    clear ha24 a24
    rw [drop_cons hb14, List.all_cons, loB_f (by omega), Bool.false_and] at hF
    exact ret_mk hx4 (congrArg Value.bool (by first | (simp [← hF, wordB, c11, c18]; done) | (simp [← hF, wordB, c11, c18]; omega) | (rw [Bool.eq_iff_iff]; simp [← hF, wordB, c11, c18]; done) | (rw [Bool.eq_iff_iff]; simp [← hF, wordB, c11, c18]; omega)))
   ·
    rw [decide_eq_false c18] at ha17
    refine wl_val ha17 rfl rfl rfl (op_move ha17 rfl rfl) ?_
    intro a25 ha25; clear ha17 a17
    refine wl_val ha25 rfl rfl rfl (op_move ha25 rfl rfl) ?_
    intro a26 ha26; clear ha25 a25
    refine wl_val ha26 rfl rfl rfl (op_index_str ha26 rfl Try.underlying9 rfl rfl (by omega) hb14) ?_
    intro a27 ha27; clear ha26 a26
    refine wl_val ha27 rfl rfl rfl (op_gtr ha27 rfl rfl rfl) ?_
    intro a28 ha28; clear ha27 a27
    refine wl_val ha28 rfl rfl rfl (op_pick_f ha28 rfl rfl rfl) ?_
    intro a29 ha29; clear ha28 a28
    refine wpList_nil ?_
    refine then_n ?_
    by_cases c30 : (122 : Int) < (b14.toNat : Int)
    ·
     rw [decide_eq_true c30] at ha29
     refine cond_t ha29 rfl ?_
     refine wp_seq ?_
     refine wp_region_lit ?_
     refine wl_val ha29 rfl rfl rfl (op_assign ha29 rfl rfl) ?_
     intro a31 ha31; clear ha29 a29
     refine wpList_nil ?_
     refine then_n ?_
     refine wp_ret ?_
     refine block_r ?_
     refine then_r ?_
     refine then_r ?_
     refine block_r ?_
     refine then_r ?_
     refine ret1 ha31 rfl rfl ?_
     clear ha31 a31
     rw [drop_cons hb14, List.all_cons, loB_f (by omega), Bool.false_and] at hF
     exact ret_mk hx4 (congrArg Value.bool (by first | (simp [← hF, wordB, c11, c18, c30]; done) | (simp [← hF, wordB, c11, c18, c30]; omega) | (rw [Bool.eq_iff_iff]; simp [← hF, wordB, c11, c18, c30]; done) | (rw [Bool.eq_iff_iff]; simp [← hF, wordB, c11, c18, c30]; omega)))
    ·
     rw [decide_eq_false c30] at ha29
     refine cond_f ha29 rfl ?_
     refine wp_skip ?_
     refine block_n ?_
     refine then_n ?_
     refine wp_region_lit ?_
     refine wl_val ha29 rfl rfl rfl (op_move ha29 rfl rfl) ?_
     intro a32 ha32; clear ha29 a29
     refine wl_val ha32 rfl rfl rfl ((op_add ha32 rfl rfl rfl).int (IntWalk.i64_in _ (by omega))) ?_
     intro a33 ha33; clear ha32 a32
     refine wl_val ha33 rfl rfl rfl (op_assign ha33 rfl rfl) ?_
     intro a34 ha34; clear ha33 a33
     refine wpList_nil ?_
     refine round_end (x := i) ((i + 1)) ?_ ?_
     ·
      refine ⟨(Sl.cons_ ha34 rfl rfl (Sl.cons_ ha34 rfl (int_eq (by omega)) (Sl.nil_ ha34))), hx4, (by omega), (by omega), (by rw [drop_cons hb14, List.all_cons, loB_t (by omega), Bool.true_and] at hF; exact hF)⟩
     ·show (s.length - ((i + 1)) : Nat) < s.length - i; omega
  ·
   rw [decide_eq_false c11] at ha10
   refine cond_f ha10 rfl ?_
   refine wp_exit ?_
   refine then_e ?_
   refine then_e ?_
   refine block_hit ?_
   refine then_n ?_
   refine wp_seq ?_
   refine wp_region_lit ?_
   refine wl_val ha10 rfl rfl rfl (op_move ha10 rfl rfl) ?_
   intro a35 ha35; clear ha10 a10
   refine wl_val ha35 rfl rfl rfl (op_len_str ha35 rfl Try.underlying9 rfl) ?_
   intro a36 ha36; clear ha35 a35
   refine wl_callR ha36 rfl rfl rfl (op_call ha36 rfl cb71 rfl) (c_spec_l01In _ ((s.length : Nat) : Int) (1 : Int) (16 : Int) ) ?_
   rintro v37 w38 he39 rfl a40 ha40; clear ha36 a36
   have hx41 := hx4.trans' he39
   have hzhx41 := he39.size
   refine wl_val ha40 rfl rfl rfl (op_assign ha40 rfl rfl) ?_
   intro a42 ha42; clear ha40 a40
   refine wpList_nil ?_
   refine then_n ?_
   refine wp_ret ?_
   refine ret1 ha42 rfl rfl ?_
   clear ha42 a42
   rw [drop_nil (by omega), List.all_nil] at hF
   exact ret_mk hx41 (congrArg Value.bool (by first | (simp [← hF, wordB, c11]; done) | (simp [← hF, wordB, c11]; omega) | (rw [Bool.eq_iff_iff]; simp [← hF, wordB, c11]; done) | (rw [Bool.eq_iff_iff]; simp [← hF, wordB, c11]; omega)))


end Go.Proofs.Ytllpdkidaldkiaa
