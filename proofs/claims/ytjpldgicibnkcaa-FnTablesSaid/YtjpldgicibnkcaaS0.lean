/- Rows put where they belong. -/
import Derived.Test.YtjpldgicibnkcaaW4
namespace Go.Proofs.Ytjpldgicibnkcaa
open Go Go.RowKit

/-- One more, behind those that are not greater. -/
def insK {α : Type} (key : α → Int) (x : α) : List α → List α
  | [] => [x]
  | y :: ys => if key x < key y then x :: y :: ys else y :: insK key x ys
theorem insK_len {α : Type} (key : α → Int) (x : α) : ∀ (xs : List α), (insK key x xs).length = xs.length + 1
  | [] => rfl
  | y :: ys => by rw [insK]; split <;> simp [insK_len key x ys]
theorem insK_map {α β : Type} {f : α → β} {key : α → Int} {key' : β → Int} {x : α} : ∀ {xs : List α}, key' (f x) = key x → (∀ y ∈ xs, key' (f y) = key y) → (insK key x xs).map f = insK key' (f x) (xs.map f)
  | [], _, _ => rfl
  | y :: ys, hx, h => by
    rw [insK, List.map_cons, insK, hx, h y (by simp)]; split
    · rfl
    · rw [List.map_cons, insK_map hx fun z hz => h z (by simp [hz])]
theorem insK_mem {α : Type} {key : α → Int} {x z : α} : ∀ {xs : List α}, z ∈ insK key x xs ↔ z = x ∨ z ∈ xs
  | [] => by simp [insK]
  | y :: ys => by
    rw [insK]; split
    · simp
    · rw [List.mem_cons, insK_mem, List.mem_cons]
      constructor
      · rintro (e | e | e) <;> simp [e]
      · rintro (e | e | e) <;> simp [e]
abbrev UpK {α : Type} (key : α → Int) (xs : List α) : Prop := xs.Pairwise fun x y => key x ≤ key y
theorem insK_up {α : Type} {key : α → Int} {x : α} : ∀ {xs : List α}, UpK key xs → UpK key (insK key x xs)
  | [], _ => by simp [insK, UpK]
  | y :: ys, h => by
    have h' := List.pairwise_cons.1 h
    rw [insK]; split
    · refine List.Pairwise.cons (fun z hz => ?_) h
      rcases List.mem_cons.1 hz with e | e
      · subst e; omega
      · have := h'.1 z e; omega
    · refine List.Pairwise.cons (fun z hz => ?_) (insK_up h'.2)
      rcases insK_mem.1 hz with e | e
      · subst e; omega
      · exact h'.1 z e
theorem insK_cut {α : Type} {key : α → Int} {x : α} : ∀ {xs : List α} {k : Nat}, (∀ j y, j < k → xs[j]? = some y → key y ≤ key x) → (∀ j y, k ≤ j → xs[j]? = some y → key x < key y) → insK key x xs = xs.take k ++ x :: xs.drop k
  | [], k, _, _ => by simp [insK]
  | y :: ys, 0, _, h => by rw [insK, if_pos (h 0 y (Nat.le_refl _) rfl)]; rfl
  | y :: ys, k + 1, h, h' => by
    rw [insK, if_neg (by have := h 0 y (by omega) rfl; omega), insK_cut (k := k) (fun j z hj hz => h (j + 1) z (by omega) (by simpa using hz)) (fun j z hj hz => h' (j + 1) z (by omega) (by simpa using hz))]
    rfl
theorem upK_at {α : Type} {key : α → Int} {xs : List α} (h : UpK key xs) {i j : Nat} {x y : α} (hij : i ≤ j) (hx : xs[i]? = some x) (hy : xs[j]? = some y) : key x ≤ key y := by
  obtain ⟨hi, rfl⟩ := List.getElem?_eq_some_iff.1 hx
  obtain ⟨hj, rfl⟩ := List.getElem?_eq_some_iff.1 hy
  rcases Nat.lt_or_ge i j with q | q
  · exact List.pairwise_iff_getElem.1 h _ _ hi hj q
  · have : i = j := by omega
    subst this; exact Int.le_refl _
theorem insK_back {α : Type} {key : α → Int} {x : α} {xs : List α} {k : Nat} (h : UpK key xs) (hk : ∀ j y, k ≤ j → xs[j]? = some y → key x < key y) (h0 : k = 0 ∨ ∃ b, xs[k - 1]? = some b ∧ ¬ key x < key b) : insK key x xs = xs.take k ++ x :: xs.drop k := by
  refine insK_cut (fun j y hj hy => ?_) hk
  rcases h0 with h0 | ⟨b, hb, h1⟩
  · omega
  · have := upK_at h (show j ≤ k - 1 by omega) hy hb; omega
theorem insK_front {α : Type} {key : α → Int} {x : α} {xs : List α} {k : Nat} (h : UpK key xs) (hk : ∀ j y, j < k → xs[j]? = some y → key y ≤ key x) (h0 : xs.length ≤ k ∨ ∃ b, xs[k]? = some b ∧ ¬ key b ≤ key x) : insK key x xs = xs.take k ++ x :: xs.drop k := by
  refine insK_cut hk (fun j y hj hy => ?_)
  rcases h0 with h0 | ⟨b, hb, h1⟩
  · have := (List.getElem?_eq_some_iff.1 hy).1; omega
  · have := upK_at h hj hb hy; omega

theorem swap_abs {α : Type} {L M : List α} {c a : α} {k : Nat} (hM : M = L.take (k + 1) ++ c :: L.drop (k + 1)) (ha : L[k]? = some a) : (M.set k c).set (k + 1) a = L.take k ++ c :: L.drop k := by
  have hk : k < L.length := (List.getElem?_eq_some_iff.1 ha).1
  subst hM
  rw [take_snoc ha, List.append_assoc, List.set_append_right _ _ (by rw [List.length_take]; omega), List.set_append_right _ _ (by rw [List.length_take]; omega), List.length_take, Nat.min_eq_left (by omega), Nat.sub_self, show k + 1 - k = 1 by omega, drop_cons ha]
  rfl
theorem swap_at {α : Type} {L M : List α} {c : α} {k : Nat} (hM : M = L.take k ++ c :: L.drop k) (hk : k ≤ L.length) : M[k]? = some c ∧ ∀ j, j < k → M[j]? = L[j]? := by
  subst hM
  refine ⟨?_, fun j hj => ?_⟩
  · rw [List.getElem?_append_right (by rw [List.length_take]; omega), List.length_take, Nat.min_eq_left hk, Nat.sub_self]; rfl
  · rw [List.getElem?_append_left (by rw [List.length_take]; omega), List.getElem?_take, if_pos hj]
theorem pw_swap' {α : Type} {xs : List α} {j k : Nat} {x y : α} (hk : k = j + 1) (hx : xs[j]? = some x) (hy : xs[k]? = some y) : ((xs.set j y).set k x).Perm xs := by subst hk; exact pw_swap hx hy

def srGo (c : Int) : List (List Int) → List (List Int) → List (List Int)
  | [], acc => acc
  | r :: rs, acc => srGo c rs (insK (rowC c) r acc)
def srT (t : Tab) (c : Int) : Tab := if cdT t c = 0 then (t.1, srGo c t.2 []) else ([], [])
theorem srT_ok {t : Tab} {c : Int} (h : cdT t c = 0) : srT t c = (t.1, srGo c t.2 []) := by unfold srT; rw [if_pos h]
theorem srT_no {t : Tab} {c : Int} (h : ¬ cdT t c = 0) : srT t c = ([], []) := by unfold srT; rw [if_neg h]
theorem map_at {zs : List (List Int × Value)} {k : Nat} {z : List Int × Value} (h : zs[k]? = some z) : (zs.map (·.1))[k]? = some z.1 := by rw [List.getElem?_map, h]; rfl
theorem ins_split {α : Type} {S T : List α} {x : α} {k : Nat} (hk : k ≤ S.length) : ((S ++ T).take k ++ x :: (S ++ T).drop k).take (S.length + 1) = S.take k ++ x :: S.drop k ∧ ((S ++ T).take k ++ x :: (S ++ T).drop k).drop (S.length + 1) = T := by
  have e : (S ++ T).take k ++ x :: (S ++ T).drop k = (S.take k ++ x :: S.drop k) ++ T := by
    rw [List.take_append_of_le_length hk, List.drop_append_of_le_length hk]; simp
  have hl : (S.take k ++ x :: S.drop k).length = S.length + 1 := by simp; omega
  rw [e]
  exact ⟨List.take_left' hl, List.drop_left' hl⟩


end Go.Proofs.Ytjpldgicibnkcaa
