/- How many bikes there are in what comes out of drawing. -/
import Derived.Test.YthbkedflhmeohaaW5
import Derived.Test.YthbkedflhmeohaaW6
namespace Go.Proofs.Ythbkedflhmeohaa
open Go Go.RowKit

abbrev Bk (xs : List Cust) : Prop := ∀ c ∈ xs, c.2.2.length ≤ 10
theorem bk_nil : Bk [] := fun c h => by simp at h
theorem bk_cu {xs : List Cust} (h : cuB xs = true) : Bk xs := fun c hc => by have := cuOk_bd (cuB_el h c hc); omega
theorem bk_set {xs : List Cust} {i : Nat} {c : Cust} (h : Bk xs) (hc : c.2.2.length ≤ 10) : Bk (xs.set i c) := fun d hd => by
  rcases List.mem_or_eq_of_mem_set hd with e | e
  · exact h d e
  · subst e; exact hc
theorem icL_mem {c d : Cust} : ∀ {xs : List Cust}, d ∈ icL c xs → d = c ∨ d ∈ xs
  | [], h => by simp [icL] at h; exact .inl h
  | y :: ys, h => by
    rw [icL] at h; split at h
    · rcases List.mem_cons.1 h with e | e
      · exact .inr (by simp [e])
      · rcases icL_mem e with e | e
        · exact .inl e
        · exact .inr (by simp [e])
    · rcases List.mem_cons.1 h with e | e
      · exact .inl e
      · exact .inr e
theorem addcL_bk (xs : List Cust) (n : Str) (d : Int) : Bk (addcL xs n d) := by
  unfold addcL; split
  · rename_i h0
    simp only [Bool.and_eq_true] at h0
    split
    · split
      · exact bk_nil
      · split
        · exact bk_nil
        · intro c hc
          rcases icL_mem hc with e | e
          · subst e; simp
          · exact bk_cu h0.1 c e
    · exact bk_nil
  · exact bk_nil
theorem addcL_len (xs : List Cust) (n : Str) (d : Int) : (addcL xs n d).length ≤ xs.length + 1 := by
  unfold addcL; split
  · split
    · split
      · simp
      · split
        · simp
        · rw [icL_len]; omega
    · simp
  · simp
theorem addcL_max (xs : List Cust) (n : Str) (d : Int) : (addcL xs n d).length ≤ 21 := by
  unfold addcL; split
  · rename_i h0
    simp only [Bool.and_eq_true] at h0
    have := cuB_len h0.1
    split
    · split
      · simp
      · split
        · simp
        · rw [icL_len]; omega
    · simp
  · simp
theorem at_cu {xs : List Cust} (h : cuB xs = true) (i : Nat) : (bikesAt xs i).length ≤ 5 := by
  unfold bikesAt
  cases hc : xs[i]? with
  | none => simp
  | some c => exact (cuOk_bd (cuB_el h c (List.mem_of_getElem? hc))).2.2.2.2
theorem setB_bk {xs : List Cust} {i : Nat} {bs : List Str} (h : Bk xs) (hb : bs.length ≤ 10) : Bk (setB xs i bs) := by
  unfold setB; split
  · exact h
  · exact bk_set h hb
theorem gvL_bk (xs : List Cust) (n b : Str) : Bk (gvL xs n b) := by
  unfold gvL; split
  · rename_i e
    by_cases h : cd3 xs n b = 0
    · have h1 := (cd3_ok h).1
      have := at_cu h1 (fnI xs n).toNat
      exact setB_bk (bk_cu h1) (by rw [liL_len]; omega)
    · rw [gvC_c rfl h] at e; exact absurd e h
  · exact bk_nil


end Go.Proofs.Ythbkedflhmeohaa
