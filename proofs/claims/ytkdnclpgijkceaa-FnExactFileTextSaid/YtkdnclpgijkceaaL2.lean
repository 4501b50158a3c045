/- What is left of a size. -/
import Derived.Test.YtkdnclpgijkceaaL1
namespace Go.Proofs.Ytkdnclpgijkceaa
open Go Go.RowKit

theorem szGo_neg : ∀ (xs : List (Int × Str)) (n : Int), ¬ szGo xs n < 0 → 0 ≤ n := by
  intro xs
  induction xs with
  | nil => intro n h; simp only [szGo] at h; omega
  | cons r rs ih =>
    intro n h
    simp only [szGo] at h
    split at h
    · omega
    · have := ih _ h
      unfold szR at this; split at this <;> omega
theorem szL_len {xs : List (Int × Str)} {n : Int} (h : ¬ szL xs n < 0) : (xs.length : Int) ≤ n := by
  unfold szL at h
  split at h <;> omega


end Go.Proofs.Ytkdnclpgijkceaa
