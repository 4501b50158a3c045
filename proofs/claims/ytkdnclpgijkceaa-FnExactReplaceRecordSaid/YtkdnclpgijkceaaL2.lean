/- What is left of a size. -/
import Derived.Test.YtkdnclpgijkceaaL1
namespace Go.Proofs.Ytkdnclpgijkceaa
open Go Go.RowKit

theorem szGo_neg : ∀ (xs : List (Int × Str)) (n : Int), ¬ szGo xs n < 0 → 0 ≤ n := by
  intro xs
  induction xs with
  | nil => intro n h; simp only [szGo] at h; omega
  | cons r rs ih =>
    intro n h
    simp only [szGo] at h
    split at h
    · omega
    · have := ih _ h
      unfold szR at this; split at this <;> omega
theorem szGo_le : ∀ (xs : List (Int × Str)) (n : Int), 0 ≤ n → szGo xs n ≤ n := by
  intro xs
  induction xs with
  | nil => intro n h; simp [szGo]
  | cons r rs ih =>
    intro n h
    simp only [szGo]
    split
    · omega
    · have := ih _ (Int.not_lt.1 ‹_›)
      have := szR_le (k := r.2.length) h
      omega
theorem szL_le (xs : List (Int × Str)) {n : Int} (h : 0 ≤ n) : szL xs n ≤ n := by
  unfold szL
  split
  · omega
  · have := szGo_le xs (n - xs.length) (by omega); omega
theorem szL_len {xs : List (Int × Str)} {n : Int} (h : ¬ szL xs n < 0) : (xs.length : Int) ≤ n := by
  unfold szL at h
  split at h <;> omega


end Go.Proofs.Ytkdnclpgijkceaa
