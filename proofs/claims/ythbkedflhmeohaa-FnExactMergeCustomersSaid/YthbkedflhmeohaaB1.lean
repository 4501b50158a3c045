/- How many bikes there are in what comes out. -/
import Derived.Test.YthbkedflhmeohaaW5
import Derived.Test.YthbkedflhmeohaaW8
import Derived.Test.YthbkedflhmeohaaW9
import Derived.Test.YthbkedflhmeohaaL3
namespace Go.Proofs.Ythbkedflhmeohaa
open Go Go.RowKit

abbrev Bk (xs : List Cust) : Prop := ∀ c ∈ xs, c.2.2.length ≤ 10
theorem bk_nil : Bk [] := fun c h => by simp at h
theorem bk_cu {xs : List Cust} (h : cuB xs = true) : Bk xs := fun c hc => by have := cuOk_bd (cuB_el h c hc); omega
theorem bk_set {xs : List Cust} {i : Nat} {c : Cust} (h : Bk xs) (hc : c.2.2.length ≤ 10) : Bk (xs.set i c) := fun d hd => by
  rcases List.mem_or_eq_of_mem_set hd with e | e
  · exact h d e
  · subst e; exact hc
theorem icL_mem {c d : Cust} : ∀ {xs : List Cust}, d ∈ icL c xs → d = c ∨ d ∈ xs
  | [], h => by simp [icL] at h; exact .inl h
  | y :: ys, h => by
    rw [icL] at h; split at h
    · rcases List.mem_cons.1 h with e | e
      · exact .inr (by simp [e])
      · rcases icL_mem e with e | e
        · exact .inl e
        · exact .inr (by simp [e])
    · rcases List.mem_cons.1 h with e | e
      · exact .inl e
      · exact .inr e
theorem addcL_bk (xs : List Cust) (n : Str) (d : Int) : Bk (addcL xs n d) := by
  unfold addcL; split
  · rename_i h0
    simp only [Bool.and_eq_true] at h0
    split
    · split
      · exact bk_nil
      · split
        · exact bk_nil
        · intro c hc
          rcases icL_mem hc with e | e
          · subst e; simp
          · exact bk_cu h0.1 c e
    · exact bk_nil
  · exact bk_nil
theorem addcL_len (xs : List Cust) (n : Str) (d : Int) : (addcL xs n d).length ≤ xs.length + 1 := by
  unfold addcL; split
  · split
    · split
      · simp
      · split
        · simp
        · rw [icL_len]; omega
    · simp
  · simp
theorem addcL_max (xs : List Cust) (n : Str) (d : Int) : (addcL xs n d).length ≤ 21 := by
  unfold addcL; split
  · rename_i h0
    simp only [Bool.and_eq_true] at h0
    have := cuB_len h0.1
    split
    · split
      · simp
      · split
        · simp
        · rw [icL_len]; omega
    · simp
  · simp
theorem at_cu {xs : List Cust} (h : cuB xs = true) (i : Nat) : (bikesAt xs i).length ≤ 5 := by
  unfold bikesAt
  cases hc : xs[i]? with
  | none => simp
  | some c => exact (cuOk_bd (cuB_el h c (List.mem_of_getElem? hc))).2.2.2.2
theorem setB_bk {xs : List Cust} {i : Nat} {bs : List Str} (h : Bk xs) (hb : bs.length ≤ 10) : Bk (setB xs i bs) := by
  unfold setB; split
  · exact h
  · exact bk_set h hb
theorem gvL_bk (xs : List Cust) (n b : Str) : Bk (gvL xs n b) := by
  unfold gvL; split
  · rename_i e
    by_cases h : cd3 xs n b = 0
    · have h1 := (cd3_ok h).1
      have := at_cu h1 (fnI xs n).toNat
      exact setB_bk (bk_cu h1) (by rw [liL_len]; omega)
    · rw [gvC_c rfl h] at e; exact absurd e h
  · exact bk_nil
theorem seL_bk (xs : List Cust) (b n : Str) : Bk (seL xs b n) := by
  unfold seL; split
  · rename_i e
    by_cases h : cd3 xs n b = 0
    · have h1 := (cd3_ok h).1
      have := at_cu h1 (fnI xs n).toNat
      have h2 := at_cu h1 (owI xs b).toNat
      have h3 := wo_len b (bikesAt xs (owI xs b).toNat)
      exact setB_bk (setB_bk (bk_cu h1) (by omega)) (by rw [liL_len]; omega)
    · rw [seC_c rfl h] at e; exact absurd e h
  · exact bk_nil
theorem mcL_bk (xs : List Cust) (p q : Str) : Bk (mcL xs p q) := by
  by_cases e : mcC xs p q = 0
  · unfold mcL; rw [if_pos e]; split
    · rename_i c d hc hd
      have h0 : cuB xs = true := by
        unfold mcC at e; split at e
        · rename_i h; simp only [Bool.and_eq_true] at h; exact h.1.1
        · cases e
      have h1 := bk_cu h0 c (List.mem_of_getElem? hc)
      have h5 := (cuOk_bd (cuB_el h0 c (List.mem_of_getElem? hc))).2.2.2.2
      have h6 := (cuOk_bd (cuB_el h0 d (List.mem_of_getElem? hd))).2.2.2.2
      have h2 : Bk (xs.set (fnI xs p).toNat (c.1, min c.2.1 d.2.1, insL d.2.2 c.2.2)) := bk_set (bk_cu h0) (by show (insL _ _).length ≤ 10; rw [insL_len]; omega)
      intro x hx
      unfold mcO at hx
      rcases List.mem_append.1 hx with e | e
      · exact h2 x (List.mem_of_mem_take e)
      · exact h2 x (List.mem_of_mem_drop e)
    · exact bk_nil
  · rw [mcL_bad e]; exact bk_nil


end Go.Proofs.Ythbkedflhmeohaa
