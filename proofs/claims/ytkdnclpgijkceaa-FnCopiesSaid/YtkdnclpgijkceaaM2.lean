/- Two copies. -/
import Derived.Test.YtkdnclpgijkceaaM1
namespace Go.Proofs.Ytkdnclpgijkceaa
open Go Go.RowKit

def mrgL : List (Int × Str) → List (Int × Str) → List (Int × Str)
  | [], b => b
  | x :: xs, [] => x :: xs
  | x :: xs, y :: ys => if x.1 < y.1 then x :: mrgL xs (y :: ys) else if y.1 < x.1 then y :: mrgL (x :: xs) ys else x :: mrgL xs ys
termination_by a b => a.length + b.length
def mrgD : List (Int × Str) → List (Int × Str) → List Int
  | [], _ => []
  | _ :: _, [] => []
  | x :: xs, y :: ys => if x.1 < y.1 then mrgD xs (y :: ys) else if y.1 < x.1 then mrgD (x :: xs) ys else (if x.2 = y.2 then [] else [x.1]) ++ mrgD xs ys
termination_by a b => a.length + b.length
theorem head_cons {α : Type} {xs : List α} {x : α} (h : xs[0]? = some x) : xs = x :: xs.drop 1 := by
  have := drop_cons h
  simpa using this
theorem nil_len {α : Type} {xs : List α} (h : ¬ (0 : Int) < (xs.length : Nat)) : xs = [] := List.eq_nil_of_length_eq_zero (by omega)
theorem mrgL_nil (b : List (Int × Str)) : mrgL [] b = b := by rw [mrgL]
theorem mrgL_nil' (a : List (Int × Str)) : mrgL a [] = a := by cases a <;> rw [mrgL]
theorem mrgD_nil (b : List (Int × Str)) : mrgD [] b = [] := by rw [mrgD]
theorem mrgD_nil' (a : List (Int × Str)) : mrgD a [] = [] := by cases a <;> rw [mrgD]
theorem mrg_l {a b : List (Int × Str)} {x : Int × Str} (hx : a[0]? = some x) (h : b = [] ∨ ∃ y, b[0]? = some y ∧ x.1 < y.1) : mrgL a b = x :: mrgL (a.drop 1) b ∧ mrgD a b = mrgD (a.drop 1) b := by
  rw [head_cons hx]
  rcases h with rfl | ⟨y, hy, hl⟩
  · simp [mrgL_nil', mrgD_nil']
  · rw [head_cons hy]
    constructor
    · rw [mrgL, if_pos hl]; rfl
    · rw [mrgD, if_pos hl]; rfl
theorem mrg_r {a b : List (Int × Str)} {y : Int × Str} (hy : b[0]? = some y) (h : a = [] ∨ ∃ x, a[0]? = some x ∧ y.1 < x.1) : mrgL a b = y :: mrgL a (b.drop 1) ∧ mrgD a b = mrgD a (b.drop 1) := by
  rw [head_cons hy]
  rcases h with rfl | ⟨x, hx, hl⟩
  · simp [mrgL_nil, mrgD_nil]
  · rw [head_cons hx]
    constructor
    · rw [mrgL, if_neg (by omega), if_pos hl]; rfl
    · rw [mrgD, if_neg (by omega), if_pos hl]; rfl
theorem mrg_b {a b : List (Int × Str)} {x y : Int × Str} (hx : a[0]? = some x) (hy : b[0]? = some y) (h1 : ¬ x.1 < y.1) (h2 : ¬ y.1 < x.1) :
    mrgL a b = x :: mrgL (a.drop 1) (b.drop 1) ∧ mrgD a b = (if x.2 = y.2 then [] else [x.1]) ++ mrgD (a.drop 1) (b.drop 1) := by
  rw [head_cons hx, head_cons hy]
  constructor
  · rw [mrgL, if_neg h1, if_neg h2]; rfl
  · rw [mrgD, if_neg h1, if_neg h2]; rfl
/-- The reference's way: each record of the second copy is looked up in the first. -/
def spT (la : List (Int × Str)) (y : Int × Str) : Bool := match la[(fdI la y.1).toNat]? with
  | some x => decide (x.2 = y.2)
  | none => true
theorem spT_eq {la : List (Int × Str)} {x y : Int × Str} (h : la[(fdI la y.1).toNat]? = some x) : spT la y = decide (x.2 = y.2) := by unfold spT; rw [h]
def spGo (la : List (Int × Str)) : List (Int × Str) → List (Int × Str) → List Int → List (Int × Str) × List Int
  | [], out, bad => (out, bad)
  | y :: ys, out, bad => if fdI la y.1 < 0 then spGo la ys (putS out y) bad else spGo la ys out (bad ++ if spT la y then [] else [y.1])
theorem fdGo_bd : ∀ (xs : List (Int × Str)) (n k : Int), 0 ≤ k → -1 ≤ fdGo xs n k ∧ fdGo xs n k < k + xs.length
  | [], n, k, h => by simp [fdGo]; omega
  | r :: rs, n, k, h => by
    have := fdGo_bd rs n (k + 1) (by omega)
    rw [fdGo]; split <;> simp <;> omega
theorem fdI_bd (xs : List (Int × Str)) (n : Int) : -1 ≤ fdI xs n ∧ fdI xs n < xs.length := by
  have := fdGo_bd xs n 0 (by omega); unfold fdI; omega
theorem fdGo_get : ∀ (xs : List (Int × Str)) (n k : Int) (m : Nat), 0 ≤ k → fdGo xs n k = k + m → ∃ x, xs[m]? = some x ∧ x.1 = n
  | [], n, k, m, h, e => by simp [fdGo] at e; omega
  | r :: rs, n, k, m, h, e => by
    rw [fdGo] at e; split at e
    · have : m = 0 := by omega
      subst this; exact ⟨r, rfl, ‹_›⟩
    · have hb := fdGo_bd rs n (k + 1) (by omega)
      cases m with
      | zero =>
        exfalso
        have : ∀ (xs : List (Int × Str)) (k : Int), 0 ≤ k → fdGo xs n k = -1 ∨ k ≤ fdGo xs n k := by
          intro xs
          induction xs with
          | nil => intro k _; simp [fdGo]
          | cons z zs ih => intro k hk; rw [fdGo]; split; · omega
                            · have := ih (k + 1) (by omega); omega
        have := this rs (k + 1) (by omega); omega
      | succ m =>
        obtain ⟨x, hx, e2⟩ := fdGo_get rs n (k + 1) m (by omega) (by omega)
        exact ⟨x, by simpa using hx, e2⟩
theorem fdI_get {xs : List (Int × Str)} {n : Int} (h : ¬ fdI xs n < 0) : ∃ x, xs[(fdI xs n).toNat]? = some x ∧ x.1 = n :=
  fdGo_get xs n 0 _ (by omega) (by show fdI xs n = _; omega)
theorem fdI_lt (xs : List (Int × Str)) (n : Int) : fdI xs n < 0 ↔ ∀ r ∈ xs, r.1 ≠ n := fdGo_lt xs n 0 (by omega)
/-- Rising by number. -/
abbrev Up (xs : List (Int × Str)) : Prop := xs.Pairwise fun x y => x.1 < y.1
theorem riseB_up : ∀ (xs : List (Int × Str)) (p : Option Int), riseB p xs = true → Up xs
  | [], _, _ => List.Pairwise.nil
  | x :: xs, p, h => by
    simp only [riseB, Bool.and_eq_true] at h
    exact List.Pairwise.cons (rise_gt xs _ h.2) (riseB_up xs _ h.2)
theorem areB_up {xs : List (Int × Str)} (h : areB xs = true) : Up xs := by
  unfold areB at h; simp only [Bool.and_eq_true] at h; exact riseB_up _ _ h.2
theorem up_ext : ∀ (a b : List (Int × Str)), Up a → Up b → (∀ z, z ∈ a ↔ z ∈ b) → a = b
  | [], [], _, _, _ => rfl
  | [], y :: ys, _, _, h => by have := (h y).2 (by simp); simp at this
  | x :: xs, [], _, _, h => by have := (h x).1 (by simp); simp at this
  | x :: xs, y :: ys, ha, hb, h => by
    rw [Up, List.pairwise_cons] at ha hb
    have e : x = y := by
      rcases List.mem_cons.1 ((h x).1 (by simp)) with e | hx
      · exact e
      · rcases List.mem_cons.1 ((h y).2 (by simp)) with e | hy
        · exact e.symm
        · have := ha.1 y hy; have := hb.1 x hx; omega
    subst e
    rw [up_ext xs ys ha.2 hb.2 fun z => ?_]
    constructor
    · intro hz
      rcases List.mem_cons.1 ((h z).1 (by simp [hz])) with e | hz2
      · subst e; have := ha.1 z hz; omega
      · exact hz2
    · intro hz
      rcases List.mem_cons.1 ((h z).2 (by simp [hz])) with e | hz2
      · subst e; have := hb.1 z hz; omega
      · exact hz2
theorem putS_mem : ∀ (xs : List (Int × Str)) (r z : Int × Str), (∀ x ∈ xs, x.1 ≠ r.1) → (z ∈ putS xs r ↔ z = r ∨ z ∈ xs)
  | [], r, z, _ => by simp [putS]
  | x :: xs, r, z, h => by
    have hx := h x (by simp)
    rw [putS]; split
    · rw [List.mem_cons, putS_mem xs r z (fun y hy => h y (by simp [hy])), List.mem_cons]
      constructor
      · rintro (e | e | e) <;> simp [e]
      · rintro (e | e | e) <;> simp [e]
    · try rw [if_neg hx]
      simp
theorem putS_up : ∀ (xs : List (Int × Str)) (r : Int × Str), (∀ x ∈ xs, x.1 ≠ r.1) → Up xs → Up (putS xs r)
  | [], r, _, _ => by simp [putS, Up]
  | x :: xs, r, h, hu => by
    have hx := h x (by simp)
    rw [Up, List.pairwise_cons] at hu
    rw [putS]; split
    · refine List.Pairwise.cons (fun z hz => ?_) (putS_up xs r (fun y hy => h y (by simp [hy])) hu.2)
      rcases (putS_mem xs r z (fun y hy => h y (by simp [hy]))).1 hz with e | e
      · subst e; assumption
      · exact hu.1 z e
    · try rw [if_neg hx]
      refine List.Pairwise.cons (fun z hz => ?_) (List.Pairwise.cons hu.1 hu.2)
      rcases List.mem_cons.1 hz with e | e
      · subst e; omega
      · have := hu.1 z e; omega
theorem spGo_out (la : List (Int × Str)) : ∀ (ys out : List (Int × Str)) (bad : List Int), Up ys → Up out → (∀ x ∈ out, x ∈ la ∨ ∀ y ∈ ys, x.1 < y.1) →
    Up (spGo la ys out bad).1 ∧ ∀ z, z ∈ (spGo la ys out bad).1 ↔ z ∈ out ∨ (z ∈ ys ∧ ∀ x ∈ la, x.1 ≠ z.1)
  | [], out, bad, _, hu, _ => by simp [spGo]; exact hu
  | y :: ys, out, bad, hy, hu, h => by
    rw [Up, List.pairwise_cons] at hy
    rw [spGo]; split
    · rename_i hf
      have hne := (fdI_lt la y.1).1 hf
      have hne2 : ∀ x ∈ out, x.1 ≠ y.1 := by
        intro x hx
        rcases h x hx with h1 | h1
        · exact hne x h1
        · have := h1 y (by simp); omega
      obtain ⟨h1, h2⟩ := spGo_out la ys (putS out y) bad hy.2 (putS_up out y hne2 hu) (by
        intro x hx
        rcases (putS_mem out y x hne2).1 hx with e | e
        · subst e; exact .inr hy.1
        · rcases h x e with h3 | h3
          · exact .inl h3
          · exact .inr fun z hz => h3 z (by simp [hz]))
      refine ⟨h1, fun z => ?_⟩
      rw [h2, putS_mem out y z hne2, List.mem_cons]
      constructor
      · rintro ((e | e) | e)
        · subst e; exact .inr ⟨.inl rfl, hne⟩
        · exact .inl e
        · exact .inr ⟨.inr e.1, e.2⟩
      · rintro (e | ⟨e | e, e2⟩)
        · exact .inl (.inr e)
        · exact .inl (.inl e)
        · exact .inr ⟨e, e2⟩
    · rename_i hf
      obtain ⟨x, hx, hxe⟩ := fdI_get hf
      obtain ⟨h1, h2⟩ := spGo_out la ys out _ hy.2 hu (fun z hz => (h z hz).imp id fun h3 w hw => h3 w (by simp [hw]))
      refine ⟨h1, fun z => ?_⟩
      rw [h2, List.mem_cons]
      constructor
      · rintro (e | e)
        · exact .inl e
        · exact .inr ⟨.inr e.1, e.2⟩
      · rintro (e | ⟨e | e, e2⟩)
        · exact .inl e
        · subst e; exact absurd hxe (e2 x (List.mem_of_getElem? hx))
        · exact .inr ⟨e, e2⟩
theorem mrg_out : ∀ (n : Nat) (a b : List (Int × Str)), a.length + b.length ≤ n → Up a → Up b → Up (mrgL a b) ∧ ∀ z, z ∈ mrgL a b ↔ z ∈ a ∨ (z ∈ b ∧ ∀ x ∈ a, x.1 ≠ z.1)
  | _, [], b, _, _, hb => by rw [mrgL_nil]; exact ⟨hb, fun z => by simp⟩
  | _, x :: xs, [], _, ha, _ => by rw [mrgL_nil']; exact ⟨ha, fun z => by simp⟩
  | 0, x :: xs, y :: ys, h, _, _ => by simp at h
  | n + 1, x :: xs, y :: ys, h, ha, hb => by
    simp only [List.length_cons] at h
    have ha' := List.pairwise_cons.1 ha
    have hb' := List.pairwise_cons.1 hb
    rw [mrgL]
    split
    · obtain ⟨h1, h2⟩ := mrg_out n xs (y :: ys) (by simp; omega) ha'.2 hb
      refine ⟨List.Pairwise.cons (fun z hz => ?_) h1, fun z => ?_⟩
      · rcases (h2 z).1 hz with e | ⟨e, _⟩
        · exact ha'.1 z e
        · rcases List.mem_cons.1 e with e | e
          · subst e; assumption
          · have := hb'.1 z e; omega
      · rw [List.mem_cons, h2, List.mem_cons (a := z) (b := x)]
        constructor
        · rintro (e | e | ⟨e, e2⟩)
          · exact .inl (.inl e)
          · exact .inl (.inr e)
          · refine .inr ⟨e, fun w hw => ?_⟩
            rcases List.mem_cons.1 hw with e3 | e3
            · subst e3
              rcases List.mem_cons.1 e with e4 | e4
              · subst e4; omega
              · have := hb'.1 z e4; omega
            · exact e2 w e3
        · rintro ((e | e) | ⟨e, e2⟩)
          · exact .inl e
          · exact .inr (.inl e)
          · exact .inr (.inr ⟨e, fun w hw => e2 w (by simp [hw])⟩)
    · split
      · obtain ⟨h1, h2⟩ := mrg_out n (x :: xs) ys (by simp; omega) ha hb'.2
        refine ⟨List.Pairwise.cons (fun z hz => ?_) h1, fun z => ?_⟩
        · rcases (h2 z).1 hz with e | ⟨e, _⟩
          · rcases List.mem_cons.1 e with e | e
            · subst e; assumption
            · have := ha'.1 z e; omega
          · exact hb'.1 z e
        · rw [List.mem_cons, h2, List.mem_cons (a := z) (b := y)]
          constructor
          · rintro (e | e | ⟨e, e2⟩)
            · refine .inr ⟨.inl e, fun w hw => ?_⟩
              subst e
              rcases List.mem_cons.1 hw with e3 | e3
              · subst e3; omega
              · have := ha'.1 w e3; omega
            · exact .inl e
            · exact .inr ⟨.inr e, e2⟩
          · rintro (e | ⟨e | e, e2⟩)
            · exact .inr (.inl e)
            · exact .inl e
            · exact .inr (.inr ⟨e, e2⟩)
      · obtain ⟨h1, h2⟩ := mrg_out n xs ys (by omega) ha'.2 hb'.2
        have exy : x.1 = y.1 := by omega
        refine ⟨List.Pairwise.cons (fun z hz => ?_) h1, fun z => ?_⟩
        · rcases (h2 z).1 hz with e | ⟨e, _⟩
          · exact ha'.1 z e
          · have := hb'.1 z e; omega
        · rw [List.mem_cons, h2, List.mem_cons (a := z) (b := x), List.mem_cons (a := z) (b := y)]
          constructor
          · rintro (e | e | ⟨e, e2⟩)
            · exact .inl (.inl e)
            · exact .inl (.inr e)
            · refine .inr ⟨.inr e, fun w hw => ?_⟩
              rcases List.mem_cons.1 hw with e3 | e3
              · subst e3; have := hb'.1 z e; omega
              · exact e2 w e3
          · rintro ((e | e) | ⟨e | e, e2⟩)
            · exact .inl e
            · exact .inr (.inl e)
            · subst e; exact absurd exy (e2 x (by simp))
            · exact .inr (.inr ⟨e, fun w hw => e2 w (by simp [hw])⟩)
/-- Does a record of the first copy differ from this one in its text alone? -/
def difB (la : List (Int × Str)) (y : Int × Str) : Bool := la.any fun x => decide (x.1 = y.1) && !decide (x.2 = y.2)
theorem spT_dif {la : List (Int × Str)} {y : Int × Str} (hu : Up la) (h : ¬ fdI la y.1 < 0) : difB la y = !spT la y := by
  obtain ⟨x, hx, e⟩ := fdI_get h
  rw [spT_eq hx, Bool.eq_iff_iff]
  unfold difB
  rw [List.any_eq_true]
  constructor
  · rintro ⟨z, hz, h2⟩
    simp only [Bool.and_eq_true, decide_eq_true_eq, Bool.not_eq_true', decide_eq_false_iff_not] at h2
    have : z = x := by
      obtain ⟨j, hj⟩ := List.getElem?_of_mem hz
      obtain ⟨jl, rfl⟩ := List.getElem?_eq_some_iff.1 hj
      obtain ⟨kl, rfl⟩ := List.getElem?_eq_some_iff.1 hx
      rcases Nat.lt_trichotomy j (fdI la y.1).toNat with q | q | q
      · have := List.pairwise_iff_getElem.1 hu _ _ jl kl q; omega
      · subst q; rfl
      · have := List.pairwise_iff_getElem.1 hu _ _ kl jl q; omega
    subst this; simp [h2.2]
  · intro h2; simp at h2; exact ⟨x, List.mem_of_getElem? hx, by simp [e, h2]⟩
theorem dif_none {la : List (Int × Str)} {y : Int × Str} (h : ∀ x ∈ la, x.1 ≠ y.1) : difB la y = false := by
  unfold difB; rw [Bool.eq_false_iff]; intro q
  obtain ⟨z, hz, h2⟩ := List.any_eq_true.1 q
  simp at h2; exact h z hz h2.1
theorem spGo_bad (la : List (Int × Str)) (hu : Up la) : ∀ (ys out : List (Int × Str)) (bad : List Int), (spGo la ys out bad).2 = bad ++ (ys.filter (difB la)).map (·.1)
  | [], out, bad => by simp [spGo]
  | y :: ys, out, bad => by
    rw [spGo]; split
    · rename_i hf
      rw [spGo_bad la hu ys, List.filter_cons, dif_none ((fdI_lt la y.1).1 hf)]; simp
    · rename_i hf
      rw [spGo_bad la hu ys, List.filter_cons, spT_dif hu hf]
      cases spT la y <;> simp
theorem mrg_bad : ∀ (n : Nat) (a b : List (Int × Str)), a.length + b.length ≤ n → Up a → Up b → mrgD a b = (b.filter (difB a)).map (·.1)
  | _, [], b, _, _, _ => by rw [mrgD_nil, List.filter_eq_nil_iff.2]; · rfl
                            · intro y _; simp [difB]
  | _, x :: xs, [], _, _, _ => by rw [mrgD_nil']; rfl
  | 0, x :: xs, y :: ys, h, _, _ => by simp at h
  | n + 1, x :: xs, y :: ys, h, ha, hb => by
    simp only [List.length_cons] at h
    have ha' := List.pairwise_cons.1 ha
    have hb' := List.pairwise_cons.1 hb
    have hdrop : ∀ zs : List (Int × Str), (∀ z ∈ zs, x.1 ≠ z.1) → zs.filter (difB (x :: xs)) = zs.filter (difB xs) := by
      intro zs hz
      refine List.filter_congr fun z hzm => ?_
      unfold difB; rw [List.any_cons, decide_eq_false (hz z hzm)]; simp
    rw [mrgD]
    split
    · rw [mrg_bad n xs (y :: ys) (by simp; omega) ha'.2 hb, hdrop]
      intro z hz
      rcases List.mem_cons.1 hz with e | e
      · subst e; omega
      · have := hb'.1 z e; omega
    · split
      · rw [mrg_bad n (x :: xs) ys (by simp; omega) ha hb'.2, List.filter_cons, dif_none]
        · simp
        · intro z hz
          rcases List.mem_cons.1 hz with e | e
          · subst e; omega
          · have := ha'.1 z e; omega
      · have exy : x.1 = y.1 := by omega
        have hd : difB (x :: xs) y = !decide (x.2 = y.2) := by
          have h0 : difB xs y = false := dif_none fun z hz => by have := ha'.1 z hz; omega
          unfold difB at h0 ⊢
          rw [List.any_cons, h0, decide_eq_true exy]; simp
        rw [mrg_bad n xs ys (by omega) ha'.2 hb'.2, List.filter_cons, hd, hdrop ys fun z hz => by have := hb'.1 z hz; omega]
        by_cases e2 : x.2 = y.2 <;> simp [e2, exy]
theorem spGo_mrg {a b : List (Int × Str)} (ha : areB a = true) (hb : areB b = true) : spGo a b a [] = (mrgL a b, mrgD a b) := by
  have ua := areB_up ha
  have ub := areB_up hb
  obtain ⟨h1, h2⟩ := spGo_out a b a [] ub ua (fun x hx => .inl hx)
  obtain ⟨h3, h4⟩ := mrg_out _ a b (Nat.le_refl _) ua ub
  apply Prod.ext
  · exact up_ext _ _ h1 h3 fun z => by rw [h2, h4]
  · show (spGo a b a []).2 = mrgD a b
    rw [spGo_bad a ua, mrg_bad _ a b (Nat.le_refl _) ua ub]; rfl
noncomputable def mgL (s t : Str) : List (Int × Str) := if 30 < (mrgL (salS s).1 (salS t).1).length then [] else mrgL (salS s).1 (salS t).1
noncomputable def mgD (s t : Str) : List Int := if 30 < (mrgL (salS s).1 (salS t).1).length then [] else mrgD (salS s).1 (salS t).1
noncomputable def mgE (s t : Str) : Int := if 30 < (mrgL (salS s).1 (salS t).1).length then 3 else 0
theorem mgL_len (s t : Str) : (mgL s t).length ≤ 30 := by unfold mgL; split <;> first | omega | simp
theorem mrgD_len : ∀ (n : Nat) (a b : List (Int × Str)), a.length + b.length ≤ n → (mrgD a b).length ≤ (mrgL a b).length
  | _, [], b, _ => by rw [mrgD_nil]; simp
  | _, x :: xs, [], _ => by rw [mrgD_nil']; simp
  | 0, x :: xs, y :: ys, h => by simp at h
  | n + 1, x :: xs, y :: ys, h => by
    simp only [List.length_cons] at h
    rw [mrgD, mrgL]; split
    · have := mrgD_len n xs (y :: ys) (by simp; omega); simp only [List.length_cons]; omega
    · split
      · have := mrgD_len n (x :: xs) ys (by simp; omega); simp only [List.length_cons]; omega
      · have := mrgD_len n xs ys (by omega)
        rw [List.length_append]
        split <;> simp only [List.length_cons, List.length_nil] <;> omega
theorem mgD_len (s t : Str) : (mgD s t).length ≤ 30 := by
  have := mrgD_len _ (salS s).1 (salS t).1 (Nat.le_refl _)
  unfold mgD; split <;> first | omega | simp

theorem c_impl_MergeCopies (w0 : World) (s : Str) (t : Str) (g0 : s.length ≤ 1048576) (g1 : t.length ≤ 1048576) :
  Calls Try.prog 38 #[St s, St t] w0 (Ret w0 (fun v w1 => ∃ r0 r1, v = .tuple #[r0, r1, .int .i64 (mgE s t)] ∧ Own shRec 36 w0.heap.size w0.heap.size w1.heap.size w1 r0 (mgL s t) ∧ Own shI64 2 w0.heap.size w0.heap.size w1.heap.size w1 r1 (mgD s t))) := by
 refine enter (N := 117) Try.func38 rfl rfl rfl ?_
 intro a0 ha0
 have hx0 := Ext.rfl' w0
 have hsl := areB_len (salS_are s)
 have htl := areB_len (salS_are t)
 refine wp_seq ?_
 refine wp_region_lit ?_
 refine wl_val ha0 rfl rfl rfl (op_assign ha0 rfl rfl) ?_
 intro a1 ha1; clear ha0 a0
 refine wl_val ha1 rfl rfl rfl (op_assign ha1 rfl rfl) ?_
 intro a2 ha2; clear ha1 a1
 refine wl_val ha2 rfl rfl rfl (op_assign ha2 rfl rfl) ?_
 intro a3 ha3; clear ha2 a2
 refine wpList_nil ?_
 refine then_n ?_
 refine wp_seq ?_
 refine wp_region_lit ?_
 refine wl_val ha3 rfl rfl rfl (op_move ha3 rfl rfl) ?_
 intro a4 ha4; clear ha3 a3
 refine wl_callR ha4 rfl rfl rfl (op_call ha4 rfl cb56 rfl) (c_impl_salvage _ s (by first | assumption | omega | (simp; omega) | (simp [mkN_length]; omega))) ?_
 rintro v5 w6 he7 ⟨v8, rfl, ho9⟩ a10 ha10; clear ha4 a4
 have hx11 := hx0.trans' he7
 have hzhx11 := he7.size
 refine wl_val ha10 rfl rfl rfl (op_move ha10 rfl rfl) ?_
 intro a12 ha12; clear ha10 a10
 refine wl_val ha12 rfl rfl rfl (op_extract ha12 rfl rfl rfl) ?_
 intro a13 ha13; clear ha12 a12
 refine wl_val ha13 rfl rfl rfl (op_extract ha13 rfl rfl rfl) ?_
 intro a14 ha14; clear ha13 a13
 refine wl_val ha14 rfl rfl rfl (op_extract ha14 rfl rfl rfl) ?_
 intro a15 ha15; clear ha14 a14
 refine wl_val ha15 rfl rfl rfl (op_assign ha15 rfl rfl) ?_
 intro a16 ha16; clear ha15 a15
 refine wl_val ha16 rfl rfl rfl (op_assign ha16 rfl rfl) ?_
 intro a17 ha17; clear ha16 a16
 refine wl_val ha17 rfl rfl rfl (op_assign ha17 rfl rfl) ?_
 intro a18 ha18; clear ha17 a17
 refine wpList_nil ?_
 refine then_n ?_
 refine wp_seq ?_
 refine wp_region_lit ?_
 refine wl_val ha18 rfl rfl rfl (op_move ha18 rfl rfl) ?_
 intro a19 ha19; clear ha18 a18
 refine wl_callR ha19 rfl rfl rfl (op_call ha19 rfl cb56 rfl) (c_impl_salvage _ t (by first | assumption | omega | (simp; omega) | (simp [mkN_length]; omega))) ?_
 rintro v20 w21 he22 ⟨v23, rfl, ho24⟩ a25 ha25; clear ha19 a19
 have hx26 := hx11.trans' he22
 have hzhx26 := he22.size
 replace ho9 := ho9.ext he22
 refine wl_val ha25 rfl rfl rfl (op_move ha25 rfl rfl) ?_
 intro a27 ha27; clear ha25 a25
 refine wl_val ha27 rfl rfl rfl (op_extract ha27 rfl rfl rfl) ?_
 intro a28 ha28; clear ha27 a27
 refine wl_val ha28 rfl rfl rfl (op_extract ha28 rfl rfl rfl) ?_
 intro a29 ha29; clear ha28 a28
 refine wl_val ha29 rfl rfl rfl (op_extract ha29 rfl rfl rfl) ?_
 intro a30 ha30; clear ha29 a29
 refine wl_val ha30 rfl rfl rfl (op_assign ha30 rfl rfl) ?_
 intro a31 ha31; clear ha30 a30
 refine wl_val ha31 rfl rfl rfl (op_assign ha31 rfl rfl) ?_
 intro a32 ha32; clear ha31 a31
 refine wl_val ha32 rfl rfl rfl (op_assign ha32 rfl rfl) ?_
 intro a33 ha33; clear ha32 a32
 refine wpList_nil ?_
 refine then_n ?_
 refine wp_seq ?_
 refine wp_region_lit ?_
 refine wl_val ha33 rfl rfl rfl (op_assign ha33 rfl rfl) ?_
 intro a34 ha34; clear ha33 a33
 refine wpList_nil ?_
 refine then_n ?_
 refine wp_seq ?_
 refine wp_region_lit ?_
 refine wl_val ha34 rfl rfl rfl (op_assign ha34 rfl rfl) ?_
 intro a35 ha35; clear ha34 a34
 refine wpList_nil ?_
 refine then_n ?_
 refine wp_seq ?_
 refine wp_block ?_
 refine loop_inv (X := (List (Int × Str)) × (List (Int × Str)) × Value × Value × Value × (List (Int × Str)) × Value × (List Int)) (fun (⟨la, lb, va, vb, v, acc, v2, dac⟩ : (List (Int × Str)) × (List (Int × Str)) × Value × Value × Value × (List (Int × Str)) × Value × (List Int)) fr wl => Sl 117 fr [(7, va), (10, vb), (13, v), (14, v2)] ∧ Ext w0 wl ∧ Rds shRec ((Iv (min w0.heap.size w0.heap.size) w6.heap.size)) wl va la ∧ Rds shRec ((Iv (min w6.heap.size w6.heap.size) w21.heap.size)) wl vb lb ∧ Own shRec 36 w21.heap.size w21.heap.size wl.heap.size wl v acc ∧ Own shI64 2 w21.heap.size w21.heap.size wl.heap.size wl v2 dac ∧ w21.heap.size ≤ wl.heap.size ∧ (acc.length + la.length + lb.length ≤ 60) ∧ (dac.length ≤ acc.length) ∧ (acc ++ mrgL la lb = mrgL (salS s).1 (salS t).1) ∧ (dac ++ mrgD la lb = mrgD (salS s).1 (salS t).1)) (fun (⟨la, lb, va, vb, v, acc, v2, dac⟩ : (List (Int × Str)) × (List (Int × Str)) × Value × Value × Value × (List (Int × Str)) × Value × (List Int)) => la.length + lb.length) (((salS s).1), ((salS t).1), v8, v23, (.slice none 0 0), [], (.slice none 0 0), []) ?_ ?_
 ·
  exact ⟨(Sl.cons_ ha35 rfl rfl (Sl.cons_ ha35 rfl rfl (Sl.cons_ ha35 rfl rfl (Sl.cons_ ha35 rfl rfl (Sl.nil_ ha35))))), hx26, (ho9.rds pos_shRec), (ho24.rds pos_shRec), (Own.nil _ _ _ _ _ _), (Own.nil _ _ _ _ _ _), (by omega), (by simp; omega), (by simp), (by rfl), (by rfl)⟩
 ·
  clear ha35 a35
  rintro ⟨la, lb, va, vb, v, acc, v2, dac⟩ a42 w36 ⟨ha42, hx37, hf38, hf39, hf40, hf41, hzl43, hl, hd, hF, hG⟩
  have hzhx37 := hx37.size
  refine wp_seq ?_
  refine wp_seq ?_
  refine wp_region_lit ?_
  refine wl_val ha42 rfl rfl rfl (op_move ha42 rfl rfl) ?_
  intro a44 ha44; clear ha42 a42
  refine wl_val ha44 rfl rfl rfl (op_len_sl ha44 rfl Try.underlying25 rfl hf38) ?_
  intro a45 ha45; clear ha44 a44
  refine wl_val ha45 rfl rfl rfl (op_gtr ha45 rfl rfl rfl) ?_
  intro a46 ha46; clear ha45 a45
  refine wl_val ha46 rfl rfl rfl (op_move ha46 rfl rfl) ?_
  intro a47 ha47; clear ha46 a46
  by_cases c48 : (0 : Int) < ((la.length : Nat) : Int)
  ·
   rw [decide_eq_true c48] at ha47
   refine wl_skip ha47 rfl rfl rfl ?_
   intro a49 ha49; clear ha47 a47
   refine wl_skip ha49 rfl rfl rfl ?_
   intro a50 ha50; clear ha49 a49
   refine wl_skip ha50 rfl rfl rfl ?_
   intro a51 ha51; clear ha50 a50
   refine wl_val ha51 rfl rfl rfl (op_pick_t ha51 rfl rfl rfl) ?_
   intro a52 ha52; clear ha51 a51
   refine wpList_nil ?_
   refine then_n ?_
   refine cond_t ha52 rfl ?_
   refine wp_skip ?_
   refine then_n ?_
   refine wp_block ?_
   refine wp_block ?_
   refine wp_seq ?_
   refine dr_enter Ext follows_mixed ?_
   intro w53 he54
   have hx55 := hx37.trans' he54
   have hzhx55 := he54.size
   replace hf38 := hf38.ext pos_shRec he54
   replace hf39 := hf39.ext pos_shRec he54
   replace hf40 := hf40.ext he54
   replace hf41 := hf41.ext he54
   have hs56 : Ext w53 w53 := Ext.rfl' _
   refine dr_val (i := 0) ha52 rfl (by kernel_rfl) (by kernel_rfl) (by kernel_rfl) rfl rfl rfl hs56 (fun w' hw' => op_move ha52 rfl rfl) ?_
   intro a57 ha57; clear ha52 a52
   refine dr_val (i := 1) ha57 rfl (by kernel_rfl) (by kernel_rfl) (by kernel_rfl) rfl rfl rfl hs56 (fun w' hw' => op_len_sl ha57 rfl Try.underlying25 rfl hf39) ?_
   intro a58 ha58; clear ha57 a57
   refine dr_val (i := 2) ha58 rfl (by kernel_rfl) (by kernel_rfl) (by kernel_rfl) rfl rfl rfl hs56 (fun w' hw' => op_eql ha58 rfl rfl rfl) ?_
   intro a59 ha59; clear ha58 a58
   refine dr_val (i := 3) ha59 rfl (by kernel_rfl) (by kernel_rfl) (by kernel_rfl) rfl rfl rfl hs56 (fun w' hw' => op_move ha59 rfl rfl) ?_
   intro a60 ha60; clear ha59 a59
   by_cases c61 : ((lb.length : Nat) : Int) = (0 : Int)
   ·
    rw [decide_eq_true c61] at ha60
    refine dr_skip (i := 4) ha60 rfl (by kernel_rfl) (by kernel_rfl) (by kernel_rfl) rfl rfl rfl hs56 ?_
    intro a62 ha62; clear ha60 a60
    refine dr_skip (i := 5) ha62 rfl (by kernel_rfl) (by kernel_rfl) (by kernel_rfl) rfl rfl rfl hs56 ?_
    intro a63 ha63; clear ha62 a62
    refine dr_skip (i := 6) ha63 rfl (by kernel_rfl) (by kernel_rfl) (by kernel_rfl) rfl rfl rfl hs56 ?_
    intro a64 ha64; clear ha63 a63
    refine dr_skip (i := 7) ha64 rfl (by kernel_rfl) (by kernel_rfl) (by kernel_rfl) rfl rfl rfl hs56 ?_
    intro a65 ha65; clear ha64 a64
    refine dr_skip (i := 8) ha65 rfl (by kernel_rfl) (by kernel_rfl) (by kernel_rfl) rfl rfl rfl hs56 ?_
    intro a66 ha66; clear ha65 a65
    refine dr_skip (i := 9) ha66 rfl (by kernel_rfl) (by kernel_rfl) (by kernel_rfl) rfl rfl rfl hs56 ?_
    intro a67 ha67; clear ha66 a66
    refine dr_skip (i := 10) ha67 rfl (by kernel_rfl) (by kernel_rfl) (by kernel_rfl) rfl rfl rfl hs56 ?_
    intro a68 ha68; clear ha67 a67
    refine dr_skip (i := 11) ha68 rfl (by kernel_rfl) (by kernel_rfl) (by kernel_rfl) rfl rfl rfl hs56 ?_
    intro a69 ha69; clear ha68 a68
    refine dr_skip (i := 12) ha69 rfl (by kernel_rfl) (by kernel_rfl) (by kernel_rfl) rfl rfl rfl hs56 ?_
    intro a70 ha70; clear ha69 a69
    refine dr_skip (i := 13) ha70 rfl (by kernel_rfl) (by kernel_rfl) (by kernel_rfl) rfl rfl rfl hs56 ?_
    intro a71 ha71; clear ha70 a70
    refine dr_skip (i := 14) ha71 rfl (by kernel_rfl) (by kernel_rfl) (by kernel_rfl) rfl rfl rfl hs56 ?_
    intro a72 ha72; clear ha71 a71
    refine dr_skip (i := 15) ha72 rfl (by kernel_rfl) (by kernel_rfl) (by kernel_rfl) rfl rfl rfl hs56 ?_
    intro a73 ha73; clear ha72 a72
    refine dr_skip (i := 16) ha73 rfl (by kernel_rfl) (by kernel_rfl) (by kernel_rfl) rfl rfl rfl hs56 ?_
    intro a74 ha74; clear ha73 a73
    refine dr_skip (i := 17) ha74 rfl (by kernel_rfl) (by kernel_rfl) (by kernel_rfl) rfl rfl rfl hs56 ?_
    intro a75 ha75; clear ha74 a74
    refine dr_val (i := 18) ha75 rfl (by kernel_rfl) (by kernel_rfl) (by kernel_rfl) rfl rfl rfl hs56 (fun w' hw' => op_pick_t ha75 rfl rfl rfl) ?_
    intro a76 ha76; clear ha75 a75
    refine dr_val (i := 19) ha76 rfl (by kernel_rfl) (by kernel_rfl) (by kernel_rfl) rfl rfl rfl hs56 (fun w' hw' => op_assign ha76 rfl rfl) ?_
    intro a77 ha77; clear ha76 a76
    refine dr_end (by kernel_rfl) ?_
    replace hf38 := hf38.ext pos_shRec hs56
    replace hf39 := hf39.ext pos_shRec hs56
    replace hf40 := hf40.ext hs56
    replace hf41 := hf41.ext hs56
    refine then_n ?_
    refine cond_t ha77 rfl ?_
    refine wp_seq ?_
    refine wp_region_lit ?_
    refine wl_val ha77 rfl rfl rfl (op_move ha77 rfl rfl) ?_
    intro a78 ha78; clear ha77 a77
    refine wl_val ha78 rfl rfl rfl (op_move ha78 rfl rfl) ?_
    intro a79 ha79; clear ha78 a78
    obtain ⟨x80, hx80⟩ := get_ex (xs := la) (j := 0) (by omega)
    obtain ⟨p81, c82, hi83, hc84, hr85, hs86⟩ := Rds.at_ hf38 hx80
    obtain ⟨rfl, b87, b88⟩ := inv_shRec hr85
    obtain ⟨_, _⟩ : _ ∧ _ := hs86
    refine wl_val ha79 rfl rfl rfl (op_indexAddr ha79 rfl Try.underlying25 ti36 rfl rfl (by omega) hi83) ?_
    intro a89 ha89; clear ha79 a79
    refine wl_val ha89 rfl rfl rfl (op_loadS ha89 rfl Try.underlying36 ti36 rfl rfl hc84) ?_
    intro a90 ha90; clear ha89 a89
    refine wl_eff ha90 rfl rfl rfl (op_buildSlice (s := shRec) (xs := [x80]) (cs := [.int .i64 x80.1, St x80.2]) (vs := [(0, .agg #[.int .i64 x80.1, St x80.2])]) (S := fun _ => False) (le := w53.heap.size) ha90 rfl pos_shRec Try.underlying25 ti36 rfl rfl (by decide) (by kernel_rfl) (Els.single (mk_shRec x80 (by first | assumption | omega | (simp; omega)) (by first | assumption | omega | (simp; omega)))) (fun _ h => h.elim)) ?_
    rintro v91 w92 ⟨ho93, he94, hob95⟩ a96 ha96; clear ha90 a90
    have hx97 := hx55.trans' he94
    have hzhx97 := he94.size
    replace hf38 := hf38.ext pos_shRec he94
    replace hf39 := hf39.ext pos_shRec he94
    replace hf40 := hf40.ext he94
    replace hf41 := hf41.ext he94
    replace hc84 := hc84.ext he94
    refine wl_eff ha96 rfl rfl rfl (op_append (ts := #[]) (s := shRec) ha96 rfl Try.underlying25 ti36 rfl pos_shRec rfl rfl hf40 (ho93.rds pos_shRec) (by omega) (by omega) (by first | omega | (simp; omega)) (by first | omega | (simp; omega)) (.inl flat_shRec)) ?_
    rintro v98 w99 ⟨ho100, hst101, hob102⟩ a103 ha103; clear ha96 a96
    have hx104 := hx97.stp hst101 (by intro q hq; have hq0 := hf40.lt q hq; omega)
    have hzhx104 := hst101.size
    replace hf38 := hf38.stp pos_shRec hst101 (by intro q hq; have hq0 := hf40.lt q hq; exact not_iv (by omega))
    replace hf39 := hf39.stp pos_shRec hst101 (by intro q hq; have hq0 := hf40.lt q hq; exact not_iv (by omega))
    first | replace hf41 := hf41.stp hst101 (by intro q hq; have hq0 := hf40.lt q hq; omega) | replace hf41 := hf41.stpF flat_shI64 hst101 (hf41.ne hf40 rfl)
    replace hc84 := hc84.stp hst101 (by intro q hq; have hq0 := hf40.lt q hq; omega)
    replace ho93 := ho93.stp hst101 (by intro q hq; have hq0 := hf40.lt q hq; omega)
    have hsp105 : ∀ q, Value.ownBlock v98 = some q → Value.ownBlock v91 ≠ some q := by intro q hq hb; have hq0 := ho93.lt q hb; rcases hob102 with h | h; (rw [h] at hq; first | (have hq1 := hf40.lt q hq; omega)); (rw [h] at hq; cases hq; omega)
    refine wl_val ha103 rfl rfl rfl (op_assign ha103 rfl rfl) ?_
    intro a106 ha106; clear ha103 a103
    refine wpList_nil ?_
    refine then_n ?_
    refine wp_region_lit ?_
    refine wl_val ha106 rfl rfl rfl (op_move ha106 rfl rfl) ?_
    intro a107 ha107; clear ha106 a106
    obtain ⟨u108, hu109, hr110⟩ := Rds.part hf38 Try.underlying25 ti36 (some (.int .i64 (1 : Nat))) none 1 la.length (.inr ⟨.i64, rfl⟩) (.inl ⟨rfl, rfl⟩) (by omega) (by omega)
    replace hr110 := hr110.cast (ys := la.drop 1) (by first | rw [List.take_length] | simp)
    refine wl_val ha107 rfl rfl rfl (op_slice_f (by omega) ha107 rfl rfl rfl hu109) ?_
    intro a111 ha111; clear ha107 a107
    refine wl_val ha111 rfl rfl rfl (op_assign ha111 rfl rfl) ?_
    intro a112 ha112; clear ha111 a111
    refine wpList_nil ?_
    refine block_n ?_
    refine block_n ?_
    refine round_end (x := (la, lb, va, vb, v, acc, v2, dac)) (la.drop 1, lb, u108, vb, v98, (acc ++ [x80]), v2, dac) ?_ ?_
    ·
     refine ⟨(Sl.cons_ ha112 rfl rfl (Sl.cons_ ha112 rfl rfl (Sl.cons_ ha112 rfl rfl (Sl.cons_ ha112 rfl rfl (Sl.nil_ ha112))))), hx104, hr110, hf39, (ho100.fin (by omega) (by omega) (by omega)), (hf41.fin (by omega) (by omega) (by omega)), (by omega), (by simp only [List.length_append, List.length_drop, List.length_singleton]; omega), (by simp only [List.length_append, List.length_singleton]; omega), (by rw [(mrg_l hx80 (.inl (nil_len (by omega)))).1] at hF; rw [← hF]; try simp), (by rw [(mrg_l hx80 (.inl (nil_len (by omega)))).2] at hG; rw [← hG]; try simp)⟩
    ·show ((la.drop 1).length + lb.length : Nat) < la.length + lb.length; (simp only [List.length_drop]; omega)
   ·
    rw [decide_eq_false c61] at ha60
    refine dr_val (i := 4) ha60 rfl (by kernel_rfl) (by kernel_rfl) (by kernel_rfl) rfl rfl rfl hs56 (fun w' hw' => op_move ha60 rfl rfl) ?_
    intro a113 ha113; clear ha60 a60
    refine dr_val (i := 5) ha113 rfl (by kernel_rfl) (by kernel_rfl) (by kernel_rfl) rfl rfl rfl hs56 (fun w' hw' => op_len_sl ha113 rfl Try.underlying25 rfl hf38) ?_
    intro a114 ha114; clear ha113 a113
    refine dr_val (i := 6) ha114 rfl (by kernel_rfl) (by kernel_rfl) (by kernel_rfl) rfl rfl rfl hs56 (fun w' hw' => op_gtr ha114 rfl rfl rfl) ?_
    intro a115 ha115; clear ha114 a114
    refine dr_val (i := 7) ha115 rfl (by kernel_rfl) (by kernel_rfl) (by kernel_rfl) rfl rfl rfl hs56 (fun w' hw' => op_move ha115 rfl rfl) ?_
    intro a116 ha116; clear ha115 a115
    rw [decide_eq_true c48] at ha116
    refine dr_val (i := 8) ha116 rfl (by kernel_rfl) (by kernel_rfl) (by kernel_rfl) rfl rfl rfl hs56 (fun w' hw' => op_move ha116 rfl rfl) ?_
    intro a117 ha117; clear ha116 a116
    obtain ⟨x118, hx118⟩ := get_ex (xs := la) (j := 0) (by omega)
    obtain ⟨p119, c120, hi121, hc122, hr123, hs124⟩ := Rds.at_ hf38 hx118
    obtain ⟨rfl, b125, b126⟩ := inv_shRec hr123
    obtain ⟨_, _⟩ : _ ∧ _ := hs124
    refine dr_val (i := 9) ha117 rfl (by kernel_rfl) (by kernel_rfl) (by kernel_rfl) rfl rfl rfl hs56 (fun w' hw' => op_indexAddr ha117 rfl Try.underlying25 ti36 rfl rfl (by omega) hi121) ?_
    intro a127 ha127; clear ha117 a117
    refine dr_val (i := 10) ha127 rfl (by kernel_rfl) (by kernel_rfl) (by kernel_rfl) rfl rfl rfl hs56 (fun w' hw' => op_fieldAddr (sz := 0) ha127 rfl Try.underlying36 rfl rfl ti2 rfl) ?_
    intro a128 ha128; clear ha127 a127
    refine dr_val (i := 11) ha128 rfl (by kernel_rfl) (by kernel_rfl) (by kernel_rfl) rfl rfl rfl hs56 (fun w' hw' => op_loadF (off := 0) ha128 rfl Try.underlying2 rfl rfl (hc122.ext hw') rfl) ?_
    intro a129 ha129; clear ha128 a128
    refine dr_val (i := 12) ha129 rfl (by kernel_rfl) (by kernel_rfl) (by kernel_rfl) rfl rfl rfl hs56 (fun w' hw' => op_move ha129 rfl rfl) ?_
    intro a130 ha130; clear ha129 a129
    obtain ⟨x131, hx131⟩ := get_ex (xs := lb) (j := 0) (by omega)
    obtain ⟨p132, c133, hi134, hc135, hr136, hs137⟩ := Rds.at_ hf39 hx131
    obtain ⟨rfl, b138, b139⟩ := inv_shRec hr136
    obtain ⟨_, _⟩ : _ ∧ _ := hs137
    refine dr_val (i := 13) ha130 rfl (by kernel_rfl) (by kernel_rfl) (by kernel_rfl) rfl rfl rfl hs56 (fun w' hw' => op_indexAddr ha130 rfl Try.underlying25 ti36 rfl rfl (by omega) hi134) ?_
    intro a140 ha140; clear ha130 a130
    refine dr_val (i := 14) ha140 rfl (by kernel_rfl) (by kernel_rfl) (by kernel_rfl) rfl rfl rfl hs56 (fun w' hw' => op_fieldAddr (sz := 0) ha140 rfl Try.underlying36 rfl rfl ti2 rfl) ?_
    intro a141 ha141; clear ha140 a140
    refine dr_val (i := 15) ha141 rfl (by kernel_rfl) (by kernel_rfl) (by kernel_rfl) rfl rfl rfl hs56 (fun w' hw' => op_loadF (off := 0) ha141 rfl Try.underlying2 rfl rfl (hc135.ext hw') rfl) ?_
    intro a142 ha142; clear ha141 a141
    refine dr_val (i := 16) ha142 rfl (by kernel_rfl) (by kernel_rfl) (by kernel_rfl) rfl rfl rfl hs56 (fun w' hw' => op_lss ha142 rfl rfl rfl) ?_
    intro a143 ha143; clear ha142 a142
    refine dr_val (i := 17) ha143 rfl (by kernel_rfl) (by kernel_rfl) (by kernel_rfl) rfl rfl rfl hs56 (fun w' hw' => op_pick_t ha143 rfl rfl rfl) ?_
    intro a144 ha144; clear ha143 a143
    refine dr_val (i := 18) ha144 rfl (by kernel_rfl) (by kernel_rfl) (by kernel_rfl) rfl rfl rfl hs56 (fun w' hw' => op_pick_f ha144 rfl rfl rfl) ?_
    intro a145 ha145; clear ha144 a144
    refine dr_val (i := 19) ha145 rfl (by kernel_rfl) (by kernel_rfl) (by kernel_rfl) rfl rfl rfl hs56 (fun w' hw' => op_assign ha145 rfl rfl) ?_
    intro a146 ha146; clear ha145 a145
    refine dr_end (by kernel_rfl) ?_
    replace hf38 := hf38.ext pos_shRec hs56
    replace hf39 := hf39.ext pos_shRec hs56
    replace hf40 := hf40.ext hs56
    replace hf41 := hf41.ext hs56
    replace hc122 := hc122.ext hs56
    replace hc135 := hc135.ext hs56
    refine then_n ?_
    by_cases c147 : x118.1 < x131.1
    ·
     rw [decide_eq_true c147] at ha146
     refine cond_t ha146 rfl ?_
     refine wp_seq ?_
     refine wp_region_lit ?_
     refine wl_val ha146 rfl rfl rfl (op_move ha146 rfl rfl) ?_
     intro a148 ha148; clear ha146 a146
     refine wl_val ha148 rfl rfl rfl (op_move ha148 rfl rfl) ?_
     intro a149 ha149; clear ha148 a148
     refine wl_val ha149 rfl rfl rfl (op_indexAddr ha149 rfl Try.underlying25 ti36 rfl rfl (by omega) hi121) ?_
     intro a150 ha150; clear ha149 a149
     refine wl_val ha150 rfl rfl rfl (op_loadS ha150 rfl Try.underlying36 ti36 rfl rfl hc122) ?_
     intro a151 ha151; clear ha150 a150
     refine wl_eff ha151 rfl rfl rfl (op_buildSlice (s := shRec) (xs := [x118]) (cs := [.int .i64 x118.1, St x118.2]) (vs := [(0, .agg #[.int .i64 x118.1, St x118.2])]) (S := fun _ => False) (le := w53.heap.size) ha151 rfl pos_shRec Try.underlying25 ti36 rfl rfl (by decide) (by kernel_rfl) (Els.single (mk_shRec x118 (by first | assumption | omega | (simp; omega)) (by first | assumption | omega | (simp; omega)))) (fun _ h => h.elim)) ?_
     rintro v152 w153 ⟨ho154, he155, hob156⟩ a157 ha157; clear ha151 a151
     have hx158 := hx55.trans' he155
     have hzhx158 := he155.size
     replace hf38 := hf38.ext pos_shRec he155
     replace hf39 := hf39.ext pos_shRec he155
     replace hf40 := hf40.ext he155
     replace hf41 := hf41.ext he155
     replace hc122 := hc122.ext he155
     replace hc135 := hc135.ext he155
     refine wl_eff ha157 rfl rfl rfl (op_append (ts := #[]) (s := shRec) ha157 rfl Try.underlying25 ti36 rfl pos_shRec rfl rfl hf40 (ho154.rds pos_shRec) (by omega) (by omega) (by first | omega | (simp; omega)) (by first | omega | (simp; omega)) (.inl flat_shRec)) ?_
     rintro v159 w160 ⟨ho161, hst162, hob163⟩ a164 ha164; clear ha157 a157
     have hx165 := hx158.stp hst162 (by intro q hq; have hq0 := hf40.lt q hq; omega)
     have hzhx165 := hst162.size
     replace hf38 := hf38.stp pos_shRec hst162 (by intro q hq; have hq0 := hf40.lt q hq; exact not_iv (by omega))
     replace hf39 := hf39.stp pos_shRec hst162 (by intro q hq; have hq0 := hf40.lt q hq; exact not_iv (by omega))
     first | replace hf41 := hf41.stp hst162 (by intro q hq; have hq0 := hf40.lt q hq; omega) | replace hf41 := hf41.stpF flat_shI64 hst162 (hf41.ne hf40 rfl)
     replace hc122 := hc122.stp hst162 (by intro q hq; have hq0 := hf40.lt q hq; omega)
     replace hc135 := hc135.stp hst162 (by intro q hq; have hq0 := hf40.lt q hq; omega)
     replace ho154 := ho154.stp hst162 (by intro q hq; have hq0 := hf40.lt q hq; omega)
     have hsp166 : ∀ q, Value.ownBlock v159 = some q → Value.ownBlock v152 ≠ some q := by intro q hq hb; have hq0 := ho154.lt q hb; rcases hob163 with h | h; (rw [h] at hq; first | (have hq1 := hf40.lt q hq; omega)); (rw [h] at hq; cases hq; omega)
     refine wl_val ha164 rfl rfl rfl (op_assign ha164 rfl rfl) ?_
     intro a167 ha167; clear ha164 a164
     refine wpList_nil ?_
     refine then_n ?_
     refine wp_region_lit ?_
     refine wl_val ha167 rfl rfl rfl (op_move ha167 rfl rfl) ?_
     intro a168 ha168; clear ha167 a167
     obtain ⟨u169, hu170, hr171⟩ := Rds.part hf38 Try.underlying25 ti36 (some (.int .i64 (1 : Nat))) none 1 la.length (.inr ⟨.i64, rfl⟩) (.inl ⟨rfl, rfl⟩) (by omega) (by omega)
     replace hr171 := hr171.cast (ys := la.drop 1) (by first | rw [List.take_length] | simp)
     refine wl_val ha168 rfl rfl rfl (op_slice_f (by omega) ha168 rfl rfl rfl hu170) ?_
     intro a172 ha172; clear ha168 a168
     refine wl_val ha172 rfl rfl rfl (op_assign ha172 rfl rfl) ?_
     intro a173 ha173; clear ha172 a172
     refine wpList_nil ?_
     refine block_n ?_
     refine block_n ?_
     refine round_end (x := (la, lb, va, vb, v, acc, v2, dac)) (la.drop 1, lb, u169, vb, v159, (acc ++ [x118]), v2, dac) ?_ ?_
     ·
      refine ⟨(Sl.cons_ ha173 rfl rfl (Sl.cons_ ha173 rfl rfl (Sl.cons_ ha173 rfl rfl (Sl.cons_ ha173 rfl rfl (Sl.nil_ ha173))))), hx165, hr171, hf39, (ho161.fin (by omega) (by omega) (by omega)), (hf41.fin (by omega) (by omega) (by omega)), (by omega), (by simp only [List.length_append, List.length_drop, List.length_singleton]; omega), (by simp only [List.length_append, List.length_singleton]; omega), (by rw [(mrg_l hx118 (.inr ⟨_, hx131, c147⟩)).1] at hF; rw [← hF]; try simp), (by rw [(mrg_l hx118 (.inr ⟨_, hx131, c147⟩)).2] at hG; rw [← hG]; try simp)⟩
     ·show ((la.drop 1).length + lb.length : Nat) < la.length + lb.length; (simp only [List.length_drop]; omega)
    ·
     rw [decide_eq_false c147] at ha146
     refine cond_f ha146 rfl ?_
     refine wp_seq ?_
     refine dr_enter Ext follows_mixed ?_
     intro w174 he175
     have hx176 := hx55.trans' he175
     have hzhx176 := he175.size
     replace hf38 := hf38.ext pos_shRec he175
     replace hf39 := hf39.ext pos_shRec he175
     replace hf40 := hf40.ext he175
     replace hf41 := hf41.ext he175
     replace hc122 := hc122.ext he175
     replace hc135 := hc135.ext he175
     have hs177 : Ext w174 w174 := Ext.rfl' _
     refine dr_val (i := 0) ha146 rfl (by kernel_rfl) (by kernel_rfl) (by kernel_rfl) rfl rfl rfl hs177 (fun w' hw' => op_move ha146 rfl rfl) ?_
     intro a178 ha178; clear ha146 a146
     refine dr_val (i := 1) ha178 rfl (by kernel_rfl) (by kernel_rfl) (by kernel_rfl) rfl rfl rfl hs177 (fun w' hw' => op_len_sl ha178 rfl Try.underlying25 rfl hf38) ?_
     intro a179 ha179; clear ha178 a178
     refine dr_val (i := 2) ha179 rfl (by kernel_rfl) (by kernel_rfl) (by kernel_rfl) rfl rfl rfl hs177 (fun w' hw' => op_eql ha179 rfl rfl rfl) ?_
     intro a180 ha180; clear ha179 a179
     refine dr_val (i := 3) ha180 rfl (by kernel_rfl) (by kernel_rfl) (by kernel_rfl) rfl rfl rfl hs177 (fun w' hw' => op_move ha180 rfl rfl) ?_
     intro a181 ha181; clear ha180 a180
     by_cases c182 : ((la.length : Nat) : Int) = (0 : Int)
     ·
      rw [decide_eq_true c182] at ha181
      refine dr_skip (i := 4) ha181 rfl (by kernel_rfl) (by kernel_rfl) (by kernel_rfl) rfl rfl rfl hs177 ?_
      intro a183 ha183; clear ha181 a181
      refine dr_skip (i := 5) ha183 rfl (by kernel_rfl) (by kernel_rfl) (by kernel_rfl) rfl rfl rfl hs177 ?_
      intro a184 ha184; clear ha183 a183
      refine dr_skip (i := 6) ha184 rfl (by kernel_rfl) (by kernel_rfl) (by kernel_rfl) rfl rfl rfl hs177 ?_
      intro a185 ha185; clear ha184 a184
      refine dr_skip (i := 7) ha185 rfl (by kernel_rfl) (by kernel_rfl) (by kernel_rfl) rfl rfl rfl hs177 ?_
      intro a186 ha186; clear ha185 a185
      refine dr_skip (i := 8) ha186 rfl (by kernel_rfl) (by kernel_rfl) (by kernel_rfl) rfl rfl rfl hs177 ?_
      intro a187 ha187; clear ha186 a186
      refine dr_skip (i := 9) ha187 rfl (by kernel_rfl) (by kernel_rfl) (by kernel_rfl) rfl rfl rfl hs177 ?_
      intro a188 ha188; clear ha187 a187
      refine dr_skip (i := 10) ha188 rfl (by kernel_rfl) (by kernel_rfl) (by kernel_rfl) rfl rfl rfl hs177 ?_
      intro a189 ha189; clear ha188 a188
      refine dr_skip (i := 11) ha189 rfl (by kernel_rfl) (by kernel_rfl) (by kernel_rfl) rfl rfl rfl hs177 ?_
      intro a190 ha190; clear ha189 a189
      refine dr_skip (i := 12) ha190 rfl (by kernel_rfl) (by kernel_rfl) (by kernel_rfl) rfl rfl rfl hs177 ?_
      intro a191 ha191; clear ha190 a190
      refine dr_val (i := 13) ha191 rfl (by kernel_rfl) (by kernel_rfl) (by kernel_rfl) rfl rfl rfl hs177 (fun w' hw' => op_pick_t ha191 rfl rfl rfl) ?_
      intro a192 ha192; clear ha191 a191
      refine dr_val (i := 14) ha192 rfl (by kernel_rfl) (by kernel_rfl) (by kernel_rfl) rfl rfl rfl hs177 (fun w' hw' => op_assign ha192 rfl rfl) ?_
      intro a193 ha193; clear ha192 a192
      refine dr_end (by kernel_rfl) ?_
      replace hf38 := hf38.ext pos_shRec hs177
      replace hf39 := hf39.ext pos_shRec hs177
      replace hf40 := hf40.ext hs177
      replace hf41 := hf41.ext hs177
      replace hc122 := hc122.ext hs177
      replace hc135 := hc135.ext hs177
      refine then_n ?_
      refine cond_t ha193 rfl ?_
      refine wp_seq ?_
      refine wp_region_lit ?_
      refine wl_val ha193 rfl rfl rfl (op_move ha193 rfl rfl) ?_
      intro a194 ha194; clear ha193 a193
      refine wl_val ha194 rfl rfl rfl (op_move ha194 rfl rfl) ?_
      intro a195 ha195; clear ha194 a194
      refine wl_val ha195 rfl rfl rfl (op_indexAddr ha195 rfl Try.underlying25 ti36 rfl rfl (by omega) hi134) ?_
      intro a196 ha196; clear ha195 a195
      refine wl_val ha196 rfl rfl rfl (op_loadS ha196 rfl Try.underlying36 ti36 rfl rfl hc135) ?_
      intro a197 ha197; clear ha196 a196
      refine wl_eff ha197 rfl rfl rfl (op_buildSlice (s := shRec) (xs := [x131]) (cs := [.int .i64 x131.1, St x131.2]) (vs := [(0, .agg #[.int .i64 x131.1, St x131.2])]) (S := fun _ => False) (le := w174.heap.size) ha197 rfl pos_shRec Try.underlying25 ti36 rfl rfl (by decide) (by kernel_rfl) (Els.single (mk_shRec x131 (by first | assumption | omega | (simp; omega)) (by first | assumption | omega | (simp; omega)))) (fun _ h => h.elim)) ?_
      rintro v198 w199 ⟨ho200, he201, hob202⟩ a203 ha203; clear ha197 a197
      have hx204 := hx176.trans' he201
      have hzhx204 := he201.size
      replace hf38 := hf38.ext pos_shRec he201
      replace hf39 := hf39.ext pos_shRec he201
      replace hf40 := hf40.ext he201
      replace hf41 := hf41.ext he201
      replace hc122 := hc122.ext he201
      replace hc135 := hc135.ext he201
      refine wl_eff ha203 rfl rfl rfl (op_append (ts := #[]) (s := shRec) ha203 rfl Try.underlying25 ti36 rfl pos_shRec rfl rfl hf40 (ho200.rds pos_shRec) (by omega) (by omega) (by first | omega | (simp; omega)) (by first | omega | (simp; omega)) (.inl flat_shRec)) ?_
      rintro v205 w206 ⟨ho207, hst208, hob209⟩ a210 ha210; clear ha203 a203
      have hx211 := hx204.stp hst208 (by intro q hq; have hq0 := hf40.lt q hq; omega)
      have hzhx211 := hst208.size
      replace hf38 := hf38.stp pos_shRec hst208 (by intro q hq; have hq0 := hf40.lt q hq; exact not_iv (by omega))
      replace hf39 := hf39.stp pos_shRec hst208 (by intro q hq; have hq0 := hf40.lt q hq; exact not_iv (by omega))
      first | replace hf41 := hf41.stp hst208 (by intro q hq; have hq0 := hf40.lt q hq; omega) | replace hf41 := hf41.stpF flat_shI64 hst208 (hf41.ne hf40 rfl)
      replace hc122 := hc122.stp hst208 (by intro q hq; have hq0 := hf40.lt q hq; omega)
      replace hc135 := hc135.stp hst208 (by intro q hq; have hq0 := hf40.lt q hq; omega)
      replace ho200 := ho200.stp hst208 (by intro q hq; have hq0 := hf40.lt q hq; omega)
      have hsp212 : ∀ q, Value.ownBlock v205 = some q → Value.ownBlock v198 ≠ some q := by intro q hq hb; have hq0 := ho200.lt q hb; rcases hob209 with h | h; (rw [h] at hq; first | (have hq1 := hf40.lt q hq; omega)); (rw [h] at hq; cases hq; omega)
      refine wl_val ha210 rfl rfl rfl (op_assign ha210 rfl rfl) ?_
      intro a213 ha213; clear ha210 a210
      refine wpList_nil ?_
      refine then_n ?_
      refine wp_region_lit ?_
      refine wl_val ha213 rfl rfl rfl (op_move ha213 rfl rfl) ?_
      intro a214 ha214; clear ha213 a213
      obtain ⟨u215, hu216, hr217⟩ := Rds.part hf39 Try.underlying25 ti36 (some (.int .i64 (1 : Nat))) none 1 lb.length (.inr ⟨.i64, rfl⟩) (.inl ⟨rfl, rfl⟩) (by omega) (by omega)
      replace hr217 := hr217.cast (ys := lb.drop 1) (by first | rw [List.take_length] | simp)
      refine wl_val ha214 rfl rfl rfl (op_slice_f (by omega) ha214 rfl rfl rfl hu216) ?_
      intro a218 ha218; clear ha214 a214
      refine wl_val ha218 rfl rfl rfl (op_assign ha218 rfl rfl) ?_
      intro a219 ha219; clear ha218 a218
      refine wpList_nil ?_
      refine block_n ?_
      refine block_n ?_
      refine round_end (x := (la, lb, va, vb, v, acc, v2, dac)) (la, lb.drop 1, va, u215, v205, (acc ++ [x131]), v2, dac) ?_ ?_
      ·
       refine ⟨(Sl.cons_ ha219 rfl rfl (Sl.cons_ ha219 rfl rfl (Sl.cons_ ha219 rfl rfl (Sl.cons_ ha219 rfl rfl (Sl.nil_ ha219))))), hx211, hf38, hr217, (ho207.fin (by omega) (by omega) (by omega)), (hf41.fin (by omega) (by omega) (by omega)), (by omega), (by simp only [List.length_append, List.length_drop, List.length_singleton]; omega), (by simp only [List.length_append, List.length_singleton]; omega), (by exfalso; omega), (by exfalso; omega)⟩
      ·show (la.length + (lb.drop 1).length : Nat) < la.length + lb.length; (simp only [List.length_drop]; omega)
     ·
      rw [decide_eq_false c182] at ha181
      refine dr_val (i := 4) ha181 rfl (by kernel_rfl) (by kernel_rfl) (by kernel_rfl) rfl rfl rfl hs177 (fun w' hw' => op_move ha181 rfl rfl) ?_
      intro a220 ha220; clear ha181 a181
      refine dr_val (i := 5) ha220 rfl (by kernel_rfl) (by kernel_rfl) (by kernel_rfl) rfl rfl rfl hs177 (fun w' hw' => op_indexAddr ha220 rfl Try.underlying25 ti36 rfl rfl (by omega) hi134) ?_
      intro a221 ha221; clear ha220 a220
      refine dr_val (i := 6) ha221 rfl (by kernel_rfl) (by kernel_rfl) (by kernel_rfl) rfl rfl rfl hs177 (fun w' hw' => op_fieldAddr (sz := 0) ha221 rfl Try.underlying36 rfl rfl ti2 rfl) ?_
      intro a222 ha222; clear ha221 a221
      refine dr_val (i := 7) ha222 rfl (by kernel_rfl) (by kernel_rfl) (by kernel_rfl) rfl rfl rfl hs177 (fun w' hw' => op_loadF (off := 0) ha222 rfl Try.underlying2 rfl rfl (hc135.ext hw') rfl) ?_
      intro a223 ha223; clear ha222 a222
      refine dr_val (i := 8) ha223 rfl (by kernel_rfl) (by kernel_rfl) (by kernel_rfl) rfl rfl rfl hs177 (fun w' hw' => op_move ha223 rfl rfl) ?_
      intro a224 ha224; clear ha223 a223
      refine dr_val (i := 9) ha224 rfl (by kernel_rfl) (by kernel_rfl) (by kernel_rfl) rfl rfl rfl hs177 (fun w' hw' => op_indexAddr ha224 rfl Try.underlying25 ti36 rfl rfl (by omega) hi121) ?_
      intro a225 ha225; clear ha224 a224
      refine dr_val (i := 10) ha225 rfl (by kernel_rfl) (by kernel_rfl) (by kernel_rfl) rfl rfl rfl hs177 (fun w' hw' => op_fieldAddr (sz := 0) ha225 rfl Try.underlying36 rfl rfl ti2 rfl) ?_
      intro a226 ha226; clear ha225 a225
      refine dr_val (i := 11) ha226 rfl (by kernel_rfl) (by kernel_rfl) (by kernel_rfl) rfl rfl rfl hs177 (fun w' hw' => op_loadF (off := 0) ha226 rfl Try.underlying2 rfl rfl (hc122.ext hw') rfl) ?_
      intro a227 ha227; clear ha226 a226
      refine dr_val (i := 12) ha227 rfl (by kernel_rfl) (by kernel_rfl) (by kernel_rfl) rfl rfl rfl hs177 (fun w' hw' => op_lss ha227 rfl rfl rfl) ?_
      intro a228 ha228; clear ha227 a227
      refine dr_val (i := 13) ha228 rfl (by kernel_rfl) (by kernel_rfl) (by kernel_rfl) rfl rfl rfl hs177 (fun w' hw' => op_pick_f ha228 rfl rfl rfl) ?_
      intro a229 ha229; clear ha228 a228
      refine dr_val (i := 14) ha229 rfl (by kernel_rfl) (by kernel_rfl) (by kernel_rfl) rfl rfl rfl hs177 (fun w' hw' => op_assign ha229 rfl rfl) ?_
      intro a230 ha230; clear ha229 a229
      refine dr_end (by kernel_rfl) ?_
      replace hf38 := hf38.ext pos_shRec hs177
      replace hf39 := hf39.ext pos_shRec hs177
      replace hf40 := hf40.ext hs177
      replace hf41 := hf41.ext hs177
      replace hc122 := hc122.ext hs177
      replace hc135 := hc135.ext hs177
      refine then_n ?_
      by_cases c231 : x131.1 < x118.1
      ·
       rw [decide_eq_true c231] at ha230
       refine cond_t ha230 rfl ?_
       refine wp_seq ?_
       refine wp_region_lit ?_
       refine wl_val ha230 rfl rfl rfl (op_move ha230 rfl rfl) ?_
       intro a232 ha232; clear ha230 a230
       refine wl_val ha232 rfl rfl rfl (op_move ha232 rfl rfl) ?_
       intro a233 ha233; clear ha232 a232
       refine wl_val ha233 rfl rfl rfl (op_indexAddr ha233 rfl Try.underlying25 ti36 rfl rfl (by omega) hi134) ?_
       intro a234 ha234; clear ha233 a233
       refine wl_val ha234 rfl rfl rfl (op_loadS ha234 rfl Try.underlying36 ti36 rfl rfl hc135) ?_
       intro a235 ha235; clear ha234 a234
       refine wl_eff ha235 rfl rfl rfl (op_buildSlice (s := shRec) (xs := [x131]) (cs := [.int .i64 x131.1, St x131.2]) (vs := [(0, .agg #[.int .i64 x131.1, St x131.2])]) (S := fun _ => False) (le := w174.heap.size) ha235 rfl pos_shRec Try.underlying25 ti36 rfl rfl (by decide) (by kernel_rfl) (Els.single (mk_shRec x131 (by first | assumption | omega | (simp; omega)) (by first | assumption | omega | (simp; omega)))) (fun _ h => h.elim)) ?_
       rintro v236 w237 ⟨ho238, he239, hob240⟩ a241 ha241; clear ha235 a235
       have hx242 := hx176.trans' he239
       have hzhx242 := he239.size
       replace hf38 := hf38.ext pos_shRec he239
       replace hf39 := hf39.ext pos_shRec he239
       replace hf40 := hf40.ext he239
       replace hf41 := hf41.ext he239
       replace hc122 := hc122.ext he239
       replace hc135 := hc135.ext he239
       refine wl_eff ha241 rfl rfl rfl (op_append (ts := #[]) (s := shRec) ha241 rfl Try.underlying25 ti36 rfl pos_shRec rfl rfl hf40 (ho238.rds pos_shRec) (by omega) (by omega) (by first | omega | (simp; omega)) (by first | omega | (simp; omega)) (.inl flat_shRec)) ?_
       rintro v243 w244 ⟨ho245, hst246, hob247⟩ a248 ha248; clear ha241 a241
       have hx249 := hx242.stp hst246 (by intro q hq; have hq0 := hf40.lt q hq; omega)
       have hzhx249 := hst246.size
       replace hf38 := hf38.stp pos_shRec hst246 (by intro q hq; have hq0 := hf40.lt q hq; exact not_iv (by omega))
       replace hf39 := hf39.stp pos_shRec hst246 (by intro q hq; have hq0 := hf40.lt q hq; exact not_iv (by omega))
       first | replace hf41 := hf41.stp hst246 (by intro q hq; have hq0 := hf40.lt q hq; omega) | replace hf41 := hf41.stpF flat_shI64 hst246 (hf41.ne hf40 rfl)
       replace hc122 := hc122.stp hst246 (by intro q hq; have hq0 := hf40.lt q hq; omega)
       replace hc135 := hc135.stp hst246 (by intro q hq; have hq0 := hf40.lt q hq; omega)
       replace ho238 := ho238.stp hst246 (by intro q hq; have hq0 := hf40.lt q hq; omega)
       have hsp250 : ∀ q, Value.ownBlock v243 = some q → Value.ownBlock v236 ≠ some q := by intro q hq hb; have hq0 := ho238.lt q hb; rcases hob247 with h | h; (rw [h] at hq; first | (have hq1 := hf40.lt q hq; omega)); (rw [h] at hq; cases hq; omega)
       refine wl_val ha248 rfl rfl rfl (op_assign ha248 rfl rfl) ?_
       intro a251 ha251; clear ha248 a248
       refine wpList_nil ?_
       refine then_n ?_
       refine wp_region_lit ?_
       refine wl_val ha251 rfl rfl rfl (op_move ha251 rfl rfl) ?_
       intro a252 ha252; clear ha251 a251
       obtain ⟨u253, hu254, hr255⟩ := Rds.part hf39 Try.underlying25 ti36 (some (.int .i64 (1 : Nat))) none 1 lb.length (.inr ⟨.i64, rfl⟩) (.inl ⟨rfl, rfl⟩) (by omega) (by omega)
       replace hr255 := hr255.cast (ys := lb.drop 1) (by first | rw [List.take_length] | simp)
       refine wl_val ha252 rfl rfl rfl (op_slice_f (by omega) ha252 rfl rfl rfl hu254) ?_
       intro a256 ha256; clear ha252 a252
       refine wl_val ha256 rfl rfl rfl (op_assign ha256 rfl rfl) ?_
       intro a257 ha257; clear ha256 a256
       refine wpList_nil ?_
       refine block_n ?_
       refine block_n ?_
       refine round_end (x := (la, lb, va, vb, v, acc, v2, dac)) (la, lb.drop 1, va, u253, v243, (acc ++ [x131]), v2, dac) ?_ ?_
       ·
        refine ⟨(Sl.cons_ ha257 rfl rfl (Sl.cons_ ha257 rfl rfl (Sl.cons_ ha257 rfl rfl (Sl.cons_ ha257 rfl rfl (Sl.nil_ ha257))))), hx249, hf38, hr255, (ho245.fin (by omega) (by omega) (by omega)), (hf41.fin (by omega) (by omega) (by omega)), (by omega), (by simp only [List.length_append, List.length_drop, List.length_singleton]; omega), (by simp only [List.length_append, List.length_singleton]; omega), (by rw [(mrg_r hx131 (.inr ⟨_, hx118, c231⟩)).1] at hF; rw [← hF]; try simp), (by rw [(mrg_r hx131 (.inr ⟨_, hx118, c231⟩)).2] at hG; rw [← hG]; try simp)⟩
       ·show (la.length + (lb.drop 1).length : Nat) < la.length + lb.length; (simp only [List.length_drop]; omega)
      ·
       rw [decide_eq_false c231] at ha230
       refine cond_f ha230 rfl ?_
       refine wp_seq ?_
       refine wp_seq ?_
       refine dr_enter Ext follows_mixed ?_
       intro w258 he259
       have hx260 := hx176.trans' he259
       have hzhx260 := he259.size
       replace hf38 := hf38.ext pos_shRec he259
       replace hf39 := hf39.ext pos_shRec he259
       replace hf40 := hf40.ext he259
       replace hf41 := hf41.ext he259
       replace hc122 := hc122.ext he259
       replace hc135 := hc135.ext he259
       have hs261 : Ext w258 w258 := Ext.rfl' _
       refine dr_val (i := 0) ha230 rfl (by kernel_rfl) (by kernel_rfl) (by kernel_rfl) rfl rfl rfl hs261 (fun w' hw' => op_move ha230 rfl rfl) ?_
       intro a262 ha262; clear ha230 a230
       refine dr_val (i := 1) ha262 rfl (by kernel_rfl) (by kernel_rfl) (by kernel_rfl) rfl rfl rfl hs261 (fun w' hw' => op_indexAddr ha262 rfl Try.underlying25 ti36 rfl rfl (by omega) hi121) ?_
       intro a263 ha263; clear ha262 a262
       refine dr_val (i := 2) ha263 rfl (by kernel_rfl) (by kernel_rfl) (by kernel_rfl) rfl rfl rfl hs261 (fun w' hw' => op_fieldAddr (sz := 0) ha263 rfl Try.underlying36 rfl rfl ti9 rfl) ?_
       intro a264 ha264; clear ha263 a263
       refine dr_val (i := 3) ha264 rfl (by kernel_rfl) (by kernel_rfl) (by kernel_rfl) rfl rfl rfl hs261 (fun w' hw' => op_loadF (off := 1) ha264 rfl Try.underlying9 rfl rfl (hc122.ext hw') rfl) ?_
       intro a265 ha265; clear ha264 a264
       refine dr_val (i := 4) ha265 rfl (by kernel_rfl) (by kernel_rfl) (by kernel_rfl) rfl rfl rfl hs261 (fun w' hw' => op_move ha265 rfl rfl) ?_
       intro a266 ha266; clear ha265 a265
       refine dr_val (i := 5) ha266 rfl (by kernel_rfl) (by kernel_rfl) (by kernel_rfl) rfl rfl rfl hs261 (fun w' hw' => op_indexAddr ha266 rfl Try.underlying25 ti36 rfl rfl (by omega) hi134) ?_
       intro a267 ha267; clear ha266 a266
       refine dr_val (i := 6) ha267 rfl (by kernel_rfl) (by kernel_rfl) (by kernel_rfl) rfl rfl rfl hs261 (fun w' hw' => op_fieldAddr (sz := 0) ha267 rfl Try.underlying36 rfl rfl ti9 rfl) ?_
       intro a268 ha268; clear ha267 a267
       refine dr_val (i := 7) ha268 rfl (by kernel_rfl) (by kernel_rfl) (by kernel_rfl) rfl rfl rfl hs261 (fun w' hw' => op_loadF (off := 1) ha268 rfl Try.underlying9 rfl rfl (hc135.ext hw') rfl) ?_
       intro a269 ha269; clear ha268 a268
       refine dr_val (i := 8) ha269 rfl (by kernel_rfl) (by kernel_rfl) (by kernel_rfl) rfl rfl rfl hs261 (fun w' hw' => (op_sneq ha269 rfl rfl rfl).to (congrArg Value.bool decide_not)) ?_
       intro a270 ha270; clear ha269 a269
       refine dr_end (by kernel_rfl) ?_
       replace hf38 := hf38.ext pos_shRec hs261
       replace hf39 := hf39.ext pos_shRec hs261
       replace hf40 := hf40.ext hs261
       replace hf41 := hf41.ext hs261
       replace hc122 := hc122.ext hs261
       replace hc135 := hc135.ext hs261
       refine then_n ?_
       by_cases c271 : x118.2 = x131.2
       ·
        rw [decide_eq_true c271] at ha270
        refine cond_f ha270 rfl ?_
        refine wp_skip ?_
        refine then_n ?_
        refine wp_seq ?_
        refine wp_region_lit ?_
        refine wl_val ha270 rfl rfl rfl (op_move ha270 rfl rfl) ?_
        intro a272 ha272; clear ha270 a270
        refine wl_val ha272 rfl rfl rfl (op_move ha272 rfl rfl) ?_
        intro a273 ha273; clear ha272 a272
        refine wl_val ha273 rfl rfl rfl (op_indexAddr ha273 rfl Try.underlying25 ti36 rfl rfl (by omega) hi121) ?_
        intro a274 ha274; clear ha273 a273
        refine wl_val ha274 rfl rfl rfl (op_loadS ha274 rfl Try.underlying36 ti36 rfl rfl hc122) ?_
        intro a275 ha275; clear ha274 a274
        refine wl_eff ha275 rfl rfl rfl (op_buildSlice (s := shRec) (xs := [x118]) (cs := [.int .i64 x118.1, St x118.2]) (vs := [(0, .agg #[.int .i64 x118.1, St x118.2])]) (S := fun _ => False) (le := w258.heap.size) ha275 rfl pos_shRec Try.underlying25 ti36 rfl rfl (by decide) (by kernel_rfl) (Els.single (mk_shRec x118 (by first | assumption | omega | (simp; omega)) (by first | assumption | omega | (simp; omega)))) (fun _ h => h.elim)) ?_
        rintro v276 w277 ⟨ho278, he279, hob280⟩ a281 ha281; clear ha275 a275
        have hx282 := hx260.trans' he279
        have hzhx282 := he279.size
        replace hf38 := hf38.ext pos_shRec he279
        replace hf39 := hf39.ext pos_shRec he279
        replace hf40 := hf40.ext he279
        replace hf41 := hf41.ext he279
        replace hc122 := hc122.ext he279
        replace hc135 := hc135.ext he279
        refine wl_eff ha281 rfl rfl rfl (op_append (ts := #[]) (s := shRec) ha281 rfl Try.underlying25 ti36 rfl pos_shRec rfl rfl hf40 (ho278.rds pos_shRec) (by omega) (by omega) (by first | omega | (simp; omega)) (by first | omega | (simp; omega)) (.inl flat_shRec)) ?_
        rintro v283 w284 ⟨ho285, hst286, hob287⟩ a288 ha288; clear ha281 a281
        have hx289 := hx282.stp hst286 (by intro q hq; have hq0 := hf40.lt q hq; omega)
        have hzhx289 := hst286.size
        replace hf38 := hf38.stp pos_shRec hst286 (by intro q hq; have hq0 := hf40.lt q hq; exact not_iv (by omega))
        replace hf39 := hf39.stp pos_shRec hst286 (by intro q hq; have hq0 := hf40.lt q hq; exact not_iv (by omega))
        first | replace hf41 := hf41.stp hst286 (by intro q hq; have hq0 := hf40.lt q hq; omega) | replace hf41 := hf41.stpF flat_shI64 hst286 (hf41.ne hf40 rfl)
        replace hc122 := hc122.stp hst286 (by intro q hq; have hq0 := hf40.lt q hq; omega)
        replace hc135 := hc135.stp hst286 (by intro q hq; have hq0 := hf40.lt q hq; omega)
        replace ho278 := ho278.stp hst286 (by intro q hq; have hq0 := hf40.lt q hq; omega)
        have hsp290 : ∀ q, Value.ownBlock v283 = some q → Value.ownBlock v276 ≠ some q := by intro q hq hb; have hq0 := ho278.lt q hb; rcases hob287 with h | h; (rw [h] at hq; first | (have hq1 := hf40.lt q hq; omega)); (rw [h] at hq; cases hq; omega)
        refine wl_val ha288 rfl rfl rfl (op_assign ha288 rfl rfl) ?_
        intro a291 ha291; clear ha288 a288
        refine wpList_nil ?_
        refine then_n ?_
        refine dr_enter Ext follows_mixed ?_
        intro w292 he293
        have hx294 := hx289.trans' he293
        have hzhx294 := he293.size
        replace hf38 := hf38.ext pos_shRec he293
        replace hf39 := hf39.ext pos_shRec he293
        replace hf41 := hf41.ext he293
        replace hc122 := hc122.ext he293
        replace hc135 := hc135.ext he293
        replace ho278 := ho278.ext he293
        replace ho285 := ho285.ext he293
        have hs295 : Ext w292 w292 := Ext.rfl' _
        refine dr_val (i := 0) ha291 rfl (by kernel_rfl) (by kernel_rfl) (by kernel_rfl) rfl rfl rfl hs295 (fun w' hw' => op_move ha291 rfl rfl) ?_
        intro a296 ha296; clear ha291 a291
        obtain ⟨u297, hu298, hr299⟩ := Rds.part hf38 Try.underlying25 ti36 (some (.int .i64 (1 : Nat))) none 1 la.length (.inr ⟨.i64, rfl⟩) (.inl ⟨rfl, rfl⟩) (by omega) (by omega)
        replace hr299 := hr299.cast (ys := la.drop 1) (by first | rw [List.take_length] | simp)
        refine dr_val (i := 1) ha296 rfl (by kernel_rfl) (by kernel_rfl) (by kernel_rfl) rfl rfl rfl hs295 (fun w' hw' => op_slice_f (by omega) ha296 rfl rfl rfl hu298) ?_
        intro a300 ha300; clear ha296 a296
        refine dr_val (i := 2) ha300 rfl (by kernel_rfl) (by kernel_rfl) (by kernel_rfl) rfl rfl rfl hs295 (fun w' hw' => op_move ha300 rfl rfl) ?_
        intro a301 ha301; clear ha300 a300
        obtain ⟨u302, hu303, hr304⟩ := Rds.part hf39 Try.underlying25 ti36 (some (.int .i64 (1 : Nat))) none 1 lb.length (.inr ⟨.i64, rfl⟩) (.inl ⟨rfl, rfl⟩) (by omega) (by omega)
        replace hr304 := hr304.cast (ys := lb.drop 1) (by first | rw [List.take_length] | simp)
        refine dr_val (i := 3) ha301 rfl (by kernel_rfl) (by kernel_rfl) (by kernel_rfl) rfl rfl rfl hs295 (fun w' hw' => op_slice_f (by omega) ha301 rfl rfl rfl hu303) ?_
        intro a305 ha305; clear ha301 a301
        refine dr_val (i := 4) ha305 rfl (by kernel_rfl) (by kernel_rfl) (by kernel_rfl) rfl rfl rfl hs295 (fun w' hw' => op_assign ha305 rfl rfl) ?_
        intro a306 ha306; clear ha305 a305
        refine dr_val (i := 5) ha306 rfl (by kernel_rfl) (by kernel_rfl) (by kernel_rfl) rfl rfl rfl hs295 (fun w' hw' => op_assign ha306 rfl rfl) ?_
        intro a307 ha307; clear ha306 a306
        refine dr_end (by kernel_rfl) ?_
        replace hf38 := hf38.ext pos_shRec hs295
        replace hf39 := hf39.ext pos_shRec hs295
        replace hf41 := hf41.ext hs295
        replace hc122 := hc122.ext hs295
        replace hc135 := hc135.ext hs295
        replace ho278 := ho278.ext hs295
        replace ho285 := ho285.ext hs295
        replace hr299 := hr299.ext pos_shRec hs295
        replace hr304 := hr304.ext pos_shRec hs295
        refine block_n ?_
        refine block_n ?_
        refine round_end (x := (la, lb, va, vb, v, acc, v2, dac)) (la.drop 1, lb.drop 1, u297, u302, v283, (acc ++ [x118]), v2, dac) ?_ ?_
        ·
         refine ⟨(Sl.cons_ ha307 rfl rfl (Sl.cons_ ha307 rfl rfl (Sl.cons_ ha307 rfl rfl (Sl.cons_ ha307 rfl rfl (Sl.nil_ ha307))))), hx294, hr299, hr304, (ho285.fin (by omega) (by omega) (by omega)), (hf41.fin (by omega) (by omega) (by omega)), (by omega), (by simp only [List.length_append, List.length_drop, List.length_singleton]; omega), (by simp only [List.length_append, List.length_singleton]; omega), (by rw [(mrg_b hx118 hx131 c147 c231).1] at hF; rw [← hF]; try simp), (by have e := (mrg_b hx118 hx131 c147 c231).2; rw [if_pos c271] at e; rw [e] at hG; rw [← hG]; try simp)⟩
        ·show ((la.drop 1).length + (lb.drop 1).length : Nat) < la.length + lb.length; (simp only [List.length_drop]; omega)
       ·
        rw [decide_eq_false c271] at ha270
        refine cond_t ha270 rfl ?_
        refine wp_region_lit ?_
        refine wl_val ha270 rfl rfl rfl (op_move ha270 rfl rfl) ?_
        intro a308 ha308; clear ha270 a270
        refine wl_val ha308 rfl rfl rfl (op_move ha308 rfl rfl) ?_
        intro a309 ha309; clear ha308 a308
        refine wl_val ha309 rfl rfl rfl (op_indexAddr ha309 rfl Try.underlying25 ti36 rfl rfl (by omega) hi121) ?_
        intro a310 ha310; clear ha309 a309
        refine wl_val ha310 rfl rfl rfl (op_fieldAddr (sz := 0) ha310 rfl Try.underlying36 rfl rfl ti2 rfl) ?_
        intro a311 ha311; clear ha310 a310
        refine wl_val ha311 rfl rfl rfl (op_loadF (off := 0) ha311 rfl Try.underlying2 rfl rfl hc122 rfl) ?_
        intro a312 ha312; clear ha311 a311
        refine wl_eff ha312 rfl rfl rfl (op_buildSlice (s := shI64) (xs := [x118.1]) (cs := [.int .i64 x118.1]) (vs := [(0, .int .i64 x118.1)]) (S := fun _ => False) (le := w258.heap.size) ha312 rfl pos_shI64 Try.underlying44 ti2 rfl rfl (by decide) (by kernel_rfl) (Els.single (mk_shI64 x118.1 (by first | assumption | omega | (simp; omega)))) (fun _ h => h.elim)) ?_
        rintro v313 w314 ⟨ho315, he316, hob317⟩ a318 ha318; clear ha312 a312
        have hx319 := hx260.trans' he316
        have hzhx319 := he316.size
        replace hf38 := hf38.ext pos_shRec he316
        replace hf39 := hf39.ext pos_shRec he316
        replace hf40 := hf40.ext he316
        replace hf41 := hf41.ext he316
        replace hc122 := hc122.ext he316
        replace hc135 := hc135.ext he316
        refine wl_eff ha318 rfl rfl rfl (op_append (ts := #[]) (s := shI64) ha318 rfl Try.underlying44 ti2 rfl pos_shI64 rfl rfl hf41 (ho315.rds pos_shI64) (by omega) (by omega) (by first | omega | (simp; omega)) (by first | omega | (simp; omega)) (.inl flat_shI64)) ?_
        rintro v320 w321 ⟨ho322, hst323, hob324⟩ a325 ha325; clear ha318 a318
        have hx326 := hx319.stp hst323 (by intro q hq; have hq0 := hf41.lt q hq; omega)
        have hzhx326 := hst323.size
        replace hf38 := hf38.stp pos_shRec hst323 (by intro q hq; have hq0 := hf41.lt q hq; exact not_iv (by omega))
        replace hf39 := hf39.stp pos_shRec hst323 (by intro q hq; have hq0 := hf41.lt q hq; exact not_iv (by omega))
        first | replace hf40 := hf40.stp hst323 (by intro q hq; have hq0 := hf41.lt q hq; omega) | replace hf40 := hf40.stpF flat_shRec hst323 (hf40.ne hf41 rfl)
        replace hc122 := hc122.stp hst323 (by intro q hq; have hq0 := hf41.lt q hq; omega)
        replace hc135 := hc135.stp hst323 (by intro q hq; have hq0 := hf41.lt q hq; omega)
        replace ho315 := ho315.stp hst323 (by intro q hq; have hq0 := hf41.lt q hq; omega)
        have hsp327 : ∀ q, Value.ownBlock v320 = some q → Value.ownBlock v313 ≠ some q := by intro q hq hb; have hq0 := ho315.lt q hb; rcases hob324 with h | h; (rw [h] at hq; first | (have hq1 := hf41.lt q hq; omega)); (rw [h] at hq; cases hq; omega)
        refine wl_val ha325 rfl rfl rfl (op_assign ha325 rfl rfl) ?_
        intro a328 ha328; clear ha325 a325
        refine wpList_nil ?_
        refine then_n ?_
        refine wp_seq ?_
        refine wp_region_lit ?_
        refine wl_val ha328 rfl rfl rfl (op_move ha328 rfl rfl) ?_
        intro a329 ha329; clear ha328 a328
        refine wl_val ha329 rfl rfl rfl (op_move ha329 rfl rfl) ?_
        intro a330 ha330; clear ha329 a329
        refine wl_val ha330 rfl rfl rfl (op_indexAddr ha330 rfl Try.underlying25 ti36 rfl rfl (by omega) hi121) ?_
        intro a331 ha331; clear ha330 a330
        refine wl_val ha331 rfl rfl rfl (op_loadS ha331 rfl Try.underlying36 ti36 rfl rfl hc122) ?_
        intro a332 ha332; clear ha331 a331
        refine wl_eff ha332 rfl rfl rfl (op_buildSlice (s := shRec) (xs := [x118]) (cs := [.int .i64 x118.1, St x118.2]) (vs := [(0, .agg #[.int .i64 x118.1, St x118.2])]) (S := fun _ => False) (le := w321.heap.size) ha332 rfl pos_shRec Try.underlying25 ti36 rfl rfl (by decide) (by kernel_rfl) (Els.single (mk_shRec x118 (by first | assumption | omega | (simp; omega)) (by first | assumption | omega | (simp; omega)))) (fun _ h => h.elim)) ?_
        rintro v333 w334 ⟨ho335, he336, hob337⟩ a338 ha338; clear ha332 a332
        have hx339 := hx326.trans' he336
        have hzhx339 := he336.size
        replace hf38 := hf38.ext pos_shRec he336
        replace hf39 := hf39.ext pos_shRec he336
        replace hf40 := hf40.ext he336
        replace hc122 := hc122.ext he336
        replace hc135 := hc135.ext he336
        replace ho315 := ho315.ext he336
        replace ho322 := ho322.ext he336
        refine wl_eff ha338 rfl rfl rfl (op_append (ts := #[]) (s := shRec) ha338 rfl Try.underlying25 ti36 rfl pos_shRec rfl rfl hf40 (ho335.rds pos_shRec) (by omega) (by omega) (by first | omega | (simp; omega)) (by first | omega | (simp; omega)) (.inl flat_shRec)) ?_
        rintro v340 w341 ⟨ho342, hst343, hob344⟩ a345 ha345; clear ha338 a338
        have hx346 := hx339.stp hst343 (by intro q hq; have hq0 := hf40.lt q hq; omega)
        have hzhx346 := hst343.size
        replace hf38 := hf38.stp pos_shRec hst343 (by intro q hq; have hq0 := hf40.lt q hq; exact not_iv (by omega))
        replace hf39 := hf39.stp pos_shRec hst343 (by intro q hq; have hq0 := hf40.lt q hq; exact not_iv (by omega))
        replace hc122 := hc122.stp hst343 (by intro q hq; have hq0 := hf40.lt q hq; omega)
        replace hc135 := hc135.stp hst343 (by intro q hq; have hq0 := hf40.lt q hq; omega)
        replace ho315 := ho315.stp hst343 (by intro q hq; have hq0 := hf40.lt q hq; omega)
        first | replace ho322 := ho322.stp hst343 (by intro q hq; have hq0 := hf40.lt q hq; omega) | replace ho322 := ho322.stpF flat_shI64 hst343 (ho322.ne hf40 rfl)
        replace ho335 := ho335.stp hst343 (by intro q hq; have hq0 := hf40.lt q hq; omega)
        have hsp347 : ∀ q, Value.ownBlock v340 = some q → Value.ownBlock v333 ≠ some q := by intro q hq hb; have hq0 := ho335.lt q hb; rcases hob344 with h | h; (rw [h] at hq; first | (have hq1 := hf40.lt q hq; omega)); (rw [h] at hq; cases hq; omega)
        refine wl_val ha345 rfl rfl rfl (op_assign ha345 rfl rfl) ?_
        intro a348 ha348; clear ha345 a345
        refine wpList_nil ?_
        refine then_n ?_
        refine dr_enter Ext follows_mixed ?_
        intro w349 he350
        have hx351 := hx346.trans' he350
        have hzhx351 := he350.size
        replace hf38 := hf38.ext pos_shRec he350
        replace hf39 := hf39.ext pos_shRec he350
        replace hc122 := hc122.ext he350
        replace hc135 := hc135.ext he350
        replace ho315 := ho315.ext he350
        replace ho322 := ho322.ext he350
        replace ho335 := ho335.ext he350
        replace ho342 := ho342.ext he350
        have hs352 : Ext w349 w349 := Ext.rfl' _
        refine dr_val (i := 0) ha348 rfl (by kernel_rfl) (by kernel_rfl) (by kernel_rfl) rfl rfl rfl hs352 (fun w' hw' => op_move ha348 rfl rfl) ?_
        intro a353 ha353; clear ha348 a348
        obtain ⟨u354, hu355, hr356⟩ := Rds.part hf38 Try.underlying25 ti36 (some (.int .i64 (1 : Nat))) none 1 la.length (.inr ⟨.i64, rfl⟩) (.inl ⟨rfl, rfl⟩) (by omega) (by omega)
        replace hr356 := hr356.cast (ys := la.drop 1) (by first | rw [List.take_length] | simp)
        refine dr_val (i := 1) ha353 rfl (by kernel_rfl) (by kernel_rfl) (by kernel_rfl) rfl rfl rfl hs352 (fun w' hw' => op_slice_f (by omega) ha353 rfl rfl rfl hu355) ?_
        intro a357 ha357; clear ha353 a353
        refine dr_val (i := 2) ha357 rfl (by kernel_rfl) (by kernel_rfl) (by kernel_rfl) rfl rfl rfl hs352 (fun w' hw' => op_move ha357 rfl rfl) ?_
        intro a358 ha358; clear ha357 a357
        obtain ⟨u359, hu360, hr361⟩ := Rds.part hf39 Try.underlying25 ti36 (some (.int .i64 (1 : Nat))) none 1 lb.length (.inr ⟨.i64, rfl⟩) (.inl ⟨rfl, rfl⟩) (by omega) (by omega)
        replace hr361 := hr361.cast (ys := lb.drop 1) (by first | rw [List.take_length] | simp)
        refine dr_val (i := 3) ha358 rfl (by kernel_rfl) (by kernel_rfl) (by kernel_rfl) rfl rfl rfl hs352 (fun w' hw' => op_slice_f (by omega) ha358 rfl rfl rfl hu360) ?_
        intro a362 ha362; clear ha358 a358
        refine dr_val (i := 4) ha362 rfl (by kernel_rfl) (by kernel_rfl) (by kernel_rfl) rfl rfl rfl hs352 (fun w' hw' => op_assign ha362 rfl rfl) ?_
        intro a363 ha363; clear ha362 a362
        refine dr_val (i := 5) ha363 rfl (by kernel_rfl) (by kernel_rfl) (by kernel_rfl) rfl rfl rfl hs352 (fun w' hw' => op_assign ha363 rfl rfl) ?_
        intro a364 ha364; clear ha363 a363
        refine dr_end (by kernel_rfl) ?_
        replace hf38 := hf38.ext pos_shRec hs352
        replace hf39 := hf39.ext pos_shRec hs352
        replace hc122 := hc122.ext hs352
        replace hc135 := hc135.ext hs352
        replace ho315 := ho315.ext hs352
        replace ho322 := ho322.ext hs352
        replace ho335 := ho335.ext hs352
        replace ho342 := ho342.ext hs352
        replace hr356 := hr356.ext pos_shRec hs352
        replace hr361 := hr361.ext pos_shRec hs352
        refine block_n ?_
        refine block_n ?_
        refine round_end (x := (la, lb, va, vb, v, acc, v2, dac)) (la.drop 1, lb.drop 1, u354, u359, v340, (acc ++ [x118]), v320, (dac ++ [x118.1])) ?_ ?_
        ·
         refine ⟨(Sl.cons_ ha364 rfl rfl (Sl.cons_ ha364 rfl rfl (Sl.cons_ ha364 rfl rfl (Sl.cons_ ha364 rfl rfl (Sl.nil_ ha364))))), hx351, hr356, hr361, (ho342.fin (by omega) (by omega) (by omega)), (ho322.fin (by omega) (by omega) (by omega)), (by omega), (by simp only [List.length_append, List.length_drop, List.length_singleton]; omega), (by simp only [List.length_append, List.length_singleton]; omega), (by rw [(mrg_b hx118 hx131 c147 c231).1] at hF; rw [← hF]; try simp), (by have e := (mrg_b hx118 hx131 c147 c231).2; rw [if_neg c271] at e; rw [e] at hG; rw [← hG]; try simp)⟩
        ·show ((la.drop 1).length + (lb.drop 1).length : Nat) < la.length + lb.length; (simp only [List.length_drop]; omega)
  ·
   rw [decide_eq_false c48] at ha47
   refine wl_val ha47 rfl rfl rfl (op_move ha47 rfl rfl) ?_
   intro a365 ha365; clear ha47 a47
   refine wl_val ha365 rfl rfl rfl (op_len_sl ha365 rfl Try.underlying25 rfl hf39) ?_
   intro a366 ha366; clear ha365 a365
   refine wl_val ha366 rfl rfl rfl (op_gtr ha366 rfl rfl rfl) ?_
   intro a367 ha367; clear ha366 a366
   refine wl_val ha367 rfl rfl rfl (op_pick_f ha367 rfl rfl rfl) ?_
   intro a368 ha368; clear ha367 a367
   refine wpList_nil ?_
   refine then_n ?_
   by_cases c369 : (0 : Int) < ((lb.length : Nat) : Int)
   ·
    rw [decide_eq_true c369] at ha368
    refine cond_t ha368 rfl ?_
    refine wp_skip ?_
    refine then_n ?_
    refine wp_block ?_
    refine wp_block ?_
    refine wp_seq ?_
    refine dr_enter Ext follows_mixed ?_
    intro w370 he371
    have hx372 := hx37.trans' he371
    have hzhx372 := he371.size
    replace hf38 := hf38.ext pos_shRec he371
    replace hf39 := hf39.ext pos_shRec he371
    replace hf40 := hf40.ext he371
    replace hf41 := hf41.ext he371
    have hs373 : Ext w370 w370 := Ext.rfl' _
    refine dr_val (i := 0) ha368 rfl (by kernel_rfl) (by kernel_rfl) (by kernel_rfl) rfl rfl rfl hs373 (fun w' hw' => op_move ha368 rfl rfl) ?_
    intro a374 ha374; clear ha368 a368
    refine dr_val (i := 1) ha374 rfl (by kernel_rfl) (by kernel_rfl) (by kernel_rfl) rfl rfl rfl hs373 (fun w' hw' => op_len_sl ha374 rfl Try.underlying25 rfl hf39) ?_
    intro a375 ha375; clear ha374 a374
    refine dr_val (i := 2) ha375 rfl (by kernel_rfl) (by kernel_rfl) (by kernel_rfl) rfl rfl rfl hs373 (fun w' hw' => op_eql ha375 rfl rfl rfl) ?_
    intro a376 ha376; clear ha375 a375
    refine dr_val (i := 3) ha376 rfl (by kernel_rfl) (by kernel_rfl) (by kernel_rfl) rfl rfl rfl hs373 (fun w' hw' => op_move ha376 rfl rfl) ?_
    intro a377 ha377; clear ha376 a376
    by_cases c378 : ((lb.length : Nat) : Int) = (0 : Int)
    ·
     rw [decide_eq_true c378] at ha377
     refine dr_skip (i := 4) ha377 rfl (by kernel_rfl) (by kernel_rfl) (by kernel_rfl) rfl rfl rfl hs373 ?_
     intro a379 ha379; clear ha377 a377
     refine dr_skip (i := 5) ha379 rfl (by kernel_rfl) (by kernel_rfl) (by kernel_rfl) rfl rfl rfl hs373 ?_
     intro a380 ha380; clear ha379 a379
     refine dr_skip (i := 6) ha380 rfl (by kernel_rfl) (by kernel_rfl) (by kernel_rfl) rfl rfl rfl hs373 ?_
     intro a381 ha381; clear ha380 a380
     refine dr_skip (i := 7) ha381 rfl (by kernel_rfl) (by kernel_rfl) (by kernel_rfl) rfl rfl rfl hs373 ?_
     intro a382 ha382; clear ha381 a381
     refine dr_skip (i := 8) ha382 rfl (by kernel_rfl) (by kernel_rfl) (by kernel_rfl) rfl rfl rfl hs373 ?_
     intro a383 ha383; clear ha382 a382
     refine dr_skip (i := 9) ha383 rfl (by kernel_rfl) (by kernel_rfl) (by kernel_rfl) rfl rfl rfl hs373 ?_
     intro a384 ha384; clear ha383 a383
     refine dr_skip (i := 10) ha384 rfl (by kernel_rfl) (by kernel_rfl) (by kernel_rfl) rfl rfl rfl hs373 ?_
     intro a385 ha385; clear ha384 a384
     refine dr_skip (i := 11) ha385 rfl (by kernel_rfl) (by kernel_rfl) (by kernel_rfl) rfl rfl rfl hs373 ?_
     intro a386 ha386; clear ha385 a385
     refine dr_skip (i := 12) ha386 rfl (by kernel_rfl) (by kernel_rfl) (by kernel_rfl) rfl rfl rfl hs373 ?_
     intro a387 ha387; clear ha386 a386
     refine dr_skip (i := 13) ha387 rfl (by kernel_rfl) (by kernel_rfl) (by kernel_rfl) rfl rfl rfl hs373 ?_
     intro a388 ha388; clear ha387 a387
     refine dr_skip (i := 14) ha388 rfl (by kernel_rfl) (by kernel_rfl) (by kernel_rfl) rfl rfl rfl hs373 ?_
     intro a389 ha389; clear ha388 a388
     refine dr_skip (i := 15) ha389 rfl (by kernel_rfl) (by kernel_rfl) (by kernel_rfl) rfl rfl rfl hs373 ?_
     intro a390 ha390; clear ha389 a389
     refine dr_skip (i := 16) ha390 rfl (by kernel_rfl) (by kernel_rfl) (by kernel_rfl) rfl rfl rfl hs373 ?_
     intro a391 ha391; clear ha390 a390
     refine dr_skip (i := 17) ha391 rfl (by kernel_rfl) (by kernel_rfl) (by kernel_rfl) rfl rfl rfl hs373 ?_
     intro a392 ha392; clear ha391 a391
     refine dr_val (i := 18) ha392 rfl (by kernel_rfl) (by kernel_rfl) (by kernel_rfl) rfl rfl rfl hs373 (fun w' hw' => op_pick_t ha392 rfl rfl rfl) ?_
     intro a393 ha393; clear ha392 a392
     refine dr_val (i := 19) ha393 rfl (by kernel_rfl) (by kernel_rfl) (by kernel_rfl) rfl rfl rfl hs373 (fun w' hw' => op_assign ha393 rfl rfl) ?_
     intro a394 ha394; clear ha393 a393
     refine dr_end (by kernel_rfl) ?_
     replace hf38 := hf38.ext pos_shRec hs373
     replace hf39 := hf39.ext pos_shRec hs373
     replace hf40 := hf40.ext hs373
     replace hf41 := hf41.ext hs373
     refine then_n ?_
     refine cond_t ha394 rfl ?_
     refine wp_seq ?_
     refine wp_region_lit ?_
     refine wl_val ha394 rfl rfl rfl (op_move ha394 rfl rfl) ?_
     intro a395 ha395; clear ha394 a394
     refine wl_val ha395 rfl rfl rfl (op_move ha395 rfl rfl) ?_
     intro a396 ha396; clear ha395 a395
     obtain ⟨x397, hx397⟩ := get_ex (xs := la) (j := 0) (by omega)
     obtain ⟨p398, c399, hi400, hc401, hr402, hs403⟩ := Rds.at_ hf38 hx397
     obtain ⟨rfl, b404, b405⟩ := inv_shRec hr402
     obtain ⟨_, _⟩ : _ ∧ _ := hs403
     refine wl_val ha396 rfl rfl rfl (op_indexAddr ha396 rfl Try.underlying25 ti36 rfl rfl (by omega) hi400) ?_
     intro a406 ha406; clear ha396 a396
     refine wl_val ha406 rfl rfl rfl (op_loadS ha406 rfl Try.underlying36 ti36 rfl rfl hc401) ?_
     intro a407 ha407; clear ha406 a406
     refine wl_eff ha407 rfl rfl rfl (op_buildSlice (s := shRec) (xs := [x397]) (cs := [.int .i64 x397.1, St x397.2]) (vs := [(0, .agg #[.int .i64 x397.1, St x397.2])]) (S := fun _ => False) (le := w370.heap.size) ha407 rfl pos_shRec Try.underlying25 ti36 rfl rfl (by decide) (by kernel_rfl) (Els.single (mk_shRec x397 (by first | assumption | omega | (simp; omega)) (by first | assumption | omega | (simp; omega)))) (fun _ h => h.elim)) ?_
     rintro v408 w409 ⟨ho410, he411, hob412⟩ a413 ha413; clear ha407 a407
     have hx414 := hx372.trans' he411
     have hzhx414 := he411.size
     replace hf38 := hf38.ext pos_shRec he411
     replace hf39 := hf39.ext pos_shRec he411
     replace hf40 := hf40.ext he411
     replace hf41 := hf41.ext he411
     replace hc401 := hc401.ext he411
     refine wl_eff ha413 rfl rfl rfl (op_append (ts := #[]) (s := shRec) ha413 rfl Try.underlying25 ti36 rfl pos_shRec rfl rfl hf40 (ho410.rds pos_shRec) (by omega) (by omega) (by first | omega | (simp; omega)) (by first | omega | (simp; omega)) (.inl flat_shRec)) ?_
     rintro v415 w416 ⟨ho417, hst418, hob419⟩ a420 ha420; clear ha413 a413
     have hx421 := hx414.stp hst418 (by intro q hq; have hq0 := hf40.lt q hq; omega)
     have hzhx421 := hst418.size
     replace hf38 := hf38.stp pos_shRec hst418 (by intro q hq; have hq0 := hf40.lt q hq; exact not_iv (by omega))
     replace hf39 := hf39.stp pos_shRec hst418 (by intro q hq; have hq0 := hf40.lt q hq; exact not_iv (by omega))
     first | replace hf41 := hf41.stp hst418 (by intro q hq; have hq0 := hf40.lt q hq; omega) | replace hf41 := hf41.stpF flat_shI64 hst418 (hf41.ne hf40 rfl)
     replace hc401 := hc401.stp hst418 (by intro q hq; have hq0 := hf40.lt q hq; omega)
     replace ho410 := ho410.stp hst418 (by intro q hq; have hq0 := hf40.lt q hq; omega)
     have hsp422 : ∀ q, Value.ownBlock v415 = some q → Value.ownBlock v408 ≠ some q := by intro q hq hb; have hq0 := ho410.lt q hb; rcases hob419 with h | h; (rw [h] at hq; first | (have hq1 := hf40.lt q hq; omega)); (rw [h] at hq; cases hq; omega)
     refine wl_val ha420 rfl rfl rfl (op_assign ha420 rfl rfl) ?_
     intro a423 ha423; clear ha420 a420
     refine wpList_nil ?_
     refine then_n ?_
     refine wp_region_lit ?_
     refine wl_val ha423 rfl rfl rfl (op_move ha423 rfl rfl) ?_
     intro a424 ha424; clear ha423 a423
     obtain ⟨u425, hu426, hr427⟩ := Rds.part hf38 Try.underlying25 ti36 (some (.int .i64 (1 : Nat))) none 1 la.length (.inr ⟨.i64, rfl⟩) (.inl ⟨rfl, rfl⟩) (by omega) (by omega)
     replace hr427 := hr427.cast (ys := la.drop 1) (by first | rw [List.take_length] | simp)
     refine wl_val ha424 rfl rfl rfl (op_slice_f (by omega) ha424 rfl rfl rfl hu426) ?_
     intro a428 ha428; clear ha424 a424
     refine wl_val ha428 rfl rfl rfl (op_assign ha428 rfl rfl) ?_
     intro a429 ha429; clear ha428 a428
     refine wpList_nil ?_
     refine block_n ?_
     refine block_n ?_
     refine round_end (x := (la, lb, va, vb, v, acc, v2, dac)) (la.drop 1, lb, u425, vb, v415, (acc ++ [x397]), v2, dac) ?_ ?_
     ·
      refine ⟨(Sl.cons_ ha429 rfl rfl (Sl.cons_ ha429 rfl rfl (Sl.cons_ ha429 rfl rfl (Sl.cons_ ha429 rfl rfl (Sl.nil_ ha429))))), hx421, hr427, hf39, (ho417.fin (by omega) (by omega) (by omega)), (hf41.fin (by omega) (by omega) (by omega)), (by omega), (by simp only [List.length_append, List.length_drop, List.length_singleton]; omega), (by simp only [List.length_append, List.length_singleton]; omega), (by exfalso; omega), (by exfalso; omega)⟩
     ·show ((la.drop 1).length + lb.length : Nat) < la.length + lb.length; (simp only [List.length_drop]; omega)
    ·
     rw [decide_eq_false c378] at ha377
     refine dr_val (i := 4) ha377 rfl (by kernel_rfl) (by kernel_rfl) (by kernel_rfl) rfl rfl rfl hs373 (fun w' hw' => op_move ha377 rfl rfl) ?_
     intro a430 ha430; clear ha377 a377
     refine dr_val (i := 5) ha430 rfl (by kernel_rfl) (by kernel_rfl) (by kernel_rfl) rfl rfl rfl hs373 (fun w' hw' => op_len_sl ha430 rfl Try.underlying25 rfl hf38) ?_
     intro a431 ha431; clear ha430 a430
     refine dr_val (i := 6) ha431 rfl (by kernel_rfl) (by kernel_rfl) (by kernel_rfl) rfl rfl rfl hs373 (fun w' hw' => op_gtr ha431 rfl rfl rfl) ?_
     intro a432 ha432; clear ha431 a431
     refine dr_val (i := 7) ha432 rfl (by kernel_rfl) (by kernel_rfl) (by kernel_rfl) rfl rfl rfl hs373 (fun w' hw' => op_move ha432 rfl rfl) ?_
     intro a433 ha433; clear ha432 a432
     rw [decide_eq_false c48] at ha433
     refine dr_skip (i := 8) ha433 rfl (by kernel_rfl) (by kernel_rfl) (by kernel_rfl) rfl rfl rfl hs373 ?_
     intro a434 ha434; clear ha433 a433
     refine dr_skip (i := 9) ha434 rfl (by kernel_rfl) (by kernel_rfl) (by kernel_rfl) rfl rfl rfl hs373 ?_
     intro a435 ha435; clear ha434 a434
     refine dr_skip (i := 10) ha435 rfl (by kernel_rfl) (by kernel_rfl) (by kernel_rfl) rfl rfl rfl hs373 ?_
     intro a436 ha436; clear ha435 a435
     refine dr_skip (i := 11) ha436 rfl (by kernel_rfl) (by kernel_rfl) (by kernel_rfl) rfl rfl rfl hs373 ?_
     intro a437 ha437; clear ha436 a436
     refine dr_skip (i := 12) ha437 rfl (by kernel_rfl) (by kernel_rfl) (by kernel_rfl) rfl rfl rfl hs373 ?_
     intro a438 ha438; clear ha437 a437
     refine dr_skip (i := 13) ha438 rfl (by kernel_rfl) (by kernel_rfl) (by kernel_rfl) rfl rfl rfl hs373 ?_
     intro a439 ha439; clear ha438 a438
     refine dr_skip (i := 14) ha439 rfl (by kernel_rfl) (by kernel_rfl) (by kernel_rfl) rfl rfl rfl hs373 ?_
     intro a440 ha440; clear ha439 a439
     refine dr_skip (i := 15) ha440 rfl (by kernel_rfl) (by kernel_rfl) (by kernel_rfl) rfl rfl rfl hs373 ?_
     intro a441 ha441; clear ha440 a440
     refine dr_skip (i := 16) ha441 rfl (by kernel_rfl) (by kernel_rfl) (by kernel_rfl) rfl rfl rfl hs373 ?_
     intro a442 ha442; clear ha441 a441
     refine dr_val (i := 17) ha442 rfl (by kernel_rfl) (by kernel_rfl) (by kernel_rfl) rfl rfl rfl hs373 (fun w' hw' => op_pick_f ha442 rfl rfl rfl) ?_
     intro a443 ha443; clear ha442 a442
     refine dr_val (i := 18) ha443 rfl (by kernel_rfl) (by kernel_rfl) (by kernel_rfl) rfl rfl rfl hs373 (fun w' hw' => op_pick_f ha443 rfl rfl rfl) ?_
     intro a444 ha444; clear ha443 a443
     refine dr_val (i := 19) ha444 rfl (by kernel_rfl) (by kernel_rfl) (by kernel_rfl) rfl rfl rfl hs373 (fun w' hw' => op_assign ha444 rfl rfl) ?_
     intro a445 ha445; clear ha444 a444
     refine dr_end (by kernel_rfl) ?_
     replace hf38 := hf38.ext pos_shRec hs373
     replace hf39 := hf39.ext pos_shRec hs373
     replace hf40 := hf40.ext hs373
     replace hf41 := hf41.ext hs373
     refine then_n ?_
     refine cond_f ha445 rfl ?_
     refine wp_seq ?_
     refine dr_enter Ext follows_mixed ?_
     intro w446 he447
     have hx448 := hx372.trans' he447
     have hzhx448 := he447.size
     replace hf38 := hf38.ext pos_shRec he447
     replace hf39 := hf39.ext pos_shRec he447
     replace hf40 := hf40.ext he447
     replace hf41 := hf41.ext he447
     have hs449 : Ext w446 w446 := Ext.rfl' _
     refine dr_val (i := 0) ha445 rfl (by kernel_rfl) (by kernel_rfl) (by kernel_rfl) rfl rfl rfl hs449 (fun w' hw' => op_move ha445 rfl rfl) ?_
     intro a450 ha450; clear ha445 a445
     refine dr_val (i := 1) ha450 rfl (by kernel_rfl) (by kernel_rfl) (by kernel_rfl) rfl rfl rfl hs449 (fun w' hw' => op_len_sl ha450 rfl Try.underlying25 rfl hf38) ?_
     intro a451 ha451; clear ha450 a450
     refine dr_val (i := 2) ha451 rfl (by kernel_rfl) (by kernel_rfl) (by kernel_rfl) rfl rfl rfl hs449 (fun w' hw' => op_eql ha451 rfl rfl rfl) ?_
     intro a452 ha452; clear ha451 a451
     refine dr_val (i := 3) ha452 rfl (by kernel_rfl) (by kernel_rfl) (by kernel_rfl) rfl rfl rfl hs449 (fun w' hw' => op_move ha452 rfl rfl) ?_
     intro a453 ha453; clear ha452 a452
     by_cases c454 : ((la.length : Nat) : Int) = (0 : Int)
     ·
      rw [decide_eq_true c454] at ha453
      refine dr_skip (i := 4) ha453 rfl (by kernel_rfl) (by kernel_rfl) (by kernel_rfl) rfl rfl rfl hs449 ?_
      intro a455 ha455; clear ha453 a453
      refine dr_skip (i := 5) ha455 rfl (by kernel_rfl) (by kernel_rfl) (by kernel_rfl) rfl rfl rfl hs449 ?_
      intro a456 ha456; clear ha455 a455
      refine dr_skip (i := 6) ha456 rfl (by kernel_rfl) (by kernel_rfl) (by kernel_rfl) rfl rfl rfl hs449 ?_
      intro a457 ha457; clear ha456 a456
      refine dr_skip (i := 7) ha457 rfl (by kernel_rfl) (by kernel_rfl) (by kernel_rfl) rfl rfl rfl hs449 ?_
      intro a458 ha458; clear ha457 a457
      refine dr_skip (i := 8) ha458 rfl (by kernel_rfl) (by kernel_rfl) (by kernel_rfl) rfl rfl rfl hs449 ?_
      intro a459 ha459; clear ha458 a458
      refine dr_skip (i := 9) ha459 rfl (by kernel_rfl) (by kernel_rfl) (by kernel_rfl) rfl rfl rfl hs449 ?_
      intro a460 ha460; clear ha459 a459
      refine dr_skip (i := 10) ha460 rfl (by kernel_rfl) (by kernel_rfl) (by kernel_rfl) rfl rfl rfl hs449 ?_
      intro a461 ha461; clear ha460 a460
      refine dr_skip (i := 11) ha461 rfl (by kernel_rfl) (by kernel_rfl) (by kernel_rfl) rfl rfl rfl hs449 ?_
      intro a462 ha462; clear ha461 a461
      refine dr_skip (i := 12) ha462 rfl (by kernel_rfl) (by kernel_rfl) (by kernel_rfl) rfl rfl rfl hs449 ?_
      intro a463 ha463; clear ha462 a462
      refine dr_val (i := 13) ha463 rfl (by kernel_rfl) (by kernel_rfl) (by kernel_rfl) rfl rfl rfl hs449 (fun w' hw' => op_pick_t ha463 rfl rfl rfl) ?_
      intro a464 ha464; clear ha463 a463
      refine dr_val (i := 14) ha464 rfl (by kernel_rfl) (by kernel_rfl) (by kernel_rfl) rfl rfl rfl hs449 (fun w' hw' => op_assign ha464 rfl rfl) ?_
      intro a465 ha465; clear ha464 a464
      refine dr_end (by kernel_rfl) ?_
      replace hf38 := hf38.ext pos_shRec hs449
      replace hf39 := hf39.ext pos_shRec hs449
      replace hf40 := hf40.ext hs449
      replace hf41 := hf41.ext hs449
      refine then_n ?_
      refine cond_t ha465 rfl ?_
      refine wp_seq ?_
      refine wp_region_lit ?_
      refine wl_val ha465 rfl rfl rfl (op_move ha465 rfl rfl) ?_
      intro a466 ha466; clear ha465 a465
      refine wl_val ha466 rfl rfl rfl (op_move ha466 rfl rfl) ?_
      intro a467 ha467; clear ha466 a466
      obtain ⟨x468, hx468⟩ := get_ex (xs := lb) (j := 0) (by omega)
      obtain ⟨p469, c470, hi471, hc472, hr473, hs474⟩ := Rds.at_ hf39 hx468
      obtain ⟨rfl, b475, b476⟩ := inv_shRec hr473
      obtain ⟨_, _⟩ : _ ∧ _ := hs474
      refine wl_val ha467 rfl rfl rfl (op_indexAddr ha467 rfl Try.underlying25 ti36 rfl rfl (by omega) hi471) ?_
      intro a477 ha477; clear ha467 a467
      refine wl_val ha477 rfl rfl rfl (op_loadS ha477 rfl Try.underlying36 ti36 rfl rfl hc472) ?_
      intro a478 ha478; clear ha477 a477
      refine wl_eff ha478 rfl rfl rfl (op_buildSlice (s := shRec) (xs := [x468]) (cs := [.int .i64 x468.1, St x468.2]) (vs := [(0, .agg #[.int .i64 x468.1, St x468.2])]) (S := fun _ => False) (le := w446.heap.size) ha478 rfl pos_shRec Try.underlying25 ti36 rfl rfl (by decide) (by kernel_rfl) (Els.single (mk_shRec x468 (by first | assumption | omega | (simp; omega)) (by first | assumption | omega | (simp; omega)))) (fun _ h => h.elim)) ?_
      rintro v479 w480 ⟨ho481, he482, hob483⟩ a484 ha484; clear ha478 a478
      have hx485 := hx448.trans' he482
      have hzhx485 := he482.size
      replace hf38 := hf38.ext pos_shRec he482
      replace hf39 := hf39.ext pos_shRec he482
      replace hf40 := hf40.ext he482
      replace hf41 := hf41.ext he482
      replace hc472 := hc472.ext he482
      refine wl_eff ha484 rfl rfl rfl (op_append (ts := #[]) (s := shRec) ha484 rfl Try.underlying25 ti36 rfl pos_shRec rfl rfl hf40 (ho481.rds pos_shRec) (by omega) (by omega) (by first | omega | (simp; omega)) (by first | omega | (simp; omega)) (.inl flat_shRec)) ?_
      rintro v486 w487 ⟨ho488, hst489, hob490⟩ a491 ha491; clear ha484 a484
      have hx492 := hx485.stp hst489 (by intro q hq; have hq0 := hf40.lt q hq; omega)
      have hzhx492 := hst489.size
      replace hf38 := hf38.stp pos_shRec hst489 (by intro q hq; have hq0 := hf40.lt q hq; exact not_iv (by omega))
      replace hf39 := hf39.stp pos_shRec hst489 (by intro q hq; have hq0 := hf40.lt q hq; exact not_iv (by omega))
      first | replace hf41 := hf41.stp hst489 (by intro q hq; have hq0 := hf40.lt q hq; omega) | replace hf41 := hf41.stpF flat_shI64 hst489 (hf41.ne hf40 rfl)
      replace hc472 := hc472.stp hst489 (by intro q hq; have hq0 := hf40.lt q hq; omega)
      replace ho481 := ho481.stp hst489 (by intro q hq; have hq0 := hf40.lt q hq; omega)
      have hsp493 : ∀ q, Value.ownBlock v486 = some q → Value.ownBlock v479 ≠ some q := by intro q hq hb; have hq0 := ho481.lt q hb; rcases hob490 with h | h; (rw [h] at hq; first | (have hq1 := hf40.lt q hq; omega)); (rw [h] at hq; cases hq; omega)
      refine wl_val ha491 rfl rfl rfl (op_assign ha491 rfl rfl) ?_
      intro a494 ha494; clear ha491 a491
      refine wpList_nil ?_
      refine then_n ?_
      refine wp_region_lit ?_
      refine wl_val ha494 rfl rfl rfl (op_move ha494 rfl rfl) ?_
      intro a495 ha495; clear ha494 a494
      obtain ⟨u496, hu497, hr498⟩ := Rds.part hf39 Try.underlying25 ti36 (some (.int .i64 (1 : Nat))) none 1 lb.length (.inr ⟨.i64, rfl⟩) (.inl ⟨rfl, rfl⟩) (by omega) (by omega)
      replace hr498 := hr498.cast (ys := lb.drop 1) (by first | rw [List.take_length] | simp)
      refine wl_val ha495 rfl rfl rfl (op_slice_f (by omega) ha495 rfl rfl rfl hu497) ?_
      intro a499 ha499; clear ha495 a495
      refine wl_val ha499 rfl rfl rfl (op_assign ha499 rfl rfl) ?_
      intro a500 ha500; clear ha499 a499
      refine wpList_nil ?_
      refine block_n ?_
      refine block_n ?_
      refine round_end (x := (la, lb, va, vb, v, acc, v2, dac)) (la, lb.drop 1, va, u496, v486, (acc ++ [x468]), v2, dac) ?_ ?_
      ·
       refine ⟨(Sl.cons_ ha500 rfl rfl (Sl.cons_ ha500 rfl rfl (Sl.cons_ ha500 rfl rfl (Sl.cons_ ha500 rfl rfl (Sl.nil_ ha500))))), hx492, hf38, hr498, (ho488.fin (by omega) (by omega) (by omega)), (hf41.fin (by omega) (by omega) (by omega)), (by omega), (by simp only [List.length_append, List.length_drop, List.length_singleton]; omega), (by simp only [List.length_append, List.length_singleton]; omega), (by rw [(mrg_r hx468 (.inl (nil_len (by omega)))).1] at hF; rw [← hF]; try simp), (by rw [(mrg_r hx468 (.inl (nil_len (by omega)))).2] at hG; rw [← hG]; try simp)⟩
      ·show (la.length + (lb.drop 1).length : Nat) < la.length + lb.length; (simp only [List.length_drop]; omega)
     ·
      rw [decide_eq_false c454] at ha453
      refine dr_val (i := 4) ha453 rfl (by kernel_rfl) (by kernel_rfl) (by kernel_rfl) rfl rfl rfl hs449 (fun w' hw' => op_move ha453 rfl rfl) ?_
      intro a501 ha501; clear ha453 a453
      obtain ⟨x502, hx502⟩ := get_ex (xs := lb) (j := 0) (by omega)
      obtain ⟨p503, c504, hi505, hc506, hr507, hs508⟩ := Rds.at_ hf39 hx502
      obtain ⟨rfl, b509, b510⟩ := inv_shRec hr507
      obtain ⟨_, _⟩ : _ ∧ _ := hs508
      refine dr_val (i := 5) ha501 rfl (by kernel_rfl) (by kernel_rfl) (by kernel_rfl) rfl rfl rfl hs449 (fun w' hw' => op_indexAddr ha501 rfl Try.underlying25 ti36 rfl rfl (by omega) hi505) ?_
      intro a511 ha511; clear ha501 a501
      refine dr_val (i := 6) ha511 rfl (by kernel_rfl) (by kernel_rfl) (by kernel_rfl) rfl rfl rfl hs449 (fun w' hw' => op_fieldAddr (sz := 0) ha511 rfl Try.underlying36 rfl rfl ti2 rfl) ?_
      intro a512 ha512; clear ha511 a511
      refine dr_val (i := 7) ha512 rfl (by kernel_rfl) (by kernel_rfl) (by kernel_rfl) rfl rfl rfl hs449 (fun w' hw' => op_loadF (off := 0) ha512 rfl Try.underlying2 rfl rfl (hc506.ext hw') rfl) ?_
      intro a513 ha513; clear ha512 a512
      refine dr_val (i := 8) ha513 rfl (by kernel_rfl) (by kernel_rfl) (by kernel_rfl) rfl rfl rfl hs449 (fun w' hw' => op_move ha513 rfl rfl) ?_
      intro a514 ha514; clear ha513 a513
      obtain ⟨x515, hx515⟩ := get_ex (xs := la) (j := 0) (by omega)
      obtain ⟨p516, c517, hi518, hc519, hr520, hs521⟩ := Rds.at_ hf38 hx515
      obtain ⟨rfl, b522, b523⟩ := inv_shRec hr520
      obtain ⟨_, _⟩ : _ ∧ _ := hs521
      refine dr_val (i := 9) ha514 rfl (by kernel_rfl) (by kernel_rfl) (by kernel_rfl) rfl rfl rfl hs449 (fun w' hw' => op_indexAddr ha514 rfl Try.underlying25 ti36 rfl rfl (by omega) hi518) ?_
      intro a524 ha524; clear ha514 a514
      refine dr_val (i := 10) ha524 rfl (by kernel_rfl) (by kernel_rfl) (by kernel_rfl) rfl rfl rfl hs449 (fun w' hw' => op_fieldAddr (sz := 0) ha524 rfl Try.underlying36 rfl rfl ti2 rfl) ?_
      intro a525 ha525; clear ha524 a524
      refine dr_val (i := 11) ha525 rfl (by kernel_rfl) (by kernel_rfl) (by kernel_rfl) rfl rfl rfl hs449 (fun w' hw' => op_loadF (off := 0) ha525 rfl Try.underlying2 rfl rfl (hc519.ext hw') rfl) ?_
      intro a526 ha526; clear ha525 a525
      refine dr_val (i := 12) ha526 rfl (by kernel_rfl) (by kernel_rfl) (by kernel_rfl) rfl rfl rfl hs449 (fun w' hw' => op_lss ha526 rfl rfl rfl) ?_
      intro a527 ha527; clear ha526 a526
      refine dr_val (i := 13) ha527 rfl (by kernel_rfl) (by kernel_rfl) (by kernel_rfl) rfl rfl rfl hs449 (fun w' hw' => op_pick_f ha527 rfl rfl rfl) ?_
      intro a528 ha528; clear ha527 a527
      refine dr_val (i := 14) ha528 rfl (by kernel_rfl) (by kernel_rfl) (by kernel_rfl) rfl rfl rfl hs449 (fun w' hw' => op_assign ha528 rfl rfl) ?_
      intro a529 ha529; clear ha528 a528
      refine dr_end (by kernel_rfl) ?_
      replace hf38 := hf38.ext pos_shRec hs449
      replace hf39 := hf39.ext pos_shRec hs449
      replace hf40 := hf40.ext hs449
      replace hf41 := hf41.ext hs449
      replace hc506 := hc506.ext hs449
      replace hc519 := hc519.ext hs449
      refine then_n ?_
      by_cases c530 : x502.1 < x515.1
      ·
       rw [decide_eq_true c530] at ha529
       refine cond_t ha529 rfl ?_
       refine wp_seq ?_
       refine wp_region_lit ?_
       refine wl_val ha529 rfl rfl rfl (op_move ha529 rfl rfl) ?_
       intro a531 ha531; clear ha529 a529
       refine wl_val ha531 rfl rfl rfl (op_move ha531 rfl rfl) ?_
       intro a532 ha532; clear ha531 a531
       refine wl_val ha532 rfl rfl rfl (op_indexAddr ha532 rfl Try.underlying25 ti36 rfl rfl (by omega) hi505) ?_
       intro a533 ha533; clear ha532 a532
       refine wl_val ha533 rfl rfl rfl (op_loadS ha533 rfl Try.underlying36 ti36 rfl rfl hc506) ?_
       intro a534 ha534; clear ha533 a533
       refine wl_eff ha534 rfl rfl rfl (op_buildSlice (s := shRec) (xs := [x502]) (cs := [.int .i64 x502.1, St x502.2]) (vs := [(0, .agg #[.int .i64 x502.1, St x502.2])]) (S := fun _ => False) (le := w446.heap.size) ha534 rfl pos_shRec Try.underlying25 ti36 rfl rfl (by decide) (by kernel_rfl) (Els.single (mk_shRec x502 (by first | assumption | omega | (simp; omega)) (by first | assumption | omega | (simp; omega)))) (fun _ h => h.elim)) ?_
       rintro v535 w536 ⟨ho537, he538, hob539⟩ a540 ha540; clear ha534 a534
       have hx541 := hx448.trans' he538
       have hzhx541 := he538.size
       replace hf38 := hf38.ext pos_shRec he538
       replace hf39 := hf39.ext pos_shRec he538
       replace hf40 := hf40.ext he538
       replace hf41 := hf41.ext he538
       replace hc506 := hc506.ext he538
       replace hc519 := hc519.ext he538
       refine wl_eff ha540 rfl rfl rfl (op_append (ts := #[]) (s := shRec) ha540 rfl Try.underlying25 ti36 rfl pos_shRec rfl rfl hf40 (ho537.rds pos_shRec) (by omega) (by omega) (by first | omega | (simp; omega)) (by first | omega | (simp; omega)) (.inl flat_shRec)) ?_
       rintro v542 w543 ⟨ho544, hst545, hob546⟩ a547 ha547; clear ha540 a540
       have hx548 := hx541.stp hst545 (by intro q hq; have hq0 := hf40.lt q hq; omega)
       have hzhx548 := hst545.size
       replace hf38 := hf38.stp pos_shRec hst545 (by intro q hq; have hq0 := hf40.lt q hq; exact not_iv (by omega))
       replace hf39 := hf39.stp pos_shRec hst545 (by intro q hq; have hq0 := hf40.lt q hq; exact not_iv (by omega))
       first | replace hf41 := hf41.stp hst545 (by intro q hq; have hq0 := hf40.lt q hq; omega) | replace hf41 := hf41.stpF flat_shI64 hst545 (hf41.ne hf40 rfl)
       replace hc506 := hc506.stp hst545 (by intro q hq; have hq0 := hf40.lt q hq; omega)
       replace hc519 := hc519.stp hst545 (by intro q hq; have hq0 := hf40.lt q hq; omega)
       replace ho537 := ho537.stp hst545 (by intro q hq; have hq0 := hf40.lt q hq; omega)
       have hsp549 : ∀ q, Value.ownBlock v542 = some q → Value.ownBlock v535 ≠ some q := by intro q hq hb; have hq0 := ho537.lt q hb; rcases hob546 with h | h; (rw [h] at hq; first | (have hq1 := hf40.lt q hq; omega)); (rw [h] at hq; cases hq; omega)
       refine wl_val ha547 rfl rfl rfl (op_assign ha547 rfl rfl) ?_
       intro a550 ha550; clear ha547 a547
       refine wpList_nil ?_
       refine then_n ?_
       refine wp_region_lit ?_
       refine wl_val ha550 rfl rfl rfl (op_move ha550 rfl rfl) ?_
       intro a551 ha551; clear ha550 a550
       obtain ⟨u552, hu553, hr554⟩ := Rds.part hf39 Try.underlying25 ti36 (some (.int .i64 (1 : Nat))) none 1 lb.length (.inr ⟨.i64, rfl⟩) (.inl ⟨rfl, rfl⟩) (by omega) (by omega)
       replace hr554 := hr554.cast (ys := lb.drop 1) (by first | rw [List.take_length] | simp)
       refine wl_val ha551 rfl rfl rfl (op_slice_f (by omega) ha551 rfl rfl rfl hu553) ?_
       intro a555 ha555; clear ha551 a551
       refine wl_val ha555 rfl rfl rfl (op_assign ha555 rfl rfl) ?_
       intro a556 ha556; clear ha555 a555
       refine wpList_nil ?_
       refine block_n ?_
       refine block_n ?_
       refine round_end (x := (la, lb, va, vb, v, acc, v2, dac)) (la, lb.drop 1, va, u552, v542, (acc ++ [x502]), v2, dac) ?_ ?_
       ·
        refine ⟨(Sl.cons_ ha556 rfl rfl (Sl.cons_ ha556 rfl rfl (Sl.cons_ ha556 rfl rfl (Sl.cons_ ha556 rfl rfl (Sl.nil_ ha556))))), hx548, hf38, hr554, (ho544.fin (by omega) (by omega) (by omega)), (hf41.fin (by omega) (by omega) (by omega)), (by omega), (by simp only [List.length_append, List.length_drop, List.length_singleton]; omega), (by simp only [List.length_append, List.length_singleton]; omega), (by exfalso; omega), (by exfalso; omega)⟩
       ·show (la.length + (lb.drop 1).length : Nat) < la.length + lb.length; (simp only [List.length_drop]; omega)
      ·
       rw [decide_eq_false c530] at ha529
       refine cond_f ha529 rfl ?_
       refine wp_seq ?_
       refine wp_seq ?_
       refine dr_enter Ext follows_mixed ?_
       intro w557 he558
       have hx559 := hx448.trans' he558
       have hzhx559 := he558.size
       replace hf38 := hf38.ext pos_shRec he558
       replace hf39 := hf39.ext pos_shRec he558
       replace hf40 := hf40.ext he558
       replace hf41 := hf41.ext he558
       replace hc506 := hc506.ext he558
       replace hc519 := hc519.ext he558
       have hs560 : Ext w557 w557 := Ext.rfl' _
       refine dr_val (i := 0) ha529 rfl (by kernel_rfl) (by kernel_rfl) (by kernel_rfl) rfl rfl rfl hs560 (fun w' hw' => op_move ha529 rfl rfl) ?_
       intro a561 ha561; clear ha529 a529
       refine dr_val (i := 1) ha561 rfl (by kernel_rfl) (by kernel_rfl) (by kernel_rfl) rfl rfl rfl hs560 (fun w' hw' => op_indexAddr ha561 rfl Try.underlying25 ti36 rfl rfl (by omega) hi518) ?_
       intro a562 ha562; clear ha561 a561
       refine dr_val (i := 2) ha562 rfl (by kernel_rfl) (by kernel_rfl) (by kernel_rfl) rfl rfl rfl hs560 (fun w' hw' => op_fieldAddr (sz := 0) ha562 rfl Try.underlying36 rfl rfl ti9 rfl) ?_
       intro a563 ha563; clear ha562 a562
       refine dr_val (i := 3) ha563 rfl (by kernel_rfl) (by kernel_rfl) (by kernel_rfl) rfl rfl rfl hs560 (fun w' hw' => op_loadF (off := 1) ha563 rfl Try.underlying9 rfl rfl (hc519.ext hw') rfl) ?_
       intro a564 ha564; clear ha563 a563
       refine dr_val (i := 4) ha564 rfl (by kernel_rfl) (by kernel_rfl) (by kernel_rfl) rfl rfl rfl hs560 (fun w' hw' => op_move ha564 rfl rfl) ?_
       intro a565 ha565; clear ha564 a564
       refine dr_val (i := 5) ha565 rfl (by kernel_rfl) (by kernel_rfl) (by kernel_rfl) rfl rfl rfl hs560 (fun w' hw' => op_indexAddr ha565 rfl Try.underlying25 ti36 rfl rfl (by omega) hi505) ?_
       intro a566 ha566; clear ha565 a565
       refine dr_val (i := 6) ha566 rfl (by kernel_rfl) (by kernel_rfl) (by kernel_rfl) rfl rfl rfl hs560 (fun w' hw' => op_fieldAddr (sz := 0) ha566 rfl Try.underlying36 rfl rfl ti9 rfl) ?_
       intro a567 ha567; clear ha566 a566
       refine dr_val (i := 7) ha567 rfl (by kernel_rfl) (by kernel_rfl) (by kernel_rfl) rfl rfl rfl hs560 (fun w' hw' => op_loadF (off := 1) ha567 rfl Try.underlying9 rfl rfl (hc506.ext hw') rfl) ?_
       intro a568 ha568; clear ha567 a567
       refine dr_val (i := 8) ha568 rfl (by kernel_rfl) (by kernel_rfl) (by kernel_rfl) rfl rfl rfl hs560 (fun w' hw' => (op_sneq ha568 rfl rfl rfl).to (congrArg Value.bool decide_not)) ?_
       intro a569 ha569; clear ha568 a568
       refine dr_end (by kernel_rfl) ?_
       replace hf38 := hf38.ext pos_shRec hs560
       replace hf39 := hf39.ext pos_shRec hs560
       replace hf40 := hf40.ext hs560
       replace hf41 := hf41.ext hs560
       replace hc506 := hc506.ext hs560
       replace hc519 := hc519.ext hs560
       refine then_n ?_
       by_cases c570 : x515.2 = x502.2
       ·
        rw [decide_eq_true c570] at ha569
        refine cond_f ha569 rfl ?_
        refine wp_skip ?_
        refine then_n ?_
        refine wp_seq ?_
        refine wp_region_lit ?_
        refine wl_val ha569 rfl rfl rfl (op_move ha569 rfl rfl) ?_
        intro a571 ha571; clear ha569 a569
        refine wl_val ha571 rfl rfl rfl (op_move ha571 rfl rfl) ?_
        intro a572 ha572; clear ha571 a571
        refine wl_val ha572 rfl rfl rfl (op_indexAddr ha572 rfl Try.underlying25 ti36 rfl rfl (by omega) hi518) ?_
        intro a573 ha573; clear ha572 a572
        refine wl_val ha573 rfl rfl rfl (op_loadS ha573 rfl Try.underlying36 ti36 rfl rfl hc519) ?_
        intro a574 ha574; clear ha573 a573
        refine wl_eff ha574 rfl rfl rfl (op_buildSlice (s := shRec) (xs := [x515]) (cs := [.int .i64 x515.1, St x515.2]) (vs := [(0, .agg #[.int .i64 x515.1, St x515.2])]) (S := fun _ => False) (le := w557.heap.size) ha574 rfl pos_shRec Try.underlying25 ti36 rfl rfl (by decide) (by kernel_rfl) (Els.single (mk_shRec x515 (by first | assumption | omega | (simp; omega)) (by first | assumption | omega | (simp; omega)))) (fun _ h => h.elim)) ?_
        rintro v575 w576 ⟨ho577, he578, hob579⟩ a580 ha580; clear ha574 a574
        have hx581 := hx559.trans' he578
        have hzhx581 := he578.size
        replace hf38 := hf38.ext pos_shRec he578
        replace hf39 := hf39.ext pos_shRec he578
        replace hf40 := hf40.ext he578
        replace hf41 := hf41.ext he578
        replace hc506 := hc506.ext he578
        replace hc519 := hc519.ext he578
        refine wl_eff ha580 rfl rfl rfl (op_append (ts := #[]) (s := shRec) ha580 rfl Try.underlying25 ti36 rfl pos_shRec rfl rfl hf40 (ho577.rds pos_shRec) (by omega) (by omega) (by first | omega | (simp; omega)) (by first | omega | (simp; omega)) (.inl flat_shRec)) ?_
        rintro v582 w583 ⟨ho584, hst585, hob586⟩ a587 ha587; clear ha580 a580
        have hx588 := hx581.stp hst585 (by intro q hq; have hq0 := hf40.lt q hq; omega)
        have hzhx588 := hst585.size
        replace hf38 := hf38.stp pos_shRec hst585 (by intro q hq; have hq0 := hf40.lt q hq; exact not_iv (by omega))
        replace hf39 := hf39.stp pos_shRec hst585 (by intro q hq; have hq0 := hf40.lt q hq; exact not_iv (by omega))
        first | replace hf41 := hf41.stp hst585 (by intro q hq; have hq0 := hf40.lt q hq; omega) | replace hf41 := hf41.stpF flat_shI64 hst585 (hf41.ne hf40 rfl)
        replace hc506 := hc506.stp hst585 (by intro q hq; have hq0 := hf40.lt q hq; omega)
        replace hc519 := hc519.stp hst585 (by intro q hq; have hq0 := hf40.lt q hq; omega)
        replace ho577 := ho577.stp hst585 (by intro q hq; have hq0 := hf40.lt q hq; omega)
        have hsp589 : ∀ q, Value.ownBlock v582 = some q → Value.ownBlock v575 ≠ some q := by intro q hq hb; have hq0 := ho577.lt q hb; rcases hob586 with h | h; (rw [h] at hq; first | (have hq1 := hf40.lt q hq; omega)); (rw [h] at hq; cases hq; omega)
        refine wl_val ha587 rfl rfl rfl (op_assign ha587 rfl rfl) ?_
        intro a590 ha590; clear ha587 a587
        refine wpList_nil ?_
        refine then_n ?_
        refine dr_enter Ext follows_mixed ?_
        intro w591 he592
        have hx593 := hx588.trans' he592
        have hzhx593 := he592.size
        replace hf38 := hf38.ext pos_shRec he592
        replace hf39 := hf39.ext pos_shRec he592
        replace hf41 := hf41.ext he592
        replace hc506 := hc506.ext he592
        replace hc519 := hc519.ext he592
        replace ho577 := ho577.ext he592
        replace ho584 := ho584.ext he592
        have hs594 : Ext w591 w591 := Ext.rfl' _
        refine dr_val (i := 0) ha590 rfl (by kernel_rfl) (by kernel_rfl) (by kernel_rfl) rfl rfl rfl hs594 (fun w' hw' => op_move ha590 rfl rfl) ?_
        intro a595 ha595; clear ha590 a590
        obtain ⟨u596, hu597, hr598⟩ := Rds.part hf38 Try.underlying25 ti36 (some (.int .i64 (1 : Nat))) none 1 la.length (.inr ⟨.i64, rfl⟩) (.inl ⟨rfl, rfl⟩) (by omega) (by omega)
        replace hr598 := hr598.cast (ys := la.drop 1) (by first | rw [List.take_length] | simp)
        refine dr_val (i := 1) ha595 rfl (by kernel_rfl) (by kernel_rfl) (by kernel_rfl) rfl rfl rfl hs594 (fun w' hw' => op_slice_f (by omega) ha595 rfl rfl rfl hu597) ?_
        intro a599 ha599; clear ha595 a595
        refine dr_val (i := 2) ha599 rfl (by kernel_rfl) (by kernel_rfl) (by kernel_rfl) rfl rfl rfl hs594 (fun w' hw' => op_move ha599 rfl rfl) ?_
        intro a600 ha600; clear ha599 a599
        obtain ⟨u601, hu602, hr603⟩ := Rds.part hf39 Try.underlying25 ti36 (some (.int .i64 (1 : Nat))) none 1 lb.length (.inr ⟨.i64, rfl⟩) (.inl ⟨rfl, rfl⟩) (by omega) (by omega)
        replace hr603 := hr603.cast (ys := lb.drop 1) (by first | rw [List.take_length] | simp)
        refine dr_val (i := 3) ha600 rfl (by kernel_rfl) (by kernel_rfl) (by kernel_rfl) rfl rfl rfl hs594 (fun w' hw' => op_slice_f (by omega) ha600 rfl rfl rfl hu602) ?_
        intro a604 ha604; clear ha600 a600
        refine dr_val (i := 4) ha604 rfl (by kernel_rfl) (by kernel_rfl) (by kernel_rfl) rfl rfl rfl hs594 (fun w' hw' => op_assign ha604 rfl rfl) ?_
        intro a605 ha605; clear ha604 a604
        refine dr_val (i := 5) ha605 rfl (by kernel_rfl) (by kernel_rfl) (by kernel_rfl) rfl rfl rfl hs594 (fun w' hw' => op_assign ha605 rfl rfl) ?_
        intro a606 ha606; clear ha605 a605
        refine dr_end (by kernel_rfl) ?_
        replace hf38 := hf38.ext pos_shRec hs594
        replace hf39 := hf39.ext pos_shRec hs594
        replace hf41 := hf41.ext hs594
        replace hc506 := hc506.ext hs594
        replace hc519 := hc519.ext hs594
        replace ho577 := ho577.ext hs594
        replace ho584 := ho584.ext hs594
        replace hr598 := hr598.ext pos_shRec hs594
        replace hr603 := hr603.ext pos_shRec hs594
        refine block_n ?_
        refine block_n ?_
        refine round_end (x := (la, lb, va, vb, v, acc, v2, dac)) (la.drop 1, lb.drop 1, u596, u601, v582, (acc ++ [x515]), v2, dac) ?_ ?_
        ·
         refine ⟨(Sl.cons_ ha606 rfl rfl (Sl.cons_ ha606 rfl rfl (Sl.cons_ ha606 rfl rfl (Sl.cons_ ha606 rfl rfl (Sl.nil_ ha606))))), hx593, hr598, hr603, (ho584.fin (by omega) (by omega) (by omega)), (hf41.fin (by omega) (by omega) (by omega)), (by omega), (by simp only [List.length_append, List.length_drop, List.length_singleton]; omega), (by simp only [List.length_append, List.length_singleton]; omega), (by exfalso; omega), (by exfalso; omega)⟩
        ·show ((la.drop 1).length + (lb.drop 1).length : Nat) < la.length + lb.length; (simp only [List.length_drop]; omega)
       ·
        rw [decide_eq_false c570] at ha569
        refine cond_t ha569 rfl ?_
        refine wp_region_lit ?_
        refine wl_val ha569 rfl rfl rfl (op_move ha569 rfl rfl) ?_
        intro a607 ha607; clear ha569 a569
        refine wl_val ha607 rfl rfl rfl (op_move ha607 rfl rfl) ?_
        intro a608 ha608; clear ha607 a607
        refine wl_val ha608 rfl rfl rfl (op_indexAddr ha608 rfl Try.underlying25 ti36 rfl rfl (by omega) hi518) ?_
        intro a609 ha609; clear ha608 a608
        refine wl_val ha609 rfl rfl rfl (op_fieldAddr (sz := 0) ha609 rfl Try.underlying36 rfl rfl ti2 rfl) ?_
        intro a610 ha610; clear ha609 a609
        refine wl_val ha610 rfl rfl rfl (op_loadF (off := 0) ha610 rfl Try.underlying2 rfl rfl hc519 rfl) ?_
        intro a611 ha611; clear ha610 a610
        refine wl_eff ha611 rfl rfl rfl (op_buildSlice (s := shI64) (xs := [x515.1]) (cs := [.int .i64 x515.1]) (vs := [(0, .int .i64 x515.1)]) (S := fun _ => False) (le := w557.heap.size) ha611 rfl pos_shI64 Try.underlying44 ti2 rfl rfl (by decide) (by kernel_rfl) (Els.single (mk_shI64 x515.1 (by first | assumption | omega | (simp; omega)))) (fun _ h => h.elim)) ?_
        rintro v612 w613 ⟨ho614, he615, hob616⟩ a617 ha617; clear ha611 a611
        have hx618 := hx559.trans' he615
        have hzhx618 := he615.size
        replace hf38 := hf38.ext pos_shRec he615
        replace hf39 := hf39.ext pos_shRec he615
        replace hf40 := hf40.ext he615
        replace hf41 := hf41.ext he615
        replace hc506 := hc506.ext he615
        replace hc519 := hc519.ext he615
        refine wl_eff ha617 rfl rfl rfl (op_append (ts := #[]) (s := shI64) ha617 rfl Try.underlying44 ti2 rfl pos_shI64 rfl rfl hf41 (ho614.rds pos_shI64) (by omega) (by omega) (by first | omega | (simp; omega)) (by first | omega | (simp; omega)) (.inl flat_shI64)) ?_
        rintro v619 w620 ⟨ho621, hst622, hob623⟩ a624 ha624; clear ha617 a617
        have hx625 := hx618.stp hst622 (by intro q hq; have hq0 := hf41.lt q hq; omega)
        have hzhx625 := hst622.size
        replace hf38 := hf38.stp pos_shRec hst622 (by intro q hq; have hq0 := hf41.lt q hq; exact not_iv (by omega))
        replace hf39 := hf39.stp pos_shRec hst622 (by intro q hq; have hq0 := hf41.lt q hq; exact not_iv (by omega))
        first | replace hf40 := hf40.stp hst622 (by intro q hq; have hq0 := hf41.lt q hq; omega) | replace hf40 := hf40.stpF flat_shRec hst622 (hf40.ne hf41 rfl)
        replace hc506 := hc506.stp hst622 (by intro q hq; have hq0 := hf41.lt q hq; omega)
        replace hc519 := hc519.stp hst622 (by intro q hq; have hq0 := hf41.lt q hq; omega)
        replace ho614 := ho614.stp hst622 (by intro q hq; have hq0 := hf41.lt q hq; omega)
        have hsp626 : ∀ q, Value.ownBlock v619 = some q → Value.ownBlock v612 ≠ some q := by intro q hq hb; have hq0 := ho614.lt q hb; rcases hob623 with h | h; (rw [h] at hq; first | (have hq1 := hf41.lt q hq; omega)); (rw [h] at hq; cases hq; omega)
        refine wl_val ha624 rfl rfl rfl (op_assign ha624 rfl rfl) ?_
        intro a627 ha627; clear ha624 a624
        refine wpList_nil ?_
        refine then_n ?_
        refine wp_seq ?_
        refine wp_region_lit ?_
        refine wl_val ha627 rfl rfl rfl (op_move ha627 rfl rfl) ?_
        intro a628 ha628; clear ha627 a627
        refine wl_val ha628 rfl rfl rfl (op_move ha628 rfl rfl) ?_
        intro a629 ha629; clear ha628 a628
        refine wl_val ha629 rfl rfl rfl (op_indexAddr ha629 rfl Try.underlying25 ti36 rfl rfl (by omega) hi518) ?_
        intro a630 ha630; clear ha629 a629
        refine wl_val ha630 rfl rfl rfl (op_loadS ha630 rfl Try.underlying36 ti36 rfl rfl hc519) ?_
        intro a631 ha631; clear ha630 a630
        refine wl_eff ha631 rfl rfl rfl (op_buildSlice (s := shRec) (xs := [x515]) (cs := [.int .i64 x515.1, St x515.2]) (vs := [(0, .agg #[.int .i64 x515.1, St x515.2])]) (S := fun _ => False) (le := w620.heap.size) ha631 rfl pos_shRec Try.underlying25 ti36 rfl rfl (by decide) (by kernel_rfl) (Els.single (mk_shRec x515 (by first | assumption | omega | (simp; omega)) (by first | assumption | omega | (simp; omega)))) (fun _ h => h.elim)) ?_
        rintro v632 w633 ⟨ho634, he635, hob636⟩ a637 ha637; clear ha631 a631
        have hx638 := hx625.trans' he635
        have hzhx638 := he635.size
        replace hf38 := hf38.ext pos_shRec he635
        replace hf39 := hf39.ext pos_shRec he635
        replace hf40 := hf40.ext he635
        replace hc506 := hc506.ext he635
        replace hc519 := hc519.ext he635
        replace ho614 := ho614.ext he635
        replace ho621 := ho621.ext he635
        refine wl_eff ha637 rfl rfl rfl (op_append (ts := #[]) (s := shRec) ha637 rfl Try.underlying25 ti36 rfl pos_shRec rfl rfl hf40 (ho634.rds pos_shRec) (by omega) (by omega) (by first | omega | (simp; omega)) (by first | omega | (simp; omega)) (.inl flat_shRec)) ?_
        rintro v639 w640 ⟨ho641, hst642, hob643⟩ a644 ha644; clear ha637 a637
        have hx645 := hx638.stp hst642 (by intro q hq; have hq0 := hf40.lt q hq; omega)
        have hzhx645 := hst642.size
        replace hf38 := hf38.stp pos_shRec hst642 (by intro q hq; have hq0 := hf40.lt q hq; exact not_iv (by omega))
        replace hf39 := hf39.stp pos_shRec hst642 (by intro q hq; have hq0 := hf40.lt q hq; exact not_iv (by omega))
        replace hc506 := hc506.stp hst642 (by intro q hq; have hq0 := hf40.lt q hq; omega)
        replace hc519 := hc519.stp hst642 (by intro q hq; have hq0 := hf40.lt q hq; omega)
        replace ho614 := ho614.stp hst642 (by intro q hq; have hq0 := hf40.lt q hq; omega)
        first | replace ho621 := ho621.stp hst642 (by intro q hq; have hq0 := hf40.lt q hq; omega) | replace ho621 := ho621.stpF flat_shI64 hst642 (ho621.ne hf40 rfl)
        replace ho634 := ho634.stp hst642 (by intro q hq; have hq0 := hf40.lt q hq; omega)
        have hsp646 : ∀ q, Value.ownBlock v639 = some q → Value.ownBlock v632 ≠ some q := by intro q hq hb; have hq0 := ho634.lt q hb; rcases hob643 with h | h; (rw [h] at hq; first | (have hq1 := hf40.lt q hq; omega)); (rw [h] at hq; cases hq; omega)
        refine wl_val ha644 rfl rfl rfl (op_assign ha644 rfl rfl) ?_
        intro a647 ha647; clear ha644 a644
        refine wpList_nil ?_
        refine then_n ?_
        refine dr_enter Ext follows_mixed ?_
        intro w648 he649
        have hx650 := hx645.trans' he649
        have hzhx650 := he649.size
        replace hf38 := hf38.ext pos_shRec he649
        replace hf39 := hf39.ext pos_shRec he649
        replace hc506 := hc506.ext he649
        replace hc519 := hc519.ext he649
        replace ho614 := ho614.ext he649
        replace ho621 := ho621.ext he649
        replace ho634 := ho634.ext he649
        replace ho641 := ho641.ext he649
        have hs651 : Ext w648 w648 := Ext.rfl' _
        refine dr_val (i := 0) ha647 rfl (by kernel_rfl) (by kernel_rfl) (by kernel_rfl) rfl rfl rfl hs651 (fun w' hw' => op_move ha647 rfl rfl) ?_
        intro a652 ha652; clear ha647 a647
        obtain ⟨u653, hu654, hr655⟩ := Rds.part hf38 Try.underlying25 ti36 (some (.int .i64 (1 : Nat))) none 1 la.length (.inr ⟨.i64, rfl⟩) (.inl ⟨rfl, rfl⟩) (by omega) (by omega)
        replace hr655 := hr655.cast (ys := la.drop 1) (by first | rw [List.take_length] | simp)
        refine dr_val (i := 1) ha652 rfl (by kernel_rfl) (by kernel_rfl) (by kernel_rfl) rfl rfl rfl hs651 (fun w' hw' => op_slice_f (by omega) ha652 rfl rfl rfl hu654) ?_
        intro a656 ha656; clear ha652 a652
        refine dr_val (i := 2) ha656 rfl (by kernel_rfl) (by kernel_rfl) (by kernel_rfl) rfl rfl rfl hs651 (fun w' hw' => op_move ha656 rfl rfl) ?_
        intro a657 ha657; clear ha656 a656
        obtain ⟨u658, hu659, hr660⟩ := Rds.part hf39 Try.underlying25 ti36 (some (.int .i64 (1 : Nat))) none 1 lb.length (.inr ⟨.i64, rfl⟩) (.inl ⟨rfl, rfl⟩) (by omega) (by omega)
        replace hr660 := hr660.cast (ys := lb.drop 1) (by first | rw [List.take_length] | simp)
        refine dr_val (i := 3) ha657 rfl (by kernel_rfl) (by kernel_rfl) (by kernel_rfl) rfl rfl rfl hs651 (fun w' hw' => op_slice_f (by omega) ha657 rfl rfl rfl hu659) ?_
        intro a661 ha661; clear ha657 a657
        refine dr_val (i := 4) ha661 rfl (by kernel_rfl) (by kernel_rfl) (by kernel_rfl) rfl rfl rfl hs651 (fun w' hw' => op_assign ha661 rfl rfl) ?_
        intro a662 ha662; clear ha661 a661
        refine dr_val (i := 5) ha662 rfl (by kernel_rfl) (by kernel_rfl) (by kernel_rfl) rfl rfl rfl hs651 (fun w' hw' => op_assign ha662 rfl rfl) ?_
        intro a663 ha663; clear ha662 a662
        refine dr_end (by kernel_rfl) ?_
        replace hf38 := hf38.ext pos_shRec hs651
        replace hf39 := hf39.ext pos_shRec hs651
        replace hc506 := hc506.ext hs651
        replace hc519 := hc519.ext hs651
        replace ho614 := ho614.ext hs651
        replace ho621 := ho621.ext hs651
        replace ho634 := ho634.ext hs651
        replace ho641 := ho641.ext hs651
        replace hr655 := hr655.ext pos_shRec hs651
        replace hr660 := hr660.ext pos_shRec hs651
        refine block_n ?_
        refine block_n ?_
        refine round_end (x := (la, lb, va, vb, v, acc, v2, dac)) (la.drop 1, lb.drop 1, u653, u658, v639, (acc ++ [x515]), v619, (dac ++ [x515.1])) ?_ ?_
        ·
         refine ⟨(Sl.cons_ ha663 rfl rfl (Sl.cons_ ha663 rfl rfl (Sl.cons_ ha663 rfl rfl (Sl.cons_ ha663 rfl rfl (Sl.nil_ ha663))))), hx650, hr655, hr660, (ho641.fin (by omega) (by omega) (by omega)), (ho621.fin (by omega) (by omega) (by omega)), (by omega), (by simp only [List.length_append, List.length_drop, List.length_singleton]; omega), (by simp only [List.length_append, List.length_singleton]; omega), (by exfalso; omega), (by exfalso; omega)⟩
        ·show ((la.drop 1).length + (lb.drop 1).length : Nat) < la.length + lb.length; (simp only [List.length_drop]; omega)
   ·
    rw [decide_eq_false c369] at ha368
    refine cond_f ha368 rfl ?_
    refine wp_exit ?_
    refine then_e ?_
    refine then_e ?_
    refine block_hit ?_
    refine then_n ?_
    refine wp_seq ?_
    refine wp_seq ?_
    refine wp_region_lit ?_
    refine wl_val ha368 rfl rfl rfl (op_move ha368 rfl rfl) ?_
    intro a664 ha664; clear ha368 a368
    refine wl_val ha664 rfl rfl rfl (op_len_sl ha664 rfl Try.underlying25 rfl (hf40.rds pos_shRec)) ?_
    intro a665 ha665; clear ha664 a664
    refine wl_val ha665 rfl rfl rfl (op_gtr ha665 rfl rfl rfl) ?_
    intro a666 ha666; clear ha665 a665
    refine wpList_nil ?_
    refine then_n ?_
    by_cases c667 : (30 : Int) < ((acc.length : Nat) : Int)
    ·
     rw [decide_eq_true c667] at ha666
     refine cond_t ha666 rfl ?_
     refine wp_seq ?_
     refine wp_region_lit ?_
     refine wl_val ha666 rfl rfl rfl (op_assign ha666 rfl rfl) ?_
     intro a668 ha668; clear ha666 a666
     refine wl_val ha668 rfl rfl rfl (op_assign ha668 rfl rfl) ?_
     intro a669 ha669; clear ha668 a668
     refine wl_val ha669 rfl rfl rfl (op_assign ha669 rfl rfl) ?_
     intro a670 ha670; clear ha669 a669
     refine wpList_nil ?_
     refine then_n ?_
     refine wp_ret ?_
     refine then_r ?_
     refine ret3 ha670 rfl rfl rfl rfl ?_
     clear ha670 a670
     have hla : la = [] := nil_len (by omega)
     have hlb : lb = [] := nil_len (by omega)
     rw [hla, hlb, mrgL_nil, List.append_nil] at hF
     rw [hla, hlb, mrgD_nil, List.append_nil] at hG
     have hn : 30 < (mrgL (salS s).1 (salS t).1).length := by rw [← hF]; omega
     refine ret_mk hx37 ⟨.slice none 0 0, .slice none 0 0, (tup3_eq rfl rfl (int_eq (by unfold mgE; rw [if_pos hn]))), ?_, ?_⟩
     ·refine Own.nil_ _ _ _ _ _ _ ?_
      unfold mgL; rw [if_pos hn]
     ·refine Own.nil_ _ _ _ _ _ _ ?_
      unfold mgD; rw [if_pos hn]
    ·
     rw [decide_eq_false c667] at ha666
     refine cond_f ha666 rfl ?_
     refine wp_skip ?_
     refine then_n ?_
     refine wp_seq ?_
     refine wp_region_lit ?_
     refine wl_val ha666 rfl rfl rfl (op_move ha666 rfl rfl) ?_
     intro a671 ha671; clear ha666 a666
     refine wl_val ha671 rfl rfl rfl (op_move ha671 rfl rfl) ?_
     intro a672 ha672; clear ha671 a671
     refine wl_val ha672 rfl rfl rfl (op_assign ha672 rfl rfl) ?_
     intro a673 ha673; clear ha672 a672
     refine wl_val ha673 rfl rfl rfl (op_assign ha673 rfl rfl) ?_
     intro a674 ha674; clear ha673 a673
     refine wl_val ha674 rfl rfl rfl (op_assign ha674 rfl rfl) ?_
     intro a675 ha675; clear ha674 a674
     refine wpList_nil ?_
     refine then_n ?_
     refine wp_ret ?_
     refine ret3 ha675 rfl rfl rfl rfl ?_
     clear ha675 a675
     have hla : la = [] := nil_len (by omega)
     have hlb : lb = [] := nil_len (by omega)
     rw [hla, hlb, mrgL_nil, List.append_nil] at hF
     rw [hla, hlb, mrgD_nil, List.append_nil] at hG
     have hn : ¬ 30 < (mrgL (salS s).1 (salS t).1).length := by rw [← hF]; omega
     refine ret_mk hx37 ⟨v, v2, (tup3_eq rfl rfl (int_eq (by unfold mgE; rw [if_neg hn]))), ?_, ?_⟩
     ·refine (hf40.fin (by omega) (by omega) (by omega)).cast ?_
      unfold mgL; rw [if_neg hn]; exact hF
     ·refine (hf41.fin (by omega) (by omega) (by omega)).cast ?_
      unfold mgD; rw [if_neg hn]; exact hG

theorem c_spec_MergeCopies (w0 : World) (s : Str) (t : Str) (g0 : s.length ≤ 1048576) (g1 : t.length ≤ 1048576) :
  Calls Try.prog 37 #[St s, St t] w0 (Ret w0 (fun v w1 => ∃ r0 r1, v = .tuple #[r0, r1, .int .i64 (mgE s t)] ∧ Own shRec 36 w0.heap.size w0.heap.size w1.heap.size w1 r0 (mgL s t) ∧ Own shI64 2 w0.heap.size w0.heap.size w1.heap.size w1 r1 (mgD s t))) := by
 refine enter (N := 78) Try.func37 rfl rfl rfl ?_
 intro a0 ha0
 have hx0 := Ext.rfl' w0
 have hsl := areB_len (salS_are s)
 have htl := areB_len (salS_are t)
 refine wp_seq ?_
 refine wp_region_lit ?_
 refine wl_val ha0 rfl rfl rfl (op_assign ha0 rfl rfl) ?_
 intro a1 ha1; clear ha0 a0
 refine wl_val ha1 rfl rfl rfl (op_assign ha1 rfl rfl) ?_
 intro a2 ha2; clear ha1 a1
 refine wl_val ha2 rfl rfl rfl (op_assign ha2 rfl rfl) ?_
 intro a3 ha3; clear ha2 a2
 refine wpList_nil ?_
 refine then_n ?_
 refine wp_seq ?_
 refine wp_region_lit ?_
 refine wl_val ha3 rfl rfl rfl (op_move ha3 rfl rfl) ?_
 intro a4 ha4; clear ha3 a3
 refine wl_callR ha4 rfl rfl rfl (op_call ha4 rfl cb55 rfl) (c_spec_l32Salvage _ s (by first | assumption | omega | (simp; omega) | (simp [mkN_length]; omega))) ?_
 rintro v5 w6 he7 ⟨v8, rfl, ho9⟩ a10 ha10; clear ha4 a4
 have hx11 := hx0.trans' he7
 have hzhx11 := he7.size
 refine wl_val ha10 rfl rfl rfl (op_move ha10 rfl rfl) ?_
 intro a12 ha12; clear ha10 a10
 refine wl_val ha12 rfl rfl rfl (op_extract ha12 rfl rfl rfl) ?_
 intro a13 ha13; clear ha12 a12
 refine wl_val ha13 rfl rfl rfl (op_extract ha13 rfl rfl rfl) ?_
 intro a14 ha14; clear ha13 a13
 refine wl_val ha14 rfl rfl rfl (op_extract ha14 rfl rfl rfl) ?_
 intro a15 ha15; clear ha14 a14
 refine wl_val ha15 rfl rfl rfl (op_assign ha15 rfl rfl) ?_
 intro a16 ha16; clear ha15 a15
 refine wl_val ha16 rfl rfl rfl (op_assign ha16 rfl rfl) ?_
 intro a17 ha17; clear ha16 a16
 refine wl_val ha17 rfl rfl rfl (op_assign ha17 rfl rfl) ?_
 intro a18 ha18; clear ha17 a17
 refine wpList_nil ?_
 refine then_n ?_
 refine wp_seq ?_
 refine wp_region_lit ?_
 refine wl_val ha18 rfl rfl rfl (op_move ha18 rfl rfl) ?_
 intro a19 ha19; clear ha18 a18
 refine wl_callR ha19 rfl rfl rfl (op_call ha19 rfl cb55 rfl) (c_spec_l32Salvage _ t (by first | assumption | omega | (simp; omega) | (simp [mkN_length]; omega))) ?_
 rintro v20 w21 he22 ⟨v23, rfl, ho24⟩ a25 ha25; clear ha19 a19
 have hx26 := hx11.trans' he22
 have hzhx26 := he22.size
 replace ho9 := ho9.ext he22
 refine wl_val ha25 rfl rfl rfl (op_move ha25 rfl rfl) ?_
 intro a27 ha27; clear ha25 a25
 refine wl_val ha27 rfl rfl rfl (op_extract ha27 rfl rfl rfl) ?_
 intro a28 ha28; clear ha27 a27
 refine wl_val ha28 rfl rfl rfl (op_extract ha28 rfl rfl rfl) ?_
 intro a29 ha29; clear ha28 a28
 refine wl_val ha29 rfl rfl rfl (op_extract ha29 rfl rfl rfl) ?_
 intro a30 ha30; clear ha29 a29
 refine wl_val ha30 rfl rfl rfl (op_assign ha30 rfl rfl) ?_
 intro a31 ha31; clear ha30 a30
 refine wl_val ha31 rfl rfl rfl (op_assign ha31 rfl rfl) ?_
 intro a32 ha32; clear ha31 a31
 refine wl_val ha32 rfl rfl rfl (op_assign ha32 rfl rfl) ?_
 intro a33 ha33; clear ha32 a32
 refine wpList_nil ?_
 refine then_n ?_
 refine wp_seq ?_
 refine wp_region_lit ?_
 refine wl_val ha33 rfl rfl rfl (op_move ha33 rfl rfl) ?_
 intro a34 ha34; clear ha33 a33
 refine wl_eff ha34 rfl rfl rfl (op_buildSlice (s := shI64) (xs := ([] : List Int)) (cs := []) (vs := []) (S := fun _ => False) (le := w21.heap.size) ha34 rfl pos_shI64 Try.underlying44 ti2 rfl rfl (by decide) (by kernel_rfl) rfl (fun _ h => h.elim)) ?_
 rintro v35 w36 ⟨ho37, he38, hob39⟩ a40 ha40; clear ha34 a34
 have hx41 := hx26.trans' he38
 have hzhx41 := he38.size
 replace ho9 := ho9.ext he38
 replace ho24 := ho24.ext he38
 refine wl_val ha40 rfl rfl rfl (op_assign ha40 rfl rfl) ?_
 intro a42 ha42; clear ha40 a40
 refine wl_val ha42 rfl rfl rfl (op_assign ha42 rfl rfl) ?_
 intro a43 ha43; clear ha42 a42
 refine wpList_nil ?_
 refine then_n ?_
 refine wp_seq ?_
 refine wp_seq ?_
 refine wp_region_lit ?_
 refine wl_val ha43 rfl rfl rfl (op_assign ha43 rfl rfl) ?_
 intro a44 ha44; clear ha43 a43
 refine wpList_nil ?_
 refine then_n ?_
 refine wp_block ?_
 refine loop_inv (X := Nat × Value × (List (Int × Str)) × Value × (List Int)) (fun (⟨i, v, acc, v2, dac⟩ : Nat × Value × (List (Int × Str)) × Value × (List Int)) fr wl => Sl 78 fr [(7, v8), (10, v23), (13, v), (14, v2), (15, .int .i64 ((i : Nat) : Int))] ∧ Ext w0 wl ∧ Own shRec 36 w0.heap.size w0.heap.size w6.heap.size wl v8 (((salS s).1)) ∧ Own shRec 36 w6.heap.size w6.heap.size w21.heap.size wl v23 (((salS t).1)) ∧ Own shRec 36 w0.heap.size w0.heap.size wl.heap.size wl v acc ∧ Own shI64 2 w21.heap.size w21.heap.size wl.heap.size wl v2 dac ∧ w36.heap.size ≤ wl.heap.size ∧ (i ≤ (salS t).1.length) ∧ (acc.length ≤ 30 + i) ∧ (dac.length ≤ i) ∧ (spGo (salS s).1 ((salS t).1.drop i) acc dac = spGo (salS s).1 (salS t).1 (salS s).1 [])) (fun (⟨i, v, acc, v2, dac⟩ : Nat × Value × (List (Int × Str)) × Value × (List Int)) => (salS t).1.length - i) (0, v8, ((salS s).1), v35, ([] : List Int)) ?_ ?_
 ·
  exact ⟨(Sl.cons_ ha44 rfl rfl (Sl.cons_ ha44 rfl rfl (Sl.cons_ ha44 rfl rfl (Sl.cons_ ha44 rfl rfl (Sl.cons_ ha44 rfl (int_eq (by omega)) (Sl.nil_ ha44)))))), hx41, ho9, ho24, (ho9.fin (by omega) (by omega) (by omega)), (ho37.fin (by omega) (by omega) (by omega)), (by omega), (by omega), (by omega), (by simp), (by rfl)⟩
 ·
  clear ha44 a44
  rintro ⟨i, v, acc, v2, dac⟩ a51 w45 ⟨ha51, hx46, hf47, hf48, hf49, hf50, hzl52, hi, hl, hd, hF⟩
  have hzhx46 := hx46.size
  refine wp_seq ?_
  refine wp_seq ?_
  refine wp_region_lit ?_
  refine wl_val ha51 rfl rfl rfl (op_move ha51 rfl rfl) ?_
  intro a53 ha53; clear ha51 a51
  refine wl_val ha53 rfl rfl rfl (op_move ha53 rfl rfl) ?_
  intro a54 ha54; clear ha53 a53
  refine wl_val ha54 rfl rfl rfl (op_len_sl ha54 rfl Try.underlying25 rfl (hf48.rds pos_shRec)) ?_
  intro a55 ha55; clear ha54 a54
  refine wl_val ha55 rfl rfl rfl (op_lss ha55 rfl rfl rfl) ?_
  intro a56 ha56; clear ha55 a55
  refine wpList_nil ?_
  refine then_n ?_
  by_cases c57 : ((i : Nat) : Int) < (((((salS t).1)).length : Nat) : Int)
  ·
   rw [decide_eq_true c57] at ha56
   refine cond_t ha56 rfl ?_
   refine wp_skip ?_
   refine then_n ?_
   refine wp_seq ?_
   refine wp_block ?_
   refine wp_seq ?_
   refine wp_region_lit ?_
   refine wl_val ha56 rfl rfl rfl (op_move ha56 rfl rfl) ?_
   intro a58 ha58; clear ha56 a56
   refine wl_val ha58 rfl rfl rfl (op_move ha58 rfl rfl) ?_
   intro a59 ha59; clear ha58 a58
   refine wl_val ha59 rfl rfl rfl (op_move ha59 rfl rfl) ?_
   intro a60 ha60; clear ha59 a59
   obtain ⟨x61, hx61⟩ := get_ex (xs := ((salS t).1)) (j := i) (by omega)
   obtain ⟨p62, c63, hi64, hc65, hr66, hs67⟩ := Rds.at_ (hf48.rds pos_shRec) hx61
   obtain ⟨rfl, b68, b69⟩ := inv_shRec hr66
   obtain ⟨_, _⟩ : _ ∧ _ := hs67
   refine wl_val ha60 rfl rfl rfl (op_indexAddr ha60 rfl Try.underlying25 ti36 rfl rfl (by omega) hi64) ?_
   intro a70 ha70; clear ha60 a60
   refine wl_val ha70 rfl rfl rfl (op_fieldAddr (sz := 0) ha70 rfl Try.underlying36 rfl rfl ti2 rfl) ?_
   intro a71 ha71; clear ha70 a70
   refine wl_val ha71 rfl rfl rfl (op_loadF (off := 0) ha71 rfl Try.underlying2 rfl rfl hc65 rfl) ?_
   intro a72 ha72; clear ha71 a71
   refine wl_callR ha72 rfl rfl rfl (op_call ha72 rfl cb57 rfl) (c_spec_l32Find _ v8 (((salS s).1)) x61.1 (hf47.rds pos_shRec)) ?_
   rintro v73 w74 he75 rfl a76 ha76; clear ha72 a72
   have hx77 := hx46.trans' he75
   have hzhx77 := he75.size
   replace hf47 := hf47.ext he75
   replace hf48 := hf48.ext he75
   replace hf49 := hf49.ext he75
   replace hf50 := hf50.ext he75
   replace hc65 := hc65.ext he75
   refine wl_val ha76 rfl rfl rfl (op_assign ha76 rfl rfl) ?_
   intro a78 ha78; clear ha76 a76
   refine wpList_nil ?_
   refine then_n ?_
   refine wp_block ?_
   refine wp_seq ?_
   refine wp_region_lit ?_
   refine wl_val ha78 rfl rfl rfl (op_move ha78 rfl rfl) ?_
   intro a79 ha79; clear ha78 a78
   refine wl_val ha79 rfl rfl rfl (op_lss ha79 rfl rfl rfl) ?_
   intro a80 ha80; clear ha79 a79
   refine wl_val ha80 rfl rfl rfl (op_assign ha80 rfl rfl) ?_
   intro a81 ha81; clear ha80 a80
   refine wpList_nil ?_
   refine then_n ?_
   by_cases c82 : (fdI (((salS s).1)) x61.1 : Int) < (0 : Int)
   ·
    rw [decide_eq_true c82] at ha81
    refine cond_t ha81 rfl ?_
    have hpl := putS_len acc x61
    refine wp_region_lit ?_
    refine wl_val ha81 rfl rfl rfl (op_move ha81 rfl rfl) ?_
    intro a83 ha83; clear ha81 a81
    refine wl_val ha83 rfl rfl rfl (op_move ha83 rfl rfl) ?_
    intro a84 ha84; clear ha83 a83
    refine wl_val ha84 rfl rfl rfl (op_move ha84 rfl rfl) ?_
    intro a85 ha85; clear ha84 a84
    refine wl_val ha85 rfl rfl rfl (op_indexAddr ha85 rfl Try.underlying25 ti36 rfl rfl (by omega) hi64) ?_
    intro a86 ha86; clear ha85 a85
    refine wl_val ha86 rfl rfl rfl (op_loadS ha86 rfl Try.underlying36 ti36 rfl rfl hc65) ?_
    intro a87 ha87; clear ha86 a86
    refine wl_callR ha87 rfl rfl rfl (op_call ha87 rfl cb53 rfl) (c_spec_l32Put _ v acc x61 (hf49.rds pos_shRec) (by first | assumption | omega | (simp; omega) | (simp [mkN_length]; omega)) (by first | assumption | omega | (simp; omega) | (simp [mkN_length]; omega)) (by first | assumption | omega | (simp; omega) | (simp [mkN_length]; omega))) ?_
    rintro v88 w89 he90 ho91 a92 ha92; clear ha87 a87
    have hx93 := hx77.trans' he90
    have hzhx93 := he90.size
    replace hf47 := hf47.ext he90
    replace hf48 := hf48.ext he90
    replace hf49 := hf49.ext he90
    replace hf50 := hf50.ext he90
    replace hc65 := hc65.ext he90
    refine wl_val ha92 rfl rfl rfl (op_assign ha92 rfl rfl) ?_
    intro a94 ha94; clear ha92 a92
    refine wpList_nil ?_
    refine block_n ?_
    refine block_n ?_
    refine then_n ?_
    refine wp_region_lit ?_
    refine wl_val ha94 rfl rfl rfl (op_move ha94 rfl rfl) ?_
    intro a95 ha95; clear ha94 a94
    refine wl_val ha95 rfl rfl rfl ((op_add ha95 rfl rfl rfl).int (IntWalk.i64_in _ (by omega))) ?_
    intro a96 ha96; clear ha95 a95
    refine wl_val ha96 rfl rfl rfl (op_assign ha96 rfl rfl) ?_
    intro a97 ha97; clear ha96 a96
    refine wpList_nil ?_
    refine round_end (x := (i, v, acc, v2, dac)) ((i + 1), v88, (putS acc x61), v2, dac) ?_ ?_
    ·
     refine ⟨(Sl.cons_ ha97 rfl rfl (Sl.cons_ ha97 rfl rfl (Sl.cons_ ha97 rfl rfl (Sl.cons_ ha97 rfl rfl (Sl.cons_ ha97 rfl (int_eq (by omega)) (Sl.nil_ ha97)))))), hx93, hf47, hf48, (ho91.fin (by omega) (by omega) (by omega)), (hf50.fin (by omega) (by omega) (by omega)), (by omega), (by omega), (by omega), (by first | omega | (simp; omega)), (by rw [drop_cons hx61, spGo, if_pos c82] at hF; exact hF)⟩
    ·show ((salS t).1.length - ((i + 1)) : Nat) < (salS t).1.length - i; omega
   ·
    rw [decide_eq_false c82] at ha81
    refine cond_f ha81 rfl ?_
    refine wp_seq ?_
    have hfb := fdI_bd (salS s).1 x61.1
    refine dr_enter Ext follows_mixed ?_
    intro w98 he99
    have hx100 := hx77.trans' he99
    have hzhx100 := he99.size
    replace hf47 := hf47.ext he99
    replace hf48 := hf48.ext he99
    replace hf49 := hf49.ext he99
    replace hf50 := hf50.ext he99
    replace hc65 := hc65.ext he99
    have hs101 : Ext w98 w98 := Ext.rfl' _
    refine dr_val (i := 0) ha81 rfl (by kernel_rfl) (by kernel_rfl) (by kernel_rfl) rfl rfl rfl hs101 (fun w' hw' => op_move ha81 rfl rfl) ?_
    intro a102 ha102; clear ha81 a81
    refine dr_val (i := 1) ha102 rfl (by kernel_rfl) (by kernel_rfl) (by kernel_rfl) rfl rfl rfl hs101 (fun w' hw' => op_move ha102 rfl rfl) ?_
    intro a103 ha103; clear ha102 a102
    obtain ⟨x104, hx104⟩ := get_ex (xs := ((salS s).1)) (j := ((fdI (((salS s).1)) x61.1 : Int)).toNat) (by omega)
    obtain ⟨p105, c106, hi107, hc108, hr109, hs110⟩ := Rds.at_ (hf47.rds pos_shRec) hx104
    obtain ⟨rfl, b111, b112⟩ := inv_shRec hr109
    obtain ⟨_, _⟩ : _ ∧ _ := hs110
    refine dr_val (i := 2) ha103 rfl (by kernel_rfl) (by kernel_rfl) (by kernel_rfl) rfl rfl rfl hs101 (fun w' hw' => op_indexAddr ha103 rfl Try.underlying25 ti36 rfl rfl (by omega) hi107) ?_
    intro a113 ha113; clear ha103 a103
    refine dr_val (i := 3) ha113 rfl (by kernel_rfl) (by kernel_rfl) (by kernel_rfl) rfl rfl rfl hs101 (fun w' hw' => op_fieldAddr (sz := 0) ha113 rfl Try.underlying36 rfl rfl ti9 rfl) ?_
    intro a114 ha114; clear ha113 a113
    refine dr_val (i := 4) ha114 rfl (by kernel_rfl) (by kernel_rfl) (by kernel_rfl) rfl rfl rfl hs101 (fun w' hw' => op_loadF (off := 1) ha114 rfl Try.underlying9 rfl rfl (hc108.ext hw') rfl) ?_
    intro a115 ha115; clear ha114 a114
    refine dr_val (i := 5) ha115 rfl (by kernel_rfl) (by kernel_rfl) (by kernel_rfl) rfl rfl rfl hs101 (fun w' hw' => op_move ha115 rfl rfl) ?_
    intro a116 ha116; clear ha115 a115
    refine dr_val (i := 6) ha116 rfl (by kernel_rfl) (by kernel_rfl) (by kernel_rfl) rfl rfl rfl hs101 (fun w' hw' => op_move ha116 rfl rfl) ?_
    intro a117 ha117; clear ha116 a116
    refine dr_val (i := 7) ha117 rfl (by kernel_rfl) (by kernel_rfl) (by kernel_rfl) rfl rfl rfl hs101 (fun w' hw' => op_indexAddr ha117 rfl Try.underlying25 ti36 rfl rfl (by omega) hi64) ?_
    intro a118 ha118; clear ha117 a117
    refine dr_val (i := 8) ha118 rfl (by kernel_rfl) (by kernel_rfl) (by kernel_rfl) rfl rfl rfl hs101 (fun w' hw' => op_fieldAddr (sz := 0) ha118 rfl Try.underlying36 rfl rfl ti9 rfl) ?_
    intro a119 ha119; clear ha118 a118
    refine dr_val (i := 9) ha119 rfl (by kernel_rfl) (by kernel_rfl) (by kernel_rfl) rfl rfl rfl hs101 (fun w' hw' => op_loadF (off := 1) ha119 rfl Try.underlying9 rfl rfl (hc65.ext hw') rfl) ?_
    intro a120 ha120; clear ha119 a119
    refine dr_val (i := 10) ha120 rfl (by kernel_rfl) (by kernel_rfl) (by kernel_rfl) rfl rfl rfl hs101 (fun w' hw' => (op_sneq ha120 rfl rfl rfl).to (congrArg Value.bool decide_not)) ?_
    intro a121 ha121; clear ha120 a120
    refine dr_val (i := 11) ha121 rfl (by kernel_rfl) (by kernel_rfl) (by kernel_rfl) rfl rfl rfl hs101 (fun w' hw' => op_assign ha121 rfl rfl) ?_
    intro a122 ha122; clear ha121 a121
    refine dr_end (by kernel_rfl) ?_
    replace hf47 := hf47.ext hs101
    replace hf48 := hf48.ext hs101
    replace hf49 := hf49.ext hs101
    replace hf50 := hf50.ext hs101
    replace hc65 := hc65.ext hs101
    replace hc108 := hc108.ext hs101
    refine then_n ?_
    by_cases c123 : x104.2 = x61.2
    ·
     rw [decide_eq_true c123] at ha122
     refine cond_f ha122 rfl ?_
     refine wp_skip ?_
     refine block_n ?_
     refine block_n ?_
     refine then_n ?_
     refine wp_region_lit ?_
     refine wl_val ha122 rfl rfl rfl (op_move ha122 rfl rfl) ?_
     intro a124 ha124; clear ha122 a122
     refine wl_val ha124 rfl rfl rfl ((op_add ha124 rfl rfl rfl).int (IntWalk.i64_in _ (by omega))) ?_
     intro a125 ha125; clear ha124 a124
     refine wl_val ha125 rfl rfl rfl (op_assign ha125 rfl rfl) ?_
     intro a126 ha126; clear ha125 a125
     refine wpList_nil ?_
     refine round_end (x := (i, v, acc, v2, dac)) ((i + 1), v, acc, v2, dac) ?_ ?_
     ·
      refine ⟨(Sl.cons_ ha126 rfl rfl (Sl.cons_ ha126 rfl rfl (Sl.cons_ ha126 rfl rfl (Sl.cons_ ha126 rfl rfl (Sl.cons_ ha126 rfl (int_eq (by omega)) (Sl.nil_ ha126)))))), hx100, hf47, hf48, (hf49.fin (by omega) (by omega) (by omega)), (hf50.fin (by omega) (by omega) (by omega)), (by omega), (by omega), (by omega), (by first | omega | (simp; omega)), (by rw [drop_cons hx61, spGo, if_neg c82, spT_eq hx104, decide_eq_true c123] at hF; simpa using hF)⟩
     ·show ((salS t).1.length - ((i + 1)) : Nat) < (salS t).1.length - i; omega
    ·
     rw [decide_eq_false c123] at ha122
     refine cond_t ha122 rfl ?_
     refine wp_region_lit ?_
     refine wl_val ha122 rfl rfl rfl (op_move ha122 rfl rfl) ?_
     intro a127 ha127; clear ha122 a122
     refine wl_val ha127 rfl rfl rfl (op_move ha127 rfl rfl) ?_
     intro a128 ha128; clear ha127 a127
     refine wl_val ha128 rfl rfl rfl (op_move ha128 rfl rfl) ?_
     intro a129 ha129; clear ha128 a128
     refine wl_val ha129 rfl rfl rfl (op_indexAddr ha129 rfl Try.underlying25 ti36 rfl rfl (by omega) hi64) ?_
     intro a130 ha130; clear ha129 a129
     refine wl_val ha130 rfl rfl rfl (op_fieldAddr (sz := 0) ha130 rfl Try.underlying36 rfl rfl ti2 rfl) ?_
     intro a131 ha131; clear ha130 a130
     refine wl_val ha131 rfl rfl rfl (op_loadF (off := 0) ha131 rfl Try.underlying2 rfl rfl hc65 rfl) ?_
     intro a132 ha132; clear ha131 a131
     refine wl_eff ha132 rfl rfl rfl (op_buildSlice (s := shI64) (xs := [x61.1]) (cs := [.int .i64 x61.1]) (vs := [(0, .int .i64 x61.1)]) (S := fun _ => False) (le := w98.heap.size) ha132 rfl pos_shI64 Try.underlying44 ti2 rfl rfl (by decide) (by kernel_rfl) (Els.single (mk_shI64 x61.1 (by first | assumption | omega | (simp; omega)))) (fun _ h => h.elim)) ?_
     rintro v133 w134 ⟨ho135, he136, hob137⟩ a138 ha138; clear ha132 a132
     have hx139 := hx100.trans' he136
     have hzhx139 := he136.size
     replace hf47 := hf47.ext he136
     replace hf48 := hf48.ext he136
     replace hf49 := hf49.ext he136
     replace hf50 := hf50.ext he136
     replace hc65 := hc65.ext he136
     replace hc108 := hc108.ext he136
     refine wl_eff ha138 rfl rfl rfl (op_append (ts := #[]) (s := shI64) ha138 rfl Try.underlying44 ti2 rfl pos_shI64 rfl rfl hf50 (ho135.rds pos_shI64) (by omega) (by omega) (by first | omega | (simp; omega)) (by first | omega | (simp; omega)) (.inl flat_shI64)) ?_
     rintro v140 w141 ⟨ho142, hst143, hob144⟩ a145 ha145; clear ha138 a138
     have hx146 := hx139.stp hst143 (by intro q hq; have hq0 := hf50.lt q hq; omega)
     have hzhx146 := hst143.size
     replace hf47 := hf47.stp hst143 (by intro q hq; have hq0 := hf50.lt q hq; omega)
     replace hf48 := hf48.stp hst143 (by intro q hq; have hq0 := hf50.lt q hq; omega)
     first | replace hf49 := hf49.stp hst143 (by intro q hq; have hq0 := hf50.lt q hq; omega) | replace hf49 := hf49.stpF flat_shRec hst143 (hf49.ne hf50 rfl)
     replace ho135 := ho135.stp hst143 (by intro q hq; have hq0 := hf50.lt q hq; omega)
     have hsp147 : ∀ q, Value.ownBlock v140 = some q → Value.ownBlock v133 ≠ some q := by intro q hq hb; have hq0 := ho135.lt q hb; rcases hob144 with h | h; (rw [h] at hq; first | (have hq1 := hf50.lt q hq; omega)); (rw [h] at hq; cases hq; omega)
     refine wl_val ha145 rfl rfl rfl (op_assign ha145 rfl rfl) ?_
     intro a148 ha148; clear ha145 a145
     refine wpList_nil ?_
     refine block_n ?_
     refine block_n ?_
     refine then_n ?_
     refine wp_region_lit ?_
     refine wl_val ha148 rfl rfl rfl (op_move ha148 rfl rfl) ?_
     intro a149 ha149; clear ha148 a148
     refine wl_val ha149 rfl rfl rfl ((op_add ha149 rfl rfl rfl).int (IntWalk.i64_in _ (by omega))) ?_
     intro a150 ha150; clear ha149 a149
     refine wl_val ha150 rfl rfl rfl (op_assign ha150 rfl rfl) ?_
     intro a151 ha151; clear ha150 a150
     refine wpList_nil ?_
     refine round_end (x := (i, v, acc, v2, dac)) ((i + 1), v, acc, v140, (dac ++ [x61.1])) ?_ ?_
     ·
      refine ⟨(Sl.cons_ ha151 rfl rfl (Sl.cons_ ha151 rfl rfl (Sl.cons_ ha151 rfl rfl (Sl.cons_ ha151 rfl rfl (Sl.cons_ ha151 rfl (int_eq (by omega)) (Sl.nil_ ha151)))))), hx146, hf47, hf48, (hf49.fin (by omega) (by omega) (by omega)), (ho142.fin (by omega) (by omega) (by omega)), (by omega), (by omega), (by omega), (by first | omega | (simp; omega)), (by rw [drop_cons hx61, spGo, if_neg c82, spT_eq hx104, decide_eq_false c123] at hF; simpa using hF)⟩
     ·show ((salS t).1.length - ((i + 1)) : Nat) < (salS t).1.length - i; omega
  ·
   rw [decide_eq_false c57] at ha56
   refine cond_f ha56 rfl ?_
   refine wp_exit ?_
   refine then_e ?_
   refine then_e ?_
   refine block_hit ?_
   refine then_n ?_
   refine wp_seq ?_
   refine wp_seq ?_
   refine wp_region_lit ?_
   refine wl_val ha56 rfl rfl rfl (op_move ha56 rfl rfl) ?_
   intro a152 ha152; clear ha56 a56
   refine wl_val ha152 rfl rfl rfl (op_len_sl ha152 rfl Try.underlying25 rfl (hf49.rds pos_shRec)) ?_
   intro a153 ha153; clear ha152 a152
   refine wl_val ha153 rfl rfl rfl (op_gtr ha153 rfl rfl rfl) ?_
   intro a154 ha154; clear ha153 a153
   refine wpList_nil ?_
   refine then_n ?_
   by_cases c155 : (30 : Int) < ((acc.length : Nat) : Int)
   ·
    rw [decide_eq_true c155] at ha154
    refine cond_t ha154 rfl ?_
    refine wp_seq ?_
    refine wp_region_lit ?_
    refine wl_val ha154 rfl rfl rfl (op_assign ha154 rfl rfl) ?_
    intro a156 ha156; clear ha154 a154
    refine wl_val ha156 rfl rfl rfl (op_assign ha156 rfl rfl) ?_
    intro a157 ha157; clear ha156 a156
    refine wl_val ha157 rfl rfl rfl (op_assign ha157 rfl rfl) ?_
    intro a158 ha158; clear ha157 a157
    refine wpList_nil ?_
    refine then_n ?_
    refine wp_ret ?_
    refine then_r ?_
    refine ret3 ha158 rfl rfl rfl rfl ?_
    clear ha158 a158
    rw [drop_nil (by omega), spGo, spGo_mrg (salS_are s) (salS_are t)] at hF
    have hG : dac = mrgD (salS s).1 (salS t).1 := congrArg Prod.snd hF
    replace hF : acc = mrgL (salS s).1 (salS t).1 := congrArg Prod.fst hF
    have hn : 30 < (mrgL (salS s).1 (salS t).1).length := by rw [← hF]; omega
    refine ret_mk hx46 ⟨.slice none 0 0, .slice none 0 0, (tup3_eq rfl rfl (int_eq (by unfold mgE; rw [if_pos hn]))), ?_, ?_⟩
    ·refine Own.nil_ _ _ _ _ _ _ ?_
     unfold mgL; rw [if_pos hn]
    ·refine Own.nil_ _ _ _ _ _ _ ?_
     unfold mgD; rw [if_pos hn]
   ·
    rw [decide_eq_false c155] at ha154
    refine cond_f ha154 rfl ?_
    refine wp_skip ?_
    refine then_n ?_
    refine wp_seq ?_
    refine wp_region_lit ?_
    refine wl_val ha154 rfl rfl rfl (op_move ha154 rfl rfl) ?_
    intro a159 ha159; clear ha154 a154
    refine wl_val ha159 rfl rfl rfl (op_move ha159 rfl rfl) ?_
    intro a160 ha160; clear ha159 a159
    refine wl_val ha160 rfl rfl rfl (op_assign ha160 rfl rfl) ?_
    intro a161 ha161; clear ha160 a160
    refine wl_val ha161 rfl rfl rfl (op_assign ha161 rfl rfl) ?_
    intro a162 ha162; clear ha161 a161
    refine wl_val ha162 rfl rfl rfl (op_assign ha162 rfl rfl) ?_
    intro a163 ha163; clear ha162 a162
    refine wpList_nil ?_
    refine then_n ?_
    refine wp_ret ?_
    refine ret3 ha163 rfl rfl rfl rfl ?_
    clear ha163 a163
    rw [drop_nil (by omega), spGo, spGo_mrg (salS_are s) (salS_are t)] at hF
    have hG : dac = mrgD (salS s).1 (salS t).1 := congrArg Prod.snd hF
    replace hF : acc = mrgL (salS s).1 (salS t).1 := congrArg Prod.fst hF
    have hn : ¬ 30 < (mrgL (salS s).1 (salS t).1).length := by rw [← hF]; omega
    refine ret_mk hx46 ⟨v, v2, (tup3_eq rfl rfl (int_eq (by unfold mgE; rw [if_neg hn]))), ?_, ?_⟩
    ·refine (hf49.fin (by omega) (by omega) (by omega)).cast ?_
     unfold mgL; rw [if_neg hn]; exact hF
    ·refine (hf50.fin (by omega) (by omega) (by omega)).cast ?_
     unfold mgD; rw [if_neg hn]; exact hG


end Go.Proofs.Ytkdnclpgijkceaa
