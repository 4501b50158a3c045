/- Narrower conditions within regions that draw; the first elements of a row of the call's own. -/
import Derived.Test.YtjpldgicibnkcaaDraw
namespace Go.Proofs.Ytjpldgicibnkcaa
open Go Go.RowKit
/-- From here on a narrower condition on the world. -/
theorem dr_narrow {S S' : World → Prop} {Q : Exit → Act → World → Prop} {P : Program} {ops : Array Oper} (h : ∀ w', S' w' → S w') : ∀ (fuel : Nat) (listed : Array Bool) (a : Act) (w : World), wpAnyH P .any ops Q S' fuel listed a w → wpAnyH P .any ops Q S fuel listed a w
  | 0, _, _, _, k => k
  | fuel + 1, _, _, _, k => ⟨k.1, fun i hi => wpOp_mono (fun a' w' k' => ⟨h w' k'.1, dr_narrow h fuel _ a' w' k'.2⟩) (k.2 i hi)⟩
section
variable {P : Program} {w : World} {v z : Value} {T e : TypeId} {bytes : Nat} {α : Type} {s : Shp α} {lo hi le : Nat} {xs : List α}
/-- The first j of a row of the call's own: the call owns them as it owned all. -/
theorem Own.head (h : Own s e lo le hi w v xs) (hp : 0 < s.sz) (h0 : 0 < xs.length) (hT : P.underlying T = some (.slice e)) (hE : TI P e s.sz bytes z)
    (q : Option Value) (j : Nat) (hhi : (q = none ∧ j = xs.length) ∨ ∃ k, q = some (.int k j)) (hj : j ≤ xs.length) :
    ∃ u, (∀ W, (Instr.sliceAt T v none q none).run P W = .ok u W) ∧ Own s e lo le hi w u (xs.take j) := by
  obtain ⟨u, h1, ⟨ad, n, c, A, hv, hin, hnc, rfl, hA, _⟩, _⟩ := Own.partw h hp h0 hT hE none q 0 j (.inl ⟨rfl, rfl⟩) hhi (Nat.zero_le _) hj
  obtain ⟨cs, S, k1, k2, k3, k4⟩ := h
  rcases k1.2 with ⟨_, q⟩ | ⟨g, cap, cur, hv2, hb, hg, hnc2, hcm, hcs, ht⟩
  · omega
  rw [hv2] at hv
  injection hv with e1 e2 e3
  injection e1 with e1
  subst e1 e2 e3
  have hA2 : A = some ⟨g, 0, none⟩ := by
    rw [hA (by omega), Nat.zero_mul]; rfl
  subst hA2 hv2
  refine ⟨_, h1, cs.take (j * s.sz), S, ⟨?_, .inr ⟨g, cap, cur, by rw [List.length_take, Nat.min_eq_left hj]; rfl, hb, hg, ?_, hcm, hcs, ?_⟩⟩, k2.take_ j, ?_, k4⟩
  · rw [List.length_take, List.length_take, k1.1, Nat.min_eq_left hj, Nat.min_eq_left (Nat.mul_le_mul_right _ hj)]
  · rw [List.length_take]; omega
  · rw [List.length_take, Nat.min_eq_left hj, ← ht, List.take_take, Nat.min_eq_left (Nat.mul_le_mul_right _ hj)]
  · intro g' hg'; exact k3 g' hg'
end
end Go.Proofs.Ytjpldgicibnkcaa
