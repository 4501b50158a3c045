/- Narrower conditions within regions that draw; the first elements of a row of the call's own. -/
import Derived.Test.YthbehhhblchhhaaGreatDraw
namespace Go.Proofs.YthbehhhblchhhaaGreat
open Go Go.RowKit
/-- From here on a narrower condition on the world. -/
theorem dr_narrow {S S' : World → Prop} {Q : Exit → Act → World → Prop} {P : Program} {ops : Array Oper} (h : ∀ w', S' w' → S w') : ∀ (fuel : Nat) (listed : Array Bool) (a : Act) (w : World), wpAnyH P .any ops Q S' fuel listed a w → wpAnyH P .any ops Q S fuel listed a w
  | 0, _, _, _, k => k
  | fuel + 1, _, _, _, k => ⟨k.1, fun i hi => wpOp_mono (fun a' w' k' => ⟨h w' k'.1, dr_narrow h fuel _ a' w' k'.2⟩) (k.2 i hi)⟩
/-- What holds from a certain set of operations on, told once for all orders in which they came up. -/
theorem dr_share {P : Program} {ops : Array Oper} {Q : Exit → Act → World → Prop} {S : World → Prop} {fuel : Nat} {listed : Array Bool} {a : Act} {w : World} (R : Act → World → (World → Prop) → Prop) (fuel' : Nat) (listed' : Array Bool)
    (hK : ∀ a' w' S', R a' w' S' → wpAnyH P .any ops (NoP Q) S' fuel' listed' a' w') (h : (∀ a' w' S', R a' w' S' → wpAnyH P .any ops (NoP Q) S' fuel' listed' a' w') → wpAnyH P .any ops (NoP Q) S fuel listed a w) : wpAnyH P .any ops (NoP Q) S fuel listed a w := h hK
theorem dr_listed {P : Program} {ops : Array Oper} {Q : Exit → Act → World → Prop} {S : World → Prop} {fuel : Nat} {listed listed' : Array Bool} {a : Act} {w : World} (h : listed = listed') (k : wpAnyH P .any ops Q S fuel listed' a w) : wpAnyH P .any ops Q S fuel listed a w := h ▸ k
theorem dr_four {P : Program} {ops : Array Oper} {Q : Exit → Act → World → Prop} {S : World → Prop} {fuel : Nat} {listed : Array Bool} {a : Act} {w : World} {i j k m : Nat} (hr : Region.ready .any ops listed = [i, j, k, m]) (h : wpOp P ops (NoP Q) i (fun a' w' => S w' ∧ wpAnyH P .any ops (NoP Q) S fuel (listed.setIfInBounds i true) a' w') a w)
    (h' : wpOp P ops (NoP Q) j (fun a' w' => S w' ∧ wpAnyH P .any ops (NoP Q) S fuel (listed.setIfInBounds j true) a' w') a w)
    (h'' : wpOp P ops (NoP Q) k (fun a' w' => S w' ∧ wpAnyH P .any ops (NoP Q) S fuel (listed.setIfInBounds k true) a' w') a w)
    (h3 : wpOp P ops (NoP Q) m (fun a' w' => S w' ∧ wpAnyH P .any ops (NoP Q) S fuel (listed.setIfInBounds m true) a' w') a w) : wpAnyH P .any ops (NoP Q) S (fuel + 1) listed a w := by
  refine wpAnyH_all hr (by simp) fun q hq => ?_
  simp only [List.mem_cons, List.mem_nil_iff, or_false] at hq
  rcases hq with hq | hq | hq | hq <;> subst hq
  · exact h
  · exact h'
  · exact h''
  · exact h3
theorem Ext.freshL {a b c : World} {B : Nat → Prop} (h : Ext a b) (k : StpL b c B) (hl : ∀ i, B i → False ∨ a.heap.size ≤ i) : Ext a c := h.stpL k fun i hi => (hl i hi).resolve_left id
theorem Stp.freshL {a b c : World} {r : Option Nat} {B : Nat → Prop} (h : Stp a b r) (k : StpL b c B) (hl : ∀ i, B i → r = some i ∨ a.heap.size ≤ i) : Stp a c r :=
  ⟨k.os.trans h.os, k.tape.trans h.tape, k.output.trans h.output, Nat.le_trans h.size k.size, fun i hi hr =>
    (k.block i (Nat.lt_of_lt_of_le hi h.size) (fun e => by rcases hl i e with q | q; exact hr q.symm; omega)).trans (h.block i hi hr)⟩
theorem StpL.freshL {a b c : World} {B0 B : Nat → Prop} (h : StpL a b B0) (k : StpL b c B) (hl : ∀ i, B i → B0 i ∨ a.heap.size ≤ i) : StpL a c B0 :=
  ⟨k.os.trans h.os, k.tape.trans h.tape, k.output.trans h.output, Nat.le_trans h.size k.size, fun i hi hr =>
    (k.block i (Nat.lt_of_lt_of_le hi h.size) (fun e => by rcases hl i e with q | q; exact hr q; omega)).trans (h.block i hi hr)⟩
section
variable {P : Program} {w : World} {v z : Value} {T e : TypeId} {bytes : Nat} {α : Type} {s : Shp α} {lo hi le : Nat} {xs : List α}
/-- The first j of a row of the call's own: the call owns them as it owned all. -/
theorem Own.head (h : Own s e lo le hi w v xs) (hp : 0 < s.sz) (h0 : 0 < xs.length) (hT : P.underlying T = some (.slice e)) (hE : TI P e s.sz bytes z)
    (q : Option Value) (j : Nat) (hhi : (q = none ∧ j = xs.length) ∨ ∃ k, q = some (.int k j)) (hj : j ≤ xs.length) :
    ∃ u, (∀ W, (Instr.sliceAt T v none q none).run P W = .ok u W) ∧ Own s e lo le hi w u (xs.take j) := by
  obtain ⟨u, h1, ⟨ad, n, c, A, hv, hin, hnc, rfl, hA, _⟩, _⟩ := Own.partw h hp h0 hT hE none q 0 j (.inl ⟨rfl, rfl⟩) hhi (Nat.zero_le _) hj
  obtain ⟨cs, S, k1, k2, k3, k4⟩ := h
  rcases k1.2 with ⟨_, q⟩ | ⟨g, cap, cur, hv2, hb, hg, hnc2, hcm, hcs, ht⟩
  · omega
  rw [hv2] at hv
  injection hv with e1 e2 e3
  injection e1 with e1
  subst e1 e2 e3
  have hA2 : A = some ⟨g, 0, none⟩ := by
    rw [hA (by omega), Nat.zero_mul]; rfl
  subst hA2 hv2
  refine ⟨_, h1, cs.take (j * s.sz), S, ⟨?_, .inr ⟨g, cap, cur, by rw [List.length_take, Nat.min_eq_left hj]; rfl, hb, hg, ?_, hcm, hcs, ?_⟩⟩, k2.take_ j, ?_, k4⟩
  · rw [List.length_take, List.length_take, k1.1, Nat.min_eq_left hj, Nat.min_eq_left (Nat.mul_le_mul_right _ hj)]
  · rw [List.length_take]; omega
  · rw [List.length_take, Nat.min_eq_left hj, ← ht, List.take_take, Nat.min_eq_left (Nat.mul_le_mul_right _ hj)]
  · intro g' hg'; exact k3 g' hg'
end
section
variable {X Y : Type} {t : Shp Y} {et : TypeId} {f : X → List Y} {lo hi lo' hi' : Nat} {w : World} {zs ys : List (X × Value)}
/-- Rows put behind rows that lie above them. -/
theorem Nst.appL (h : Nst t et f lo hi w zs) (k : Nst t et f lo' hi' w ys) (h1 : lo' ≤ lo) (h2 : hi' ≤ lo) (h3 : hi' ≤ hi) : Nst t et f lo' hi w (zs ++ ys) := by
  refine ⟨fun z hz => ?_, List.pairwise_append.2 ⟨h.2, k.2, fun y hy z hz g hg hg' => ?_⟩⟩
  · rcases List.mem_append.1 hz with hz | hz
    · exact (h.1 z hz).fin h1 h1 (Nat.le_refl _)
    · exact (k.1 z hz).fin (Nat.le_refl _) (Nat.le_refl _) h3
  · have q1 := (h.1 y hy).lt g hg
    have q2 := (k.1 z hz).lt g hg'
    omega
end
end Go.Proofs.YthbehhhblchhhaaGreat
