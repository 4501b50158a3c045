/- The third part of this seat's base: rows of the call's own whose elements hold a slice of their own; writing into an interval of blocks. -/
import Derived.Test.YthbehhhblchhhaaGreatMem
namespace Go.Proofs.YthbehhhblchhhaaGreat
open Go Go.RowKit

/-! ### Of what was there only blocks of an interval may have changed -/
structure StpI (w w' : World) (lo hi : Nat) : Prop where
  os : w'.os = w.os
  tape : w'.tape = w.tape
  output : w'.output = w.output
  size : w.heap.size ≤ w'.heap.size
  block : ∀ i, i < w.heap.size → (i < lo ∨ hi ≤ i) → w'.heap[i]? = w.heap[i]?
theorem StpI.of_stp {w w' : World} {r : Option Nat} {lo hi : Nat} (h : Stp w w' r) (hr : ∀ g, r = some g → lo ≤ g ∧ g < hi) : StpI w w' lo hi :=
  ⟨h.os, h.tape, h.output, h.size, fun i hi hn => h.block i hi fun e => by have := hr i e.symm; omega⟩
theorem StpI.of_ext {w w' : World} (h : Ext w w') (lo hi : Nat) : StpI w w' lo hi := ⟨h.os, h.tape, h.output, h.size, fun i hi _ => h.block i hi⟩
theorem StpI.rfl' (w : World) (lo hi : Nat) : StpI w w lo hi := StpI.of_ext (Ext.rfl' w) lo hi
theorem StpI.trans' {a b c : World} {lo hi : Nat} (h : StpI a b lo hi) (k : StpI b c lo hi) : StpI a c lo hi :=
  ⟨k.os.trans h.os, k.tape.trans h.tape, k.output.trans h.output, Nat.le_trans h.size k.size, fun i hi hn => (k.block i (Nat.lt_of_lt_of_le hi h.size) hn).trans (h.block i hi hn)⟩
theorem StpI.wide {a b : World} {lo hi lo' hi' : Nat} (h : StpI a b lo hi) (h1 : lo' ≤ lo) (h2 : hi ≤ hi') : StpI a b lo' hi' :=
  ⟨h.os, h.tape, h.output, h.size, fun i hi hn => h.block i hi (by omega)⟩
/-- Blocks that were laid since then are no loss: the interval may be cut at what was there. -/
theorem StpI.cut {a b c : World} {lo hi hi' : Nat} (h : StpI a b lo hi) (k : StpI b c lo hi') (hc : hi' ≤ hi ∨ a.heap.size ≤ hi) : StpI a c lo hi :=
  ⟨k.os.trans h.os, k.tape.trans h.tape, k.output.trans h.output, Nat.le_trans h.size k.size, fun i hi hn => (k.block i (Nat.lt_of_lt_of_le hi h.size) (by omega)).trans (h.block i hi hn)⟩
theorem StpI.to_ext {a b : World} {lo hi : Nat} (h : StpI a b lo hi) (hl : hi ≤ lo) : Ext a b := ⟨h.os, h.tape, h.output, h.size, fun i hi => h.block i hi (by omega)⟩
theorem Ext.stpI {a b c : World} {lo hi : Nat} (h : Ext a b) (k : StpI b c lo hi) (hl : a.heap.size ≤ lo) : Ext a c :=
  ⟨k.os.trans h.os, k.tape.trans h.tape, k.output.trans h.output, Nat.le_trans h.size k.size, fun i hi => (k.block i (Nat.lt_of_lt_of_le hi h.size) (by omega)).trans (h.block i hi)⟩
theorem Rds.stpI {α : Type} {s : Shp α} {S : Nat → Prop} {w w' : World} {v : Value} {xs : List α} {lo hi : Nat} (h : Rds s S w v xs) (hp : 0 < s.sz) (k : StpI w w' lo hi) (hS : ∀ i, S i → i < lo ∨ hi ≤ i) : Rds s S w' v xs :=
  h.keep hp fun i hi hlt => ⟨hi, k.block i hlt (hS i hi)⟩
theorem CellsAt.stpI {w w' : World} {p : Addr} {cs : List Value} {lo hi : Nat} (h : CellsAt w p cs) (k : StpI w w' lo hi) (hp : p.block < lo ∨ hi ≤ p.block) : CellsAt w' p cs := h.keep fun hb => k.block _ hb hp
theorem Box.stpI {w w' : World} {g : Nat} {T : TypeId} {cs : List Value} {lo hi : Nat} (h : Box w g T cs) (k : StpI w w' lo hi) (hg : g < lo ∨ hi ≤ g) : Box w' g T cs := (k.block g h.lt hg).trans h
theorem Own.stpI {α : Type} {s : Shp α} {e : TypeId} {lo le hi lo' hi' : Nat} {w w' : World} {v : Value} {xs : List α} (h : Own s e lo le hi w v xs) (k : StpI w w' lo' hi') (hd : hi ≤ lo' ∨ (hi' ≤ lo ∧ hi' ≤ le)) : Own s e lo le hi w' v xs := by
  obtain ⟨cs, S, k1, k2, k3, k4⟩ := h
  refine ⟨cs, S, ⟨k1.1, ?_⟩, k2.keep fun i hS hlt => ⟨hS, k.block i hlt (by have := k4 i hS; omega)⟩, k3, k4⟩
  rcases k1.2 with h1 | ⟨g, cap, cur, rfl, hb, hg, rest⟩
  · exact .inl h1
  · have hgh := (k3 g rfl).2
    refine .inr ⟨g, cap, cur, rfl, hb, ?_, rest⟩
    rw [k.block g (Array.getElem?_eq_some_iff.1 hg).1 (by omega)]; exact hg
/-- Of what was there only blocks of a set may have changed. -/
structure StpL (w w' : World) (B : Nat → Prop) : Prop where
  os : w'.os = w.os
  tape : w'.tape = w.tape
  output : w'.output = w.output
  size : w.heap.size ≤ w'.heap.size
  block : ∀ i, i < w.heap.size → ¬ B i → w'.heap[i]? = w.heap[i]?
theorem Stp.toL {w w' : World} {r : Option Nat} {B : Nat → Prop} (h : Stp w w' r) (hr : ∀ g, r = some g → B g) : StpL w w' B :=
  ⟨h.os, h.tape, h.output, h.size, fun i hi hn => h.block i hi fun e => hn (hr i e.symm)⟩
theorem StpL.of_ext {w w' : World} {B : Nat → Prop} (h : Ext w w') : StpL w w' B := ⟨h.os, h.tape, h.output, h.size, fun i hi _ => h.block i hi⟩
theorem StpL.trans' {a b c : World} {B : Nat → Prop} (h : StpL a b B) (k : StpL b c B) : StpL a c B :=
  ⟨k.os.trans h.os, k.tape.trans h.tape, k.output.trans h.output, Nat.le_trans h.size k.size, fun i hi hn => (k.block i (Nat.lt_of_lt_of_le hi h.size) hn).trans (h.block i hi hn)⟩
theorem Ext.stpL {a b c : World} {B : Nat → Prop} (h : Ext a b) (k : StpL b c B) (hl : ∀ i, B i → a.heap.size ≤ i) : Ext a c :=
  ⟨k.os.trans h.os, k.tape.trans h.tape, k.output.trans h.output, Nat.le_trans h.size k.size, fun i hi => (k.block i (Nat.lt_of_lt_of_le hi h.size) (fun q => by have := hl i q; omega)).trans (h.block i hi)⟩
theorem Rds.stpL {α : Type} {s : Shp α} {S : Nat → Prop} {w w' : World} {v : Value} {xs : List α} {B : Nat → Prop} (h : Rds s S w v xs) (hp : 0 < s.sz) (k : StpL w w' B) (hS : ∀ i, S i → ¬ B i) : Rds s S w' v xs :=
  h.keep hp fun i hi hlt => ⟨hi, k.block i hlt (hS i hi)⟩
theorem CellsAt.stpL {w w' : World} {p : Addr} {cs : List Value} {B : Nat → Prop} (h : CellsAt w p cs) (k : StpL w w' B) (hp : ¬ B p.block) : CellsAt w' p cs := h.keep fun hb => k.block _ hb hp
theorem Box.stpL {w w' : World} {g : Nat} {T : TypeId} {cs : List Value} {B : Nat → Prop} (h : Box w g T cs) (k : StpL w w' B) (hg : ¬ B g) : Box w' g T cs := (k.block g h.lt hg).trans h
/-- Of what was there only blocks of an interval, and of rows of these types, may have changed. -/
structure StpT (w w' : World) (lo hi : Nat) (Ts : List Nat) : Prop where
  os : w'.os = w.os
  tape : w'.tape = w.tape
  output : w'.output = w.output
  size : w.heap.size ≤ w'.heap.size
  block : ∀ i, i < w.heap.size → (i < lo ∨ hi ≤ i ∨ ∃ cur e, w.heap[i]? = some (.cells cur e (0, 0)) ∧ Ts.contains e = false) → w'.heap[i]? = w.heap[i]?
theorem StpT.of_ext {w w' : World} (h : Ext w w') (lo hi : Nat) (Ts : List Nat) : StpT w w' lo hi Ts := ⟨h.os, h.tape, h.output, h.size, fun i hi _ => h.block i hi⟩
theorem StpT.rfl' (w : World) (lo hi : Nat) (Ts : List Nat) : StpT w w lo hi Ts := StpT.of_ext (Ext.rfl' w) lo hi Ts
theorem StpT.of_stp {w w' : World} {r : Option Nat} {lo hi : Nat} {Ts : List Nat} {e : Nat} (h : Stp w w' r) (hr : ∀ g, r = some g → lo ≤ g ∧ g < hi) (ht : ∀ g, r = some g → ∃ cur, w.heap[g]? = some (.cells cur e (0, 0))) (he : Ts.contains e = true) : StpT w w' lo hi Ts :=
  ⟨h.os, h.tape, h.output, h.size, fun i hi hn => h.block i hi fun q => by
    have h1 := hr i q.symm
    obtain ⟨c1, h2⟩ := ht i q.symm
    rcases hn with hn | hn | ⟨c2, e2, h3, h4⟩
    · omega
    · omega
    · rw [h2] at h3; cases h3; rw [he] at h4; cases h4⟩
theorem StpT.trans' {a b c : World} {lo hi : Nat} {Ts : List Nat} (h : StpT a b lo hi Ts) (k : StpT b c lo hi Ts) : StpT a c lo hi Ts :=
  ⟨k.os.trans h.os, k.tape.trans h.tape, k.output.trans h.output, Nat.le_trans h.size k.size, fun i hi hn => by
    have h1 := h.block i hi hn
    refine (k.block i (Nat.lt_of_lt_of_le hi h.size) ?_).trans h1
    rcases hn with hn | hn | ⟨cu, e, h2, h3⟩
    · exact .inl hn
    · exact .inr (.inl hn)
    · exact .inr (.inr ⟨cu, e, h1.trans h2, h3⟩)⟩
theorem StpT.toI {a b : World} {lo hi : Nat} {Ts : List Nat} (h : StpT a b lo hi Ts) : StpI a b lo hi := ⟨h.os, h.tape, h.output, h.size, fun i hi hn => h.block i hi (hn.imp id .inl)⟩
theorem Own.stpT {α : Type} {s : Shp α} {e : TypeId} {lo le hi lo' hi' : Nat} {Ts : List Nat} {w w' : World} {v : Value} {xs : List α} (hf : Flat s) (h : Own s e lo le hi w v xs) (k : StpT w w' lo' hi' Ts) (hne : Ts.contains e = false) : Own s e lo le hi w' v xs := by
  obtain ⟨cs, S, k1, k2, k3, k4⟩ := h
  refine ⟨cs, fun _ => False, ⟨k1.1, ?_⟩, k2.flat hf, fun g hg => ⟨fun q => q.elim, (k3 g hg).2⟩, fun _ q => q.elim⟩
  rcases k1.2 with h1 | ⟨g, cap, cur, rfl, hb, hg, rest⟩
  · exact .inl h1
  · refine .inr ⟨g, cap, cur, rfl, hb, ?_, rest⟩
    rw [k.block g (Array.getElem?_eq_some_iff.1 hg).1 (.inr (.inr ⟨cur, e, hg, hne⟩))]; exact hg
def RetT (w : World) (lo hi : Nat) (Ts : List Nat) (R : Value → World → Prop) (e : Ending) (w' : World) : Prop := ∃ v, e = .returned v ∧ StpT w w' lo hi Ts ∧ R v w'
theorem ret_mkT {w w' : World} {lo hi : Nat} {Ts : List Nat} {R : Value → World → Prop} {v : Value} (hx : StpT w w' lo hi Ts) (h : R v w') : RetT w lo hi Ts R (.returned v) w' := ⟨v, rfl, hx, h⟩
theorem wl_callT {P : Program} {ops : Array Oper} {rest : List Oper} {o : Oper} {a : Act} {w : World} {N : Nat} {l : List (Nat × Value)} {d : Nat} {Q : Exit → Act → World → Prop} {f : FuncId} {args : Array Value} {lo hi : Nat} {Ts : List Nat} {R : Value → World → Prop}
    (ha : Sl N a l) (hd : o.dst = some d) (hN : Nat.blt d N = true) (hw : wants ops l o = some true) (hr : (execOp a.eval o).run P w = .ok (.enter f args) w) (hc : Calls P f args w (RetT w lo hi Ts R))
    (k : ∀ v w', StpT w w' lo hi Ts → R v w' → ∀ a', Sl N a' ((d, v) :: l) → wpList P ops Q rest a' w') : wpList P ops Q (o :: rest) a w :=
  wl_call ha hd hN hw hr hc fun _ w' ⟨v, he, hx, hR⟩ => ⟨v, he, k v w' hx hR⟩
/-- A call that returns, and of what was there changed blocks of the interval alone. -/
def RetI (w : World) (lo hi : Nat) (R : Value → World → Prop) (e : Ending) (w' : World) : Prop := ∃ v, e = .returned v ∧ StpI w w' lo hi ∧ R v w'
theorem ret_mkI {w w' : World} {lo hi : Nat} {R : Value → World → Prop} {v : Value} (hx : StpI w w' lo hi) (h : R v w') : RetI w lo hi R (.returned v) w' := ⟨v, rfl, hx, h⟩
theorem wl_callI {P : Program} {ops : Array Oper} {rest : List Oper} {o : Oper} {a : Act} {w : World} {N : Nat} {l : List (Nat × Value)} {d : Nat} {Q : Exit → Act → World → Prop} {f : FuncId} {args : Array Value} {lo hi : Nat} {R : Value → World → Prop}
    (ha : Sl N a l) (hd : o.dst = some d) (hN : Nat.blt d N = true) (hw : wants ops l o = some true) (hr : (execOp a.eval o).run P w = .ok (.enter f args) w) (hc : Calls P f args w (RetI w lo hi R))
    (k : ∀ v w', StpI w w' lo hi → R v w' → ∀ a', Sl N a' ((d, v) :: l) → wpList P ops Q rest a' w') : wpList P ops Q (o :: rest) a w :=
  wl_call ha hd hN hw hr hc fun _ w' ⟨v, he, hx, hR⟩ => ⟨v, he, k v w' hx hR⟩

/-! ### Elements that hold a slice: what they say, and the slice's value -/
section
variable {X β : Type} {t : Shp β} {et : TypeId} {f : X → List β} {lo hi lo' hi' : Nat} {w w' : World} {zs ys : List (X × Value)} {r : Option Nat}
/-- No two of these slices share a block. -/
def Apart (zs : List (X × Value)) : Prop := zs.Pairwise fun y z => ∀ g, y.2.ownBlock = some g → z.2.ownBlock ≠ some g
/-- Each of these slices is a row of the call's own, and none shares a block with another. -/
def Nst (t : Shp β) (et : TypeId) (f : X → List β) (lo hi : Nat) (w : World) (zs : List (X × Value)) : Prop := (∀ z ∈ zs, Own t et lo lo hi w z.2 (f z.1)) ∧ Apart zs
theorem Nst.nil (t : Shp β) (et : TypeId) (f : X → List β) (lo hi : Nat) (w : World) : Nst t et f lo hi w [] := ⟨fun z h => by simp at h, List.Pairwise.nil⟩
theorem Nst.get (h : Nst t et f lo hi w zs) {j : Nat} {z : X × Value} (hz : zs[j]? = some z) : Own t et lo lo hi w z.2 (f z.1) := h.1 z (List.mem_of_getElem? hz)
theorem Nst.cast (h : Nst t et f lo hi w zs) (e : zs = ys) : Nst t et f lo hi w ys := e ▸ h
theorem Nst.fin (h : Nst t et f lo hi w zs) (h1 : lo' ≤ lo) (h2 : hi ≤ hi') : Nst t et f lo' hi' w zs := ⟨fun z hz => (h.1 z hz).fin h1 h1 h2, h.2⟩
theorem Nst.stp (h : Nst t et f lo hi w zs) (k : Stp w w' r) (hr : ∀ g, r = some g → g < lo ∨ hi ≤ g) : Nst t et f lo hi w' zs := ⟨fun z hz => (h.1 z hz).stp k fun g hg => by have := hr g hg; omega, h.2⟩
theorem Nst.ext (h : Nst t et f lo hi w zs) (k : Ext w w') : Nst t et f lo hi w' zs := h.stp (Stp.of_ext k) (by simp)
theorem Nst.stpI (h : Nst t et f lo hi w zs) (k : StpI w w' lo' hi') (hd : hi ≤ lo' ∨ hi' ≤ lo) : Nst t et f lo hi w' zs := ⟨fun z hz => (h.1 z hz).stpI k (by omega), h.2⟩
/-- What is written lies in rows of other elements. -/
theorem Nst.stpF {α : Type} {s : Shp α} {e : TypeId} {a b c : Nat} {v : Value} {xs : List α} (hf : Flat t) (h : Nst t et f lo hi w zs) (k : Stp w w' v.ownBlock) (o : Own s e a b c w v xs) (hne : Nat.beq et e = false) : Nst t et f lo hi w' zs :=
  ⟨fun z hz => (h.1 z hz).stpF hf k ((h.1 z hz).ne o hne), h.2⟩
theorem Nst.stpB {g : Nat} {T : TypeId} {cs : List Value} (hf : Flat t) (h : Nst t et f lo hi w zs) (k : Stp w w' (some g)) (o : Box w g T cs) (hne : Nat.beq et T = false) : Nst t et f lo hi w' zs :=
  ⟨fun z hz => (h.1 z hz).stpF hf k (by intro q hq; cases hq; exact (h.1 z hz).ne_box o hne), h.2⟩
theorem Nst.sub (h : Nst t et f lo hi w zs) (hs : ys.Sublist zs) : Nst t et f lo hi w ys := ⟨fun z hz => h.1 z (hs.subset hz), h.2.sublist hs⟩
theorem Nst.perm (h : Nst t et f lo hi w zs) (hp : ys.Perm zs) : Nst t et f lo hi w ys :=
  ⟨fun z hz => h.1 z (hp.subset hz), h.2.perm hp.symm fun {y z} k g hg hz => k g hz hg⟩
theorem Nst.app (h : Nst t et f lo hi w zs) (k : Nst t et f lo' hi' w ys) (h1 : lo ≤ lo') (h2 : hi ≤ lo') (h3 : hi ≤ hi') : Nst t et f lo hi' w (zs ++ ys) := by
  refine ⟨fun z hz => ?_, List.pairwise_append.2 ⟨h.2, k.2, fun y hy z hz g hg hg' => ?_⟩⟩
  · rcases List.mem_append.1 hz with hz | hz
    · exact (h.1 z hz).fin (Nat.le_refl _) (Nat.le_refl _) h3
    · exact (k.1 z hz).fin h1 h1 (Nat.le_refl _)
  · have q1 := (h.1 y hy).lt g hg
    have q2 := (k.1 z hz).lt g hg'
    omega
theorem Nst.one {x : X} {u : Value} (ho : Own t et lo lo hi w u (f x)) : Nst t et f lo hi w [(x, u)] := ⟨fun z hz => by simp at hz; subst hz; exact ho, List.pairwise_singleton _ _⟩
theorem Nst.snoc (h : Nst t et f lo hi w zs) {x : X} {u : Value} (ho : Own t et lo' lo' hi' w u (f x)) (h1 : lo ≤ lo') (h2 : hi ≤ lo') (h3 : hi ≤ hi') : Nst t et f lo hi' w (zs ++ [(x, u)]) := h.app (Nst.one ho) h1 h2 h3
theorem Apart.set {j : Nat} {q : X × Value} (h : Apart zs) (hq : ∀ k z, k ≠ j → zs[k]? = some z → ∀ g, q.2.ownBlock = some g → z.2.ownBlock ≠ some g) : Apart (zs.set j q) := by
  refine List.pairwise_iff_getElem.2 fun a b ha hb hab g hg hg' => ?_
  rw [List.length_set] at ha hb
  rw [List.getElem_set] at hg hg'
  split at hg
  · rename_i e1
    rw [if_neg (by omega)] at hg'
    exact hq b _ (by omega) (List.getElem?_eq_getElem hb) g hg hg'
  · split at hg'
    · exact hq a _ (by omega) (List.getElem?_eq_getElem ha) g hg' hg
    · exact List.pairwise_iff_getElem.1 h a b ha hb hab g hg hg'
theorem Apart.at_ (h : Apart zs) {j k : Nat} {y z : X × Value} (hjk : j ≠ k) (hy : zs[j]? = some y) (hz : zs[k]? = some z) : ∀ g, y.2.ownBlock = some g → z.2.ownBlock ≠ some g := by
  obtain ⟨h1, rfl⟩ := List.getElem?_eq_some_iff.1 hy
  obtain ⟨h2, rfl⟩ := List.getElem?_eq_some_iff.1 hz
  intro g hg hg'
  rcases Nat.lt_or_gt_of_ne hjk with q | q
  · exact List.pairwise_iff_getElem.1 h j k h1 h2 q g hg hg'
  · exact List.pairwise_iff_getElem.1 h k j h2 h1 q g hg' hg
theorem mem_set_at {α : Type} {xs : List α} {j : Nat} {q z : α} (h : z ∈ xs.set j q) : z = q ∨ ∃ k, k ≠ j ∧ xs[k]? = some z := by
  obtain ⟨k, hk⟩ := List.getElem?_of_mem h
  rw [List.getElem?_set] at hk
  split at hk
  · split at hk
    · cases hk; exact .inl rfl
    · cases hk
  · exact .inr ⟨k, by omega, hk⟩
/-- One of them is replaced by a fresh one. -/
theorem Nst.set (h : Nst t et f lo hi w zs) {j : Nat} {x : X} {u : Value} (ho : Own t et lo' lo' hi' w u (f x)) (h1 : lo ≤ lo') (h2 : hi ≤ lo') (h3 : hi ≤ hi') : Nst t et f lo hi' w (zs.set j (x, u)) := by
  refine ⟨fun z hz => ?_, h.2.set fun k z _ hz g hg hg' => ?_⟩
  · rcases mem_set_at hz with e | ⟨k, _, hk⟩
    · subst e; exact ho.fin h1 h1 (Nat.le_refl _)
    · exact (h.get hk).fin (Nat.le_refl _) (Nat.le_refl _) h3
  · have q1 := (h.get hz).lt g hg'
    have q2 := ho.lt g hg
    omega
/-- One of them has been written, or has grown. -/
theorem Nst.put (hf : Flat t) (h : Nst t et f lo hi w zs) {j : Nat} {z : X × Value} (hz : zs[j]? = some z) (k : Stp w w' z.2.ownBlock) {x : X} {u : Value} (ho : Own t et lo lo hi' w' u (f x)) (hu : u.ownBlock = z.2.ownBlock ∨ ∀ g, u.ownBlock = some g → hi ≤ g) (h3 : hi ≤ hi') : Nst t et f lo hi' w' (zs.set j (x, u)) := by
  refine ⟨fun q hq => ?_, h.2.set fun k y hkj hy g hg hg' => ?_⟩
  · rcases mem_set_at hq with e | ⟨i, hij, hi⟩
    · subst e; exact ho
    · exact ((h.get hi).stpF hf k fun g hg => h.2.at_ (Ne.symm hij) hz hi g hg).fin (Nat.le_refl _) (Nat.le_refl _) h3
  · rcases hu with hu | hu
    · rw [hu] at hg; exact h.2.at_ (Ne.symm hkj) hz hy g hg hg'
    · have q1 := (h.get hy).lt g hg'
      have q2 := hu g hg
      omega
theorem Nst.stay (h : Nst t et f lo hi w zs) {j : Nat} {x : X} {z : X × Value} (hz : zs[j]? = some z) (e : f x = f z.1) : Nst t et f lo hi w (zs.set j (x, z.2)) := by
  refine ⟨fun q hq => ?_, h.2.set fun k y hkj hy g hg => h.2.at_ (Ne.symm hkj) hz hy g hg⟩
  rcases mem_set_at hq with e1 | ⟨i, _, hi⟩
  · subst e1; show Own t et lo lo hi w z.2 (f x); rw [e]; exact h.get hz
  · exact h.get hi
/-- Cells that read as elements with their slices' values read as the elements, if each slice reads as what its element says. -/
theorem els_conv {s : Shp (X × Value)} {s' : Shp X} {S S' : Nat → Prop} (hsz : s.sz = s'.sz) (hc : ∀ c z, s.rep w S c z → z ∈ zs → s'.rep w S' c z.1) : ∀ {ys : List (X × Value)} {cs : List Value}, (∀ z ∈ ys, z ∈ zs) → Els s w S cs ys → Els s' w S' cs (ys.map (·.1))
  | [], cs, _, h => h
  | y :: ys, cs, hm, h => by
    obtain ⟨h1, h2⟩ := h
    refine ⟨?_, ?_⟩
    · rw [← hsz]; exact hc _ _ h1 (hm y (by simp))
    · rw [← hsz]; exact els_conv hsz hc (fun z hz => hm z (by simp [hz])) h2
/-- A row of the call's own with slices of its own, read as a list. -/
theorem own_rds {s : Shp (X × Value)} {s' : Shp X} {e : TypeId} {v : Value} {S' : Nat → Prop} (hp : 0 < s.sz) (hsz : s.sz = s'.sz) (ho : Own s e lo lo hi w v zs) (hS : ∀ i, lo ≤ i ∧ i < hi → S' i)
    (hc : ∀ S c z, s.rep w S c z → z ∈ zs → s'.rep w S' c z.1) : Rds s' S' w v (zs.map (·.1)) := by
  obtain ⟨cs, ⟨h1, A, c, h2, h3, h4, h5⟩, he⟩ := ho.rds hp
  refine ⟨cs, ⟨by rw [h1, List.length_map, hsz], A, c, by rw [h2, List.length_map], by rw [List.length_map]; exact h3, h4, fun hn => ?_⟩, els_conv hsz (fun c z hr hz => hc _ c z hr hz) (fun z hz => hz) he⟩
  rw [List.length_map] at hn
  obtain ⟨ad, q1, q2, q3⟩ := h5 hn
  exact ⟨ad, q1, hS _ (by simpa [Iv] using q2), q3⟩
end
theorem absLen {X : Type} {zs : List (X × Value)} {T : List X} (h : zs.map (·.1) = T) : zs.length = T.length := by rw [← h, List.length_map]
theorem Nst.zeros {X β : Type} {t : Shp β} {et : TypeId} {f : X → List β} {lo hi : Nat} {w : World} {n : Nat} {x : X} (hx : f x = []) : Nst t et f lo hi w (List.replicate n (x, (.slice none 0 0 : Value))) := by
  refine ⟨fun z hz => ?_, List.pairwise_replicate.2 (.inr fun g hg => by simp [Value.ownBlock] at hg)⟩
  rw [List.eq_of_mem_replicate hz]
  exact Own.nil_ _ _ _ _ _ _ hx.symm
theorem els_ghost {α : Type} {s : Shp α} {w : World} {S : Nat → Prop} {z q : α} (hq : ∀ c, s.rep w S c z → s.rep w S c q) : ∀ {zs : List α} {cs : List Value} {j : Nat}, zs[j]? = some z → Els s w S cs zs → Els s w S cs (zs.set j q)
  | [], _, _, hz, _ => by simp at hz
  | y :: ys, cs, 0, hz, h => by
    simp at hz; subst hz
    exact ⟨hq _ h.1, h.2⟩
  | y :: ys, cs, j + 1, hz, h => ⟨h.1, els_ghost hq (by simpa using hz) h.2⟩
/-- What an element's slice holds is no matter of the row's own cells. -/
theorem Own.ghost {α : Type} {s : Shp α} {e : TypeId} {lo le hi : Nat} {w : World} {v : Value} {zs : List α} {j : Nat} {z q : α} (h : Own s e lo le hi w v zs) (hz : zs[j]? = some z) (hq : ∀ w S c, s.rep w S c z → s.rep w S c q) : Own s e lo le hi w v (zs.set j q) := by
  obtain ⟨cs, S, k1, k2, k3, k4⟩ := h
  exact ⟨cs, S, by rw [List.length_set]; exact k1, els_ghost (hq w S) hz k2, k3, k4⟩
theorem Own.one {α : Type} {s : Shp α} {e : TypeId} {lo le hi : Nat} {w : World} {v : Value} {xs : List α} (h : Own s e lo le hi w v xs) : v.oneCell' = true := by
  obtain ⟨cs, S, k1, _⟩ := h
  rcases k1.2 with ⟨rfl, _⟩ | ⟨g, cap, cur, rfl, _⟩ <;> rfl
theorem Rds.one {α : Type} {s : Shp α} {S : Nat → Prop} {w : World} {v : Value} {xs : List α} (h : Rds s S w v xs) : v.oneCell' = true := by
  obtain ⟨_, _, rfl, _⟩ := h.form; rfl
theorem cells1_of {v : Value} (h : v.oneCell' = true) : v.cells = #[v] := by cases v <;> first | rfl | cases h
theorem Own.cells1 {α : Type} {s : Shp α} {e : TypeId} {lo le hi : Nat} {w : World} {v : Value} {xs : List α} (h : Own s e lo le hi w v xs) : v.cells = #[v] := cells1_of h.one
theorem Rds.cells1 {α : Type} {s : Shp α} {S : Nat → Prop} {w : World} {v : Value} {xs : List α} (h : Rds s S w v xs) : v.cells = #[v] := cells1_of h.one
/-- A part of one cell goes to its place. -/
theorem fill_one {place : Nat → Option (Nat × Nat)} {cells : Array Value} {i off : Nat} {v : Value} {rest : List (Nat × Value)} (hc : v.cells = #[v]) (hp : place i = some (off, 1)) (hlt : Nat.blt off cells.size = true) :
    Instr.fill place cells ((i, v) :: rest) = Instr.fill place (cells.setIfInBounds off v) rest := by
  have h : off < cells.size := by simpa [Nat.blt_eq] using hlt
  have h2 : ¬ (cells.size < off + 1) := by omega
  rw [Instr.fill]
  simp [hp, hc, h2]
theorem pw_swap {α : Type} {xs : List α} {j : Nat} {x y : α} (hx : xs[j]? = some x) (hy : xs[j + 1]? = some y) : ((xs.set j y).set (j + 1) x).Perm xs := by
  induction xs generalizing j with
  | nil => simp at hx
  | cons z zs ih =>
    cases j with
    | zero =>
      cases zs with
      | nil => simp at hy
      | cons u us => simp at hx hy; subst hx hy; exact List.Perm.swap _ _ _
    | succ j => simp only [List.set_cons_succ]; exact (ih (by simpa using hx) (by simpa using hy)).cons z
/-! ### A row without one of its elements -/
section
variable {P : Program} {a : Act} {o : Oper} {w w' : World} {N : Nat} {l : List (Nat × Value)} {x y c : Operand} {v u u2 z : Value} {T T' e : TypeId} {sz bytes : Nat}
  {α : Type} {s : Shp α} {lo le hi : Nat} {xs ys : List α}
/-- The row's first elements alone. -/
theorem Own.short {g n cap k : Nat} (h : Own s e lo le hi w (.slice (some ⟨g, 0, none⟩) n cap) xs) (hk : k ≤ n) : Own s e lo le hi w (.slice (some ⟨g, 0, none⟩) k cap) (xs.take k) := by
  obtain ⟨cs, S, k1, k2, k3, k4⟩ := h
  rcases k1.2 with ⟨q, _⟩ | ⟨g', cap', cur, e1, hb, hg, hnc, hcm, hcs, ht⟩
  · cases q
  · cases e1
    have hl : (xs.take k).length = k := by rw [List.length_take]; omega
    refine ⟨cs.take (k * s.sz), S, ⟨?_, .inr ⟨g, cap, cur, by rw [hl], hb, hg, by rw [hl]; omega, hcm, hcs, ?_⟩⟩, k2.take_ k, k3, k4⟩
    · rw [hl, List.length_take, k1.1]; exact Nat.min_eq_left (Nat.mul_le_mul_right _ hk)
    · rw [hl, ← ht, List.take_take, Nat.min_eq_left (Nat.mul_le_mul_right _ hk)]
/-- 'append(xs[:m], xs[j:]...)' inside a row of the call's own. -/
theorem op_del {m j m2 : Nat} {ts : Array TypeId} (ha : Sl N a l) (ho : o.op = .call { callee := .builtin .append, args := #[x, y], argTypes := #[T, T] }) (hT : P.underlying T = some (.slice e)) (hE : TI P e s.sz bytes z)
    (hx : ev l x = some u) (hy : ev l y = some u2) (hv : Own s e lo le hi w v xs) (h0 : 0 < xs.length) (hu : PartP v u s.sz 0 m) (hu2 : PartP v u2 s.sz j m2) (hfit : m + m2 ≤ xs.length) :
    Eff P a o w (fun v' w' => Own s e lo le hi w' v' (xs.take m ++ (xs.drop j).take m2) ∧ Stp w w' v.ownBlock ∧ v'.ownBlock = v.ownBlock ∧ w'.heap.size = w.heap.size) := by
  have hv0 := hv
  obtain ⟨g, c, hvf, hc, hcm⟩ := hv.form h0
  obtain ⟨ad, n, c1, A, e1, hb1, hc1, rfl, hA, hA'⟩ := hu
  obtain ⟨ad2, n2, c2, A2, e2, hb2, hc2, rfl, hA2, hA2'⟩ := hu2
  obtain ⟨b2, rfl⟩ := hA2'
  rw [hvf] at e1 e2
  cases e1
  cases e2
  have eA := hA (by omega)
  rw [Nat.zero_mul, add_zero'] at eA
  subst eA
  obtain ⟨cl, S, k1, k2, k3, k4⟩ := hv
  have hlen := k2.len
  have he := (k2.drop_ j).take_ m2
  have hyl : ((xs.drop j).take m2).length = m2 := by rw [List.length_take, List.length_drop]; omega
  have hld : (loadCells b2 (m2 * s.sz)).run P w = .ok ((cl.drop (j * s.sz)).take (m2 * s.sz)).toArray w := by
    have hl : ((cl.drop (j * s.sz)).take (m2 * s.sz)).length = m2 * s.sz := by rw [he.len, hyl]
    have := run_loadCells_list (P := P) w b2 ((cl.drop (j * s.sz)).take (m2 * s.sz)) (fun q r hr => by
      have hq : q < m2 * s.sz := by
        have := (List.getElem?_eq_some_iff.1 hr).1
        omega
      have hpos : 0 < m2 := by
        rcases Nat.eq_zero_or_pos m2 with h | h
        · rw [h] at hq; omega
        · exact h
      have eb := hA2 (by omega)
      cases eb
      rw [add_add]
      refine k1.cells (g := g) (by rw [hvf]; rfl) _ r ?_
      rw [List.getElem?_take, if_pos hq, List.getElem?_drop] at hr
      exact hr)
    rw [hl] at this
    exact this
  obtain ⟨g', c', w', hvf', hst, h1, h2, h3⟩ := Own.write P (i := m) (ys := (xs.drop j).take m2) hv0 h0 (by rw [hyl]; exact hfit) (ds := (cl.drop (j * s.sz)).take (m2 * s.sz)) (S' := S) he
    (fun k hk => ⟨(k4 k hk).1, (k4 k hk).2, fun q => (k3 k q).1 hk⟩)
  rw [hvf] at hvf'
  cases hvf'
  rw [hvf] at h1
  have h4 := h1.short (k := m + m2) hfit
  have h5 : (xs.take m ++ (xs.drop j).take m2 ++ xs.drop (m + ((xs.drop j).take m2).length)).take (m + m2) = xs.take m ++ (xs.drop j).take m2 := by
    rw [List.take_append_of_le_length (by rw [List.length_append, hyl, List.length_take]; omega), List.take_of_length_le (by rw [List.length_append, hyl, List.length_take]; omega)]
  rw [h5] at h4
  refine ⟨_, w', ?_, h4, h2, by rw [hvf]; rfl, h3⟩
  unfold OpTo execOp
  simp only [ho, resolve, invoke, builtin, Sem.run_bind, Sem.run_pure, Result.andThen_ok, List.map_toArray, List.map_cons, List.map_nil, ha.ev hx, ha.ev hy]
  have hroom : m + m2 ≤ c := by omega
  simp [Builtin.append_, run_underlying hT, Builtin.lenOf, Builtin.firstCells, hE.sizeOf, hroom, hld, hst]
end
end Go.Proofs.YthbehhhblchhhaaGreat
