/- Sources of drawn numbers: a box that functions change, and the rules for calls that change it. By-name template: seat-independent. -/
import Derived.Test.YthbehhhblchhhaaGreatNest
namespace Go.Proofs.YthbehhhblchhhaaGreat
open Go Go.RowKit
/-- In block g lies a source: its bytes (which lie in blocks below b), how many have been taken, its seed. -/
def Src (w : World) (g b T : Nat) : Prop := b ≤ g ∧ ∃ (v : Value) (code : List UInt8) (at_ : Nat) (seed : Int), Box w g T [v, .int .i64 (at_ : Int), .int .i64 seed] ∧ Rds shU8 (Iv 0 b) w v code ∧ at_ ≤ code.length ∧ 0 ≤ seed ∧ seed < 2147483647
theorem Src.lt {w : World} {g b T : Nat} (h : Src w g b T) : g < w.heap.size ∧ b ≤ g := by obtain ⟨h0, _, _, _, _, h, _⟩ := h; exact ⟨h.lt, h0⟩
theorem Src.stp {w w' : World} {g b T : Nat} {r : Option Nat} (h : Src w g b T) (k : Stp w w' r) (hr : ∀ q, r = some q → b ≤ q ∧ g ≠ q) : Src w' g b T := by
  obtain ⟨h0, v, code, at_, seed, hB, hR, h1⟩ := h
  exact ⟨h0, v, code, at_, seed, hB.stp k (fun q hq => (hr q hq).2), hR.stp pos_shU8 k (fun q hq hi => by have := hr q hq; have := hi.2; omega), h1⟩
theorem Src.ext {w w' : World} {g b T : Nat} (h : Src w g b T) (k : Ext w w') : Src w' g b T := h.stp (Stp.of_ext k) (by simp)
theorem Rds.low {α : Type} {s : Shp α} {S : Nat → Prop} {w0 w : World} {v : Value} {xs : List α} {g : Nat} (hp : 0 < s.sz) (h : Rds s S w0 v xs) (hx : Ext w0 w) (hg : w0.heap.size ≤ g) : Rds s (Iv 0 g) w v xs :=
  h.keep hp fun k _ hk => ⟨⟨Nat.zero_le _, by omega⟩, hx.block k hk⟩
theorem Stp.fresh {a b c : World} {r r' : Option Nat} (h : Stp a b r) (k : Stp b c r') (hl : ∀ q, r' = some q → a.heap.size ≤ q) : Stp a c r :=
  ⟨k.os.trans h.os, k.tape.trans h.tape, k.output.trans h.output, Nat.le_trans h.size k.size, fun i hi hr =>
    (k.block i (Nat.lt_of_lt_of_le hi h.size) (fun e => by have := hl i e.symm; omega)).trans (h.block i hi hr)⟩
theorem StpL.fresh {a b c : World} {B : Nat → Prop} {r' : Option Nat} (h : StpL a b B) (k : Stp b c r') (hl : ∀ q, r' = some q → a.heap.size ≤ q) : StpL a c B :=
  ⟨k.os.trans h.os, k.tape.trans h.tape, k.output.trans h.output, Nat.le_trans h.size k.size, fun i hi hr =>
    (k.block i (Nat.lt_of_lt_of_le hi h.size) (fun e => by have := hl i e.symm; omega)).trans (h.block i hi hr)⟩
section
variable {P : Program} {ops : Array Oper} {o : Oper} {a : Act} {w : World} {N : Nat} {l : List (Nat × Value)} {d i : Nat} {Q : Exit → Act → World → Prop} {K : Act → World → Prop} {x : Operand}
theorem po_callS {f : FuncId} {args : Array Value} {r : Option Nat} {R : Value → World → Prop} (ha : Sl N a l) (hi : ops[i]? = some o) (hd : o.dst = some d) (hN : Nat.blt d N = true) (hw : wants ops l o = some true)
    (hr : (execOp a.eval o).run P w = .ok (.enter f args) w) (hc : Calls P f args w (RetS w r R)) (k : ∀ v w', Stp w w' r → R v w' → ∀ a', Sl N a' ((d, v) :: l) → K a' w') : wpOp P ops Q i K a w := by
  unfold wpOp
  simp only [hi]
  rw [if_pos (wanted_of ha hw)]
  refine .inl ?_
  unfold Oper.wp
  rw [hr, Oper.upon_enter]
  refine hc.mono fun e w' ⟨v, he, hx, hR⟩ => ?_
  subst he
  rw [hd]
  exact k v w' hx hR _ (ha.put hN)
theorem op_nilCheck {p : Addr} (ha : Sl N a l) (ho : o.op = .nilCheck x) (hx : ev l x = some (.pointer (some p))) : OpVal P a o w (.pointer (some p)) := by
  unfold OpVal execOp; simp [ho, ha.ev hx]
end

/-! ### More results -/
theorem ret_ctt {fn : Func} {R : Ending → World → Prop} {N : Nat} {a : Act} {w : World} {l : List (Nat × Value)} {P : Program} {t0 : Tmp} {e0 : TypeId} {fs0 : Array Field} {p0 : Addr} {cs0 : List Value} {sz0 by0 : Nat} {z0 : Value} {t1 : Tmp} {v1 : Value} {t2 : Tmp} {v2 : Value}
    (ha : Sl N a l) (hr : fn.results = #[.cell t0 e0, .tmp t1, .tmp t2]) (x0 : lk l t0 = some (.pointer (some p0))) (T0 : P.underlying e0 = some (.struct fs0)) (E0 : TI P e0 sz0 by0 z0) (l0 : cs0.length = sz0) (c0 : CellsAt w p0 cs0) (x1 : lk l t1 = some v1) (x2 : lk l t2 = some v2)
    (h : R (.returned (.tuple #[.agg cs0.toArray, v1, v2])) w) : bodyPost P fn R .ret a w := by
  subst l0
  have e0' := ha.get t0 _ x0
  have e1' := ha.get t1 _ x1
  have e2' := ha.get t2 _ x2
  rw [Array.getD_eq_getD_getElem?] at e0' e1' e2'
  refine ⟨ha.defers, _, ?_, h⟩
  simp [results, hr, e0', e1', e2', asAddr, loadVar, isAgg, run_underlying T0, E0.sizeOf, run_loadCells_list w p0 cs0 (fun j v hv => c0 j v hv)]
theorem ret_cttt {fn : Func} {R : Ending → World → Prop} {N : Nat} {a : Act} {w : World} {l : List (Nat × Value)} {P : Program} {t0 : Tmp} {e0 : TypeId} {fs0 : Array Field} {p0 : Addr} {cs0 : List Value} {sz0 by0 : Nat} {z0 : Value} {t1 : Tmp} {v1 : Value} {t2 : Tmp} {v2 : Value} {t3 : Tmp} {v3 : Value}
    (ha : Sl N a l) (hr : fn.results = #[.cell t0 e0, .tmp t1, .tmp t2, .tmp t3]) (x0 : lk l t0 = some (.pointer (some p0))) (T0 : P.underlying e0 = some (.struct fs0)) (E0 : TI P e0 sz0 by0 z0) (l0 : cs0.length = sz0) (c0 : CellsAt w p0 cs0) (x1 : lk l t1 = some v1) (x2 : lk l t2 = some v2) (x3 : lk l t3 = some v3)
    (h : R (.returned (.tuple #[.agg cs0.toArray, v1, v2, v3])) w) : bodyPost P fn R .ret a w := by
  subst l0
  have e0' := ha.get t0 _ x0
  have e1' := ha.get t1 _ x1
  have e2' := ha.get t2 _ x2
  have e3' := ha.get t3 _ x3
  rw [Array.getD_eq_getD_getElem?] at e0' e1' e2' e3'
  refine ⟨ha.defers, _, ?_, h⟩
  simp [results, hr, e0', e1', e2', e3', asAddr, loadVar, isAgg, run_underlying T0, E0.sizeOf, run_loadCells_list w p0 cs0 (fun j v hv => c0 j v hv)]
theorem ret_ctttt {fn : Func} {R : Ending → World → Prop} {N : Nat} {a : Act} {w : World} {l : List (Nat × Value)} {P : Program} {t0 : Tmp} {e0 : TypeId} {fs0 : Array Field} {p0 : Addr} {cs0 : List Value} {sz0 by0 : Nat} {z0 : Value} {t1 : Tmp} {v1 : Value} {t2 : Tmp} {v2 : Value} {t3 : Tmp} {v3 : Value} {t4 : Tmp} {v4 : Value}
    (ha : Sl N a l) (hr : fn.results = #[.cell t0 e0, .tmp t1, .tmp t2, .tmp t3, .tmp t4]) (x0 : lk l t0 = some (.pointer (some p0))) (T0 : P.underlying e0 = some (.struct fs0)) (E0 : TI P e0 sz0 by0 z0) (l0 : cs0.length = sz0) (c0 : CellsAt w p0 cs0) (x1 : lk l t1 = some v1) (x2 : lk l t2 = some v2) (x3 : lk l t3 = some v3) (x4 : lk l t4 = some v4)
    (h : R (.returned (.tuple #[.agg cs0.toArray, v1, v2, v3, v4])) w) : bodyPost P fn R .ret a w := by
  subst l0
  have e0' := ha.get t0 _ x0
  have e1' := ha.get t1 _ x1
  have e2' := ha.get t2 _ x2
  have e3' := ha.get t3 _ x3
  have e4' := ha.get t4 _ x4
  rw [Array.getD_eq_getD_getElem?] at e0' e1' e2' e3' e4'
  refine ⟨ha.defers, _, ?_, h⟩
  simp [results, hr, e0', e1', e2', e3', e4', asAddr, loadVar, isAgg, run_underlying T0, E0.sizeOf, run_loadCells_list w p0 cs0 (fun j v hv => c0 j v hv)]
theorem ret_cc {fn : Func} {R : Ending → World → Prop} {N : Nat} {a : Act} {w : World} {l : List (Nat × Value)} {P : Program} {t0 : Tmp} {e0 : TypeId} {fs0 : Array Field} {p0 : Addr} {cs0 : List Value} {sz0 by0 : Nat} {z0 : Value} {t1 : Tmp} {e1 : TypeId} {fs1 : Array Field} {p1 : Addr} {cs1 : List Value} {sz1 by1 : Nat} {z1 : Value}
    (ha : Sl N a l) (hr : fn.results = #[.cell t0 e0, .cell t1 e1]) (x0 : lk l t0 = some (.pointer (some p0))) (T0 : P.underlying e0 = some (.struct fs0)) (E0 : TI P e0 sz0 by0 z0) (l0 : cs0.length = sz0) (c0 : CellsAt w p0 cs0) (x1 : lk l t1 = some (.pointer (some p1))) (T1 : P.underlying e1 = some (.struct fs1)) (E1 : TI P e1 sz1 by1 z1) (l1 : cs1.length = sz1) (c1 : CellsAt w p1 cs1)
    (h : R (.returned (.tuple #[.agg cs0.toArray, .agg cs1.toArray])) w) : bodyPost P fn R .ret a w := by
  subst l0; subst l1
  have e0' := ha.get t0 _ x0
  have e1' := ha.get t1 _ x1
  rw [Array.getD_eq_getD_getElem?] at e0' e1'
  refine ⟨ha.defers, _, ?_, h⟩
  simp [results, hr, e0', e1', asAddr, loadVar, isAgg, run_underlying T0, E0.sizeOf, run_loadCells_list w p0 cs0 (fun j v hv => c0 j v hv), asAddr, loadVar, isAgg, run_underlying T1, E1.sizeOf, run_loadCells_list w p1 cs1 (fun j v hv => c1 j v hv)]
theorem ret_cct {fn : Func} {R : Ending → World → Prop} {N : Nat} {a : Act} {w : World} {l : List (Nat × Value)} {P : Program} {t0 : Tmp} {e0 : TypeId} {fs0 : Array Field} {p0 : Addr} {cs0 : List Value} {sz0 by0 : Nat} {z0 : Value} {t1 : Tmp} {e1 : TypeId} {fs1 : Array Field} {p1 : Addr} {cs1 : List Value} {sz1 by1 : Nat} {z1 : Value} {t2 : Tmp} {v2 : Value}
    (ha : Sl N a l) (hr : fn.results = #[.cell t0 e0, .cell t1 e1, .tmp t2]) (x0 : lk l t0 = some (.pointer (some p0))) (T0 : P.underlying e0 = some (.struct fs0)) (E0 : TI P e0 sz0 by0 z0) (l0 : cs0.length = sz0) (c0 : CellsAt w p0 cs0) (x1 : lk l t1 = some (.pointer (some p1))) (T1 : P.underlying e1 = some (.struct fs1)) (E1 : TI P e1 sz1 by1 z1) (l1 : cs1.length = sz1) (c1 : CellsAt w p1 cs1) (x2 : lk l t2 = some v2)
    (h : R (.returned (.tuple #[.agg cs0.toArray, .agg cs1.toArray, v2])) w) : bodyPost P fn R .ret a w := by
  subst l0; subst l1
  have e0' := ha.get t0 _ x0
  have e1' := ha.get t1 _ x1
  have e2' := ha.get t2 _ x2
  rw [Array.getD_eq_getD_getElem?] at e0' e1' e2'
  refine ⟨ha.defers, _, ?_, h⟩
  simp [results, hr, e0', e1', e2', asAddr, loadVar, isAgg, run_underlying T0, E0.sizeOf, run_loadCells_list w p0 cs0 (fun j v hv => c0 j v hv), asAddr, loadVar, isAgg, run_underlying T1, E1.sizeOf, run_loadCells_list w p1 cs1 (fun j v hv => c1 j v hv)]
theorem tup4_eq {a0 a1 a2 a3 b0 b1 b2 b3 : Value} (h0 : a0 = b0) (h1 : a1 = b1) (h2 : a2 = b2) (h3 : a3 = b3) : Value.tuple #[a0, a1, a2, a3] = .tuple #[b0, b1, b2, b3] := by rw [h0, h1, h2, h3]
theorem tup5_eq {a0 a1 a2 a3 a4 b0 b1 b2 b3 b4 : Value} (h0 : a0 = b0) (h1 : a1 = b1) (h2 : a2 = b2) (h3 : a3 = b3) (h4 : a4 = b4) : Value.tuple #[a0, a1, a2, a3, a4] = .tuple #[b0, b1, b2, b3, b4] := by rw [h0, h1, h2, h3, h4]
end Go.Proofs.YthbehhhblchhhaaGreat
