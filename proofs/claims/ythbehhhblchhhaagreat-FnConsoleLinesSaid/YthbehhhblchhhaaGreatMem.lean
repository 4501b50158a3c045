/- The second part of this seat's base: operations that lay memory, rows that the call itself owns. -/
import Derived.Test.YthbehhhblchhhaaGreatBase
import Derived.Maps.AppendAt
namespace Go.Proofs.YthbehhhblchhhaaGreat
open Go Go.RowKit

section
variable {P : Program}

/-! ### Effects as one rule -/
abbrev Eff (P : Program) (a : Act) (o : Oper) (w : World) (R : Value → World → Prop) : Prop := ∃ v w', OpTo P a o w v w' ∧ R v w'
abbrev EffS (P : Program) (a : Act) (o : Oper) (w : World) (R : World → Prop) : Prop := ∃ w', (execOp a.eval o).run P w = .ok .skip w' ∧ R w'

section
variable {ops : Array Oper} {rest : List Oper} {o : Oper} {a : Act} {w w' : World} {N : Nat} {l : List (Nat × Value)} {d : Nat} {Q : Exit → Act → World → Prop} {R : Value → World → Prop} {RS : World → Prop}
  {S : World → Prop} {listed : Array Bool} {fuel i : Nat}
theorem wl_eff (ha : Sl N a l) (hd : o.dst = some d) (hN : Nat.blt d N = true) (hw : wants ops l o = some true) (hr : Eff P a o w R)
    (k : ∀ v w', R v w' → ∀ a', Sl N a' ((d, v) :: l) → wpList P ops Q rest a' w') : wpList P ops Q (o :: rest) a w :=
  let ⟨v, w', h1, h2⟩ := hr
  wl_to ha hd hN hw h1 (k v w' h2)
theorem wl_effS (ha : Sl N a l) (hd : o.dst = none) (hw : wants ops l o = some true) (hr : EffS P a o w RS)
    (k : ∀ w', RS w' → wpList P ops Q rest a w') : wpList P ops Q (o :: rest) a w :=
  let ⟨w', h1, h2⟩ := hr
  wl_store ha hd hw h1 (k w' h2)
theorem dr_one (hr : Region.ready .any ops listed = [i]) (h : wpOp P ops (NoP Q) i (fun a' w' => S w' ∧ wpAnyH P .any ops (NoP Q) S fuel (listed.setIfInBounds i true) a' w') a w) : wpAnyH P .any ops (NoP Q) S (fuel + 1) listed a w := by
  refine wpAnyH_all hr (by simp) fun j hj => ?_
  simp only [List.mem_cons, List.mem_nil_iff, or_false] at hj
  subst hj; exact h
theorem dr_two {j : Nat} (hr : Region.ready .any ops listed = [i, j]) (h : wpOp P ops (NoP Q) i (fun a' w' => S w' ∧ wpAnyH P .any ops (NoP Q) S fuel (listed.setIfInBounds i true) a' w') a w)
    (h' : wpOp P ops (NoP Q) j (fun a' w' => S w' ∧ wpAnyH P .any ops (NoP Q) S fuel (listed.setIfInBounds j true) a' w') a w) : wpAnyH P .any ops (NoP Q) S (fuel + 1) listed a w := by
  refine wpAnyH_all hr (by simp) fun q hq => ?_
  simp only [List.mem_cons, List.mem_nil_iff, or_false] at hq
  rcases hq with hq | hq <;> subst hq
  · exact h
  · exact h'
theorem dr_three {j k : Nat} (hr : Region.ready .any ops listed = [i, j, k]) (h : wpOp P ops (NoP Q) i (fun a' w' => S w' ∧ wpAnyH P .any ops (NoP Q) S fuel (listed.setIfInBounds i true) a' w') a w)
    (h' : wpOp P ops (NoP Q) j (fun a' w' => S w' ∧ wpAnyH P .any ops (NoP Q) S fuel (listed.setIfInBounds j true) a' w') a w)
    (h'' : wpOp P ops (NoP Q) k (fun a' w' => S w' ∧ wpAnyH P .any ops (NoP Q) S fuel (listed.setIfInBounds k true) a' w') a w) : wpAnyH P .any ops (NoP Q) S (fuel + 1) listed a w := by
  refine wpAnyH_all hr (by simp) fun q hq => ?_
  simp only [List.mem_cons, List.mem_nil_iff, or_false] at hq
  rcases hq with hq | hq | hq <;> subst hq
  · exact h
  · exact h'
  · exact h''
variable {K : Act → World → Prop} {v : Value}
theorem po_to (ha : Sl N a l) (hi : ops[i]? = some o) (hd : o.dst = some d) (hN : Nat.blt d N = true) (hw : wants ops l o = some true) (hy : OpTo P a o w v w') (k : ∀ a', Sl N a' ((d, v) :: l) → K a' w') : wpOp P ops Q i K a w := by
  unfold wpOp
  simp only [hi]
  rw [if_pos (wanted_of ha hw)]
  refine .inl ?_
  unfold Oper.wp
  rw [hy, Oper.upon_value, hd]
  exact k _ (ha.put hN)
theorem po_eff (ha : Sl N a l) (hi : ops[i]? = some o) (hd : o.dst = some d) (hN : Nat.blt d N = true) (hw : wants ops l o = some true) (he : Eff P a o w R)
    (k : ∀ v w', R v w' → ∀ a', Sl N a' ((d, v) :: l) → K a' w') : wpOp P ops Q i K a w :=
  let ⟨v, w', h1, h2⟩ := he
  po_to ha hi hd hN hw h1 (k v w' h2)
theorem po_effS (ha : Sl N a l) (hi : ops[i]? = some o) (hd : o.dst = none) (hw : wants ops l o = some true) (he : EffS P a o w RS) (k : ∀ w', RS w' → K a w') : wpOp P ops Q i K a w := by
  obtain ⟨w', h1, h2⟩ := he
  unfold wpOp
  simp only [hi]
  rw [if_pos (wanted_of ha hw)]
  refine .inl ?_
  unfold Oper.wp
  rw [h1, Oper.upon_skip, hd]
  exact k w' h2
theorem po_callR {f : FuncId} {args : Array Value} (ha : Sl N a l) (hi : ops[i]? = some o) (hd : o.dst = some d) (hN : Nat.blt d N = true) (hw : wants ops l o = some true)
    (hr : (execOp a.eval o).run P w = .ok (.enter f args) w) (hc : Calls P f args w (Ret w R)) (k : ∀ v w', Ext w w' → R v w' → ∀ a', Sl N a' ((d, v) :: l) → K a' w') : wpOp P ops Q i K a w := by
  unfold wpOp
  simp only [hi]
  rw [if_pos (wanted_of ha hw)]
  refine .inl ?_
  unfold Oper.wp
  rw [hr, Oper.upon_enter]
  refine hc.mono fun e w' ⟨v, he, hx, hR⟩ => ?_
  subst he
  rw [hd]
  exact k v w' hx hR _ (ha.put hN)
end

section
variable {a : Act} {o : Oper} {w w' : World} {N : Nat} {l : List (Nat × Value)} {x y c : Operand} {v u z : Value} {T T' e : TypeId} {sz bytes : Nat}

theorem op_alloc' {cs : List Value} (ha : o.op = .alloc T) (hE : TI P T sz bytes z) (hz : z.cells = cs.toArray) :
    Eff P a o w (fun v w' => v = .pointer (some ⟨w.heap.size, 0, none⟩) ∧ Ext w w' ∧ Box w' w.heap.size T cs ∧ w'.heap.size = w.heap.size + 1) :=
  let ⟨w', h1, h2, h3, h4⟩ := op_alloc (a := a) (w := w) ha hE hz
  ⟨_, w', h1, rfl, h2, h3, h4⟩
theorem op_box' {cs : List Value} (ha : Sl N a l) (ho : o.op = .box T x) (hx : ev l x = some v) (hv : v.cells = cs.toArray) :
    Eff P a o w (fun v w' => v = .pointer (some ⟨w.heap.size, 0, none⟩) ∧ Ext w w' ∧ Box w' w.heap.size T cs ∧ w'.heap.size = w.heap.size + 1) :=
  let ⟨w', h1, h2, h3, h4⟩ := op_box (P := P) (w := w) ha ho hx hv
  ⟨_, w', h1, rfl, h2, h3, h4⟩
theorem op_store' {g off : Nat} {cs ds : List Value} (ha : Sl N a l) (ho : o.op = .store T x y) (hE : TI P T sz bytes z) (hx : ev l x = some (.pointer (some ((⟨g, 0, none⟩ : Addr).add off)))) (hy : ev l y = some v)
    (hB : Box w g e cs) (hv : v.cells = ds.toArray) (hl : ds.length = sz) (h1 : ∀ u ∈ ds, u.oneCell' = true) (hfit : off + sz ≤ cs.length) :
    EffS P a o w (fun w' => Box w' g e (cs.take off ++ ds ++ cs.drop (off + sz)) ∧ Stp w w' (some g) ∧ w'.heap.size = w.heap.size) := op_store ha ho hE hx hy hB hv hl h1 hfit
theorem op_storeAll' {g : Nat} {cs ds : List Value} (ha : Sl N a l) (ho : o.op = .store T x y) (hE : TI P T sz bytes z) (hx : ev l x = some (.pointer (some ⟨g, 0, none⟩))) (hy : ev l y = some v)
    (hB : Box w g e cs) (hv : v.cells = ds.toArray) (hl : ds.length = sz) (h1 : ∀ u ∈ ds, u.oneCell' = true) (hfit : cs.length = sz) :
    EffS P a o w (fun w' => Box w' g e ds ∧ Stp w w' (some g) ∧ w'.heap.size = w.heap.size) := op_storeAll ha ho hE hx hy hB hv hl h1 hfit

/-! ### Struct literals, min, max, == of bools, len of nil -/
/-- Where a struct's fields lie. -/
abbrev bplaces (fs : Array Field) : Sem (Array (Nat × Nat)) := fs.mapM fun f => do pure (f.offset, ← sizeOf f.type)
theorem op_build {parts : Array (Nat × Operand)} {fs : Array Field} {pl : Array (Nat × Nat)} {vs : List (Nat × Value)} {cs : Array Value} (ha : Sl N a l) (ho : o.op = .build T parts) (hT : P.underlying T = some (.struct fs)) (hE : TI P T sz bytes z)
    (hp : ∀ w, (bplaces fs).run P w = .ok pl w)
    (hv : parts.toList.map (fun p => (ev l p.2).map fun q => (p.1, q)) = vs.map some) (hf : Instr.fill (fun i => pl[i]?) z.cells vs = some cs) : OpVal P a o w (.agg cs) := by
  have e : (parts.map fun (p : Nat × Operand) => (p.1, a.eval p.2)).toList = vs := by
    rw [Array.toList_map]
    have : ∀ (ps : List (Nat × Operand)) (vs : List (Nat × Value)), ps.map (fun p => (ev l p.2).map fun q => (p.1, q)) = vs.map some → ps.map (fun p => (p.1, a.eval p.2)) = vs := by
      intro ps
      induction ps with
      | nil => intro vs h; cases vs <;> simp_all
      | cons p r ih =>
        intro vs h
        cases vs with
        | nil => simp at h
        | cons q t =>
          simp only [List.map_cons, List.cons.injEq] at h
          obtain ⟨h1, h2⟩ := h
          cases hq : ev l p.2 with
          | none => rw [hq] at h1; cases h1
          | some u =>
            rw [hq] at h1
            simp only [Option.map_some, Option.some.injEq] at h1
            rw [List.map_cons, ha.ev hq, ih t h2, h1]
    exact this _ _ hv
  have hp' := hp w
  unfold bplaces at hp'
  unfold OpVal execOp
  simp only [ho]
  simp only [Instr.build, Sem.run_bind, hE.zeroValue, Result.andThen_ok, run_underlying hT, hp', Sem.run_pure]
  rw [e, hf]
  simp

theorem op_min {k : IntKind} {m n : Int} {ts : Array TypeId} (ha : Sl N a l) (ho : o.op = .call { callee := .builtin .min, args := #[x, y], argTypes := ts }) (hx : ev l x = some (.int k m)) (hy : ev l y = some (.int k n)) : OpVal P a o w (.int k (min m n)) := by
  have e : (if n < m then n else m) = min m n := by omega
  unfold OpVal execOp
  simp [ho, resolve, invoke, builtin, ha.ev hx, ha.ev hy, Builtin.min_, Builtin.min2, e]
theorem op_max {k : IntKind} {m n : Int} {ts : Array TypeId} (ha : Sl N a l) (ho : o.op = .call { callee := .builtin .max, args := #[x, y], argTypes := ts }) (hx : ev l x = some (.int k m)) (hy : ev l y = some (.int k n)) : OpVal P a o w (.int k (max m n)) := by
  have e : (if m < n then n else m) = max m n := by omega
  unfold OpVal execOp
  simp [ho, resolve, invoke, builtin, ha.ev hx, ha.ev hy, Builtin.max_, Builtin.max2, e]
theorem run_equalIn_bool (d : Nat) {p q : Bool} (hT : P.underlying T = some .bool) : (Op.equalIn (d + 1) T (.bool p) (.bool q)).run P w = .ok (p == q) w := by
  simp [Op.equalIn, run_underlying hT]
theorem op_beql {p q : Bool} (ha : Sl N a l) (ho : o.op = .binOp .eql T x y T') (hT : P.underlying T = some .bool) (hx : ev l x = some (.bool p)) (hy : ev l y = some (.bool q)) : OpVal P a o w (.bool (p == q)) :=
  op_bin ha ho hx hy (by simp) (by simp) (by simp only [binOp]; simp [Op.equal, Op.maxDepth, run_equalIn_bool 9999 hT])
theorem op_bneq {p q : Bool} (ha : Sl N a l) (ho : o.op = .binOp .neq T x y T') (hT : P.underlying T = some .bool) (hx : ev l x = some (.bool p)) (hy : ev l y = some (.bool q)) : OpVal P a o w (.bool !(p == q)) :=
  op_bin ha ho hx hy (by simp) (by simp) (by simp only [binOp]; simp [Op.equal, Op.maxDepth, run_equalIn_bool 9999 hT])
theorem op_len_nil (ha : Sl N a l) (ho : o.op = .call { callee := .builtin .len, args := #[x], argTypes := #[T] }) (hT : P.underlying T = some (.slice e)) (hx : ev l x = some (.slice none 0 0)) : OpVal P a o w (.int .i64 0) := by
  unfold OpVal execOp
  simp [ho, resolve, invoke, builtin, ha.ev hx, Builtin.len_, run_underlying hT, goInt]

/-! ### Results -/
theorem retc {fn : Func} {R : Ending → World → Prop} {t : Tmp} {fs : Array Field} {p : Addr} {cs : List Value}
    (ha : Sl N a l) (hr : fn.results = #[.cell t T]) (hx : lk l t = some (.pointer (some p))) (hT : P.underlying T = some (.struct fs)) (hE : TI P T sz bytes z) (hl : cs.length = sz) (hc : CellsAt w p cs)
    (h : R (.returned (.agg cs.toArray)) w) : bodyPost P fn R .ret a w := by
  subst hl
  have e := ha.get t _ hx
  rw [Array.getD_eq_getD_getElem?] at e
  refine ⟨ha.defers, _, ?_, h⟩
  simp [results, hr, e, asAddr, loadVar, isAgg, run_underlying hT, hE.sizeOf, run_loadCells_list w p cs (fun j v hv => hc j v hv)]
theorem retct {fn : Func} {R : Ending → World → Prop} {t u' : Tmp} {fs : Array Field} {p : Addr} {cs : List Value}
    (ha : Sl N a l) (hr : fn.results = #[.cell t T, .tmp u']) (hx : lk l t = some (.pointer (some p))) (hu : lk l u' = some v) (hT : P.underlying T = some (.struct fs)) (hE : TI P T sz bytes z) (hl : cs.length = sz) (hc : CellsAt w p cs)
    (h : R (.returned (.tuple #[.agg cs.toArray, v])) w) : bodyPost P fn R .ret a w := by
  subst hl
  have e := ha.get t _ hx
  have e' := ha.get u' _ hu
  rw [Array.getD_eq_getD_getElem?] at e e'
  refine ⟨ha.defers, _, ?_, h⟩
  simp [results, hr, e, e', asAddr, loadVar, isAgg, run_underlying hT, hE.sizeOf, run_loadCells_list w p cs (fun j v hv => hc j v hv)]
theorem tup2_eq {a b a' b' : Value} (h : a = a') (k : b = b') : Value.tuple #[a, b] = .tuple #[a', b'] := by rw [h, k]
theorem tup3_eq {a b c a' b' c' : Value} (h : a = a') (k : b = b') (j : c = c') : Value.tuple #[a, b, c] = .tuple #[a', b', c'] := by rw [h, k, j]
end
end

theorem Rds.nil {α : Type} (s : Shp α) (S : Nat → Prop) (w : World) : Rds s S w (.slice none 0 0) [] :=
  ⟨[], ⟨by simp, none, 0, rfl, Nat.le_refl _, by simp [maxLen], fun h => absurd h (by simp)⟩, rfl⟩
theorem Rds.cast {α : Type} {s : Shp α} {S : Nat → Prop} {w : World} {v : Value} {xs ys : List α} (h : Rds s S w v xs) (e : xs = ys) : Rds s S w v ys := e ▸ h
theorem mk_shI64 {w : World} {S : Nat → Prop} (x : Int) (h : I64 x) : shI64.rep w S [.int .i64 x] x := ⟨rfl, h⟩
theorem mk_shStr {w : World} {S : Nat → Prop} (x : Str) (h : x.length ≤ 9223372036854775807) : shStr.rep w S [St x] x := ⟨rfl, h⟩
theorem mk_shU8 {w : World} {S : Nat → Prop} (x : UInt8) : shU8.rep w S [.int .u8 x.toNat] x := rfl
theorem mk_shBool {w : World} {S : Nat → Prop} (x : Bool) : shBool.rep w S [.bool x] x := rfl
theorem inv_shU8 {w : World} {S : Nat → Prop} {c : List Value} {x : UInt8} (h : shU8.rep w S c x) : c = [.int .u8 x.toNat] := h
theorem inv_shBool {w : World} {S : Nat → Prop} {c : List Value} {x : Bool} (h : shBool.rep w S c x) : c = [.bool x] := h
theorem inv_shI64 {w : World} {S : Nat → Prop} {c : List Value} {x : Int} (h : shI64.rep w S c x) : c = [.int .i64 x] ∧ I64 x := h
theorem inv_shStr {w : World} {S : Nat → Prop} {c : List Value} {x : Str} (h : shStr.rep w S c x) : c = [St x] ∧ x.length ≤ 9223372036854775807 := h

/-! ### Rows that the call itself owns -/
def Own {α : Type} (s : Shp α) (e : TypeId) (lo le hi : Nat) (w : World) (v : Value) (xs : List α) : Prop :=
  ∃ (cs : List Value) (S : Nat → Prop), w.ownsRow lo e s.sz v xs.length cs ∧ Els s w S cs xs ∧ (∀ g, v.ownBlock = some g → ¬ S g ∧ g < hi) ∧ (∀ k, S k → le ≤ k ∧ k < hi)

section
variable {α : Type} {s : Shp α} {e : TypeId} {lo le hi lo' le' hi' : Nat} {w w' : World} {v : Value} {xs ys : List α} {r : Option Nat}

theorem Own.cast (h : Own s e lo le hi w v xs) (q : xs = ys) : Own s e lo le hi w v ys := q ▸ h
theorem Own.nil (s : Shp α) (e : TypeId) (lo le hi : Nat) (w : World) : Own s e lo le hi w (.slice none 0 0) [] :=
  ⟨[], fun _ => False, World.ownsRow_nil w lo e s.sz, rfl, fun g h => by simp [Value.ownBlock] at h, fun _ h => h.elim⟩
theorem Own.nil_ (s : Shp α) (e : TypeId) (lo le hi : Nat) (w : World) (q : ([] : List α) = xs) : Own s e lo le hi w (.slice none 0 0) xs := q ▸ Own.nil s e lo le hi w
theorem Own.lt (h : Own s e lo le hi w v xs) : ∀ g, v.ownBlock = some g → lo ≤ g ∧ g < hi ∧ g < w.heap.size := by
  obtain ⟨cs, S, h1, _, h3, _⟩ := h
  intro g hg
  obtain ⟨a, b⟩ := h1.lt g hg
  exact ⟨a, (h3 g hg).2, b⟩
theorem ownsRow_lo {base base' n sz : Nat} {cs : List Value} (h : w.ownsRow base e sz v n cs) (hb : base' ≤ base) : w.ownsRow base' e sz v n cs := by
  refine ⟨h.1, ?_⟩
  rcases h.2 with h2 | ⟨g, cap, cur, h2, h3, h4⟩
  · exact .inl h2
  · exact .inr ⟨g, cap, cur, h2, by omega, h4⟩
theorem Own.fin (h : Own s e lo le hi w v xs) (h1 : lo' ≤ lo) (h2 : le' ≤ le) (h3 : hi ≤ hi') : Own s e lo' le' hi' w v xs := by
  obtain ⟨cs, S, k1, k2, k3, k4⟩ := h
  exact ⟨cs, S, ownsRow_lo k1 h1, k2, fun g hg => ⟨(k3 g hg).1, by have := (k3 g hg).2; omega⟩, fun k hk => by have := k4 k hk; omega⟩
theorem Own.stp' (h : Own s e lo le hi w v xs) (k : Stp w w' r) (hne : ∀ g, r = some g → v.ownBlock ≠ some g) (hr : ∀ g, r = some g → g < le ∨ hi ≤ g) : Own s e lo le hi w' v xs := by
  obtain ⟨cs, S, k1, k2, k3, k4⟩ := h
  refine ⟨cs, S, k1.kept k ?_, k2.keep fun i hS hi => ⟨hS, k.block i hi fun q => ?_⟩, k3, k4⟩
  · cases hv : v.ownBlock with
    | none => exact .inl rfl
    | some g => exact .inr fun q => hne g q.symm hv
  · have := hr i q.symm
    have := k4 i hS
    omega
theorem Own.stp (h : Own s e lo le hi w v xs) (k : Stp w w' r) (hr : ∀ g, r = some g → (g < lo ∧ g < le) ∨ hi ≤ g) : Own s e lo le hi w' v xs :=
  h.stp' k (fun g hg hv => by have := hr g hg; have := h.lt g hv; omega) (fun g hg => by have := hr g hg; omega)
theorem Own.ext (h : Own s e lo le hi w v xs) (k : Ext w w') : Own s e lo le hi w' v xs := h.stp (Stp.of_ext k) (by simp)
theorem Own.rds (h : Own s e lo le hi w v xs) (_hp : 0 < s.sz) : Rds s (Iv (min lo le) hi) w v xs := by
  obtain ⟨cs, S, k1, k2, k3, k4⟩ := h
  refine ⟨cs, ⟨k1.1, ?_⟩, k2.keep fun k hk _ => ⟨⟨by have := k4 k hk; omega, (k4 k hk).2⟩, rfl⟩⟩
  rcases k1.2 with ⟨rfl, h0⟩ | ⟨g, cap, cur, rfl, hb, hg, hnc, hcm, hcs, ht⟩
  · exact ⟨none, 0, by rw [h0], by omega, by simp [maxLen], fun h => by omega⟩
  · refine ⟨_, cap, rfl, hnc, hcm, fun _ => ⟨_, rfl, ⟨by show min lo le ≤ g; omega, (k3 g rfl).2⟩, ?_⟩⟩
    exact k1.cells rfl
theorem Els.of_at : ∀ {xs : List α} {cs : List Value} {S : Nat → Prop}, cs.length = xs.length * s.sz → (∀ j x, xs[j]? = some x → s.rep w S ((cs.drop (j * s.sz)).take s.sz) x) → Els s w S cs xs
  | [], cs, _, h, _ => by
    simp at h; exact h
  | x :: xs, cs, S, h, k => by
    refine ⟨by simpa using k 0 x rfl, Els.of_at ?_ fun j y hy => ?_⟩
    · rw [List.length_drop, h, List.length_cons, Nat.add_mul, Nat.one_mul, Nat.add_sub_cancel]
    · have := k (j + 1) y (by simpa using hy)
      rw [List.drop_drop]
      rw [Nat.add_mul, Nat.one_mul, Nat.add_comm] at this
      exact this
end

section
variable {P : Program} {a : Act} {o : Oper} {w w' : World} {N : Nat} {l : List (Nat × Value)} {x y c : Operand} {v u z : Value} {T T' e : TypeId} {sz bytes : Nat}
  {α : Type} {s : Shp α} {lo le hi : Nat} {xs ys : List α}

/-- 'make([]T, n)'. -/
theorem op_make {zx : α} {n : Nat} {k k' : IntKind} {m : Int} (ha : Sl N a l) (ho : o.op = .makeSlice T x x) (hT : P.underlying T = some (.slice e)) (hE : TI P e s.sz bytes z) (hp : 0 < s.sz) (hx : ev l x = some (.int k m)) (hm : m = (n : Int))
    (hz : ∀ w : World, s.rep w (fun _ => False) z.cells.toList zx) (hb : bytes * n ≤ 281474976710656) (hn : n ≤ 9223372036854775807) :
    Eff P a o w (fun v w' => Own s e w.heap.size w.heap.size w'.heap.size w' v (List.replicate n zx) ∧ Ext w w') := by
  subst hm
  obtain ⟨i, hi, hsz, hby, hzz⟩ := hE.ex
  have hzl := s.len (hz w)
  have hb' : (i.bytes : Int) * (n : Int) ≤ 281474976710656 := by
    have h : ((i.bytes * n : Nat) : Int) ≤ 281474976710656 := by rw [hby]; omega
    rwa [Int.natCast_mul] at h
  have hr := run_make (P := P) w T e i z hT hi hzz k k n n (by omega) (by omega) hb' (by omega)
  simp only [Int.toNat_natCast] at hr
  refine ⟨.slice (some ⟨w.heap.size, 0, none⟩) n n, w.alloc (.cells (madeCells z.cells (n * i.size)) e), ?_, ?_, ext_alloc _ _⟩
  · unfold OpTo execOp
    simp only [ho, ha.ev hx, Sem.run_bind, hr, Result.andThen_ok, Sem.run_pure]
  · have hlen : (madeCells z.cells (n * i.size)).size = n * s.sz := by simp [madeCells, hsz]
    refine ⟨(madeCells z.cells (n * i.size)).toList, fun _ => False, ⟨by simp [hlen], .inr ⟨w.heap.size, n, _, by simp, Nat.le_refl _, heap_alloc_new w _, by simp, by unfold maxLen; omega, hlen, ?_⟩⟩, ?_, fun g hg => ?_, fun _ h => h.elim⟩
    · rw [List.length_replicate, List.take_of_length_le (by simp [hlen])]
    · refine Els.of_at (by simp [hlen]) fun j q hq => ?_
      rw [List.getElem?_replicate] at hq
      split at hq
      · cases hq
        rename_i hj
        have e1 : (((madeCells z.cells (n * i.size)).toList.drop (j * s.sz)).take s.sz) = z.cells.toList := by
          apply List.ext_getElem?
          intro t
          rw [List.getElem?_take, List.getElem?_drop]
          by_cases ht : t < s.sz
          · rw [if_pos ht]
            have hb : j * s.sz + t < n * s.sz := by
              have : (j + 1) * s.sz ≤ n * s.sz := Nat.mul_le_mul_right _ hj
              rw [Nat.add_mul, Nat.one_mul] at this; omega
            have hmod : (j * s.sz + t) % s.sz = t := by rw [Nat.mul_comm, Nat.mul_add_mod, Nat.mod_eq_of_lt ht]
            have hzs : z.cells.size = s.sz := by simpa using hzl
            simp only [madeCells, hsz, Array.getElem?_toList, Array.getElem?_map, Array.getElem?_range, hb, if_true, Option.map_some, hzs, hmod]
            rw [Array.getElem!_eq_getD, Array.getD_eq_getD_getElem?, Array.getElem?_eq_getElem (by omega), Option.getD_some]
          · rw [if_neg ht, List.getElem?_eq_none (by omega)]
        rw [e1]
        exact hz _
      · cases hq
    · simp [Value.ownBlock] at hg
      subst hg
      exact ⟨fun h => h.elim, by simp⟩

/-- What stands in the cells at an address is one list. -/
theorem cells_eq {p : Addr} {c d : List Value} (h : CellsAt w p c) (k : CellsAt w p d) (hl : c.length = d.length) : c = d := by
  apply List.ext_getElem?
  intro i
  by_cases hi : i < c.length
  · have h1 := h i _ (List.getElem?_eq_getElem hi)
    have h2 := k i _ (List.getElem?_eq_getElem (by omega))
    rw [List.getElem?_eq_getElem hi, List.getElem?_eq_getElem (by omega), ← h1, ← h2]
  · rw [List.getElem?_eq_none (by omega), List.getElem?_eq_none (by omega)]

theorem list_mid (cs ds : List Value) (A sz off m : Nat) (hA : A + sz ≤ cs.length) (ho : off + m ≤ sz) :
    cs.take A ++ (((cs.drop A).take sz).take off ++ ds ++ ((cs.drop A).take sz).drop (off + m)) ++ cs.drop (A + sz) = cs.take (A + off) ++ ds ++ cs.drop (A + off + m) := by
  have e1 : cs.take (A + off) = cs.take A ++ ((cs.drop A).take sz).take off := by
    rw [List.take_take, Nat.min_eq_left (by omega), List.take_add]
  have e2 : cs.drop (A + off + m) = ((cs.drop A).take sz).drop (off + m) ++ cs.drop (A + sz) := by
    have h : ((cs.drop A).take sz).drop (off + m) ++ (cs.drop A).drop sz = (cs.drop A).drop (off + m) := by
      conv => rhs; rw [← List.take_append_drop sz (cs.drop A)]
      rw [List.drop_append_of_le_length (by rw [List.length_take, List.length_drop]; omega)]
    rw [List.drop_drop] at h
    rw [h, List.drop_drop]
    congr 1; omega
  rw [e1, e2]
  simp only [List.append_assoc]

/-- Cells of one element of a row of the call's own are written. -/
theorem op_setCells {j off m : Nat} {p : Addr} {cs ds : List Value} {x' : α} {S' : Nat → Prop} (ha : Sl N a l) (ho : o.op = .store T x y) (hE : TI P T m bytes z) (hx : ev l x = some (.pointer (some (p.add off)))) (hy : ev l y = some u)
    (hu : u.cells = ds.toArray) (hl : ds.length = m) (h1 : ∀ q ∈ ds, q.oneCell' = true) (hv : Own s e lo le hi w v xs) (hI : IdxP v s.sz j p) (hj : j < xs.length) (hfit : off + m ≤ s.sz)
    (hc : CellsAt w p cs) (hcl : cs.length = s.sz) (hnew : s.rep w S' (cs.take off ++ ds ++ cs.drop (off + m)) x') (hS : ∀ k, S' k → le ≤ k ∧ k < hi ∧ v.ownBlock ≠ some k) :
    EffS P a o w (fun w' => Own s e lo le hi w' v (xs.set j x') ∧ Stp w w' v.ownBlock ∧ w'.heap.size = w.heap.size) := by
  obtain ⟨ad, n, cap, rfl, hjn, rfl⟩ := hI
  obtain ⟨cl, S, k1, k2, k3, k4⟩ := hv
  rcases k1.2 with ⟨h0, _⟩ | ⟨g, cap', cur, hv', hb, hg, hnc, hcm, hcs, ht⟩
  · cases h0
  cases hv'
  have hadd : ∀ q, (⟨g, 0, none⟩ : Addr).add q = ⟨g, q, none⟩ := fun q => by unfold Addr.add; split <;> simp_all
  have hlen := k2.len
  have hjs : j * s.sz + s.sz ≤ cl.length := by
    have : (j + 1) * s.sz ≤ xs.length * s.sz := Nat.mul_le_mul_right _ hj
    rw [Nat.add_mul, Nat.one_mul] at this; omega
  have hcl2 : cur.toList.length = cap * s.sz := by simpa using hcs
  have hcur : xs.length * s.sz ≤ cur.toList.length := by rw [hcl2]; exact Nat.mul_le_mul_right _ hnc
  have hcl' : cs = (cl.drop (j * s.sz)).take s.sz := by
    refine cells_eq hc (fun i q hq => ?_) (by rw [List.length_take, List.length_drop, hcl]; omega)
    rw [add_add]
    refine k1.cells (g := g) rfl _ q ?_
    rw [List.getElem?_take] at hq
    split at hq
    · rwa [List.getElem?_drop] at hq
    · cases hq
  have hst := run_storeCells_at P g (j * s.sz + off) e ds 0 cur w hg (by rw [hcs]; omega) h1
  simp only [Nat.add_zero] at hst
  refine ⟨w.setRow g (cur.toList.take (j * s.sz + off) ++ ds ++ cur.toList.drop (j * s.sz + off + ds.length)).toArray, ?_, ⟨cl.take (j * s.sz + off) ++ ds ++ cl.drop (j * s.sz + off + m), fun k => S k ∨ S' k, ⟨?_, .inr ⟨g, cap, (cur.toList.take (j * s.sz + off) ++ ds ++ cur.toList.drop (j * s.sz + off + ds.length)).toArray, ?_, hb, setRow_heap w g cur _ e (0, 0) hg, ?_, hcm, ?_, ?_⟩⟩, ?_, fun q hq => ?_, fun k hk => ?_⟩, stp_setRow w g _, by simp [World.setRow]⟩
  · unfold execOp
    simp only [ho, ha.ev hx, ha.ev hy, add_add, hadd]
    have hadd2 : (⟨g, j * s.sz, none⟩ : Addr).add off = ⟨g, j * s.sz + off, none⟩ := by unfold Addr.add; split <;> simp_all
    simp [Instr.storeAt, Instr.sureAddr, storeVar, hE.sizeOf, hu, hl, hadd2, hst]
  · rw [List.length_append, List.length_append, List.length_take, List.length_drop, List.length_set]; omega
  · rw [List.length_set]
  · rw [List.length_set]; exact hnc
  · rw [List.size_toArray, List.length_append, List.length_append, List.length_take, List.length_drop]; omega
  · rw [List.length_set]
    have e2 : cl = cur.toList.take (xs.length * s.sz) := ht.symm
    rw [e2, List.take_take, Nat.min_eq_left (by omega), hl]
    have e3 : (cur.toList.take (xs.length * s.sz)).drop (j * s.sz + off + m) = (cur.toList.drop (j * s.sz + off + m)).take (xs.length * s.sz - (j * s.sz + off + m)) := List.drop_take
    rw [e3, List.append_assoc, List.append_assoc, List.take_append, List.take_append]
    have l1 : (cur.toList.take (j * s.sz + off)).length = j * s.sz + off := by rw [List.length_take]; omega
    rw [List.take_of_length_le (by rw [l1]; omega), List.take_of_length_le (l := ds) (by rw [l1, hl]; omega), l1, hl]
    congr 3; omega
  · have e4 := Els.set_ (s := s) (w := w) (S := fun k => S k ∨ S' k) (xs := xs) (cs := cl) (ds := cs.take off ++ ds ++ cs.drop (off + m)) (j := j) (x := x')
      (k2.keep fun k hk _ => ⟨.inl hk, rfl⟩) hj (s.keep hnew fun k hk _ => ⟨.inr hk, rfl⟩)
    rw [hcl', list_mid cl ds (j * s.sz) s.sz off m hjs hfit] at e4
    refine e4.keep fun k hk hlt => ⟨hk, (stp_setRow w g _).block k hlt fun q => ?_⟩
    cases q
    rcases hk with hk | hk
    · exact (k3 g rfl).1 hk
    · exact (hS g hk).2.2 rfl
  · refine ⟨fun hk => ?_, (k3 q hq).2⟩
    rcases hk with hk | hk
    · exact (k3 q hq).1 hk
    · exact (hS q hk).2.2 hq
  · rcases hk with hk | hk
    · exact k4 k hk
    · exact ⟨(hS k hk).1, (hS k hk).2.1⟩
/-- A whole element is written. -/
theorem op_setElem {j : Nat} {p : Addr} {ds : List Value} {x' : α} {S' : Nat → Prop} (ha : Sl N a l) (ho : o.op = .store T x y) (hE : TI P T s.sz bytes z) (hx : ev l x = some (.pointer (some p))) (hy : ev l y = some u)
    (hu : u.cells = ds.toArray) (hv : Own s e lo le hi w v xs) (hp : 0 < s.sz) (hI : IdxP v s.sz j p) (hj : j < xs.length)
    (hnew : s.rep w S' ds x') (hS : ∀ k, S' k → le ≤ k ∧ k < hi ∧ v.ownBlock ≠ some k) :
    EffS P a o w (fun w' => Own s e lo le hi w' v (xs.set j x') ∧ Stp w w' v.ownBlock ∧ w'.heap.size = w.heap.size) := by
  obtain ⟨y0, hy0⟩ := get_ex hj
  obtain ⟨p', c', hI', hc', hr', _⟩ := Rds.at_ (hv.rds hp) hy0
  have epp : p' = p := by
    obtain ⟨ad, n, c, e1, _, e2⟩ := hI
    obtain ⟨ad', n', c2, e3, _, e4⟩ := hI'
    rw [e1] at e3; cases e3
    rw [e2, e4]
  subst epp
  have hl := s.len hnew
  have hcl := s.len hr'
  refine op_setCells (off := 0) (m := s.sz) ha ho hE (by rw [add_zero']; exact hx) hy hu hl (s.one hnew) hv hI hj (by omega) hc' hcl ?_ hS
  rw [List.take_zero, List.nil_append, List.drop_of_length_le (by omega), List.append_nil]
  exact hnew

def Flat (s : Shp α) : Prop := ∀ (w w' : World) (S S' : Nat → Prop) (cs : List Value) (x : α), s.rep w S cs x → s.rep w' S' cs x
theorem Els.flat (hf : Flat s) {w w' : World} {S S' : Nat → Prop} : ∀ {xs : List α} {cs : List Value}, Els s w S cs xs → Els s w' S' cs xs
  | [], _, h => h
  | _ :: _, _, h => ⟨hf _ _ _ _ _ _ h.1, Els.flat hf h.2⟩

theorem run_append_nilsrc (base : Nat) {n : Nat} {cs : List Value} {ty : TypeId} (hT : P.underlying T = some (.slice e)) (hE : TI P e sz bytes z) (hown : w.ownsRow base e sz v n cs) (c : Nat) :
    (Builtin.append_ #[T, T] ty #[v, .slice none 0 c]).run P w = .ok v w := by
  obtain ⟨i, hi, _⟩ := hE.ex
  rcases hown.2 with ⟨rfl, rfl⟩ | ⟨g, cap, cur, rfl, _, _, hnc, _⟩
  · simp [Builtin.append_, run_underlying hT, sizeOf, typeInfo, hi, Builtin.lenOf, Builtin.firstCells]
  · simp [Builtin.append_, run_underlying hT, sizeOf, typeInfo, hi, Builtin.lenOf, Builtin.firstCells, hnc, storeCells]

theorem run_append_rds (base : Nat) {n m : Nat} {cs news : List Value} {ty : TypeId} {S' : Nat → Prop} (hT : P.underlying T = some (.slice e)) (hE : TI P e sz bytes z) (hzl : z.cells.size = sz) (hsz : 0 < sz) (hown : w.ownsRow base e sz v n cs)
    (hu : Rdc w S' sz u m news) (h1 : ∀ q ∈ news, q.oneCell' = true) (h63 : n + m ≤ 9223372036854775807) (hbytes : (n + m) * bytes ≤ 140737488355328) (hbase : base ≤ w.heap.size) :
    ∃ v' w', (Builtin.append_ #[T, T] ty #[v, u]).run P w = .ok v' w' ∧ w'.ownsRow base e sz v' (n + m) (cs ++ news) ∧ w.grownBy w' v.ownBlock ∧ (v'.ownBlock = v.ownBlock ∨ v'.ownBlock = some w.heap.size) := by
  obtain ⟨hl, A, c, rfl, _, _, h4⟩ := hu
  obtain ⟨i, hi, hs, hb, hz⟩ := hE.ex
  rcases A with _ | ad
  · have hm : m = 0 := by
      rcases Nat.eq_zero_or_pos m with h0 | h0
      · exact h0
      · obtain ⟨ad, h, _⟩ := h4 h0
        cases h
    subst hm
    have hn : news = [] := List.eq_nil_of_length_eq_zero (by simpa using hl)
    subst hn
    exact ⟨v, w, run_append_nilsrc base hT ⟨i, hi, hs, hb, hz⟩ hown c, by simpa using hown, World.grownBy.refl w _, .inl rfl⟩
  · have hcells : ∀ j q, news[j]? = some q → w.cell? (ad.add j) = some q := by
      intro j q hq
      rcases Nat.eq_zero_or_pos m with h0 | h0
      · subst h0
        have hn : news = [] := List.eq_nil_of_length_eq_zero (by simpa using hl)
        subst hn
        simp at hq
      · obtain ⟨ad', h, _, hc⟩ := h4 h0
        injection h with h
        subst h
        exact hc j q hq
    obtain ⟨v', w', hrun, h2, h3, _, h5⟩ := run_append_own_at (P := P) w base T ty e i z sz bytes hT hi hz hs hb hzl hsz v n cs hown ad m c news hl hcells h1 (by unfold maxLen; omega) hbytes hbase
    exact ⟨v', w', hrun, h2, h3, h5⟩

/-- 'append(xs, ys...)' onto a row of the call's own. -/
theorem op_append {ts : Array TypeId} {S' : Nat → Prop} (ha : Sl N a l) (ho : o.op = .call { callee := .builtin .append, args := #[x, y], argTypes := #[T, T] }) (hT : P.underlying T = some (.slice e)) (hE : TI P e s.sz bytes z) (hzl : z.cells.size = s.sz) (hp : 0 < s.sz)
    (hx : ev l x = some v) (hy : ev l y = some u) (hv : Own s e lo le hi w v xs) (hu : Rds s S' w u ys) (hlo : lo ≤ w.heap.size) (hhi : hi ≤ w.heap.size) (h63 : xs.length + ys.length ≤ 9223372036854775807)
    (hbytes : (xs.length + ys.length) * bytes ≤ 140737488355328) (hS : Flat s ∨ ∀ k, S' k → le ≤ k ∧ k < w.heap.size ∧ v.ownBlock ≠ some k) :
    Eff P a o w (fun v' w' => Own s e lo le w'.heap.size w' v' (xs ++ ys) ∧ Stp w w' v.ownBlock ∧ (v'.ownBlock = v.ownBlock ∨ v'.ownBlock = some w.heap.size)) := by
  obtain ⟨cs, S, k1, k2, k3, k4⟩ := hv
  obtain ⟨ds, r1, r2⟩ := hu
  obtain ⟨v', w', hrun, h2, h3, h4⟩ := run_append_rds (P := P) (ty := o.type) lo hT hE hzl hp k1 r1 r2.one h63 hbytes hlo
  have hlt := h2.lt
  refine ⟨v', w', ?_, ⟨cs ++ ds, fun k => S k ∨ (¬ Flat s ∧ S' k), by rw [List.length_append]; exact h2, ?_, fun g hg => ?_, fun k hk => ?_⟩, h3, h4⟩
  · unfold OpTo execOp
    simp only [ho, resolve, invoke, builtin, Sem.run_bind, Sem.run_pure, Result.andThen_ok, List.map_toArray, List.map_cons, List.map_nil, ha.ev hx, ha.ev hy, hrun]
  · have e1 : Els s w' (fun k => S k ∨ (¬ Flat s ∧ S' k)) cs xs := k2.keep fun k hk hlt => ⟨.inl hk, h3.block k hlt fun q => (k3 k q.symm).1 hk⟩
    by_cases hf : Flat s
    · exact e1.append (r2.flat hf)
    · have hS' := hS.resolve_left hf
      exact e1.append (r2.keep fun k hk hlt => ⟨.inr ⟨hf, hk⟩, h3.block k hlt fun q => (hS' k hk).2.2 q.symm⟩)
  · refine ⟨fun hk => ?_, (hlt g hg).2⟩
    rcases h4 with h4 | h4
    · rw [h4] at hg
      rcases hk with hk | ⟨hf, hk⟩
      · exact (k3 g hg).1 hk
      · exact ((hS.resolve_left hf) g hk).2.2 hg
    · rw [h4] at hg; cases hg
      rcases hk with hk | ⟨hf, hk⟩
      · have := (k4 _ hk).2; omega
      · have := ((hS.resolve_left hf) _ hk).2.1; omega
  · have hsz := h3.size
    rcases hk with hk | ⟨hf, hk⟩
    · have := k4 k hk; omega
    · have := (hS.resolve_left hf) k hk; omega

/-- 'T{a, b, ..}': a slice of the elements that stand there. -/
theorem op_buildSlice {n : Nat} {parts : Array (Nat × Operand)} {vs : List (Nat × Value)} {cs : List Value} {S : Nat → Prop} (ha : Sl N a l) (ho : o.op = .buildSlice T n parts) (hp : 0 < s.sz) (hT : P.underlying T = some (.slice e)) (hE : TI P e s.sz bytes z)
    (hv : parts.toList.map (fun p => (ev l p.2).map fun q => (p.1, q)) = vs.map some) (hn : n = xs.length) (hsm : n * s.sz ≤ 16777216)
    (hf : Instr.fill (fun i => some (i * s.sz, s.sz)) ((Array.range (n * s.sz)).map fun i => (if n * s.sz = 0 then #[] else z.cells)[i % (if n * s.sz = 0 then #[] else z.cells).size]!) vs = some cs.toArray)
    (he : Els s w S cs xs) (hS : ∀ k, S k → le ≤ k ∧ k < w.heap.size) :
    Eff P a o w (fun v' w' => Own s e w.heap.size le w'.heap.size w' v' xs ∧ Ext w w' ∧ v'.ownBlock = some w.heap.size) := by
  subst hn
  have eqv : (parts.map fun (p : Nat × Operand) => (p.1, a.eval p.2)).toList = vs := by
    rw [Array.toList_map]
    have : ∀ (ps : List (Nat × Operand)) (vs : List (Nat × Value)), ps.map (fun p => (ev l p.2).map fun q => (p.1, q)) = vs.map some → ps.map (fun p => (p.1, a.eval p.2)) = vs := by
      intro ps
      induction ps with
      | nil => intro vs h; cases vs <;> simp_all
      | cons p r ih =>
        intro vs h
        cases vs with
        | nil => simp at h
        | cons q t =>
          simp only [List.map_cons, List.cons.injEq] at h
          obtain ⟨h1, h2⟩ := h
          cases hq : ev l p.2 with
          | none => rw [hq] at h1; cases h1
          | some u =>
            rw [hq] at h1
            simp only [Option.map_some, Option.some.injEq] at h1
            rw [List.map_cons, ha.ev hq, ih t h2, h1]
    exact this _ _ hv
  have hlen := he.len
  refine ⟨.slice (some ⟨w.heap.size, 0, none⟩) xs.length xs.length, w.alloc (.cells cs.toArray e), ?_, ⟨cs, S, ⟨hlen, .inr ⟨w.heap.size, xs.length, _, rfl, Nat.le_refl _, heap_alloc_new w _, Nat.le_refl _, ?_, by simp [hlen], by rw [← hlen]; simp⟩⟩, ?_, fun g hg => ?_, fun k hk => ?_⟩, ext_alloc _ _, rfl⟩
  · unfold OpTo execOp
    simp only [ho]
    have hno : ¬ (16777216 < xs.length * s.sz) := by omega
    have eqv' := eqv
    rw [Array.toList_map] at eqv'
    by_cases h0 : xs.length * s.sz = 0
    · rw [h0] at hf
      simp only [if_true] at hf
      simp at hf
      simp [Instr.buildSlice, run_underlying hT, hE.sizeOf, h0, eqv', newRow, hf]
    · simp only [h0, if_false] at hf
      simp [Instr.buildSlice, run_underlying hT, hE.sizeOf, hE.zeroValue, hno, h0, eqv', hf, newRow]
  · unfold maxLen
    have : xs.length ≤ xs.length * s.sz := Nat.le_mul_of_pos_right _ hp
    omega
  · exact he.keep fun k hk hlt => ⟨hk, Below.heap_alloc w _ k hlt⟩
  · simp [Value.ownBlock] at hg
    subst hg
    exact ⟨fun hk => by have := (hS _ hk).2; omega, by simp⟩
  · have := hS k hk
    simp
    omega

theorem flat_shI64 : Flat shI64 := fun _ _ _ _ _ _ h => h
theorem flat_shU8 : Flat shU8 := fun _ _ _ _ _ _ h => h
theorem flat_shBool : Flat shBool := fun _ _ _ _ _ _ h => h
theorem flat_shStr : Flat shStr := fun _ _ _ _ _ _ h => h
theorem zero_shI64 (w : World) : shI64.rep w (fun _ => False) (Value.int .i64 0).cells.toList 0 := ⟨rfl, by decide⟩
theorem zero_shU8 (w : World) : shU8.rep w (fun _ => False) (Value.int .u8 0).cells.toList 0 := rfl
theorem zero_shBool (w : World) : shBool.rep w (fun _ => False) (Value.bool false).cells.toList false := rfl
theorem zero_shStr (w : World) : shStr.rep w (fun _ => False) (St []).cells.toList [] := ⟨rfl, by decide⟩
/-- A row of plain elements is kept by whatever writes into other blocks. -/
theorem Own.stpF (hf : Flat s) {r : Option Nat} (h : Own s e lo le hi w v xs) (k : Stp w w' r) (hne : ∀ g, r = some g → v.ownBlock ≠ some g) : Own s e lo le hi w' v xs := by
  obtain ⟨cs, S, k1, k2, k3, k4⟩ := h
  refine ⟨cs, fun _ => False, k1.kept k ?_, k2.flat hf, fun g hg => ⟨fun q => q.elim, (k3 g hg).2⟩, fun _ q => q.elim⟩
  cases hv : v.ownBlock with
  | none => exact .inl rfl
  | some g => exact .inr fun q => hne g q.symm hv
theorem Own.heap {α : Type} {s : Shp α} {e : TypeId} {lo le hi : Nat} {w : World} {v : Value} {xs : List α} (h : Own s e lo le hi w v xs) : ∀ g, v.ownBlock = some g → ∃ cur, w.heap[g]? = some (.cells cur e (0, 0)) := by
  obtain ⟨cs, S, k1, _⟩ := h
  intro g hg
  rcases k1.2 with ⟨rfl, _⟩ | ⟨g', cap, cur, rfl, _, hh, _⟩
  · simp [Value.ownBlock] at hg
  · simp [Value.ownBlock] at hg
    subst hg
    exact ⟨cur, hh⟩
/-- Rows of different element types never share a block. -/
theorem Own.ne {β : Type} {t : Shp β} {e' : TypeId} {lo' le' hi' : Nat} {v' : Value} {zs : List β} (h : Own s e lo le hi w v xs) (h' : Own t e' lo' le' hi' w v' zs) (hne : Nat.beq e e' = false) : ∀ g, v'.ownBlock = some g → v.ownBlock ≠ some g := by
  intro g hg hv
  obtain ⟨c1, h1⟩ := h.heap g hv
  obtain ⟨c2, h2⟩ := h'.heap g hg
  rw [h1] at h2
  cases h2
  simp at hne
theorem Own.ne_box {g : Nat} {cs : List Value} (h : Own s e lo le hi w v xs) (h' : Box w g T cs) (hne : Nat.beq e T = false) : v.ownBlock ≠ some g := by
  intro hv
  obtain ⟨c1, h1⟩ := h.heap g hv
  unfold Box at h'
  rw [h1] at h'
  cases h'
  simp at hne

theorem mk_shU8i {w : World} {S : Nat → Prop} {m : Int} (k : Nat) (hm : m = (k : Int)) (hk : k ≤ 255) : shU8.rep w S [.int .u8 m] (UInt8.ofNat k) := by
  subst hm
  show [Value.int .u8 (k : Int)] = [Value.int .u8 ((UInt8.ofNat k).toNat : Int)]
  have : (UInt8.ofNat k).toNat = k := by rw [UInt8.toNat_ofNat']; omega
  rw [this]
theorem els_u8 {w : World} {S : Nat → Prop} : ∀ {xs : Str} {cs : List Value}, Els shU8 w S cs xs → cs = xs.map fun b => .int .u8 b.toNat
  | [], _, h => h
  | x :: xs, cs, h => by
    obtain ⟨h1, h2⟩ := h
    have e1 : cs.take 1 = [.int .u8 x.toNat] := h1
    have e2 := els_u8 h2
    have e3 : cs.drop 1 = xs.map fun b => Value.int .u8 b.toNat := e2
    rw [List.map_cons, ← e3, ← List.take_append_drop 1 cs, e1]
    simp
/-- 'string(bytes)'. -/
theorem op_conv_str {E T' : TypeId} {S : Nat → Prop} {xs : Str} (ha : Sl N a l) (ho : o.op = .convert T T' x) (hT : P.underlying T = some (.slice E)) (hE : P.underlying E = some (.int .u8)) (hT' : P.underlying T' = some .string) (hx : ev l x = some v) (hv : Rds shU8 S w v xs) :
    OpVal P a o w (St xs) := by
  obtain ⟨cs, ⟨hl, A, c, rfl, _, _, h4⟩, he⟩ := hv
  have ecs := els_u8 he
  unfold OpVal execOp
  simp only [ho, ha.ev hx]
  rcases A with _ | ad
  · have h0 : xs = [] := by
      rcases Nat.eq_zero_or_pos xs.length with h | h
      · exact List.eq_nil_of_length_eq_zero h
      · obtain ⟨_, q, _⟩ := h4 h; cases q
    subst h0
    simp [convert, run_underlying hT, run_underlying hT', run_underlying hE, Conv.bytesToString]
    rfl
  · have hcells : ∀ j q, cs[j]? = some q → w.cell? (ad.add j) = some q := by
      intro j q hq
      rcases Nat.eq_zero_or_pos xs.length with h | h
      · have : cs = [] := List.eq_nil_of_length_eq_zero (by rw [hl, h]; simp)
        subst this; simp at hq
      · obtain ⟨ad', q1, _, hc⟩ := h4 h
        cases q1; exact hc j q hq
    have hlen : cs.length = xs.length := by rw [hl]; exact Nat.mul_one _
    have hl2 := run_loadCells_list (P := P) w ad cs hcells
    rw [hlen, ecs] at hl2
    have hr := run_bytesToString (P := P) w ad xs.length c (xs.map fun b => (b.toNat : Int)) (by rw [hl2]; simp [List.map_map])
    rw [foldl_push_byteCells] at hr
    simp [convert, run_underlying hT, run_underlying hT', run_underlying hE, hr]
end
/-! ### Parts of a row of the call's own, and what is copied inside it -/
/-- u is the part of v from element i on, with m elements. -/
def PartP (v u : Value) (sz i m : Nat) : Prop := ∃ ad n c A, v = .slice (some ad) n c ∧ i + m ≤ n ∧ n ≤ c ∧ u = .slice A m (c - i) ∧ (i < c → A = some (ad.add (i * sz))) ∧ (∃ b, A = some b)
section
variable {P : Program} {a : Act} {o : Oper} {w w' : World} {N : Nat} {l : List (Nat × Value)} {x y c : Operand} {v u u2 z : Value} {T T' e : TypeId} {sz bytes : Nat}
  {α : Type} {s : Shp α} {lo le hi : Nat} {xs ys : List α}
theorem Own.form (h : Own s e lo le hi w v xs) (h0 : 0 < xs.length) : ∃ g c, v = .slice (some ⟨g, 0, none⟩) xs.length c ∧ xs.length ≤ c ∧ c ≤ maxLen := by
  obtain ⟨cs, S, k1, _⟩ := h
  rcases k1.2 with ⟨_, q⟩ | ⟨g, cap, cur, rfl, _, _, hnc, hcm, _⟩
  · omega
  · exact ⟨g, cap, rfl, hnc, hcm⟩
theorem Own.partw (h : Own s e lo le hi w v xs) (hp : 0 < s.sz) (h0 : 0 < xs.length) (hT : P.underlying T = some (.slice e)) (hE : TI P e s.sz bytes z)
    (p q : Option Value) (i j : Nat) (hlo : (p = none ∧ i = 0) ∨ ∃ k, p = some (.int k i)) (hhi : (q = none ∧ j = xs.length) ∨ ∃ k, q = some (.int k j)) (hij : i ≤ j) (hj : j ≤ xs.length) :
    ∃ u, (∀ W, (Instr.sliceAt T v p q none).run P W = .ok u W) ∧ PartP v u s.sz i (j - i) ∧ Rds s (Iv (min lo le) hi) w u ((xs.take j).drop i) := by
  obtain ⟨u, h1, h2⟩ := Rds.part (h.rds hp) hT hE p q i j hlo hhi hij hj
  obtain ⟨g, c, rfl, hc, _⟩ := h.form h0
  refine ⟨u, h1, ?_, h2⟩
  have hb : (Instr.sliceBounds true xs.length c p q none).run P w = .ok (i, j, c) w := by
    rcases hlo with ⟨rfl, rfl⟩ | ⟨k, rfl⟩ <;> rcases hhi with ⟨rfl, rfl⟩ | ⟨k', rfl⟩ <;>
      simp [Instr.sliceBounds, Instr.sliceBound, asIntOf, hij] <;> (try omega)
    all_goals (rw [if_pos (by omega)]; simp [hij])
  have h3 := h1 w
  have h4 : (Instr.sliceAt T (.slice (some ⟨g, 0, none⟩) xs.length c) p q none).run P w = .ok (.slice (if c = i then some ⟨g, 0, none⟩ else some ((⟨g, 0, none⟩ : Addr).add (i * s.sz))) (j - i) (c - i)) w := by
    unfold Instr.sliceAt Instr.slice
    simp [run_underlying hT, hb, hE.sizeOf]
  rw [h4] at h3
  injection h3 with h5
  refine ⟨⟨g, 0, none⟩, xs.length, c, _, rfl, by omega, hc, h5.symm, fun hlt => by rw [if_neg (by omega)], ?_⟩
  split
  · exact ⟨_, rfl⟩
  · exact ⟨_, rfl⟩
/-- Elements are written into a row of the call's own, from element i on. -/
theorem Own.write (P : Program) {i : Nat} {ds : List Value} {S' : Nat → Prop} (hv : Own s e lo le hi w v xs) (h0 : 0 < xs.length) (hit : i + ys.length ≤ xs.length) (he : Els s w S' ds ys) (hS : ∀ k, S' k → le ≤ k ∧ k < hi ∧ v.ownBlock ≠ some k) :
    ∃ g c w', v = .slice (some ⟨g, 0, none⟩) xs.length c ∧ (storeCells ((⟨g, 0, none⟩ : Addr).add (i * s.sz)) ds).run P w = .ok () w' ∧ Own s e lo le hi w' v (xs.take i ++ ys ++ xs.drop (i + ys.length)) ∧ Stp w w' v.ownBlock ∧ w'.heap.size = w.heap.size := by
  obtain ⟨cl, S, k1, k2, k3, k4⟩ := hv
  rcases k1.2 with ⟨_, q⟩ | ⟨g, cap, cur, rfl, hb, hg, hnc, hcm, hcs, ht⟩
  · omega
  have hadd : ∀ q, (⟨g, 0, none⟩ : Addr).add q = ⟨g, q, none⟩ := fun q => by unfold Addr.add; split <;> simp_all
  have hlen := k2.len
  have hdl := he.len
  have hm : (i + ys.length) * s.sz ≤ xs.length * s.sz := Nat.mul_le_mul_right _ hit
  rw [Nat.add_mul] at hm
  have hcl2 : cur.toList.length = cap * s.sz := by simpa using hcs
  have hcur : xs.length * s.sz ≤ cur.toList.length := by rw [hcl2]; exact Nat.mul_le_mul_right _ hnc
  have hst := run_storeCells_at P g (i * s.sz) e ds 0 cur w hg (by rw [hcs]; omega) he.one
  simp only [Nat.add_zero] at hst
  have htot : (xs.take i ++ ys ++ xs.drop (i + ys.length)).length = xs.length := by
    rw [List.length_append, List.length_append, List.length_take, List.length_drop]; omega
  refine ⟨g, cap, w.setRow g (cur.toList.take (i * s.sz) ++ ds ++ cur.toList.drop (i * s.sz + ds.length)).toArray, rfl, by rw [hadd]; exact hst, ⟨cl.take (i * s.sz) ++ ds ++ cl.drop (i * s.sz + ds.length), fun k => S k ∨ S' k, ⟨?_, .inr ⟨g, cap, (cur.toList.take (i * s.sz) ++ ds ++ cur.toList.drop (i * s.sz + ds.length)).toArray, ?_, hb, setRow_heap w g cur _ e (0, 0) hg, ?_, hcm, ?_, ?_⟩⟩, ?_, fun q hq => ?_, fun k hk => ?_⟩, stp_setRow w g _, by simp [World.setRow]⟩
  · rw [htot, List.length_append, List.length_append, List.length_take, List.length_drop]; omega
  · rw [htot]
  · rw [htot]; exact hnc
  · rw [List.size_toArray, List.length_append, List.length_append, List.length_take, List.length_drop]; omega
  · rw [htot]
    have e2 : cl = cur.toList.take (xs.length * s.sz) := ht.symm
    rw [e2, List.take_take, Nat.min_eq_left (by omega)]
    have e3 : (cur.toList.take (xs.length * s.sz)).drop (i * s.sz + ds.length) = (cur.toList.drop (i * s.sz + ds.length)).take (xs.length * s.sz - (i * s.sz + ds.length)) := List.drop_take
    rw [e3, List.append_assoc, List.append_assoc, List.take_append, List.take_append]
    have l1 : (cur.toList.take (i * s.sz)).length = i * s.sz := by rw [List.length_take]; omega
    rw [List.take_of_length_le (by rw [l1]; omega), List.take_of_length_le (l := ds) (by rw [l1]; omega), l1]
    congr 3; omega
  · have f1 : Els s w (fun k => S k ∨ S' k) cl xs := k2.keep fun k hk _ => ⟨.inl hk, rfl⟩
    have f2 : Els s w (fun k => S k ∨ S' k) ds ys := he.keep fun k hk _ => ⟨.inr hk, rfl⟩
    have f3 := f1.drop_ (i + ys.length)
    rw [Nat.add_mul, ← hdl] at f3
    have e4 := ((f1.take_ i).append f2).append f3
    refine e4.keep fun k hk hlt => ⟨hk, (stp_setRow w g _).block k hlt fun q => ?_⟩
    cases q
    rcases hk with hk | hk
    · exact (k3 g rfl).1 hk
    · exact (hS g hk).2.2 rfl
  · refine ⟨fun hk => ?_, (k3 q hq).2⟩
    rcases hk with hk | hk
    · exact (k3 q hq).1 hk
    · exact (hS q hk).2.2 hq
  · rcases hk with hk | hk
    · exact k4 k hk
    · exact ⟨(hS k hk).1, (hS k hk).2.1⟩
/-- 'copy(xs[i:], xs[j:])' inside a row of the call's own. -/
theorem op_copyIn {i j m m2 : Nat} (ha : Sl N a l) (ho : o.op = .call { callee := .builtin .copy, args := #[x, y], argTypes := #[T, T'] }) (hT : P.underlying T = some (.slice e)) (hE : TI P e s.sz bytes z)
    (hx : ev l x = some u) (hy : ev l y = some u2) (hv : Own s e lo le hi w v xs) (h0 : 0 < xs.length) (hu : PartP v u s.sz i m) (hu2 : PartP v u2 s.sz j m2) :
    Eff P a o w (fun q w' => q = .int .i64 ((min m m2 : Nat) : Int) ∧ Own s e lo le hi w' v (xs.take i ++ (xs.drop j).take (min m m2) ++ xs.drop (i + min m m2)) ∧ Stp w w' v.ownBlock ∧ w'.heap.size = w.heap.size) := by
  have hv0 := hv
  obtain ⟨g, c, hvf, hc, hcm⟩ := hv.form h0
  obtain ⟨ad, n, c1, A, e1, hb1, hc1, rfl, hA, hA'⟩ := hu
  obtain ⟨ad2, n2, c2, A2, e2, hb2, hc2, rfl, hA2, hA2'⟩ := hu2
  obtain ⟨b, rfl⟩ := hA'
  obtain ⟨b2, rfl⟩ := hA2'
  rw [hvf] at e1 e2
  cases e1
  cases e2
  obtain ⟨cl, S, k1, k2, k3, k4⟩ := hv
  have hadd : ∀ q, (⟨g, 0, none⟩ : Addr).add q = ⟨g, q, none⟩ := fun q => by unfold Addr.add; split <;> simp_all
  have hlen := k2.len
  have he := (k2.drop_ j).take_ (min m m2)
  have hyl : ((xs.drop j).take (min m m2)).length = min m m2 := by rw [List.length_take, List.length_drop]; omega
  have hrun : ∀ (hld : (loadCells b2 (min m m2 * s.sz)).run P w = .ok ((cl.drop (j * s.sz)).take (min m m2 * s.sz)).toArray w) {w1 : World} (hst : (storeCells b ((cl.drop (j * s.sz)).take (min m m2 * s.sz))).run P w = .ok () w1),
      OpTo P a o w (.int .i64 ((min m m2 : Nat) : Int)) w1 := by
    intro hld w1 hst
    have em : Nat.min m2 m = min m m2 := by show min m2 m = _; omega
    unfold OpTo execOp
    simp only [ho, resolve, invoke, builtin, Sem.run_bind, Sem.run_pure, Result.andThen_ok, List.map_toArray, List.map_cons, List.map_nil, ha.ev hx, ha.ev hy]
    simp [Builtin.copy_, run_underlying hT, Builtin.lenOf, Builtin.firstCells, hE.sizeOf, em, hld, hst, goInt]
  have hld : (loadCells b2 (min m m2 * s.sz)).run P w = .ok ((cl.drop (j * s.sz)).take (min m m2 * s.sz)).toArray w := by
    have hl : ((cl.drop (j * s.sz)).take (min m m2 * s.sz)).length = min m m2 * s.sz := by rw [he.len, hyl]
    have := run_loadCells_list (P := P) w b2 ((cl.drop (j * s.sz)).take (min m m2 * s.sz)) (fun q r hr => by
      have hq : q < min m m2 * s.sz := by
        have := (List.getElem?_eq_some_iff.1 hr).1
        omega
      have hpos : 0 < min m m2 := by
        rcases Nat.eq_zero_or_pos (min m m2) with h | h
        · rw [h] at hq; omega
        · exact h
      have eb := hA2 (by omega)
      cases eb
      rw [add_add]
      refine k1.cells (g := g) (by rw [hvf]; rfl) _ r ?_
      rw [List.getElem?_take, if_pos hq, List.getElem?_drop] at hr
      exact hr)
    rw [hl] at this
    exact this
  rcases Nat.eq_zero_or_pos (min m m2) with hz | hz
  · refine ⟨_, w, hrun hld (by rw [hz]; simp [storeCells]), rfl, ?_, Stp.of_ext (Ext.rfl' w) _, rfl⟩
    rw [hz]
    simp only [List.take_zero, List.append_nil, Nat.add_zero, List.take_append_drop]
    exact hv0
  · have eb := hA (by omega)
    cases eb
    obtain ⟨g', c', w', hvf', hst, h1, h2, h3⟩ := Own.write P (i := i) (ys := (xs.drop j).take (min m m2)) hv0 h0 (by rw [hyl]; omega) (ds := (cl.drop (j * s.sz)).take (min m m2 * s.sz)) (S' := S) he
      (fun k hk => ⟨(k4 k hk).1, (k4 k hk).2, fun q => (k3 k q).1 hk⟩)
    rw [hvf] at hvf'
    cases hvf'
    rw [hyl] at h1
    exact ⟨_, w', hrun hld hst, rfl, h1, h2, h3⟩
end
/-! ### Functions that write a row which is handed to them -/
theorem Stp.rfl' (w : World) (r : Option Nat) : Stp w w r := Stp.of_ext (Ext.rfl' w) r
theorem Stp.trans' {a b c : World} {r : Option Nat} (h : Stp a b r) (k : Stp b c r) : Stp a c r :=
  ⟨k.os.trans h.os, k.tape.trans h.tape, k.output.trans h.output, Nat.le_trans h.size k.size, fun i hi hr =>
    (k.block i (Nat.lt_of_lt_of_le hi h.size) hr).trans (h.block i hi hr)⟩
/-- A call that returns, and of what was there changed block r alone. -/
def RetS (w : World) (r : Option Nat) (R : Value → World → Prop) (e : Ending) (w' : World) : Prop := ∃ v, e = .returned v ∧ Stp w w' r ∧ R v w'
theorem ret_mkS {w w' : World} {r : Option Nat} {R : Value → World → Prop} {v : Value} (hx : Stp w w' r) (h : R v w') : RetS w r R (.returned v) w' := ⟨v, rfl, hx, h⟩
theorem wl_callS {P : Program} {ops : Array Oper} {rest : List Oper} {o : Oper} {a : Act} {w : World} {N : Nat} {l : List (Nat × Value)} {d : Nat} {Q : Exit → Act → World → Prop} {f : FuncId} {args : Array Value} {r : Option Nat} {R : Value → World → Prop}
    (ha : Sl N a l) (hd : o.dst = some d) (hN : Nat.blt d N = true) (hw : wants ops l o = some true) (hr : (execOp a.eval o).run P w = .ok (.enter f args) w) (hc : Calls P f args w (RetS w r R))
    (k : ∀ v w', Stp w w' r → R v w' → ∀ a', Sl N a' ((d, v) :: l) → wpList P ops Q rest a' w') : wpList P ops Q (o :: rest) a w :=
  wl_call ha hd hN hw hr hc fun _ w' ⟨v, he, hx, hR⟩ => ⟨v, he, k v w' hx hR⟩
/-- n marks, from k on. -/
def mkN {α : Type} (f : Int → α) (st : Int) (n : Nat) (k : Int) : List α := (List.range n).map fun (j : Nat) => f (k + st * (j : Int))
theorem mkN_length {α : Type} (f : Int → α) (st : Int) (n : Nat) (k : Int) : (mkN f st n k).length = n := by simp [mkN]
theorem mkN_zero {α : Type} (f : Int → α) (st : Int) (k : Int) : mkN f st 0 k = [] := by simp [mkN]
theorem mkN_step {α : Type} {f : Int → α} {st k q : Int} {acc xs : List α} {i : Nat} {x : α} (h : acc = mkN f st i k ++ xs.drop i) (hi : i < xs.length) (hx : x = f q) (hq : q = k + st * i) : acc.set i x = mkN f st (i + 1) k ++ xs.drop (i + 1) := by
  subst h hx hq
  have e : mkN f st (i + 1) k = mkN f st i k ++ [f (k + st * i)] := by simp [mkN, List.range_succ]
  rw [e, List.set_append_right _ _ (by rw [mkN_length]; exact Nat.le_refl _), mkN_length, Nat.sub_self, List.drop_eq_getElem_cons hi, List.set_cons_zero, List.append_assoc]
  rfl
/-- Do marks stand there, from k on? The mark behind the last one, or -1. -/
def heldG {α : Type} (ok : α → Int → Bool) (st : Int) : List α → Int → Int
  | [], k => k
  | x :: xs, k => if ok x k then heldG ok st xs (k + st) else -1
theorem held_mkN {α : Type} {ok : α → Int → Bool} {st : Int} {f : Int → α} (h : ∀ k, ok (f k) k = true) : ∀ (n : Nat) (k : Int), heldG ok st (mkN f st n k) k = k + st * n
  | 0, k => by rw [mkN_zero]; simp [heldG]
  | n + 1, k => by
    have e : mkN f st (n + 1) k = f k :: mkN f st n (k + st) := by
      unfold mkN
      rw [List.range_succ_eq_map, List.map_cons, List.map_map]
      have e0 : k + st * ((0 : Nat) : Int) = k := by simp
      rw [e0]
      congr 1
      refine List.map_congr_left fun j _ => ?_
      show f (k + st * ((j + 1 : Nat) : Int)) = f (k + st + st * (j : Int))
      have e1 : st * ((j + 1 : Nat) : Int) = st * (j : Int) + st := by rw [Int.natCast_add, Int.mul_add]; simp
      rw [e1]; congr 1; omega
    rw [e, heldG, if_pos (h k), held_mkN h n]
    have e1 : st * ((n + 1 : Nat) : Int) = st * (n : Int) + st := by rw [Int.natCast_add, Int.mul_add]; simp
    rw [e1]; omega
end Go.Proofs.YthbehhhblchhhaaGreat
