/- Short ways: runs of plain steps, and steps whose plain sides are found by themselves. -/
import Derived.Test.YthbehhhblchhhaaGreatNarrow
namespace Go.Proofs.YthbehhhblchhhaaGreat
open Go Go.RowKit
theorem gd {P : Prop} (h : P := by first | assumption | omega | (simp; omega) | (simp [mkN_length]; omega)) : P := h
/-- Plain steps, as far as they go. -/
theorem go {P R : Prop} (k : R) (h : R → P := by
    intro k A H
    repeat (first
      | (refine wl_val H rfl rfl rfl (by first
        | exact op_move H rfl rfl
        | exact op_assign H rfl rfl
        | exact op_pick_t H rfl rfl rfl
        | exact op_pick_f H rfl rfl rfl
        | exact op_not H rfl rfl
        | exact op_lss H rfl rfl rfl
        | exact op_leq H rfl rfl rfl
        | exact op_gtr H rfl rfl rfl
        | exact op_geq H rfl rfl rfl
        | exact op_eql H rfl rfl rfl
        | exact (op_neq H rfl rfl rfl).to (congrArg Value.bool decide_not)
        | exact op_extract H rfl rfl rfl
        | exact op_seql H rfl rfl rfl) ?_; clear H A; intro A H)
      | with_reducible refine then_n ?_
      | with_reducible refine wpList_nil ?_
      | refine wp_region_lit ?_
      | with_reducible refine wp_seq ?_
      | refine cond_t H rfl ?_
      | refine cond_f H rfl ?_
      | (refine wl_skip H rfl rfl rfl ?_; clear H A; intro A H)
      | with_reducible refine wp_skip ?_
      | with_reducible refine wp_block ?_
      | with_reducible refine block_n ?_
      | with_reducible refine wp_ret ?_
      | with_reducible refine then_r ?_
      | with_reducible refine block_r ?_
      | with_reducible refine then_e ?_
      | with_reducible refine block_hit ?_
      | with_reducible refine wp_exit ?_)
    revert A
    exact k) : P := h k
/-- What is known of a frame's slots, told for some of them. -/
theorem sl {N : Nat} {a : Act} {l l' : List (Nat × Value)} (H : Sl N a l) (h : Sl N a l → Sl N a l' := by
    intro H
    repeat (first | refine Sl.cons_ H rfl (by with_reducible rfl) ?_ | refine Sl.cons_ H rfl (int_eq (by omega)) ?_ | refine Sl.cons_ H rfl rfl ?_)
    exact Sl.nil_ H) : Sl N a l' := h H
section
variable {α β : Type} {s : Shp α} {t : Shp β} {e e' T : TypeId} {lo le hi lo' le' hi' a1 b1 c1 g g' : Nat} {w w' : World} {v v' : Value} {xs : List α} {ys : List β} {cs : List Value}
theorem fi (h : Own s e lo le hi w v xs) (h1 : lo' ≤ lo := by omega) (h2 : le' ≤ le := by omega) (h3 : hi ≤ hi' := by omega) : Own s e lo' le' hi' w v xs := h.fin h1 h2 h3
theorem ob (h : Own s e lo le hi w v xs) (hf : Flat s) (hb : Box w g T cs) (k : Stp w w' (some g)) (hne : Nat.beq e T = false := by rfl) : Own s e lo le hi w' v xs := h.stpF hf k (by intro q hq; cases hq; exact h.ne_box hb hne)
theorem oo (h : Own s e lo le hi w v xs) (hf : Flat s) (o : Own t e' a1 b1 c1 w v' ys) (k : Stp w w' v'.ownBlock) (hne : Nat.beq e e' = false := by rfl) : Own s e lo le hi w' v xs := h.stpF hf k (h.ne o hne)
theorem bo (h : Box w g T cs) (o : Own t e' a1 b1 c1 w v' ys) (k : Stp w w' v'.ownBlock) (hne : Nat.beq e' T = false := by rfl) : Box w' g T cs := h.stp k (by intro q hq e; subst e; exact o.ne_box h hne hq)
theorem bb (h : Box w g T cs) (k : Stp w w' (some g')) (hne : g ≠ g' := by omega) : Box w' g T cs := h.stp k (by intro q hq; cases hq; exact hne)
end
theorem nx {a b c : World} (h : Ext a b) (k : Ext b c) : Ext a c ∧ b.heap.size ≤ c.heap.size := ⟨h.trans' k, k.size⟩
theorem nxs {a b c : World} {r : Option Nat} (h : Stp a b r) (k : Stp b c r) : Stp a c r ∧ b.heap.size ≤ c.heap.size := ⟨h.trans' k, k.size⟩
theorem nxe {a b c : World} {r : Option Nat} (h : Stp a b r) (k : Ext b c) : Stp a c r ∧ b.heap.size ≤ c.heap.size := ⟨h.trans' (Stp.of_ext k r), k.size⟩
theorem nb {a b c : World} {g : Nat} (h : Ext a b) (k : Stp b c (some g)) (hl : a.heap.size ≤ g := by omega) : Ext a c ∧ b.heap.size ≤ c.heap.size := ⟨h.stp k (by intro q hq; cases hq; exact hl), k.size⟩
theorem no {α : Type} {s : Shp α} {e lo le hi : Nat} {v : Value} {xs : List α} {a b c : World} (h : Ext a b) (o : Own s e lo le hi b v xs) (k : Stp b c v.ownBlock) (hl : a.heap.size ≤ lo := by omega) : Ext a c ∧ b.heap.size ≤ c.heap.size := ⟨h.stp k (by intro q hq; have := o.lt q hq; omega), k.size⟩
theorem o0 : ∀ u ∈ ([] : List Value), u.oneCell' = true := fun _ h => by cases h
theorem o1 {c : Value} {cs : List Value} (h : c.oneCell' = true) (r : ∀ u ∈ cs, u.oneCell' = true) : ∀ u ∈ c :: cs, u.oneCell' = true := fun u hu => by
  rcases List.mem_cons.1 hu with e | e
  · rw [e]; exact h
  · exact r u e
section
variable {P : Program} {ops : Array Oper} {rest : List Oper} {o : Oper} {a : Act} {w : World} {N : Nat} {l : List (Nat × Value)} {d : Nat} {v : Value} {Q : Exit → Act → World → Prop}
variable {S : World → Prop} {listed : Array Bool} {fuel : Nat}
theorem wv (ha : Sl N a l) (hr : OpVal P a o w v) (k : ∀ a', Sl N a' ((d, v) :: l) → wpList P ops Q rest a' w)
    (hd : o.dst = some d := by rfl) (hN : Nat.blt d N = true := by rfl) (hw : wants ops l o = some true := by rfl) : wpList P ops Q (o :: rest) a w := wl_val ha hd hN hw hr k
theorem wc {f : FuncId} {xs : Array Operand} {ts : Array TypeId} {vs : Array Value} {R : Value → World → Prop} (ha : Sl N a l) (hb : Callable P f) (hc : Calls P f vs w (Ret w R))
    (k : ∀ v w', Ext w w' → R v w' → ∀ a', Sl N a' ((d, v) :: l) → wpList P ops Q rest a' w')
    (hd : o.dst = some d := by rfl) (hN : Nat.blt d N = true := by rfl) (hw : wants ops l o = some true := by rfl) (ho : o.op = .call { callee := .value (.func f), args := xs, argTypes := ts } := by rfl) (hx : xs.toList.map (ev l) = vs.toList.map some := by rfl) :
    wpList P ops Q (o :: rest) a w := wl_callR ha hd hN hw (op_call ha ho hb hx) hc k
theorem pc {i : Nat} {Q : Exit → Act → World → Prop} {K : Act → World → Prop} {f : FuncId} {xs : Array Operand} {ts : Array TypeId} {vs : Array Value} {R : Value → World → Prop} (ha : Sl N a l) (hb : Callable P f) (hi : ops[i]? = some o) (hc : Calls P f vs w (Ret w R))
    (k : ∀ v w', Ext w w' → R v w' → ∀ a', Sl N a' ((d, v) :: l) → K a' w')
    (hd : o.dst = some d := by rfl) (hN : Nat.blt d N = true := by rfl) (hw : wants ops l o = some true := by rfl) (ho : o.op = .call { callee := .value (.func f), args := xs, argTypes := ts } := by rfl) (hx : xs.toList.map (ev l) = vs.toList.map some := by rfl) :
    wpOp P ops Q i K a w := po_callR ha hi hd hN hw (op_call ha ho hb hx) hc k
/-- Runs of plain steps in a region that draws its order: the steps' places are told. -/
def Run (_ : List Nat) (P : Prop) : Prop := P
theorem Run.all {N : Nat} {l : List (Nat × Value)} {is : List Nat} {p : Act → Prop} (h : ∀ a, Sl N a l → Run is (p a)) : Run is (∀ a, Sl N a l → p a) := h
theorem Run.nil {p : Prop} (h : p) : Run [] p := h
theorem dq1 {i : Nat} {is : List Nat} (ha : Sl N a l) (hi : ops[i]? = some o) (hS : S w) (hy : ∀ w', OpVal P a o w' v)
    (k : ∀ a', Sl N a' ((d, v) :: l) → Run is (wpAnyH P .any ops (NoP Q) S fuel (listed.setIfInBounds i true) a' w))
    (hs : Region.noSelect ops = true := by kernel_rfl) (hf : Region.free .any ops listed i = true := by kernel_rfl) (hr : (Region.ready .any ops listed).contains i = true := by kernel_rfl)
    (hd : o.dst = some d := by rfl) (hN : Nat.blt d N = true := by rfl) (hw : wants ops l o = some true := by rfl) : Run (i :: is) (wpAnyH P .any ops (NoP Q) S (fuel + 1) listed a w) := dr_val ha hi hs hf hr hd hN hw hS (fun w' _ => hy w') k
theorem dq0 {i : Nat} {is : List Nat} (ha : Sl N a l) (hi : ops[i]? = some o) (hS : S w)
    (k : ∀ a', Sl N a' ((d, undef) :: l) → Run is (wpAnyH P .any ops (NoP Q) S fuel (listed.setIfInBounds i true) a' w))
    (hs : Region.noSelect ops = true := by kernel_rfl) (hf : Region.free .any ops listed i = true := by kernel_rfl) (hr : (Region.ready .any ops listed).contains i = true := by kernel_rfl)
    (hd : o.dst = some d := by rfl) (hN : Nat.blt d N = true := by rfl) (hw : wants ops l o = some false := by rfl) : Run (i :: is) (wpAnyH P .any ops (NoP Q) S (fuel + 1) listed a w) := dr_skip ha hi hs hf hr hd hN hw hS k
theorem dgo (is : List Nat) {p R T : Prop} (q : T) (k : R) (h : T → R → Run is p := by
    intro q k
    refine Run.all ?_
    intro A H
    repeat (first
      | (refine dq1 H rfl (by exact q) (by first
        | exact fun _ => op_move H rfl rfl
        | exact fun _ => op_assign H rfl rfl
        | exact fun _ => op_extract H rfl rfl rfl
        | exact fun _ => op_pick_t H rfl rfl rfl
        | exact fun _ => op_pick_f H rfl rfl rfl
        | exact fun _ => op_not H rfl rfl
        | exact fun _ => op_lss H rfl rfl rfl
        | exact fun _ => op_leq H rfl rfl rfl
        | exact fun _ => op_gtr H rfl rfl rfl
        | exact fun _ => op_geq H rfl rfl rfl
        | exact fun _ => op_eql H rfl rfl rfl
        | exact fun _ => (op_neq H rfl rfl rfl).to (congrArg Value.bool decide_not)
        | exact fun _ => op_seql H rfl rfl rfl) ?_; clear H A; intro A H)
      | (refine dq0 H rfl (by exact q) ?_; clear H A; intro A H))
    refine Run.nil ?_
    revert A
    exact k) : p := h q k
/-- From here on only worlds that follow the one at hand. -/
theorem drn {w1 : World} (hs : Ext w1 w) (k : Ext w w → wpAnyH P .any ops Q (fun w' => Ext w w') fuel listed a w) : wpAnyH P .any ops Q (fun w' => Ext w1 w') fuel listed a w :=
  dr_narrow (S' := fun w' => Ext w w') (fun _ h' => hs.trans' h') fuel listed a w (k (Ext.rfl' _))
end
section
variable {P : Program} {ops : Array Oper} {rest : List Oper} {o : Oper} {a : Act} {w : World} {N : Nat} {l : List (Nat × Value)} {d : Nat} {v : Value} {Q : Exit → Act → World → Prop}
variable {S : World → Prop} {listed : Array Bool} {fuel : Nat}
theorem we {R : Value → World → Prop} (ha : Sl N a l) (hr : Eff P a o w R) (k : ∀ v w', R v w' → ∀ a', Sl N a' ((d, v) :: l) → wpList P ops Q rest a' w')
    (hd : o.dst = some d := by rfl) (hN : Nat.blt d N = true := by rfl) (hw : wants ops l o = some true := by rfl) : wpList P ops Q (o :: rest) a w := wl_eff ha hd hN hw hr k
theorem ws {R : World → Prop} (ha : Sl N a l) (hr : EffS P a o w R) (k : ∀ w', R w' → wpList P ops Q rest a w')
    (hd : o.dst = none := by rfl) (hw : wants ops l o = some true := by rfl) : wpList P ops Q (o :: rest) a w := wl_effS ha hd hw hr k
theorem pe {i : Nat} {K : Act → World → Prop} {R : Value → World → Prop} (ha : Sl N a l) (hi : ops[i]? = some o) (he : Eff P a o w R) (k : ∀ v w', R v w' → ∀ a', Sl N a' ((d, v) :: l) → K a' w')
    (hd : o.dst = some d := by rfl) (hN : Nat.blt d N = true := by rfl) (hw : wants ops l o = some true := by rfl) : wpOp P ops Q i K a w := po_eff ha hi hd hN hw he k
theorem dre {id : Nat} (S : World → World → Prop) (hm : P.follows .mixedOrders = true)
    (h : ∀ w1, Ext w w1 → Ext w1 w1 → wpAnyH P .any ops (NoP Q) (S w1) ops.size (Array.replicate ops.size false) a w1) : (Code.region id ops true).wp P Q a w := dr_enter S hm fun w1 he => h w1 he (Ext.rfl' _)
theorem drs {w1 : World} {r : Option Nat} (hs : Stp w1 w r) (k : Ext w w → wpAnyH P .any ops Q (fun w' => Stp w w' r) fuel listed a w) : wpAnyH P .any ops Q (fun w' => Stp w1 w' r) fuel listed a w :=
  dr_narrow (S' := fun w' => Stp w w' r) (fun _ h' => hs.trans' h') fuel listed a w (k (Ext.rfl' _))
theorem drl {w1 : World} {B : Nat → Prop} (hs : StpL w1 w B) (k : Ext w w → wpAnyH P .any ops Q (fun w' => StpL w w' B) fuel listed a w) : wpAnyH P .any ops Q (fun w' => StpL w1 w' B) fuel listed a w :=
  dr_narrow (S' := fun w' => StpL w w' B) (fun _ h' => hs.trans' h') fuel listed a w (k (Ext.rfl' _))
end
section
variable {P : Program} {a : Act} {o : Oper} {w : World} {N : Nat} {l : List (Nat × Value)} {x y : Operand} {v u z : Value} {T e : TypeId} {sz bytes : Nat} {α : Type} {s : Shp α} {lo le hi : Nat} {xs ys : List α} {cs ds : List Value} {g : Nat}
theorem op_b1 {n : Nat} {parts : Array (Nat × Operand)} {x : α} {c : List Value} (hr : s.rep w (fun _ => False) c x) (ha : Sl N a l) (hp : 0 < s.sz) (hT : P.underlying T = some (.slice e)) (hE : TI P e s.sz bytes z)
    (ho : o.op = .buildSlice T n parts := by rfl) (hv : parts.toList.map (fun p => (ev l p.2).map fun q => (p.1, q)) = [some (0, v)] := by rfl) (hn : n = 1 := by rfl) (hsm : n * s.sz ≤ 16777216 := by decide)
    (hf : Instr.fill (fun i => some (i * s.sz, s.sz)) ((Array.range (n * s.sz)).map fun i => (if n * s.sz = 0 then #[] else z.cells)[i % (if n * s.sz = 0 then #[] else z.cells).size]!) [(0, v)] = some c.toArray := by kernel_rfl) :
    Eff P a o w (fun v' w' => Own s e w.heap.size w.heap.size w'.heap.size w' v' [x] ∧ Ext w w' ∧ v'.ownBlock = some w.heap.size) :=
  op_buildSlice (xs := [x]) (vs := [(0, v)]) (S := fun _ => False) ha ho hp hT hE hv hn hsm hf (Els.single hr) (fun _ h => h.elim)
theorem op_ap {ts : Array TypeId} {S' : Nat → Prop} (ha : Sl N a l) (hT : P.underlying T = some (.slice e)) (hE : TI P e s.sz bytes z) (hp : 0 < s.sz) (hv : Own s e lo le hi w v xs) (hu : Rds s S' w u ys) (hS : Flat s)
    (ho : o.op = .call { callee := .builtin .append, args := #[x, y], argTypes := #[T, T] } := by rfl) (hzl : z.cells.size = s.sz := by rfl) (hx : ev l x = some v := by rfl) (hy : ev l y = some u := by rfl)
    (hlo : lo ≤ w.heap.size := by omega) (hhi : hi ≤ w.heap.size := by omega) (h63 : xs.length + ys.length ≤ 9223372036854775807 := by first | omega | (simp; omega)) (hbytes : (xs.length + ys.length) * bytes ≤ 140737488355328 := by first | omega | (simp; omega)) :
    Eff P a o w (fun v' w' => Own s e lo le w'.heap.size w' v' (xs ++ ys) ∧ Stp w w' v.ownBlock ∧ (v'.ownBlock = v.ownBlock ∨ v'.ownBlock = some w.heap.size)) :=
  op_append (ts := ts) ha ho hT hE hzl hp hx hy hv hu hlo hhi h63 hbytes (.inl hS)
theorem op_sa {p : Value} (ha : Sl N a l) (hE : TI P T sz bytes z) (hB : Box w g e cs) (ho : o.op = .store T x y := by rfl) (hx : ev l x = some (.pointer (some ⟨g, 0, none⟩)) := by rfl) (hy : ev l y = some p := by rfl) (hv : p.cells = ds.toArray := by rfl) (hl : ds.length = sz := by rfl)
    (h1 : ∀ u ∈ ds, u.oneCell' = true := by simp [Value.oneCell']) (hfit : cs.length = sz := by rfl) : EffS P a o w (fun w' => Box w' g e ds ∧ Stp w w' (some g) ∧ w'.heap.size = w.heap.size) := op_storeAll' ha ho hE hx hy hB hv hl h1 hfit
end
section
variable {P : Program} {a : Act} {o : Oper} {w : World} {N : Nat} {l : List (Nat × Value)} {x y : Operand} {v z : Value} {T e : TypeId} {sz bytes : Nat} {α : Type} {s : Shp α} {xs : List α} {cs : List Value} {S : Nat → Prop} {W : World}
theorem ix {j : Nat} {k : IntKind} {m : Int} {p : Addr} (ha : Sl N a l) (hT : P.underlying T = some (.slice e)) (hE : TI P e sz bytes z) (hp : IdxP v sz j p) (ho : o.op = .indexAddr T x y := by rfl) (hx : ev l x = some v := by rfl) (hy : ev l y = some (.int k m) := by rfl) (hm : m = (j : Int) := by omega) :
    OpVal P a o w (.pointer (some p)) := op_indexAddr ha ho hT hE hx hy hm hp
theorem fa {fs : Array Field} {f : Field} {i off : Nat} {t : TypeId} {p : Addr} (ha : Sl N a l) (hT : P.underlying T = some (.struct fs)) (hE : TI P t (sz + 1) bytes z) (ho : o.op = .fieldAddr T x i := by rfl) (hf : fs[i]? = some f := by rfl) (hoff : f.offset = off := by rfl) (ht : f.type = t := by rfl)
    (hx : ev l x = some (.pointer (some p)) := by rfl) : OpVal P a o w (.pointer (some (p.add off))) := op_fieldAddr ha ho hT hf hoff (ht ▸ hE) hx
theorem lf {D : TypeDesc} {p : Addr} (off : Nat) (ha : Sl N a l) (hT : P.underlying T = some D) (hc : CellsAt w p cs) (ho : o.op = .load T x := by rfl) (hD : (match D with | .struct _ | .array _ _ => true | _ => false) = false := by rfl)
    (hx : ev l x = some (.pointer (some (p.add off))) := by rfl) (hv : cs[off]? = some v := by rfl) : OpVal P a o w v := op_loadF ha ho hT hD hx hc hv
theorem lh {D : TypeDesc} {p : Addr} (ha : Sl N a l) (hT : P.underlying T = some D) (hc : CellsAt w p cs) (ho : o.op = .load T x := by rfl) (hD : (match D with | .struct _ | .array _ _ => true | _ => false) = false := by rfl)
    (hx : ev l x = some (.pointer (some p)) := by rfl) (hv : cs[0]? = some v := by rfl) : OpVal P a o w v := op_loadH ha ho hT hD hx hc hv
theorem ls {fs : Array Field} {p : Addr} (ha : Sl N a l) (hT : P.underlying T = some (.struct fs)) (hE : TI P T sz bytes z) (hc : CellsAt w p cs) (ho : o.op = .load T x := by rfl) (hl : cs.length = sz := by rfl) (hx : ev l x = some (.pointer (some p)) := by rfl) :
    OpVal P a o w (.agg cs.toArray) := op_loadS ha ho hT hE hl hx hc
theorem ln (ha : Sl N a l) (hT : P.underlying T = some (.slice e)) (h : Rds s S W v xs) (ho : o.op = .call { callee := .builtin .len, args := #[x], argTypes := #[T] } := by rfl) (hx : ev l x = some v := by rfl) : OpVal P a o w (.int .i64 xs.length) := op_len_sl ha ho hT hx h
theorem op_b0 {α : Type} {s : Shp α} {n : Nat} {parts : Array (Nat × Operand)} (ha : Sl N a l) (hp : 0 < s.sz) (hT : P.underlying T = some (.slice e)) (hE : TI P e s.sz bytes z)
    (ho : o.op = .buildSlice T n parts := by rfl) (hv : parts.toList.map (fun p => (ev l p.2).map fun q => (p.1, q)) = [] := by rfl) (hn : n = 0 := by rfl) (hsm : n * s.sz ≤ 16777216 := by decide)
    (hf : Instr.fill (fun i => some (i * s.sz, s.sz)) ((Array.range (n * s.sz)).map fun i => (if n * s.sz = 0 then #[] else z.cells)[i % (if n * s.sz = 0 then #[] else z.cells).size]!) [] = some ([] : List Value).toArray := by kernel_rfl) :
    Eff P a o w (fun v' w' => Own s e w.heap.size w.heap.size w'.heap.size w' v' ([] : List α) ∧ Ext w w' ∧ v'.ownBlock = some w.heap.size) :=
  op_buildSlice (xs := []) (cs := []) (vs := []) (S := fun _ => False) ha ho hp hT hE hv hn hsm hf rfl (fun _ h => h.elim)
end
section
variable {P : Program} {ops : Array Oper} {o : Oper} {a : Act} {w : World} {N : Nat} {l : List (Nat × Value)} {d : Nat} {v : Value} {Q : Exit → Act → World → Prop} {S : World → Prop} {listed : Array Bool} {fuel : Nat}
theorem dw (i : Nat) (ha : Sl N a l) (hi : ops[i]? = some o) (hS : S w) (hy : ∀ {w'}, OpVal P a o w' v)
    (k : ∀ a', Sl N a' ((d, v) :: l) → wpAnyH P .any ops (NoP Q) S fuel (listed.setIfInBounds i true) a' w)
    (hs : Region.noSelect ops = true := by kernel_rfl) (hf : Region.free .any ops listed i = true := by kernel_rfl) (hr : (Region.ready .any ops listed).contains i = true := by kernel_rfl)
    (hd : o.dst = some d := by rfl) (hN : Nat.blt d N = true := by rfl) (hw : wants ops l o = some true := by rfl) : wpAnyH P .any ops (NoP Q) S (fuel + 1) listed a w := dr_val ha hi hs hf hr hd hN hw hS (fun _ _ => hy) k
end
/-- An element of a row: its address and its cells. -/
theorem at_shI64 {S : Nat → Prop} {w : World} {v : Value} {xs : List Int} {j : Nat} {x : Int} (h : Rds shI64 S w v xs) (hx : xs[j]? = some x) : ∃ p, IdxP v shI64.sz j p ∧ CellsAt w p [.int .i64 x] ∧ I64 x ∧ S p.block := by
  obtain ⟨p, c, h1, h2, h3, h4⟩ := Rds.at_ h hx
  obtain ⟨rfl, h5⟩ := inv_shI64 h3
  exact ⟨p, h1, h2, h5, h4⟩
theorem at_shStr {S : Nat → Prop} {w : World} {v : Value} {xs : List Str} {j : Nat} {x : Str} (h : Rds shStr S w v xs) (hx : xs[j]? = some x) : ∃ p, IdxP v shStr.sz j p ∧ CellsAt w p [St x] ∧ x.length ≤ 9223372036854775807 ∧ S p.block := by
  obtain ⟨p, c, h1, h2, h3, h4⟩ := Rds.at_ h hx
  obtain ⟨rfl, h5⟩ := inv_shStr h3
  exact ⟨p, h1, h2, h5, h4⟩
section
variable {P : Program} {ops : Array Oper} {rest : List Oper} {o o' : Oper} {a : Act} {w : World} {N : Nat} {l : List (Nat × Value)} {d d' : Nat} {v : Value} {Q : Exit → Act → World → Prop}
variable {S : World → Prop} {listed : Array Bool} {fuel : Nat}
/-- A field is read: its address, and the load. -/
theorem fl {fs : Array Field} {f : Field} {D : TypeDesc} {T T' : TypeId} {t : TypeId} {x x' : Operand} {i sz bytes : Nat} {z : Value} {p : Addr} {cs : List Value} (off : Nat) (H : Sl N a l) (hT : P.underlying T = some (.struct fs)) (hE : TI P t (sz + 1) bytes z)
    (hT' : P.underlying T' = some D) (hc : CellsAt w p cs) (k : ∀ a', Sl N a' ((d', v) :: (d, .pointer (some (p.add off))) :: l) → wpList P ops Q rest a' w)
    (hd : o.dst = some d := by rfl) (hN : Nat.blt d N = true := by rfl) (hw : wants ops l o = some true := by rfl) (ho : o.op = .fieldAddr T x i := by rfl) (hf : fs[i]? = some f := by rfl) (hoff : f.offset = off := by rfl) (ht : f.type = t := by rfl)
    (hx : ev l x = some (.pointer (some p)) := by rfl) (hd' : o'.dst = some d' := by rfl) (hN' : Nat.blt d' N = true := by rfl) (hw' : wants ops ((d, .pointer (some (p.add off))) :: l) o' = some true := by rfl) (ho' : o'.op = .load T' x' := by rfl)
    (hD : (match D with | .struct _ | .array _ _ => true | _ => false) = false := by rfl) (hx' : ev ((d, .pointer (some (p.add off))) :: l) x' = some (.pointer (some (p.add off))) := by rfl) (hv : cs[off]? = some v := by rfl) :
    wpList P ops Q (o :: o' :: rest) a w :=
  wl_val H hd hN hw (op_fieldAddr H ho hT hf hoff (ht ▸ hE) hx) fun _ H' => wl_val H' hd' hN' hw' (op_loadF H' ho' hT' hD hx' hc hv) k
theorem dv (i : Nat) (ha : Sl N a l) (hi : ops[i]? = some o) (hS : S w) (hy : ∀ w', S w' → OpVal P a o w' v)
    (k : ∀ a', Sl N a' ((d, v) :: l) → wpAnyH P .any ops (NoP Q) S fuel (listed.setIfInBounds i true) a' w)
    (hs : Region.noSelect ops = true := by kernel_rfl) (hf : Region.free .any ops listed i = true := by kernel_rfl) (hr : (Region.ready .any ops listed).contains i = true := by kernel_rfl)
    (hd : o.dst = some d := by rfl) (hN : Nat.blt d N = true := by rfl) (hw : wants ops l o = some true := by rfl) : wpAnyH P .any ops (NoP Q) S (fuel + 1) listed a w := dr_val ha hi hs hf hr hd hN hw hS hy k
theorem ds (i : Nat) (ha : Sl N a l) (hi : ops[i]? = some o) (hS : S w)
    (k : ∀ a', Sl N a' ((d, undef) :: l) → wpAnyH P .any ops (NoP Q) S fuel (listed.setIfInBounds i true) a' w)
    (hs : Region.noSelect ops = true := by kernel_rfl) (hf : Region.free .any ops listed i = true := by kernel_rfl) (hr : (Region.ready .any ops listed).contains i = true := by kernel_rfl)
    (hd : o.dst = some d := by rfl) (hN : Nat.blt d N = true := by rfl) (hw : wants ops l o = some false := by rfl) : wpAnyH P .any ops (NoP Q) S (fuel + 1) listed a w := dr_skip ha hi hs hf hr hd hN hw hS k
end
end Go.Proofs.YthbehhhblchhhaaGreat
