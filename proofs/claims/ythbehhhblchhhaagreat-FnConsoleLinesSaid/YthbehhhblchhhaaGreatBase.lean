/- The base of this seat's proofs: frames as lists of slots, one rule for each form of code and each operation, over any program. -/
import Derived.WalkKit
import Derived.WalkSpells
import Derived.WalkLawsBesides
import Derived.OrdersHeld
import Derived.Deep.LoopGhost
import Derived.KernelRfl
namespace Go.Proofs.YthbehhhblchhhaaGreat
open Go Go.RowKit

/-! ### Frames -/

/-- The value of a slot in a list of slots. -/
def lk : List (Nat × Value) → Nat → Option Value
  | [], _ => none
  | p :: r, u => bif Nat.beq p.1 u then some p.2 else lk r u

theorem lk_cons (d : Nat) (v : Value) (l : List (Nat × Value)) (t : Nat) : lk ((d, v) :: l) t = if d = t then some v else lk l t := by
  simp only [lk]
  by_cases h : d = t
  · subst h; simp
  · have : Nat.beq d t = false := by
      rcases Bool.eq_false_or_eq_true (Nat.beq d t) with hb | hb
      · exact absurd (Nat.eq_of_beq_eq_true hb) h
      · exact hb
    simp [h, this]

/-- What is known of a frame. -/
structure Sl (N : Nat) (a : Act) (l : List (Nat × Value)) : Prop where
  defers : a.defers = []
  size : a.tmps.size = N
  get : ∀ t v, lk l t = some v → a.tmps.getD t undef = v

theorem Sl.put {N : Nat} {a : Act} {l : List (Nat × Value)} {d : Nat} {v : Value} (h : Sl N a l) (hd : Nat.blt d N = true) : Sl N (a.put (some d) v) ((d, v) :: l) := by
  have hdN : d < N := by simpa [Nat.blt_eq] using hd
  refine ⟨h.defers, by simp [Act.put, h.size], fun t u hu => ?_⟩
  rw [lk_cons] at hu
  by_cases e : d = t
  · subst e
    simp only [if_true, Option.some.injEq] at hu
    subst hu
    simp [Act.put, Array.getD_eq_getD_getElem?, h.size, hdN]
  · rw [if_neg e] at hu
    have := h.get t u hu
    rw [← this]
    simp [Act.put, Array.getD_eq_getD_getElem?, e]

theorem Sl.put_none {N : Nat} {a : Act} {l : List (Nat × Value)} {v : Value} (h : Sl N a l) : Sl N (a.put none v) l := h

/-- Only these slots are kept. -/
def keep (ks : List Nat) (l : List (Nat × Value)) : List (Nat × Value) :=
  match ks with
  | [] => []
  | k :: r => match lk l k with
    | some v => (k, v) :: keep r l
    | none => keep r l

theorem lk_keep (l : List (Nat × Value)) (t : Nat) (v : Value) : ∀ ks, lk (keep ks l) t = some v → lk l t = some v := by
  intro ks
  induction ks with
  | nil => intro h; cases h
  | cons k r ih =>
    intro h
    unfold keep at h
    split at h
    · rename_i u hu
      rw [lk_cons] at h
      by_cases e : k = t
      · subst e; rw [if_pos rfl] at h; rw [hu]; exact h
      · rw [if_neg e] at h; exact ih h
    · exact ih h

theorem Sl.keep {N : Nat} {a : Act} {l : List (Nat × Value)} (h : Sl N a l) (ks : List Nat) : Sl N a (keep ks l) :=
  ⟨h.defers, h.size, fun t v ht => h.get t v (lk_keep l t v ks ht)⟩

/-- A slot's value may be written otherwise. -/
theorem Sl.alt {N : Nat} {a : Act} {l : List (Nat × Value)} {d : Nat} {v v' : Value} (h : Sl N a ((d, v) :: l)) (e : v = v') : Sl N a ((d, v') :: l) := e ▸ h

theorem Sl.of_eq {N : Nat} {a : Act} {l l' : List (Nat × Value)} (h : Sl N a l) (e : l = l') : Sl N a l' := e ▸ h

def enum : Nat → List Value → List (Nat × Value)
  | _, [] => []
  | k, v :: r => (k, v) :: enum (k + 1) r

theorem lk_enum : ∀ (vs : List Value) (k t : Nat) (v : Value), lk (enum k vs) t = some v → k ≤ t ∧ vs[t - k]? = some v := by
  intro vs
  induction vs with
  | nil => intro k t v h; cases h
  | cons x r ih =>
    intro k t v h
    rw [enum, lk_cons] at h
    by_cases e : k = t
    · subst e; simp at h; simp [h]
    · rw [if_neg e] at h
      obtain ⟨h1, h2⟩ := ih _ _ _ h
      refine ⟨by omega, ?_⟩
      have : t - k = (t - (k + 1)) + 1 := by omega
      rw [this, List.getElem?_cons_succ]
      exact h2

theorem Sl.init (args : Array Value) (N : Nat) (h : Nat.ble args.size N = true) :
    Sl N { tmps := args ++ Array.replicate (N - args.size) undef, defers := [] } (enum 0 args.toList) := by
  have h' : args.size ≤ N := by simpa using h
  refine ⟨rfl, by simp; omega, fun t v ht => ?_⟩
  obtain ⟨_, h2⟩ := lk_enum _ _ _ _ ht
  rw [Nat.sub_zero, Array.getElem?_toList] at h2
  obtain ⟨hlt, hv⟩ := Array.getElem?_eq_some_iff.1 h2
  simp [Array.getD_eq_getD_getElem?, Array.getElem?_append, hlt, hv]

/-- An operand's value, off the list of slots. -/
def ev (l : List (Nat × Value)) : Operand → Option Value
  | .tmp t => lk l t
  | .const v => some v
  | .func f => some (.func (.func f) #[] #[])
  | .global g => some (.pointer (some ⟨g, 0, none⟩))

theorem Sl.ev {N : Nat} {a : Act} {l : List (Nat × Value)} (h : Sl N a l) {x : Operand} {v : Value} (hx : ev l x = some v) : a.eval x = v := by
  cases x with
  | tmp t => exact h.get t v hx
  | const v => exact Option.some.inj hx
  | global g => exact Option.some.inj hx
  | func f => exact Option.some.inj hx

/-! ### The code's forms -/
section
variable {P : Program}

/-- Into a function's body. -/
theorem enter {f : FuncId} {fn : Func} {c : Code} {args : Array Value} {w : World} {R : Ending → World → Prop} {N : Nat}
    (hf : P.funcs[f]? = some fn) (hb : fn.body = some c) (hN : fn.ntmps = N) (hle : Nat.ble args.size N = true)
    (h : ∀ a, Sl N a (enum 0 args.toList) → c.wp P (bodyPost P fn R) a w) : Calls P f args w R := by
  refine calls_of_wp hf hb ?_
  rw [hN]
  exact h _ (Sl.init args N hle)

theorem ret1 {fn : Func} {R : Ending → World → Prop} {a : Act} {w : World} {N : Nat} {l : List (Nat × Value)} {t : Tmp} {v : Value}
    (ha : Sl N a l) (hr : fn.results = #[.tmp t]) (hv : lk l t = some v) (h : R (.returned v) w) : bodyPost P fn R .ret a w :=
  ⟨ha.defers, v, by rw [results_tmp hr, ha.get t v hv], h⟩

theorem ret2 {fn : Func} {R : Ending → World → Prop} {a : Act} {w : World} {N : Nat} {l : List (Nat × Value)} {t u : Tmp} {x y : Value}
    (ha : Sl N a l) (hr : fn.results = #[.tmp t, .tmp u]) (hx : lk l t = some x) (hy : lk l u = some y) (h : R (.returned (.tuple #[x, y])) w) : bodyPost P fn R .ret a w :=
  ⟨ha.defers, _, by rw [results_tmp2 hr, ha.get t x hx, ha.get u y hy], h⟩

theorem ret3 {fn : Func} {R : Ending → World → Prop} {a : Act} {w : World} {N : Nat} {l : List (Nat × Value)} {t u s : Tmp} {x y z : Value}
    (ha : Sl N a l) (hr : fn.results = #[.tmp t, .tmp u, .tmp s]) (hx : lk l t = some x) (hy : lk l u = some y) (hz : lk l s = some z) (h : R (.returned (.tuple #[x, y, z])) w) : bodyPost P fn R .ret a w :=
  ⟨ha.defers, _, by rw [results_tmp3 hr, ha.get t x hx, ha.get u y hy, ha.get s z hz], h⟩

theorem cond_t {c : Operand} {x y : Code} {Q : Exit → Act → World → Prop} {a : Act} {w : World} {N : Nat} {l : List (Nat × Value)}
    (ha : Sl N a l) (hc : ev l c = some (.bool true)) (h : x.wp P Q a w) : (Code.cond c x y).wp P Q a w := wp_cond_true (ha.ev hc) h
theorem cond_f {c : Operand} {x y : Code} {Q : Exit → Act → World → Prop} {a : Act} {w : World} {N : Nat} {l : List (Nat × Value)}
    (ha : Sl N a l) (hc : ev l c = some (.bool false)) (h : y.wp P Q a w) : (Code.cond c x y).wp P Q a w := wp_cond_false (ha.ev hc) h

/-- A loop whose state is a ghost. -/
theorem loop_inv {X : Type} {c : Code} {Q : Exit → Act → World → Prop} {a : Act} {w : World} (I : X → Act → World → Prop) (μ : X → Nat) (x0 : X) (h0 : I x0 a w)
    (round : ∀ x a w, I x a w → c.wp P (Exit.then (fun a' w' => ∃ x', I x' a' w' ∧ μ x' < μ x) Q) a w) : (Code.loop c).wp P Q a w := by
  intro b k cs
  have key : ∀ n x a w, μ x = n → I x a w →
      ∃ e a' w', Q e a' w' ∧ Arrives P (lone (b.at a (.code c :: .inLoop c :: k)) cs w) b k cs e a' w' := by
    intro n
    induction n using Nat.strongRecOn with
    | _ n ih =>
      intro x a w hn hI
      obtain ⟨e, a₁, w₁, hq, harr⟩ := round x a w hI b (.inLoop c :: k) cs
      cases e with
      | normal =>
        obtain ⟨x', hI₁, hlt⟩ := hq
        obtain ⟨e₂, a₂, w₂, hq₂, harr₂⟩ := ih (μ x') (hn ▸ hlt) x' a₁ w₁ rfl hI₁
        exact ⟨e₂, a₂, w₂, hq₂, .of_steps (Steps.trans harr (.one step_inLoop)) harr₂⟩
      | exit id => exact ⟨_, a₁, w₁, hq, .pass (x := .inLoop c) rfl (fun _ _ => .inl (by simp)) harr⟩
      | goto l => exact ⟨_, a₁, w₁, hq, .pass (x := .inLoop c) rfl (fun _ _ => .inl (by simp)) harr⟩
      | ret => exact ⟨_, a₁, w₁, hq, .pass (x := .inLoop c) rfl (fun _ _ => .inl (by simp)) harr⟩
      | panic ch => exact ⟨_, a₁, w₁, hq, .pass (x := .inLoop c) rfl (fun _ _ => .inl (by simp)) harr⟩
      | outgrown => exact ⟨_, a₁, w₁, hq, .pass (x := .inLoop c) rfl (fun _ _ => .inl (by simp)) harr⟩
  obtain ⟨e, a', w', hq, harr⟩ := key _ x0 a w rfl h0
  exact ⟨e, a', w', hq, .of_steps (.one step_loop) harr⟩

/-- What is to hold between two pieces of code is said. -/
theorem seq_mid {x y : Code} {Q : Exit → Act → World → Prop} {a : Act} {w : World} (M : Act → World → Prop)
    (h1 : x.wp P (Exit.then M Q) a w) (h2 : ∀ a w, M a w → y.wp P Q a w) : (Code.seq x y).wp P Q a w :=
  wp_seq (Code.wp_mono (fun e a w q => by cases e <;> first | exact h2 a w q | exact q) h1)

/-! ### Operations -/

/-- Operation o, in this frame and this world, yields v and leaves the world as it is. -/
abbrev OpVal (P : Program) (a : Act) (o : Oper) (w : World) (v : Value) : Prop := (execOp a.eval o).run P w = .ok (.value v) w

/-- Operation o, in this frame and this world, yields v and leaves the world w'. -/
abbrev OpTo (P : Program) (a : Act) (o : Oper) (w : World) (v : Value) (w' : World) : Prop := (execOp a.eval o).run P w = .ok (.value v) w'

/-- Is the operation wanted? -/
def wants (ops : Array Oper) (l : List (Nat × Value)) (o : Oper) : Option Bool :=
  match o.guard with
  | none => some true
  | some (j, want) =>
    match ops[j]? with
    | some oj => match oj.dst with
      | some t => match lk l t with
        | some (.bool b) => some (b == want)
        | some _ => some false
        | none => none
      | none => some false
    | none => none

theorem wanted_of {ops : Array Oper} {l : List (Nat × Value)} {o : Oper} {b : Bool} {N : Nat} {a : Act} (ha : Sl N a l) (h : wants ops l o = some b) : Region.wanted o (yielded ops a.tmps) = b := by
  unfold wants at h
  unfold Region.wanted
  split at h
  · rename_i hg; simp only [hg]; simpa using h
  · rename_i j want hg
    simp only [hg]
    split at h
    · rename_i oj hj
      split at h
      · rename_i t ht
        have hy : yielded ops a.tmps j = match a.tmps[t]? with | some (.bool b) => some b | _ => none := by
          simp only [yielded, hj, ht, Option.bind_some]
          cases a.tmps[t]? with
          | none => rfl
          | some v => cases v <;> rfl
        split at h
        · rename_i c hc
          have hd := ha.get t _ hc
          rw [Array.getD_eq_getD_getElem?] at hd
          cases hs : a.tmps[t]? with
          | none => rw [hs] at hd; cases hd
          | some v =>
            rw [hs] at hd
            simp only [Option.getD_some] at hd
            subst hd
            rw [hy, hs]
            simpa using h
        · rename_i v hv hc
          have hd := ha.get t _ hc
          rw [Array.getD_eq_getD_getElem?] at hd
          have hn : yielded ops a.tmps j = none := by
            rw [hy]
            cases hs : a.tmps[t]? with
            | none => rfl
            | some u =>
              rw [hs] at hd
              simp only [Option.getD_some] at hd
              subst hd
              cases u <;> first | rfl | exact absurd rfl (hv _)
          rw [hn]
          simpa using h
        · cases h
      · rename_i hd
        have hn : yielded ops a.tmps j = none := by simp [yielded, hj, hd]
        rw [hn]
        simpa using h
    · cases h

section
variable {ops : Array Oper} {rest : List Oper} {o : Oper} {a : Act} {w w' : World} {N : Nat} {l : List (Nat × Value)} {d : Nat} {v : Value} {Q : Exit → Act → World → Prop}

theorem wl_val (ha : Sl N a l) (hd : o.dst = some d) (hN : Nat.blt d N = true) (hw : wants ops l o = some true) (hr : OpVal P a o w v)
    (k : ∀ a', Sl N a' ((d, v) :: l) → wpList P ops Q rest a' w) : wpList P ops Q (o :: rest) a w := by
  unfold wpList
  rw [if_pos (wanted_of ha hw)]
  refine .inl ?_
  unfold Oper.wp
  rw [hr, Oper.upon_value, hd]
  exact k _ (ha.put hN)

theorem wl_to (ha : Sl N a l) (hd : o.dst = some d) (hN : Nat.blt d N = true) (hw : wants ops l o = some true) (hr : OpTo P a o w v w')
    (k : ∀ a', Sl N a' ((d, v) :: l) → wpList P ops Q rest a' w') : wpList P ops Q (o :: rest) a w := by
  unfold wpList
  rw [if_pos (wanted_of ha hw)]
  refine .inl ?_
  unfold Oper.wp
  rw [hr, Oper.upon_value, hd]
  exact k _ (ha.put hN)

/-- A store. -/
theorem wl_store (ha : Sl N a l) (hd : o.dst = none) (hw : wants ops l o = some true) (hr : (execOp a.eval o).run P w = .ok .skip w')
    (k : wpList P ops Q rest a w') : wpList P ops Q (o :: rest) a w := by
  unfold wpList
  rw [if_pos (wanted_of ha hw)]
  refine .inl ?_
  unfold Oper.wp
  rw [hr, Oper.upon_skip, hd]
  exact k

theorem wl_skip (ha : Sl N a l) (hd : o.dst = some d) (hN : Nat.blt d N = true) (hw : wants ops l o = some false)
    (k : ∀ a', Sl N a' ((d, undef) :: l) → wpList P ops Q rest a' w) : wpList P ops Q (o :: rest) a w := by
  unfold wpList
  rw [if_neg (by rw [wanted_of ha hw]; simp), hd]
  exact k _ (ha.put hN)

theorem wl_call {f : FuncId} {args : Array Value} {R : Ending → World → Prop} (ha : Sl N a l) (hd : o.dst = some d) (hN : Nat.blt d N = true) (hw : wants ops l o = some true)
    (hr : (execOp a.eval o).run P w = .ok (.enter f args) w) (hc : Calls P f args w R)
    (k : ∀ e w', R e w' → ∃ v, e = .returned v ∧ ∀ a', Sl N a' ((d, v) :: l) → wpList P ops Q rest a' w') : wpList P ops Q (o :: rest) a w := by
  unfold wpList
  rw [if_pos (wanted_of ha hw)]
  refine .inl ?_
  unfold Oper.wp
  rw [hr, Oper.upon_enter]
  refine hc.mono fun e w' he => ?_
  obtain ⟨v, rfl, h⟩ := k e w' he
  rw [hd]
  exact h _ (ha.put hN)

end

/-! ### Operations that look into no memory -/
section
variable {a : Act} {o : Oper} {w : World} {N : Nat} {l : List (Nat × Value)} {x y c : Operand} {v u : Value}

theorem op_move (ha : Sl N a l) (ho : o.op = .move x) (hx : ev l x = some v) : OpVal P a o w v := by
  unfold OpVal execOp; simp only [ho, ha.ev hx, Sem.run_pure]
theorem op_assign (ha : Sl N a l) (ho : o.op = .assign x) (hx : ev l x = some v) : OpVal P a o w v := by
  unfold OpVal execOp; simp only [ho, ha.ev hx, Sem.run_pure]
theorem op_pick_t (ha : Sl N a l) (ho : o.op = .pick c x y) (hc : ev l c = some (.bool true)) (hx : ev l x = some v) : OpVal P a o w v := by
  unfold OpVal execOp; simp [ho, ha.ev hx, ha.ev hc, asBool]
theorem op_pick_f (ha : Sl N a l) (ho : o.op = .pick c x y) (hc : ev l c = some (.bool false)) (hy : ev l y = some v) : OpVal P a o w v := by
  unfold OpVal execOp; simp [ho, ha.ev hy, ha.ev hc, asBool]
theorem op_not {T : TypeId} {b : Bool} (ha : Sl N a l) (ho : o.op = .unOp .not T x) (hx : ev l x = some (.bool b)) : OpVal P a o w (.bool !b) := by
  unfold OpVal execOp; simp [ho, ha.ev hx, Op.unary]
theorem op_neg {T : TypeId} {k : IntKind} {n : Int} (ha : Sl N a l) (ho : o.op = .unOp .neg T x) (hx : ev l x = some (.int k n)) : OpVal P a o w (.int k (k.wrap (0 - n))) := by
  unfold OpVal execOp; simp [ho, ha.ev hx, Op.unary, Op.intArith]
theorem op_extract {vs : Array Value} {i : Nat} (ha : Sl N a l) (ho : o.op = .extract x i) (hx : ev l x = some (.tuple vs)) (hv : vs[i]? = some v) : OpVal P a o w v := by
  unfold OpVal execOp; simp [ho, ha.ev hx, Instr.extract, hv]
theorem op_conv_int {S T : TypeId} {k j : IntKind} {n : Int} {D : TypeDesc} (ha : Sl N a l) (ho : o.op = .convert S T x) (hS : P.underlying S = some D) (hT : P.underlying T = some (.int j)) (hx : ev l x = some (.int k n)) :
    OpVal P a o w (.int j (j.wrap n)) := by
  unfold OpVal execOp; simp [ho, ha.ev hx, convert, run_underlying hS, run_underlying hT, Conv.intToInt]

theorem run_guard {op : BinOp} {T : TypeId} {p q : Value} (h : ∀ cs, p ≠ .agg cs) (h' : p ≠ .nilIface) : (eqGuard op T x y p q).run P w = .ok () w := by
  unfold eqGuard
  cases op <;> simp <;> (cases p <;> simp_all)

theorem op_bin {op : BinOp} {T T' : TypeId} {p q : Value} (ha : Sl N a l) (ho : o.op = .binOp op T x y T') (hx : ev l x = some p) (hy : ev l y = some q)
    (h : ∀ cs, p ≠ .agg cs) (h' : p ≠ .nilIface) (hr : (binOp op T p q).run P w = .ok v w) : OpVal P a o w v := by
  unfold OpVal execOp
  simp only [ho, ha.ev hx, ha.ev hy]
  simp [run_guard (P := P) (w := w) (x := x) (y := y) (op := op) (T := T) (q := q) h h', hr]

variable {T T' : TypeId} {k : IntKind} {m n : Int}
theorem op_add (ha : Sl N a l) (ho : o.op = .binOp .add T x y T') (hx : ev l x = some (.int k m)) (hy : ev l y = some (.int k n)) : OpVal P a o w (.int k (k.wrap (m + n))) :=
  op_bin ha ho hx hy (by simp) (by simp) (by simp [binOp, Op.intArith])
theorem op_sub (ha : Sl N a l) (ho : o.op = .binOp .sub T x y T') (hx : ev l x = some (.int k m)) (hy : ev l y = some (.int k n)) : OpVal P a o w (.int k (k.wrap (m - n))) :=
  op_bin ha ho hx hy (by simp) (by simp) (by simp [binOp, Op.intArith])
theorem op_mul (ha : Sl N a l) (ho : o.op = .binOp .mul T x y T') (hx : ev l x = some (.int k m)) (hy : ev l y = some (.int k n)) : OpVal P a o w (.int k (k.wrap (m * n))) :=
  op_bin ha ho hx hy (by simp) (by simp) (by simp [binOp, Op.intArith])
theorem op_quo (ha : Sl N a l) (ho : o.op = .binOp .quo T x y T') (hx : ev l x = some (.int k m)) (hy : ev l y = some (.int k n)) (hn : n ≠ 0) : OpVal P a o w (.int k (k.wrap (m.tdiv n))) :=
  op_bin ha ho hx hy (by simp) (by simp) (by simp [binOp, Op.intDiv, hn])
theorem op_rem (ha : Sl N a l) (ho : o.op = .binOp .rem T x y T') (hx : ev l x = some (.int k m)) (hy : ev l y = some (.int k n)) (hn : n ≠ 0) : OpVal P a o w (.int k (m.tmod n)) :=
  op_bin ha ho hx hy (by simp) (by simp) (by simp [binOp, Op.intDiv, hn])
theorem op_lss (ha : Sl N a l) (ho : o.op = .binOp .lss T x y T') (hx : ev l x = some (.int k m)) (hy : ev l y = some (.int k n)) : OpVal P a o w (.bool (decide (m < n))) :=
  op_bin ha ho hx hy (by simp) (by simp) (by simp [binOp, Op.intCmp])
theorem op_leq (ha : Sl N a l) (ho : o.op = .binOp .leq T x y T') (hx : ev l x = some (.int k m)) (hy : ev l y = some (.int k n)) : OpVal P a o w (.bool (decide (m ≤ n))) :=
  op_bin ha ho hx hy (by simp) (by simp) (by simp [binOp, Op.intCmp])
theorem op_gtr (ha : Sl N a l) (ho : o.op = .binOp .gtr T x y T') (hx : ev l x = some (.int k m)) (hy : ev l y = some (.int k n)) : OpVal P a o w (.bool (decide (n < m))) :=
  op_bin ha ho hx hy (by simp) (by simp) (by simp [binOp, Op.intCmp])
theorem op_geq (ha : Sl N a l) (ho : o.op = .binOp .geq T x y T') (hx : ev l x = some (.int k m)) (hy : ev l y = some (.int k n)) : OpVal P a o w (.bool (decide (n ≤ m))) :=
  op_bin ha ho hx hy (by simp) (by simp) (by simp [binOp, Op.intCmp])
theorem op_eql (ha : Sl N a l) (ho : o.op = .binOp .eql T x y T') (hx : ev l x = some (.int k m)) (hy : ev l y = some (.int k n)) : OpVal P a o w (.bool (decide (m = n))) :=
  op_bin ha ho hx hy (by simp) (by simp) (by simp [binOp, Op.intCmp]; rfl)
theorem op_neq (ha : Sl N a l) (ho : o.op = .binOp .neq T x y T') (hx : ev l x = some (.int k m)) (hy : ev l y = some (.int k n)) : OpVal P a o w (.bool (decide (m ≠ n))) :=
  op_bin ha ho hx hy (by simp) (by simp) (by simp [binOp, Op.intCmp, bne]; rfl)
end

/-! ### Strings -/
abbrev Str := List UInt8
abbrev St (s : Str) : Value := .string ⟨s.toArray⟩
abbrev I64 (n : Int) : Prop := -9223372036854775808 ≤ n ∧ n ≤ 9223372036854775807

section
variable {a : Act} {o : Oper} {w : World} {N : Nat} {l : List (Nat × Value)} {x y c : Operand} {v u : Value} {T T' : TypeId} {s t : Str}

theorem sizeSt (s : Str) : (ByteArray.mk s.toArray).size = s.length := by rw [ByteArray.size_mk']; simp
theorem beqd (s t : Str) : (s == t) = decide (s = t) := by rw [Bool.eq_iff_iff]; simp
theorem op_sadd (ha : Sl N a l) (ho : o.op = .binOp .add T x y T') (hx : ev l x = some (St s)) (hy : ev l y = some (St t)) (h : s.length + t.length ≤ 9223372036854775807) : OpVal P a o w (St (s ++ t)) :=
  op_bin ha ho hx hy (by simp) (by simp) (by
    rw [binOp_string_add]
    have e := run_string_add_sum (P := P) (w := w) ⟨s.toArray⟩ ⟨t.toArray⟩ (by rw [sizeSt, sizeSt]; exact h)
    rw [ByteArray.mk_append_mk] at e
    exact e)
theorem op_seql (ha : Sl N a l) (ho : o.op = .binOp .eql T x y T') (hx : ev l x = some (St s)) (hy : ev l y = some (St t)) : OpVal P a o w (.bool (decide (s = t))) :=
  op_bin ha ho hx hy (by simp) (by simp) (by rw [binOp_string_eql]; simp only [ByteArray.toList_mk, beqd]; rfl)
theorem op_sneq (ha : Sl N a l) (ho : o.op = .binOp .neq T x y T') (hx : ev l x = some (St s)) (hy : ev l y = some (St t)) : OpVal P a o w (.bool (decide (s ≠ t))) :=
  op_bin ha ho hx hy (by simp) (by simp) (by rw [binOp_string_neq]; simp only [ByteArray.toList_mk, ne_eq, decide_not, beqd]; rfl)
theorem op_slss (ha : Sl N a l) (ho : o.op = .binOp .lss T x y T') (hx : ev l x = some (St s)) (hy : ev l y = some (St t)) : OpVal P a o w (.bool (Op.bytesLess s t)) :=
  op_bin ha ho hx hy (by simp) (by simp) (by rw [binOp_string_lss]; simp only [ByteArray.toList_mk]; rfl)
theorem op_sgeq (ha : Sl N a l) (ho : o.op = .binOp .geq T x y T') (hx : ev l x = some (St s)) (hy : ev l y = some (St t)) : OpVal P a o w (.bool (!Op.bytesLess s t)) :=
  op_bin ha ho hx hy (by simp) (by simp) (by rw [binOp_string_geq]; simp only [ByteArray.toList_mk]; rfl)
theorem op_sleq (ha : Sl N a l) (ho : o.op = .binOp .leq T x y T') (hx : ev l x = some (St s)) (hy : ev l y = some (St t)) : OpVal P a o w (.bool (Op.bytesLess s t || decide (s = t))) :=
  op_bin ha ho hx hy (by simp) (by simp) (by rw [binOp_string_leq]; simp only [ByteArray.toList_mk, beqd]; rfl)
theorem op_sgtr (ha : Sl N a l) (ho : o.op = .binOp .gtr T x y T') (hx : ev l x = some (St s)) (hy : ev l y = some (St t)) : OpVal P a o w (.bool (!(Op.bytesLess s t || decide (s = t)))) :=
  op_bin ha ho hx hy (by simp) (by simp) (by rw [binOp_string_gtr]; simp only [ByteArray.toList_mk, beqd]; rfl)

/-- The model's order of strings is the lexical order of the lists of bytes. -/
theorem bytesLess_lt : ∀ (x y : Str), Op.bytesLess x y = decide (x < y)
  | [], [] => by simp [Op.bytesLess]
  | _ :: _, [] => by simp [Op.bytesLess]
  | [], _ :: _ => by simp [Op.bytesLess]
  | a :: x, b :: y => by
    rw [Op.bytesLess, bytesLess_lt x y]
    simp only [List.cons_lt_cons_iff]
    by_cases h1 : a < b <;> by_cases h2 : a = b <;> by_cases h3 : x < y <;> simp [h1, h2, h3]
theorem str_irr : ∀ (x : Str), ¬ x < x
  | [], h => by simp at h
  | a :: x, h => by
    rw [List.cons_lt_cons_iff] at h
    rcases h with h | ⟨_, h⟩
    · exact absurd (UInt8.lt_iff_toNat_lt.1 h) (Nat.lt_irrefl _)
    · exact str_irr x h
theorem str_tr : ∀ {x y z : Str}, x < y → y < z → x < z
  | _, [], _, h, _ => by simp at h
  | _, _ :: _, [], _, h => by simp at h
  | [], _ :: _, _ :: _, _, _ => by simp
  | a :: x, b :: y, c :: z, h, k => by
    rw [List.cons_lt_cons_iff] at h k ⊢
    rcases h with h | ⟨rfl, h⟩
    · rcases k with k | ⟨rfl, k⟩
      · exact .inl (UInt8.lt_iff_toNat_lt.2 (Nat.lt_trans (UInt8.lt_iff_toNat_lt.1 h) (UInt8.lt_iff_toNat_lt.1 k)))
      · exact .inl h
    · rcases k with k | ⟨rfl, k⟩
      · exact .inl k
      · exact .inr ⟨rfl, str_tr h k⟩
theorem str_tri : ∀ (x y : Str), x < y ∨ x = y ∨ y < x
  | [], [] => by simp
  | [], _ :: _ => by simp
  | _ :: _, [] => by simp
  | a :: x, b :: y => by
    rw [List.cons_lt_cons_iff, List.cons_lt_cons_iff]
    rcases Nat.lt_trichotomy a.toNat b.toNat with h | h | h
    · exact .inl (.inl (UInt8.lt_iff_toNat_lt.2 h))
    · have e : a = b := UInt8.toNat_inj.1 h
      subst e
      rcases str_tri x y with k | k | k
      · exact .inl (.inr ⟨rfl, k⟩)
      · exact .inr (.inl (by rw [k]))
      · exact .inr (.inr (.inr ⟨rfl, k⟩))
    · exact .inr (.inr (.inl (UInt8.lt_iff_toNat_lt.2 h)))
theorem str_as {x y : Str} (h : x < y) : ¬ y < x := fun k => str_irr x (str_tr h k)
theorem str_ne {x y : Str} (h : x < y) : x ≠ y := fun e => by subst e; exact str_irr x h
theorem str_le {x y : Str} (h : ¬ y < x) : x < y ∨ x = y := (str_tri x y).imp id fun k => k.resolve_right h
theorem str_gtr (s t : Str) : (!(Op.bytesLess s t || decide (s = t))) = decide (t < s) := by
  rw [bytesLess_lt, Bool.eq_iff_iff]
  simp only [Bool.not_eq_true', Bool.or_eq_false_iff, decide_eq_false_iff_not, decide_eq_true_eq]
  exact ⟨fun ⟨h, k⟩ => ((str_tri s t).resolve_left h).resolve_left k, fun h => ⟨str_as h, fun e => str_ne h e.symm⟩⟩
theorem str_leq (s t : Str) : (Op.bytesLess s t || decide (s = t)) = !decide (t < s) := by rw [← str_gtr]; simp

theorem op_len_str (ha : Sl N a l) (ho : o.op = .call { callee := .builtin .len, args := #[x], argTypes := #[T] }) (hT : P.underlying T = some .string)
    (hx : ev l x = some (St s)) : OpVal P a o w (.int .i64 s.length) := by
  unfold OpVal execOp
  simp [ho, resolve, invoke, builtin, ha.ev hx, Builtin.len_, run_underlying hT, goInt, sizeSt]

theorem op_index_str {k : IntKind} {j : Nat} {b : UInt8} (ha : Sl N a l) (ho : o.op = .index T x y) (hT : P.underlying T = some .string)
    {m : Int} (hx : ev l x = some (St s)) (hy : ev l y = some (.int k m)) (hm : m = (j : Int)) (hj : s[j]? = some b) : OpVal P a o w (.int .u8 b.toNat) := by
  subst hm
  obtain ⟨hlt, hb⟩ := List.getElem?_eq_some_iff.1 hj
  have hq : (ByteArray.mk s.toArray)[j]? = some b := by
    rw [ByteArray.getElem?_lt' _ _ (by rw [sizeSt]; exact hlt)]
    simp only [Option.some.injEq]
    rw [← hb]
    rfl
  unfold OpVal execOp
  simp [ho, ha.ev hx, ha.ev hy, Instr.index, run_underlying hT, asIntOf, hq]

theorem slice_str (T : TypeId) (hT : P.underlying T = some .string) (lo hi : Option Value) (i j : Nat) (hlo : (lo = none ∧ i = 0) ∨ ∃ k, lo = some (.int k i)) (hhi : (hi = none ∧ j = s.length) ∨ ∃ k, hi = some (.int k j))
    (hij : i ≤ j) (hj : j ≤ s.length) : (Instr.sliceAt T (St s) lo hi none).run P w = .ok (St ((s.take j).drop i)) w := by
  have e : (ByteArray.mk s.toArray).extract i j = ⟨((s.take j).drop i).toArray⟩ := by
    rw [ByteArray.extract_mk, List.drop_take]
  have hs := sizeSt s
  have h1 : (Instr.sliceBounds false (ByteArray.mk s.toArray).size (ByteArray.mk s.toArray).size lo hi none).run P w = .ok (i, j, s.length) w := by
    rcases hlo with ⟨rfl, rfl⟩ | ⟨k, rfl⟩ <;> rcases hhi with ⟨rfl, rfl⟩ | ⟨k', rfl⟩ <;>
      simp [Instr.sliceBounds, Instr.sliceBound, asIntOf, hs, hij, hj]
  unfold Instr.sliceAt Instr.slice
  simp [run_underlying hT, h1, e]

theorem op_slice_str_b {k k' : IntKind} {i j : Nat} {m n : Int} (hm : m = (i : Int)) (hn : n = (j : Int)) (ha : Sl N a l) (ho : o.op = .slice T x (some y) (some c) none) (hT : P.underlying T = some .string) (hx : ev l x = some (St s))
    (hy : ev l y = some (.int k m)) (hc : ev l c = some (.int k' n)) (hij : i ≤ j) (hj : j ≤ s.length) : OpVal P a o w (St ((s.take j).drop i)) := by
  subst hm hn
  unfold OpVal execOp
  simp [ho, ha.ev hx, ha.ev hy, ha.ev hc, slice_str (P := P) (w := w) T hT (some (.int k i)) (some (.int k' j)) i j (.inr ⟨k, rfl⟩) (.inr ⟨k', rfl⟩) hij hj]
theorem op_slice_str_f {k : IntKind} {i : Nat} {m : Int} (hm : m = (i : Int)) (ha : Sl N a l) (ho : o.op = .slice T x (some y) none none) (hT : P.underlying T = some .string) (hx : ev l x = some (St s))
    (hy : ev l y = some (.int k m)) (hi : i ≤ s.length) : OpVal P a o w (St (s.drop i)) := by
  subst hm
  have h := slice_str (P := P) (w := w) T hT (some (.int k i)) none i s.length (.inr ⟨k, rfl⟩) (.inl ⟨rfl, rfl⟩) hi (Nat.le_refl _)
  rw [List.take_length] at h
  unfold OpVal execOp
  simp [ho, ha.ev hx, ha.ev hy, h]
theorem op_slice_str_t {k : IntKind} {j : Nat} {m : Int} (hm : m = (j : Int)) (ha : Sl N a l) (ho : o.op = .slice T x none (some c) none) (hT : P.underlying T = some .string) (hx : ev l x = some (St s))
    (hc : ev l c = some (.int k m)) (hj : j ≤ s.length) : OpVal P a o w (St (s.take j)) := by
  subst hm
  have h := slice_str (P := P) (w := w) T hT none (some (.int k j)) 0 j (.inl ⟨rfl, rfl⟩) (.inr ⟨k, rfl⟩) (Nat.zero_le _) hj
  rw [List.drop_zero] at h
  unfold OpVal execOp
  simp [ho, ha.ev hx, ha.ev hc, h]
end

/-! ### Memory: what a run may have changed -/

/-- Blocks have been laid; what was there is as it was. -/
abbrev Ext (w w' : World) : Prop := Below w.heap.size w w'
/-- Blocks have been laid; of what was there block g alone may have changed. -/
abbrev Only (g : Nat) (w w' : World) : Prop := w.grownBy w' (some g)

theorem Ext.rfl' (w : World) : Ext w w := Below.refl _ _
theorem Ext.trans' {a b c : World} (h : Ext a b) (k : Ext b c) : Ext a c := Below.trans h (Below.mono k h.size)
theorem Ext.only {a b c : World} {g : Nat} (h : Ext a b) (k : Only g b c) (hg : a.heap.size ≤ g) : Ext a c :=
  ⟨k.os.trans h.os, k.tape.trans h.tape, k.output.trans h.output, Nat.le_trans h.size k.size, fun i hi =>
    (k.block i (Nat.lt_of_lt_of_le hi h.size) (fun e => by cases e; omega)).trans (h.block i hi)⟩
theorem Ext.drew (w : World) : Ext w { w with drawn := w.drawn + 1 } := ⟨rfl, rfl, rfl, Nat.le_refl _, fun _ _ => rfl⟩
theorem Only.of_ext {g : Nat} {w w' : World} (h : Ext w w') : Only g w w' := ⟨h.os, h.tape, h.output, h.size, fun i hi _ => h.block i hi⟩
theorem Only.trans' {g : Nat} {a b c : World} (h : Only g a b) (k : Only g b c) : Only g a c :=
  ⟨k.os.trans h.os, k.tape.trans h.tape, k.output.trans h.output, Nat.le_trans h.size k.size, fun i hi hne =>
    (k.block i (Nat.lt_of_lt_of_le hi h.size) hne).trans (h.block i hi hne)⟩
theorem Only.ext {g : Nat} {a b c : World} (h : Only g a b) (k : Ext b c) : Only g a c := h.trans' (Only.of_ext k)

/-! ### Shapes of data -/

/-- How data of a type lie in cells: 'rep w S cs x': in world w the cells cs read as x, and every block that the reading comes to is in S. -/
structure Shp (α : Type) where
  sz : Nat
  rep : World → (Nat → Prop) → List Value → α → Prop
  len : ∀ {w : World} {S : Nat → Prop} {cs : List Value} {x : α}, rep w S cs x → cs.length = sz
  one : ∀ {w : World} {S : Nat → Prop} {cs : List Value} {x : α}, rep w S cs x → ∀ u ∈ cs, u.oneCell' = true
  keep : ∀ {w w' : World} {S S' : Nat → Prop} {cs : List Value} {x : α}, rep w S cs x → (∀ k, S k → k < w.heap.size → S' k ∧ w'.heap[k]? = w.heap[k]?) → rep w' S' cs x

/-- The cells of a list of such data. -/
def Els {α : Type} (s : Shp α) (w : World) (S : Nat → Prop) : List Value → List α → Prop
  | cs, [] => cs = []
  | cs, x :: xs => s.rep w S (cs.take s.sz) x ∧ Els s w S (cs.drop s.sz) xs

section
variable {α : Type} {s : Shp α} {w w' : World} {S S' : Nat → Prop}

theorem Els.len : ∀ {xs : List α} {cs : List Value}, Els s w S cs xs → cs.length = xs.length * s.sz
  | [], cs, h => by simp [Els] at h; simp [h]
  | x :: xs, cs, h => by
    obtain ⟨h1, h2⟩ := h
    have e1 := s.len h1
    have e2 := Els.len h2
    rw [List.length_take] at e1
    rw [List.length_drop] at e2
    rw [List.length_cons, Nat.add_mul, Nat.one_mul]
    omega
theorem Els.one : ∀ {xs : List α} {cs : List Value}, Els s w S cs xs → ∀ u ∈ cs, u.oneCell' = true
  | [], cs, h, u, hu => by simp [Els] at h; simp [h] at hu
  | x :: xs, cs, h, u, hu => by
    rw [← List.take_append_drop s.sz cs, List.mem_append] at hu
    rcases hu with hu | hu
    · exact s.one h.1 u hu
    · exact Els.one h.2 u hu
theorem Els.keep (hk : ∀ k, S k → k < w.heap.size → S' k ∧ w'.heap[k]? = w.heap[k]?) : ∀ {xs : List α} {cs : List Value}, Els s w S cs xs → Els s w' S' cs xs
  | [], _, h => h
  | _ :: _, _, h => ⟨s.keep h.1 hk, Els.keep hk h.2⟩
theorem Els.append : ∀ {xs ys : List α} {cs ds : List Value}, Els s w S cs xs → Els s w S ds ys → Els s w S (cs ++ ds) (xs ++ ys)
  | [], ys, cs, ds, h, h' => by simp [Els] at h; simpa [h] using h'
  | x :: xs, ys, cs, ds, h, h' => by
    have e := s.len h.1
    rw [List.length_take] at e
    refine ⟨?_, ?_⟩
    · rw [List.take_append_of_le_length (by omega)]; exact h.1
    · rw [List.drop_append_of_le_length (by omega)]; exact Els.append h.2 h'
theorem Els.single {cs : List Value} {x : α} (h : s.rep w S cs x) : Els s w S cs [x] := by
  have e := s.len h
  refine ⟨by rw [List.take_of_length_le (by omega)]; exact h, ?_⟩
  simp [Els, e]
theorem Els.at_ : ∀ {xs : List α} {cs : List Value} {j : Nat} {x : α}, Els s w S cs xs → xs[j]? = some x → s.rep w S ((cs.drop (j * s.sz)).take s.sz) x
  | [], _, _, _, _, h => by simp at h
  | y :: xs, cs, 0, x, h, hx => by
    simp at hx; subst hx; simpa using h.1
  | y :: xs, cs, j + 1, x, h, hx => by
    have := Els.at_ (j := j) h.2 (by simpa using hx)
    rw [List.drop_drop] at this
    rw [Nat.add_mul, Nat.one_mul, Nat.add_comm]
    exact this
theorem Els.take_ : ∀ {xs : List α} {cs : List Value} (j : Nat), Els s w S cs xs → Els s w S (cs.take (j * s.sz)) (xs.take j)
  | [], cs, j, h => by simp [Els] at h; simp [Els, h]
  | x :: xs, cs, 0, h => by simp [Els]
  | x :: xs, cs, j + 1, h => by
    have e := s.len h.1
    rw [List.length_take] at e
    refine ⟨?_, ?_⟩
    · rw [List.take_take, Nat.min_eq_left (by rw [Nat.add_mul, Nat.one_mul]; omega)]; exact h.1
    · rw [List.drop_take, Nat.add_mul, Nat.one_mul, Nat.add_sub_cancel]
      exact Els.take_ j h.2
theorem Els.drop_ : ∀ {xs : List α} {cs : List Value} (j : Nat), Els s w S cs xs → Els s w S (cs.drop (j * s.sz)) (xs.drop j)
  | [], cs, j, h => by simp [Els] at h; simp [Els, h]
  | x :: xs, cs, 0, h => by simpa using h
  | x :: xs, cs, j + 1, h => by
    have := Els.drop_ j h.2
    rw [List.drop_drop] at this
    rw [Nat.add_mul, Nat.one_mul, Nat.add_comm]
    exact this
theorem Els.set_ : ∀ {xs : List α} {cs ds : List Value} {j : Nat} {x : α}, Els s w S cs xs → j < xs.length → s.rep w S ds x →
    Els s w S (cs.take (j * s.sz) ++ ds ++ cs.drop (j * s.sz + s.sz)) (xs.set j x)
  | [], _, _, _, _, _, h, _ => by simp at h
  | y :: xs, cs, ds, 0, x, h, _, hx => by
    have e := s.len hx
    refine ⟨?_, ?_⟩
    · simp only [Nat.zero_mul, List.take_zero, List.nil_append, Nat.zero_add]
      rw [List.take_append_of_le_length (by omega), List.take_of_length_le (by omega)]; exact hx
    · simp only [Nat.zero_mul, List.take_zero, List.nil_append, Nat.zero_add]
      rw [List.drop_append_of_le_length (by omega), List.drop_of_length_le (by omega), List.nil_append]; exact h.2
  | y :: xs, cs, ds, j + 1, x, h, hj, hx => by
    have e := s.len h.1
    rw [List.length_take] at e
    have ih := Els.set_ (j := j) h.2 (by simpa using hj) hx
    have e1 : (j + 1) * s.sz = s.sz + j * s.sz := by rw [Nat.add_mul, Nat.one_mul, Nat.add_comm]
    rw [List.set_cons_succ, e1]
    refine ⟨?_, ?_⟩
    · rw [List.append_assoc, List.take_append_of_le_length (by rw [List.length_take]; omega), List.take_take, Nat.min_eq_left (by omega)]; exact h.1
    · rw [List.append_assoc, List.drop_append_of_le_length (by rw [List.length_take]; omega), List.drop_take, Nat.add_sub_cancel_left, ← List.append_assoc]
      rw [List.drop_drop] at ih
      rw [Nat.add_assoc]
      exact ih
end

/-- A slice that reads as a list; its blocks lie from lo on and below hi. -/
def Iv (lo hi : Nat) : Nat → Prop := fun k => lo ≤ k ∧ k < hi
theorem not_iv {lo hi g : Nat} (h : g < lo ∨ hi ≤ g) : ¬ Iv lo hi g := fun ⟨a, b⟩ => by omega

/-- The cells at an address. -/
def CellsAt (w : World) (p : Addr) (cs : List Value) : Prop := ∀ (j : Nat) (u : Value), cs[j]? = some u → w.cell? (p.add j) = some u

def Rdc (w : World) (S : Nat → Prop) (sz : Nat) (v : Value) (n : Nat) (cs : List Value) : Prop :=
  cs.length = n * sz ∧ ∃ A c, v = .slice A n c ∧ n ≤ c ∧ c ≤ maxLen ∧ (0 < n → ∃ ad : Addr, A = some ad ∧ S ad.block ∧ CellsAt w ad cs)

def Rds {α : Type} (s : Shp α) (S : Nat → Prop) (w : World) (v : Value) (xs : List α) : Prop := ∃ cs, Rdc w S s.sz v xs.length cs ∧ Els s w S cs xs

abbrev Rd {α : Type} (s : Shp α) (lo hi : Nat) (w : World) (v : Value) (xs : List α) : Prop := Rds s (Iv lo hi) w v xs

theorem add_block (a : Addr) (n : Nat) : (a.add n).block = a.block := by unfold Addr.add; split <;> rfl
theorem add_add (a : Addr) (i j : Nat) : (a.add i).add j = a.add (i + j) := by
  unfold Addr.add
  by_cases hi : i = 0 <;> by_cases hj : j = 0 <;> simp [hi, hj, Nat.add_assoc]
theorem add_zero' (a : Addr) : a.add 0 = a := by simp [Addr.add]

theorem CellsAt.keep {w w' : World} {p : Addr} {cs : List Value} (h : CellsAt w p cs) (hk : p.block < w.heap.size → w'.heap[p.block]? = w.heap[p.block]?) : CellsAt w' p cs := by
  intro j u hu
  have h1 := h j u hu
  have hlt := World.block_lt_of_cell? w _ h1
  rw [add_block] at hlt
  rw [World.cell?_of_block (w := w) (by rw [add_block]; exact hk hlt)]
  exact h1

theorem Rdc.keep {w w' : World} {S S' : Nat → Prop} {sz n : Nat} {v : Value} {cs : List Value} (hsz : 0 < sz) (h : Rdc w S sz v n cs)
    (hk : ∀ k, S k → k < w.heap.size → S' k ∧ w'.heap[k]? = w.heap[k]?) : Rdc w' S' sz v n cs := by
  obtain ⟨h1, A, c, hv, h2, h3, h4⟩ := h
  refine ⟨h1, A, c, hv, h2, h3, fun hn => ?_⟩
  obtain ⟨ad, e, hS, hc⟩ := h4 hn
  have hlt : ad.block < w.heap.size := by
    have hl : 0 < cs.length := by rw [h1]; exact Nat.mul_pos hn hsz
    have := World.block_lt_of_cell? w _ (hc 0 cs[0] (List.getElem?_eq_getElem hl))
    rwa [add_block] at this
  exact ⟨ad, e, (hk _ hS hlt).1, hc.keep fun hb => (hk _ hS hb).2⟩

theorem Rds.keep {α : Type} {s : Shp α} {w w' : World} {S S' : Nat → Prop} {v : Value} {xs : List α} (hsz : 0 < s.sz) (h : Rds s S w v xs)
    (hk : ∀ k, S k → k < w.heap.size → S' k ∧ w'.heap[k]? = w.heap[k]?) : Rds s S' w' v xs :=
  let ⟨cs, h1, h2⟩ := h
  ⟨cs, h1.keep hsz hk, h2.keep hk⟩

/-! ### The shapes -/
def shI64 : Shp Int where
  sz := 1
  rep _ _ cs n := cs = [.int .i64 n] ∧ I64 n
  len h := by simp [h.1]
  one h := by simp [h.1, Value.oneCell']
  keep h _ := h
def shU8 : Shp UInt8 where
  sz := 1
  rep _ _ cs n := cs = [.int .u8 n.toNat]
  len h := by simp [h]
  one h := by simp [h, Value.oneCell']
  keep h _ := h
def shBool : Shp Bool where
  sz := 1
  rep _ _ cs n := cs = [.bool n]
  len h := by simp [h]
  one h := by simp [h, Value.oneCell']
  keep h _ := h
def shStr : Shp Str where
  sz := 1
  rep _ _ cs x := cs = [St x] ∧ x.length ≤ 9223372036854775807
  len h := by simp [h.1]
  one h := by simp [h.1, Value.oneCell']
  keep h _ := h
def shPair {α β : Type} (s : Shp α) (t : Shp β) : Shp (α × β) where
  sz := s.sz + t.sz
  rep w S cs x := ∃ c1 c2, cs = c1 ++ c2 ∧ s.rep w S c1 x.1 ∧ t.rep w S c2 x.2
  len := fun ⟨_, _, e, h1, h2⟩ => by rw [e, List.length_append, s.len h1, t.len h2]
  one := fun ⟨_, _, e, h1, h2⟩ u hu => by
    rw [e, List.mem_append] at hu
    rcases hu with hu | hu
    · exact s.one h1 u hu
    · exact t.one h2 u hu
  keep := fun ⟨c1, c2, e, h1, h2⟩ hk => ⟨c1, c2, e, s.keep h1 hk, t.keep h2 hk⟩
/-- A slice as an element. -/
def shSl {α : Type} (s : Shp α) (hp : 0 < s.sz) : Shp (List α) where
  sz := 1
  rep w S cs xs := ∃ v, cs = [v] ∧ Rds s S w v xs
  len := fun ⟨_, e, _⟩ => by simp [e]
  one := fun ⟨v, e, ⟨_, ⟨_, A, c, hv, _⟩, _⟩⟩ => by simp [e, hv, Value.oneCell']
  keep := fun ⟨v, e, h⟩ hk => ⟨v, e, h.keep hp hk⟩

/-! ### Types' figures -/
structure TI (P : Program) (e : TypeId) (sz bytes : Nat) (z : Value) : Prop where
  ex : ∃ i, P.info? e = some i ∧ i.size = sz ∧ i.bytes = bytes ∧ i.zero = some z
theorem TI.of {P : Program} {e : TypeId} {sz bytes : Nat} {z : Value} (h : (P.info? e).map (fun i => (i.zero, i.size, i.bytes)) = some (some z, sz, bytes)) : TI P e sz bytes z := by
  cases hi : P.info? e with
  | none => rw [hi] at h; cases h
  | some i =>
    rw [hi] at h
    simp only [Option.map_some, Option.some.injEq, Prod.mk.injEq] at h
    exact ⟨i, hi, h.2.1, h.2.2, h.1⟩
theorem TI.sizeOf {P : Program} {e : TypeId} {sz bytes : Nat} {z : Value} (h : TI P e sz bytes z) (w : World) : (Go.sizeOf e).run P w = .ok sz w := by
  obtain ⟨i, hi, rfl, _⟩ := h.ex
  simp [Go.sizeOf, typeInfo, hi]
theorem TI.zeroValue {P : Program} {e : TypeId} {sz bytes : Nat} {z : Value} (h : TI P e sz bytes z) (w : World) : (Go.zeroValue e).run P w = .ok z w := by
  obtain ⟨i, hi, _, _, hz⟩ := h.ex
  simp [Go.zeroValue, typeInfo, hi, hz]

/-! ### Reading memory -/
theorem Rds.form {α : Type} {s : Shp α} {S : Nat → Prop} {w : World} {v : Value} {xs : List α} (h : Rds s S w v xs) : ∃ A c, v = .slice A xs.length c ∧ xs.length ≤ c ∧ c ≤ maxLen := by
  obtain ⟨_, ⟨_, A, c, hv, h2, h3, _⟩, _⟩ := h
  exact ⟨A, c, hv, h2, h3⟩
theorem Rds.length_le {α : Type} {s : Shp α} {S : Nat → Prop} {w : World} {v : Value} {xs : List α} (h : Rds s S w v xs) : xs.length ≤ 9223372036854775807 := by
  obtain ⟨_, _, _, h1, h2⟩ := h.form
  unfold maxLen at h2; omega

/-- p is where element j of the slice v lies. -/
def IdxP (v : Value) (sz j : Nat) (p : Addr) : Prop := ∃ ad n c, v = .slice (some ad) n c ∧ j < n ∧ p = ad.add (j * sz)

theorem Rds.at_ {α : Type} {s : Shp α} {S : Nat → Prop} {w : World} {v : Value} {xs : List α} {j : Nat} {x : α} (h : Rds s S w v xs) (hx : xs[j]? = some x) :
    ∃ p c, IdxP v s.sz j p ∧ CellsAt w p c ∧ s.rep w S c x ∧ S p.block := by
  have hj : j < xs.length := (List.getElem?_eq_some_iff.1 hx).1
  obtain ⟨cs, ⟨h1, A, c, hv, h2, h3, h4⟩, he⟩ := h
  obtain ⟨ad, rfl, hS, hc⟩ := h4 (by omega)
  refine ⟨ad.add (j * s.sz), _, ⟨ad, _, c, hv, hj, rfl⟩, fun i u hu => ?_, he.at_ hx, by rw [add_block]; exact hS⟩
  rw [add_add]
  apply hc
  rw [List.getElem?_take] at hu
  split at hu
  · rwa [List.getElem?_drop] at hu
  · cases hu

section
variable {a : Act} {o : Oper} {w w' : World} {N : Nat} {l : List (Nat × Value)} {x y c : Operand} {v u z : Value} {T T' e : TypeId} {sz bytes : Nat}

theorem op_len_sl {α : Type} {s : Shp α} {S : Nat → Prop} {W : World} {xs : List α} (ha : Sl N a l) (ho : o.op = .call { callee := .builtin .len, args := #[x], argTypes := #[T] }) (hT : P.underlying T = some (.slice e))
    (hx : ev l x = some v) (h : Rds s S W v xs) : OpVal P a o w (.int .i64 xs.length) := by
  obtain ⟨A, c, rfl, _⟩ := h.form
  unfold OpVal execOp
  simp [ho, resolve, invoke, builtin, ha.ev hx, Builtin.len_, run_underlying hT, goInt]

theorem op_indexAddr {j : Nat} {k : IntKind} {p : Addr} (ha : Sl N a l) (ho : o.op = .indexAddr T x y) (hT : P.underlying T = some (.slice e)) (hE : TI P e sz bytes z)
    {m : Int} (hx : ev l x = some v) (hy : ev l y = some (.int k m)) (hm : m = (j : Int)) (hp : IdxP v sz j p) : OpVal P a o w (.pointer (some p)) := by
  subst hm
  obtain ⟨ad, n, c, rfl, hj, rfl⟩ := hp
  unfold OpVal execOp
  simp only [ho, ha.ev hx, ha.ev hy]
  simp [Instr.indexAt, asIntOf, run_underlying hT, hj, hE.sizeOf]

theorem op_fieldAddr {fs : Array Field} {f : Field} {i off : Nat} {p : Addr} (ha : Sl N a l) (ho : o.op = .fieldAddr T x i) (hT : P.underlying T = some (.struct fs)) (hf : fs[i]? = some f) (hoff : f.offset = off)
    (hE : TI P f.type (sz + 1) bytes z) (hx : ev l x = some (.pointer (some p))) : OpVal P a o w (.pointer (some (p.add off))) := by
  subst hoff
  unfold OpVal execOp
  simp only [ho, ha.ev hx]
  simp [Instr.fieldAt, run_underlying hT, hf, Instr.sureAddr, fieldPlace, hE.sizeOf]

theorem run_loadVar1 {D : TypeDesc} {p : Addr} (hT : P.underlying T = some D) (hD : (match D with | .struct _ | .array _ _ => true | _ => false) = false) (hc : w.cell? p = some v) : (loadVar T p).run P w = .ok v w := by
  unfold loadVar isAgg
  cases D <;> simp_all [run_underlying hT]

/-- A load of one cell. -/
theorem op_load1 {D : TypeDesc} {p : Addr} (ha : Sl N a l) (ho : o.op = .load T x) (hT : P.underlying T = some D) (hD : (match D with | .struct _ | .array _ _ => true | _ => false) = false)
    (hx : ev l x = some (.pointer (some p))) (hc : w.cell? p = some v) : OpVal P a o w v := by
  unfold OpVal execOp
  simp only [ho, ha.ev hx]
  simp [Instr.loadAt, Instr.sureAddr, run_loadVar1 hT hD hc]

theorem op_loadF {D : TypeDesc} {p : Addr} {off : Nat} {cs : List Value} (ha : Sl N a l) (ho : o.op = .load T x) (hT : P.underlying T = some D) (hD : (match D with | .struct _ | .array _ _ => true | _ => false) = false)
    (hx : ev l x = some (.pointer (some (p.add off)))) (hc : CellsAt w p cs) (hv : cs[off]? = some v) : OpVal P a o w v := op_load1 ha ho hT hD hx (hc off v hv)
theorem op_loadH {D : TypeDesc} {p : Addr} {cs : List Value} (ha : Sl N a l) (ho : o.op = .load T x) (hT : P.underlying T = some D) (hD : (match D with | .struct _ | .array _ _ => true | _ => false) = false)
    (hx : ev l x = some (.pointer (some p))) (hc : CellsAt w p cs) (hv : cs[0]? = some v) : OpVal P a o w v := op_load1 ha ho hT hD hx (by have := hc 0 v hv; rwa [add_zero'] at this)

/-- A load of a struct. -/
theorem op_loadS {fs : Array Field} {p : Addr} {cs : List Value} (ha : Sl N a l) (ho : o.op = .load T x) (hT : P.underlying T = some (.struct fs)) (hE : TI P T sz bytes z) (hl : cs.length = sz)
    (hx : ev l x = some (.pointer (some p))) (hc : CellsAt w p cs) : OpVal P a o w (.agg cs.toArray) := by
  subst hl
  unfold OpVal execOp
  simp only [ho, ha.ev hx]
  simp [Instr.loadAt, Instr.sureAddr, loadVar, isAgg, run_underlying hT, hE.sizeOf, run_loadCells_list w p cs (fun j v hv => hc j v hv)]

/-! A part of a slice -/
theorem Rds.part {α : Type} {s : Shp α} {S : Nat → Prop} {xs : List α} (h : Rds s S w v xs) (hT : P.underlying T = some (.slice e)) (hE : TI P e s.sz bytes z)
    (lo hi : Option Value) (i j : Nat) (hlo : (lo = none ∧ i = 0) ∨ ∃ k, lo = some (.int k i)) (hhi : (hi = none ∧ j = xs.length) ∨ ∃ k, hi = some (.int k j)) (hij : i ≤ j) (hj : j ≤ xs.length) :
    ∃ u, (∀ W, (Instr.sliceAt T v lo hi none).run P W = .ok u W) ∧ Rds s S w u ((xs.take j).drop i) := by
  obtain ⟨cs, ⟨h1, A, c, rfl, h2, h3, h4⟩, he⟩ := h
  have hb : ∀ W, (Instr.sliceBounds true xs.length c lo hi none).run P W = .ok (i, j, c) W := by
    intro W
    rcases hlo with ⟨rfl, rfl⟩ | ⟨k, rfl⟩ <;> rcases hhi with ⟨rfl, rfl⟩ | ⟨k', rfl⟩ <;>
      simp [Instr.sliceBounds, Instr.sliceBound, asIntOf, hij] <;> (try omega)
    all_goals (rw [if_pos (by omega)]; simp [hij])
  refine ⟨.slice (if c = i then A else A.map (·.add (i * s.sz))) (j - i) (c - i), fun W => ?_, ?_⟩
  · unfold Instr.sliceAt Instr.slice
    simp [run_underlying hT, hb, hE.sizeOf]
  · refine ⟨(cs.take (j * s.sz)).drop (i * s.sz), ⟨?_, (if c = i then A else A.map (·.add (i * s.sz))), c - i, ?_, ?_, ?_, ?_⟩, ?_⟩
    · rw [List.length_drop, List.length_take, h1, List.length_drop, List.length_take, Nat.min_eq_left (Nat.mul_le_mul_right _ hj), Nat.min_eq_left hj, Nat.sub_mul]
    · rw [List.length_drop, List.length_take, Nat.min_eq_left hj]
    · rw [List.length_drop, List.length_take, Nat.min_eq_left hj]; omega
    · omega
    · intro hn
      rw [List.length_drop, List.length_take, Nat.min_eq_left hj] at hn
      obtain ⟨ad, rfl, hS, hc⟩ := h4 (by omega)
      rw [if_neg (by omega)]
      refine ⟨ad.add (i * s.sz), rfl, by rw [add_block]; exact hS, fun q u hu => ?_⟩
      rw [add_add]
      apply hc
      rw [List.getElem?_drop, List.getElem?_take] at hu
      split at hu
      · exact hu
      · cases hu
    · exact Els.drop_ i (Els.take_ j he)

theorem op_slice_b {k k' : IntKind} {i j : Nat} {m n : Int} (hm : m = (i : Int)) (hn : n = (j : Int)) (ha : Sl N a l) (ho : o.op = .slice T x (some y) (some c) none) (hx : ev l x = some v) (hy : ev l y = some (.int k m)) (hc : ev l c = some (.int k' n))
    (h : ∀ W, (Instr.sliceAt T v (some (.int k i)) (some (.int k' j)) none).run P W = .ok u W) : OpVal P a o w u := by
  subst hm hn
  unfold OpVal execOp
  simp [ho, ha.ev hx, ha.ev hy, ha.ev hc, h]
theorem op_slice_f {k : IntKind} {i : Nat} {m : Int} (hm : m = (i : Int)) (ha : Sl N a l) (ho : o.op = .slice T x (some y) none none) (hx : ev l x = some v) (hy : ev l y = some (.int k m))
    (h : ∀ W, (Instr.sliceAt T v (some (.int k i)) none none).run P W = .ok u W) : OpVal P a o w u := by
  subst hm
  unfold OpVal execOp
  simp [ho, ha.ev hx, ha.ev hy, h]
theorem op_slice_t {k : IntKind} {j : Nat} {m : Int} (hm : m = (j : Int)) (ha : Sl N a l) (ho : o.op = .slice T x none (some c) none) (hx : ev l x = some v) (hc : ev l c = some (.int k m))
    (h : ∀ W, (Instr.sliceAt T v none (some (.int k j)) none).run P W = .ok u W) : OpVal P a o w u := by
  subst hm
  unfold OpVal execOp
  simp [ho, ha.ev hx, ha.ev hc, h]

/-! ### Calls -/
/-- What a contract says: it returns, what was there is as it was, and this of the result. -/
def Ret (w : World) (R : Value → World → Prop) (e : Ending) (w' : World) : Prop := ∃ v, e = .returned v ∧ Ext w w' ∧ R v w'

structure Callable (P : Program) (f : FuncId) : Prop where
  ok : ∃ fn, P.funcs[f]? = some fn ∧ (fn.name == "runtime.NumGoroutine") = false ∧ fn.body.isNone = false

theorem run_callFunc {f : FuncId} (h : Callable P f) (args : Array Value) : (callFunc f args).run P w = .ok (.enter f args) w := by
  obtain ⟨fn, h1, h2, h3⟩ := h.ok
  unfold callFunc
  simp only [Sem.run_bind, run_program, Result.andThen_ok, h1, h2, h3, Bool.false_eq_true, if_false, Sem.run_pure]

theorem op_call {f : FuncId} {xs : Array Operand} {ts : Array TypeId} {vs : Array Value} (ha : Sl N a l) (ho : o.op = .call { callee := .value (.func f), args := xs, argTypes := ts }) (h : Callable P f)
    (hx : xs.toList.map (ev l) = vs.toList.map some) : (execOp a.eval o).run P w = .ok (.enter f vs) w := by
  have e : xs.map a.eval = vs := by
    apply Array.ext'
    rw [Array.toList_map]
    have : ∀ (xs : List Operand) (vs : List Value), xs.map (ev l) = vs.map some → xs.map a.eval = vs := by
      intro xs
      induction xs with
      | nil => intro vs h; cases vs <;> simp_all
      | cons q r ih =>
        intro vs h
        cases vs with
        | nil => simp at h
        | cons p t =>
          simp only [List.map_cons, List.cons.injEq] at h
          rw [List.map_cons, ha.ev h.1, ih t h.2]
    exact this _ _ hx
  have ef : a.eval (.func f) = .func (.func f) #[] #[] := rfl
  unfold execOp
  simp [ho, resolve, ef, Deferred.ofValue, invoke, e, run_callFunc h]
end

theorem wl_callR {ops : Array Oper} {rest : List Oper} {o : Oper} {a : Act} {w : World} {N : Nat} {l : List (Nat × Value)} {d : Nat} {Q : Exit → Act → World → Prop} {f : FuncId} {args : Array Value} {R : Value → World → Prop}
    (ha : Sl N a l) (hd : o.dst = some d) (hN : Nat.blt d N = true) (hw : wants ops l o = some true) (hr : (execOp a.eval o).run P w = .ok (.enter f args) w) (hc : Calls P f args w (Ret w R))
    (k : ∀ v w', Ext w w' → R v w' → ∀ a', Sl N a' ((d, v) :: l) → wpList P ops Q rest a' w') : wpList P ops Q (o :: rest) a w :=
  wl_call ha hd hN hw hr hc fun _ w' ⟨v, he, hx, hR⟩ => ⟨v, he, k v w' hx hR⟩

/-! ### A region that draws its order -/
/-- Q, but False at a panic. -/
def NoP (Q : Exit → Act → World → Prop) : Exit → Act → World → Prop
  | .panic _, _, _ => False
  | e, a, w => Q e a w
theorem NoP.imp {Q : Exit → Act → World → Prop} (e : Exit) (a : Act) (w : World) (h : NoP Q e a w) : Q e a w := by
  cases e <;> first | exact h | exact (h : False).elim

section
variable {ops : Array Oper} {Q : Exit → Act → World → Prop} {a : Act} {w w' : World} {N : Nat} {l : List (Nat × Value)} {S : World → Prop} {listed : Array Bool} {fuel i d : Nat} {o : Oper} {v : Value}

/-- Behind the draw any world that extends this one stands for it. -/
theorem dr_enter {id : Nat} (S : World → World → Prop) (hm : P.follows .mixedOrders = true)
    (h : ∀ w1, Ext w w1 → wpAnyH P .any ops (NoP Q) (S w1) ops.size (Array.replicate ops.size false) a w1) : (Code.region id ops true).wp P Q a w :=
  Code.wp_mono NoP.imp (wp_region_held (S := S { w with drawn := w.drawn + 1 }) hm (h _ (Ext.drew w)))

theorem dr_val (ha : Sl N a l) (hi : ops[i]? = some o) (hs : Region.noSelect ops = true) (hf : Region.free .any ops listed i = true) (hr : (Region.ready .any ops listed).contains i = true)
    (hd : o.dst = some d) (hN : Nat.blt d N = true) (hw : wants ops l o = some true) (hS : S w) (hy : ∀ w', S w' → OpVal P a o w' v)
    (k : ∀ a', Sl N a' ((d, v) :: l) → wpAnyH P .any ops (NoP Q) S fuel (listed.setIfInBounds i true) a' w) : wpAnyH P .any ops (NoP Q) S (fuel + 1) listed a w :=
  wpAnyH_take hi hs hf hr (fun _ _ _ h => h) (.inl ⟨wanted_of ha hw, hy⟩) hS (by rw [hd]; exact k _ (ha.put hN))
theorem dr_skip (ha : Sl N a l) (hi : ops[i]? = some o) (hs : Region.noSelect ops = true) (hf : Region.free .any ops listed i = true) (hr : (Region.ready .any ops listed).contains i = true)
    (hd : o.dst = some d) (hN : Nat.blt d N = true) (hw : wants ops l o = some false) (hS : S w)
    (k : ∀ a', Sl N a' ((d, undef) :: l) → wpAnyH P .any ops (NoP Q) S fuel (listed.setIfInBounds i true) a' w) : wpAnyH P .any ops (NoP Q) S (fuel + 1) listed a w :=
  wpAnyH_take hi hs hf hr (fun _ _ _ h => h) (.inr ⟨wanted_of ha hw, rfl⟩) hS (by rw [hd]; exact k _ (ha.put hN))
/-- The one operation that may come up: it yields, in the world at hand, v and another world. -/
theorem dr_to (ha : Sl N a l) (hi : ops[i]? = some o) (hr : Region.ready .any ops listed = [i])
    (hd : o.dst = some d) (hN : Nat.blt d N = true) (hw : wants ops l o = some true) (hy : OpTo P a o w v w') (hS : S w')
    (k : ∀ a', Sl N a' ((d, v) :: l) → wpAnyH P .any ops (NoP Q) S fuel (listed.setIfInBounds i true) a' w') : wpAnyH P .any ops (NoP Q) S (fuel + 1) listed a w := by
  refine wpAnyH_all hr (by simp) fun j hj => ?_
  simp only [List.mem_cons, List.mem_nil_iff, or_false] at hj
  subst hj
  unfold wpOp
  simp only [hi]
  rw [if_pos (wanted_of ha hw)]
  refine .inl ?_
  unfold Oper.wp
  rw [hy, Oper.upon_value, hd]
  exact ⟨hS, k _ (ha.put hN)⟩
theorem dr_store (ha : Sl N a l) (hi : ops[i]? = some o) (hr : Region.ready .any ops listed = [i])
    (hd : o.dst = none) (hw : wants ops l o = some true) (hy : (execOp a.eval o).run P w = .ok .skip w') (hS : S w')
    (k : wpAnyH P .any ops (NoP Q) S fuel (listed.setIfInBounds i true) a w') : wpAnyH P .any ops (NoP Q) S (fuel + 1) listed a w := by
  refine wpAnyH_all hr (by simp) fun j hj => ?_
  simp only [List.mem_cons, List.mem_nil_iff, or_false] at hj
  subst hj
  unfold wpOp
  simp only [hi]
  rw [if_pos (wanted_of ha hw)]
  refine .inl ?_
  unfold Oper.wp
  rw [hy, Oper.upon_skip, hd]
  exact ⟨hS, k⟩
theorem dr_callR {f : FuncId} {args : Array Value} {R : Value → World → Prop} (ha : Sl N a l) (hi : ops[i]? = some o) (hr : Region.ready .any ops listed = [i])
    (hd : o.dst = some d) (hN : Nat.blt d N = true) (hw : wants ops l o = some true) (hr' : (execOp a.eval o).run P w = .ok (.enter f args) w) (hc : Calls P f args w (Ret w R))
    (k : ∀ v w', Ext w w' → R v w' → S w' ∧ ∀ a', Sl N a' ((d, v) :: l) → wpAnyH P .any ops (NoP Q) S fuel (listed.setIfInBounds i true) a' w') : wpAnyH P .any ops (NoP Q) S (fuel + 1) listed a w := by
  refine wpAnyH_all hr (by simp) fun j hj => ?_
  simp only [List.mem_cons, List.mem_nil_iff, or_false] at hj
  subst hj
  unfold wpOp
  simp only [hi]
  rw [if_pos (wanted_of ha hw)]
  refine .inl ?_
  unfold Oper.wp
  rw [hr', Oper.upon_enter]
  refine hc.mono fun e w' ⟨v, he, hx, hR⟩ => ?_
  subst he
  obtain ⟨h1, h2⟩ := k v w' hx hR
  rw [hd]
  exact ⟨h1, h2 _ (ha.put hN)⟩
theorem dr_end (hr : Region.ready .any ops listed = []) (h : Q .normal a w) : wpAnyH P .any ops (NoP Q) S fuel listed a w := wpAnyH_done (Q := NoP Q) hr h fuel
end

/-! ### Own memory: boxes -/
/-- Block g is just these cells. -/
def Box (w : World) (g : Nat) (T : TypeId) (cs : List Value) : Prop := w.heap[g]? = some (.cells cs.toArray T (0, 0))

theorem Box.lt {w : World} {g : Nat} {T : TypeId} {cs : List Value} (h : Box w g T cs) : g < w.heap.size := (Array.getElem?_eq_some_iff.1 h).1
theorem Box.cells {w : World} {g : Nat} {T : TypeId} {cs : List Value} (h : Box w g T cs) : CellsAt w ⟨g, 0, none⟩ cs := by
  intro j u hu
  have e : (⟨g, 0, none⟩ : Addr).add j = ⟨g, j, none⟩ := by unfold Addr.add; split <;> simp_all
  rw [e, cell_of_row w g j cs.toArray T (0, 0) h]
  simpa using hu

/-- One step of the world: blocks laid; of what was there block r alone may have changed. -/
abbrev Stp (w w' : World) (r : Option Nat) : Prop := w.grownBy w' r
theorem Stp.of_ext {w w' : World} (h : Ext w w') (r : Option Nat := none) : Stp w w' r := ⟨h.os, h.tape, h.output, h.size, fun i hi _ => h.block i hi⟩
theorem Stp.to_ext {w w' : World} (h : Stp w w' none) : Ext w w' := ⟨h.os, h.tape, h.output, h.size, fun i hi => h.block i hi (by simp)⟩
theorem Ext.stp {a b c : World} {r : Option Nat} (h : Ext a b) (k : Stp b c r) (hr : ∀ g, r = some g → a.heap.size ≤ g) : Ext a c :=
  ⟨k.os.trans h.os, k.tape.trans h.tape, k.output.trans h.output, Nat.le_trans h.size k.size, fun i hi =>
    (k.block i (Nat.lt_of_lt_of_le hi h.size) (fun e => by have := hr i e.symm; omega)).trans (h.block i hi)⟩
theorem Rds.stp {α : Type} {s : Shp α} {S : Nat → Prop} {w w' : World} {v : Value} {xs : List α} {r : Option Nat} (h : Rds s S w v xs) (hp : 0 < s.sz) (k : Stp w w' r) (hr : ∀ g, r = some g → ¬ S g) : Rds s S w' v xs :=
  h.keep hp fun i hS hi => ⟨hS, k.block i hi (fun e => hr i e.symm hS)⟩
theorem Rds.ext {α : Type} {s : Shp α} {S : Nat → Prop} {w w' : World} {v : Value} {xs : List α} (h : Rds s S w v xs) (hp : 0 < s.sz) (k : Ext w w') : Rds s S w' v xs := h.stp hp (Stp.of_ext k) (by simp)
theorem CellsAt.stp {w w' : World} {p : Addr} {cs : List Value} {r : Option Nat} (h : CellsAt w p cs) (k : Stp w w' r) (hr : ∀ g, r = some g → p.block ≠ g) : CellsAt w' p cs :=
  h.keep fun hb => k.block _ hb (fun e => hr _ e.symm rfl)
theorem CellsAt.ext {w w' : World} {p : Addr} {cs : List Value} (h : CellsAt w p cs) (k : Ext w w') : CellsAt w' p cs := h.stp (Stp.of_ext k) (by simp)
theorem Box.stp {w w' : World} {g : Nat} {T : TypeId} {cs : List Value} {r : Option Nat} (h : Box w g T cs) (k : Stp w w' r) (hr : ∀ q, r = some q → g ≠ q) : Box w' g T cs :=
  (k.block g h.lt (fun e => hr g e.symm rfl)).trans h
theorem Box.ext {w w' : World} {g : Nat} {T : TypeId} {cs : List Value} (h : Box w g T cs) (k : Ext w w') : Box w' g T cs := h.stp (Stp.of_ext k) (by simp)
theorem rep_stp {α : Type} (s : Shp α) {S : Nat → Prop} {w w' : World} {cs : List Value} {x : α} {r : Option Nat} (h : s.rep w S cs x) (k : Stp w w' r) (hr : ∀ g, r = some g → ¬ S g) : s.rep w' S cs x :=
  s.keep h fun i hS hi => ⟨hS, k.block i hi (fun e => hr i e.symm hS)⟩

section
variable {a : Act} {o : Oper} {w w' : World} {N : Nat} {l : List (Nat × Value)} {x y c : Operand} {v u z : Value} {T T' e : TypeId} {sz bytes : Nat}

theorem ext_alloc (w : World) (b : Obj) : Ext w (w.alloc b) := (Below.refl _ _).alloc (Nat.le_refl _) _
theorem box_alloc (w : World) (cs : List Value) (T : TypeId) : Box (w.alloc (.cells cs.toArray T)) w.heap.size T cs := heap_alloc_new w _

/-- A new variable, at zero. -/
theorem op_alloc {cs : List Value} (ha : o.op = .alloc T) (hE : TI P T sz bytes z) (hz : z.cells = cs.toArray) :
    ∃ w', OpTo P a o w (.pointer (some ⟨w.heap.size, 0, none⟩)) w' ∧ Ext w w' ∧ Box w' w.heap.size T cs ∧ w'.heap.size = w.heap.size + 1 := by
  refine ⟨w.alloc (.cells cs.toArray T), ?_, ext_alloc _ _, box_alloc _ _ _, by simp⟩
  unfold OpTo execOp
  simp [ha, Instr.alloc, hE.zeroValue, newVar, newRow, hz]
/-- A new variable that holds a value. -/
theorem op_box {cs : List Value} (ha : Sl N a l) (ho : o.op = .box T x) (hx : ev l x = some v) (hv : v.cells = cs.toArray) :
    ∃ w', OpTo P a o w (.pointer (some ⟨w.heap.size, 0, none⟩)) w' ∧ Ext w w' ∧ Box w' w.heap.size T cs ∧ w'.heap.size = w.heap.size + 1 := by
  refine ⟨w.alloc (.cells cs.toArray T), ?_, ext_alloc _ _, box_alloc _ _ _, by simp⟩
  unfold OpTo execOp
  simp [ho, ha.ev hx, Instr.box, newVar, newRow, hv]

theorem stp_setRow (w : World) (g : Nat) (cs : Array Value) : Stp w (w.setRow g cs) (some g) := by
  refine ⟨rfl, rfl, rfl, by simp [World.setRow], fun k _ hk => setRow_other w g k _ (fun e => hk (by simp [e]))⟩

/-- Cells of a box are written: from off on. -/
theorem run_storeAt {g off : Nat} {cs ds : List Value} (hE : TI P T sz bytes z) (hB : Box w g e cs) (hv : v.cells = ds.toArray) (hl : ds.length = sz) (h1 : ∀ u ∈ ds, u.oneCell' = true) (hfit : off + sz ≤ cs.length) :
    ∃ w', (storeVar T ⟨g, off, none⟩ v).run P w = .ok () w' ∧ Box w' g e (cs.take off ++ ds ++ cs.drop (off + sz)) ∧ Stp w w' (some g) ∧ w'.heap.size = w.heap.size := by
  have hs := run_storeCells_at P g off e ds 0 cs.toArray w hB (by simp; omega) h1
  simp only [Nat.add_zero] at hs
  refine ⟨_, ?_, setRow_heap w g cs.toArray (cs.take off ++ ds ++ cs.drop (off + sz)).toArray e (0, 0) hB, stp_setRow _ _ _, by simp [World.setRow]⟩
  unfold storeVar
  rw [hl] at hs
  simp [hE.sizeOf, hv, hl, hs]

theorem op_store {g off : Nat} {cs ds : List Value} (ha : Sl N a l) (ho : o.op = .store T x y) (hE : TI P T sz bytes z) (hx : ev l x = some (.pointer (some ((⟨g, 0, none⟩ : Addr).add off)))) (hy : ev l y = some v)
    (hB : Box w g e cs) (hv : v.cells = ds.toArray) (hl : ds.length = sz) (h1 : ∀ u ∈ ds, u.oneCell' = true) (hfit : off + sz ≤ cs.length) :
    ∃ w', (execOp a.eval o).run P w = .ok .skip w' ∧ Box w' g e (cs.take off ++ ds ++ cs.drop (off + sz)) ∧ Stp w w' (some g) ∧ w'.heap.size = w.heap.size := by
  obtain ⟨w', hr, h2, h3, h4⟩ := run_storeAt (P := P) hE hB hv hl h1 hfit
  refine ⟨w', ?_, h2, h3, h4⟩
  have e : (⟨g, 0, none⟩ : Addr).add off = ⟨g, off, none⟩ := by unfold Addr.add; split <;> simp_all
  unfold execOp
  simp only [ho, ha.ev hx, ha.ev hy, e]
  simp [Instr.storeAt, Instr.sureAddr, hr]
/-- The whole box is written. -/
theorem op_storeAll {g : Nat} {cs ds : List Value} (ha : Sl N a l) (ho : o.op = .store T x y) (hE : TI P T sz bytes z) (hx : ev l x = some (.pointer (some ⟨g, 0, none⟩))) (hy : ev l y = some v)
    (hB : Box w g e cs) (hv : v.cells = ds.toArray) (hl : ds.length = sz) (h1 : ∀ u ∈ ds, u.oneCell' = true) (hfit : cs.length = sz) :
    ∃ w', (execOp a.eval o).run P w = .ok .skip w' ∧ Box w' g e ds ∧ Stp w w' (some g) ∧ w'.heap.size = w.heap.size := by
  obtain ⟨w', hr, h2, h3, h4⟩ := op_store (off := 0) ha ho hE (by rw [add_zero']; exact hx) hy hB hv hl h1 (by omega)
  refine ⟨w', hr, ?_, h3, h4⟩
  have : cs.drop (0 + sz) = [] := List.drop_of_length_le (by omega)
  rw [this, List.append_nil, List.take_zero, List.nil_append] at h2
  exact h2
end

/-! ### Small words for the walks -/
section
variable {next : Act → World → Prop} {Q : Exit → Act → World → Prop} {a : Act} {w : World} {id id' : Nat}
theorem then_n (h : next a w) : Exit.then next Q .normal a w := h
theorem then_r (h : Q .ret a w) : Exit.then next Q .ret a w := h
theorem then_e (h : Q (.exit id) a w) : Exit.then next Q (.exit id) a w := h
theorem block_n (h : Q .normal a w) : Exit.inBlock id Q .normal a w := h
theorem block_r (h : Q .ret a w) : Exit.inBlock id Q .ret a w := h
theorem block_hit (h : Q .normal a w) : Exit.inBlock id Q (.exit id) a w := by simpa [Exit.inBlock] using h
theorem block_miss (hne : Nat.beq id' id = false) (h : Q (.exit id') a w) : Exit.inBlock id Q (.exit id') a w := by
  have : id' ≠ id := fun e => by subst e; simp at hne
  simpa [Exit.inBlock, this] using h
end
section
variable {a : Act} {o : Oper} {w : World} {b : Bool} {k : IntKind} {m n : Int} {v u : Value}
theorem OpVal.tt (h : OpVal P a o w (.bool b)) (e : b = true) : OpVal P a o w (.bool true) := e ▸ h
theorem OpVal.ff (h : OpVal P a o w (.bool b)) (e : b = false) : OpVal P a o w (.bool false) := e ▸ h
theorem OpVal.int (h : OpVal P a o w (.int k m)) (e : m = n) : OpVal P a o w (.int k n) := e ▸ h
theorem OpVal.to (h : OpVal P a o w v) (e : v = u) : OpVal P a o w u := e ▸ h
end
/-- A frame's list, built anew slot by slot. -/
theorem Sl.nil_ {N : Nat} {a : Act} {l : List (Nat × Value)} (h : Sl N a l) : Sl N a [] := ⟨h.defers, h.size, fun _ _ h => by cases h⟩
theorem Sl.cons_ {N : Nat} {a : Act} {l l' : List (Nat × Value)} {t : Nat} {v v' : Value} (h : Sl N a l) (hv : lk l t = some v) (e : v = v') (r : Sl N a l') : Sl N a ((t, v') :: l') := by
  subst e
  refine ⟨h.defers, h.size, fun u x hx => ?_⟩
  rw [lk_cons] at hx
  by_cases e : t = u
  · subst e; rw [if_pos rfl] at hx; cases hx; exact h.get t v hv
  · rw [if_neg e] at hx; exact r.get u x hx
theorem int_eq {k : IntKind} {m n : Int} (h : m = n) : Value.int k m = Value.int k n := by rw [h]
theorem ret_mk {w w' : World} {R : Value → World → Prop} {v : Value} (hx : Ext w w') (h : R v w') : Ret w R (.returned v) w' := ⟨v, rfl, hx, h⟩
theorem round_end {X : Type} {I : X → Act → World → Prop} {μ : X → Nat} {x : X} {Q : Exit → Act → World → Prop} {a : Act} {w : World} (x' : X) (h : I x' a w) (hm : μ x' < μ x) :
    Exit.then (fun a' w' => ∃ x', I x' a' w' ∧ μ x' < μ x) Q .normal a w := ⟨x', h, hm⟩
theorem get_ex {α : Type} {xs : List α} {j : Nat} (h : j < xs.length) : ∃ x, xs[j]? = some x := ⟨_, List.getElem?_eq_getElem h⟩
theorem drop_cons {α : Type} {xs : List α} {j : Nat} {x : α} (h : xs[j]? = some x) : xs.drop j = x :: xs.drop (j + 1) := by
  obtain ⟨hlt, rfl⟩ := List.getElem?_eq_some_iff.1 h
  exact List.drop_eq_getElem_cons hlt
theorem take_snoc {α : Type} {xs : List α} {j : Nat} {x : α} (h : xs[j]? = some x) : xs.take (j + 1) = xs.take j ++ [x] := by
  obtain ⟨hlt, rfl⟩ := List.getElem?_eq_some_iff.1 h
  rw [List.take_succ_eq_append_getElem hlt]
theorem drop_nil {α : Type} {xs : List α} {j : Nat} (h : xs.length ≤ j) : xs.drop j = [] := List.drop_of_length_le h
end
theorem pos_shI64 : 0 < shI64.sz := by decide
theorem pos_shU8 : 0 < shU8.sz := by decide
theorem pos_shStr : 0 < shStr.sz := by decide
theorem pos_shBool : 0 < shBool.sz := by decide
theorem pos_shPair {α β : Type} {s : Shp α} {t : Shp β} (h : 0 < s.sz) : 0 < (shPair s t).sz := Nat.lt_of_lt_of_le h (Nat.le_add_right _ _)
theorem pos_shSl {α : Type} {s : Shp α} (h : 0 < s.sz) : 0 < (shSl s h).sz := Nat.zero_lt_one
end Go.Proofs.YthbehhhblchhhaaGreat
