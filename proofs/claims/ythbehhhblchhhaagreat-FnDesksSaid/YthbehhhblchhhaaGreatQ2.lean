/- The law FnDesks, walked. -/
import Derived.Test.YthbehhhblchhhaaGreatR6
import Derived.Test.YthbehhhblchhhaaGreatX5
import Derived.Test.YthbehhhblchhhaaGreatS1
namespace Go.Proofs.YthbehhhblchhhaaGreat
open Go Go.RowKit
set_option maxHeartbeats 16000000

theorem set_take {α : Type} {acc xs : List α} {i : Nat} {x : α} (h : acc.take i = xs.take i) (hl : acc.length = xs.length) (hx : xs[i]? = some x) : (acc.set i x).take (i + 1) = xs.take (i + 1) := by
  have hi : i < xs.length := (List.getElem?_eq_some_iff.1 hx).1
  rw [take_snoc hx, ← h]
  have : (acc.set i x)[i]? = some x := by rw [List.getElem?_set_self (by omega)]
  rw [take_snoc this, List.take_set_of_le (Nat.le_refl _)]
/-- Do two lists agree place by place? -/
def eqL {α : Type} [DecidableEq α] (xs ys : List α) : Bool := decide (xs = ys)
theorem eqL_nil {α : Type} [DecidableEq α] : eqL ([] : List α) [] = true := by simp [eqL]
theorem eqL_self {α : Type} [DecidableEq α] (xs : List α) : eqL xs xs = true := by simp [eqL]
theorem eqL_len {α : Type} [DecidableEq α] {xs ys : List α} (h : ¬ xs.length = ys.length) : eqL xs ys = false := by
  unfold eqL; rw [decide_eq_false]; intro e; exact h (by rw [e])
theorem eqL_step {α : Type} [DecidableEq α] {xs ys : List α} {i : Nat} {x y : α} (hx : xs[i]? = some x) (hy : ys[i]? = some y) : eqL (xs.drop i) (ys.drop i) = (decide (x = y) && eqL (xs.drop (i + 1)) (ys.drop (i + 1))) := by
  unfold eqL; rw [drop_cons hx, drop_cons hy, Bool.eq_iff_iff]; simp
/-- How much is left of a size behind a piece of that cost; -1: too little. -/
def szR (n : Int) (k : Nat) : Int := if n - k < 0 then -1 else n - k
theorem szR_ok {n : Int} {k : Nat} (h : ¬ szR n k < 0) : (k : Int) ≤ n ∧ szR n k = n - k := by unfold szR at *; split at h <;> simp_all <;> omega
theorem szR_no {n : Int} {k : Nat} (h : szR n k < 0) : n < (k : Int) := by unfold szR at h; split at h <;> omega
theorem szR_add {n : Int} {k m : Nat} (h : ¬ szR n k < 0) : szR n (k + m) = szR (szR n k) m := by
  obtain ⟨h1, h2⟩ := szR_ok h
  rw [h2]; unfold szR; split <;> split <;> omega
theorem szR_neg {n : Int} {k m : Nat} (h : szR n k < 0) : szR n (k + m) = -1 := by
  have := szR_no h; unfold szR; rw [if_pos (by omega)]
theorem szR_le {n : Int} {k : Nat} (h : 0 ≤ n) : szR n k ≤ n := by unfold szR; split <;> omega
theorem szR_zero {n : Int} (h : 0 ≤ n) : szR n 0 = n := by unfold szR; rw [if_neg (by omega)]; omega
theorem szR_if {n : Int} {k : Nat} (h : n < (k : Int)) : szR n k = -1 := by unfold szR; rw [if_pos (by omega)]
theorem szR_nif {n : Int} {k : Nat} (h : (k : Int) ≤ n) : szR n k = n - k := by unfold szR; rw [if_neg (by omega)]
/-- What the elements cost, and a list of them. -/
def sumC {α : Type} (c : α → Nat) : List α → Nat
  | [] => 0
  | x :: xs => c x + sumC c xs
def costL {α : Type} (c : α → Nat) (xs : List α) : Nat := xs.length + sumC c xs
theorem costL_len {α : Type} (c : α → Nat) (xs : List α) : xs.length ≤ costL c xs := by unfold costL; omega
theorem sumC_mem {α : Type} (c : α → Nat) : ∀ (xs : List α) (x : α), x ∈ xs → c x ≤ sumC c xs
  | [], x, h => by simp at h
  | y :: ys, x, h => by
    rcases List.mem_cons.1 h with e | e
    · subst e; simp only [sumC]; omega
    · have := sumC_mem c ys x e; simp only [sumC]; omega
theorem cost_mem {α : Type} {c : α → Nat} {xs : List α} {x : α} (h : x ∈ xs) : c x ≤ costL c xs := by have := sumC_mem c xs x h; unfold costL; omega
theorem hset_self {α : Type} {xs : List α} {i : Nat} {x y : α} (h : (xs.set i x)[i]? = some y) (hi : i < xs.length) : y = x := by
  rw [List.getElem?_set_self hi] at h; exact (Option.some.inj h).symm

theorem c_laws_big (w0 : World) (v_code : Value) (code : List UInt8) {S_code : Nat → Prop} (h_code : Rds shU8 S_code w0 v_code code) :
    Calls Tryz.prog 7 #[v_code] w0 (Ret w0 (fun v _ => v = .bool (decide (4096 < code.length)))) := by
 refine enter (N := 6) Tryz.func7 rfl rfl rfl ?_
 intro A H
 have hx0 := Ext.rfl' w0
 have hl_code := h_code.length_le
 revert A; refine go ?_; intro A H
 refine wv H (ln H U22 h_code) ?_
 clear H A; refine go ?_; intro A H
 refine ret1 H rfl rfl ?_
 clear H A
 exact ret_mk hx0 (congrArg Value.bool (by simp; omega))



theorem c_laws_likeBins (w0 : World) (v_a : Value) (a : List (Str × Int × Int × Int × Int)) {S_a : Nat → Prop} (v_b : Value) (b : List (Str × Int × Int × Int × Int)) {S_b : Nat → Prop} (h_a : Rds shBin S_a w0 v_a a) (h_b : Rds shBin S_b w0 v_b b) :
    Calls Tryz.prog 22 #[v_a, v_b] w0 (Ret w0 (fun v _ => v = .bool (eqL a b))) := by
 refine enter (N := 26) Tryz.func22 rfl rfl rfl ?_
 intro A H
 have hx0 := Ext.rfl' w0
 have hl_a := h_a.length_le
 have hl_b := h_b.length_le
 revert A; refine go ?_; intro A H
 refine wv H (ln H U30 h_a) ?_
 clear H A; intro A H
 refine wv H (op_move H rfl rfl) ?_
 clear H A; intro A H
 refine wv H (ln H U30 h_b) ?_
 clear H A; refine go ?_; intro A H
 by_cases c7 : ((a.length : Nat) : Int) = ((b.length : Nat) : Int)
 rw [decide_eq_true c7] at H
 revert A; refine go ?_; intro A H
 refine loop_inv (X := Nat) (fun i fr wl => Sl 26 fr [(0, v_a), (1, v_b), (5, .int .i64 ((i : Nat) : Int))] ∧ Ext w0 wl ∧ w0.heap.size ≤ wl.heap.size ∧ (i ≤ a.length) ∧ (a.length = b.length) ∧ (eqL (a.drop i) (b.drop i) = eqL a b)) (fun i => a.length - i) (0) ?_ ?_
 exact ⟨(sl H), hx0, (by omega), (by omega), (by omega), (by simp)⟩
 clear H A
 rintro i A w9 ⟨H, hx10, hzl12, hi, hl, hF⟩
 have hzhx10 := hx10.size
 revert A; refine go ?_; intro A H
 refine wv H (ln H U30 h_a) ?_
 clear H A; refine go ?_; intro A H
 by_cases c17 : ((i : Nat) : Int) < ((a.length : Nat) : Int)
 rw [decide_eq_true c17] at H
 revert A; refine go ?_; intro A H
 refine dre Ext follows_mixed ?_
 intro w18 he19 hs21
 obtain ⟨hx20, _⟩ := nx hx10 he19
 revert A; refine dgo [0, 1] hs21 ?_; intro A H
 obtain ⟨x24, hx24⟩ := get_ex (xs := a) (j := i) (by omega)
 obtain ⟨p25, hi27, hc28, b31, b32, b33, b34, b35, hs30⟩ := at_shBin h_a hx24
 refine dw 2 H rfl hs21 (ix H U30 ti65 hi27) ?_
 clear H A; intro A H
 refine dv 3 H rfl hs21 (fun w' hw' => ls H U65 ti65 (hc28.ext (hx20.trans' hw'))) ?_
 clear H A; refine dgo [4, 5] hs21 ?_; intro A H
 obtain ⟨x40, hx40⟩ := get_ex (xs := b) (j := i) (by omega)
 obtain ⟨p41, hi43, hc44, b47, b48, b49, b50, b51, hs46⟩ := at_shBin h_b hx40
 refine dw 6 H rfl hs21 (ix H U30 ti65 hi43) ?_
 clear H A; intro A H
 refine dv 7 H rfl hs21 (fun w' hw' => ls H U65 ti65 (hc44.ext (hx20.trans' hw'))) ?_
 clear H A; intro A H
 refine dv 8 H rfl hs21 (fun w' hw' => (op_aneq H rfl eg65 (aeq65 _ x24 x40) rfl rfl)) ?_
 clear H A; intro A H
 refine dr_end (by kernel_rfl) ?_
 refine then_n ?_
 by_cases c55 : x24 = x40
 rw [decide_eq_true c55] at H
 revert A; refine go ?_; intro A H
 refine wv H ((op_add H rfl rfl rfl).int (IntWalk.i64_in _ (by omega))) ?_
 clear H A; refine go ?_; intro A H
 refine ⟨((i + 1)), ?_, ?_⟩
 refine ⟨(sl H), hx20, (by omega), (by omega), (by exact hl), (by rw [eqL_step hx24 hx40] at hF; simpa [c7, c17, c55] using hF)⟩
 show (a.length - ((i + 1)) : Nat) < a.length - i; omega
 rw [decide_eq_false c55] at H
 revert A; refine go ?_; intro A H
 refine ret1 H rfl rfl ?_
 clear H A
 rw [eqL_step hx24 hx40] at hF
 exact ret_mk hx20 (congrArg Value.bool (by simp [← hF, c55]))
 rw [decide_eq_false c17] at H
 revert A; refine go ?_; intro A H
 refine ret1 H rfl rfl ?_
 clear H A
 rw [drop_nil (by omega), drop_nil (by omega), eqL_nil] at hF
 exact ret_mk hx10 (congrArg Value.bool (by simp [← hF]))
 rw [decide_eq_false c7] at H
 revert A; refine go ?_; intro A H
 refine ret1 H rfl rfl ?_
 clear H A
 exact ret_mk hx0 (congrArg Value.bool (by rw [eqL_len (by omega)]))



theorem c_laws_likePromises (w0 : World) (v_a : Value) (a : List (Str × Int × Int)) {S_a : Nat → Prop} (v_b : Value) (b : List (Str × Int × Int)) {S_b : Nat → Prop} (h_a : Rds shProm S_a w0 v_a a) (h_b : Rds shProm S_b w0 v_b b) :
    Calls Tryz.prog 23 #[v_a, v_b] w0 (Ret w0 (fun v _ => v = .bool (eqL a b))) := by
 refine enter (N := 26) Tryz.func23 rfl rfl rfl ?_
 intro A H
 have hx0 := Ext.rfl' w0
 have hl_a := h_a.length_le
 have hl_b := h_b.length_le
 revert A; refine go ?_; intro A H
 refine wv H (ln H U31 h_a) ?_
 clear H A; intro A H
 refine wv H (op_move H rfl rfl) ?_
 clear H A; intro A H
 refine wv H (ln H U31 h_b) ?_
 clear H A; refine go ?_; intro A H
 by_cases c7 : ((a.length : Nat) : Int) = ((b.length : Nat) : Int)
 rw [decide_eq_true c7] at H
 revert A; refine go ?_; intro A H
 refine loop_inv (X := Nat) (fun i fr wl => Sl 26 fr [(0, v_a), (1, v_b), (5, .int .i64 ((i : Nat) : Int))] ∧ Ext w0 wl ∧ w0.heap.size ≤ wl.heap.size ∧ (i ≤ a.length) ∧ (a.length = b.length) ∧ (eqL (a.drop i) (b.drop i) = eqL a b)) (fun i => a.length - i) (0) ?_ ?_
 exact ⟨(sl H), hx0, (by omega), (by omega), (by omega), (by simp)⟩
 clear H A
 rintro i A w9 ⟨H, hx10, hzl12, hi, hl, hF⟩
 have hzhx10 := hx10.size
 revert A; refine go ?_; intro A H
 refine wv H (ln H U31 h_a) ?_
 clear H A; refine go ?_; intro A H
 by_cases c17 : ((i : Nat) : Int) < ((a.length : Nat) : Int)
 rw [decide_eq_true c17] at H
 revert A; refine go ?_; intro A H
 refine dre Ext follows_mixed ?_
 intro w18 he19 hs21
 obtain ⟨hx20, _⟩ := nx hx10 he19
 revert A; refine dgo [0, 1] hs21 ?_; intro A H
 obtain ⟨x24, hx24⟩ := get_ex (xs := a) (j := i) (by omega)
 obtain ⟨p25, hi27, hc28, b31, b32, b33, hs30⟩ := at_shProm h_a hx24
 refine dw 2 H rfl hs21 (ix H U31 ti67 hi27) ?_
 clear H A; intro A H
 refine dv 3 H rfl hs21 (fun w' hw' => ls H U67 ti67 (hc28.ext (hx20.trans' hw'))) ?_
 clear H A; refine dgo [4, 5] hs21 ?_; intro A H
 obtain ⟨x38, hx38⟩ := get_ex (xs := b) (j := i) (by omega)
 obtain ⟨p39, hi41, hc42, b45, b46, b47, hs44⟩ := at_shProm h_b hx38
 refine dw 6 H rfl hs21 (ix H U31 ti67 hi41) ?_
 clear H A; intro A H
 refine dv 7 H rfl hs21 (fun w' hw' => ls H U67 ti67 (hc42.ext (hx20.trans' hw'))) ?_
 clear H A; intro A H
 refine dv 8 H rfl hs21 (fun w' hw' => (op_aneq H rfl eg67 (aeq67 _ x24 x38) rfl rfl)) ?_
 clear H A; intro A H
 refine dr_end (by kernel_rfl) ?_
 refine then_n ?_
 by_cases c51 : x24 = x38
 rw [decide_eq_true c51] at H
 revert A; refine go ?_; intro A H
 refine wv H ((op_add H rfl rfl rfl).int (IntWalk.i64_in _ (by omega))) ?_
 clear H A; refine go ?_; intro A H
 refine ⟨((i + 1)), ?_, ?_⟩
 refine ⟨(sl H), hx20, (by omega), (by omega), (by exact hl), (by rw [eqL_step hx24 hx38] at hF; simpa [c7, c17, c51] using hF)⟩
 show (a.length - ((i + 1)) : Nat) < a.length - i; omega
 rw [decide_eq_false c51] at H
 revert A; refine go ?_; intro A H
 refine ret1 H rfl rfl ?_
 clear H A
 rw [eqL_step hx24 hx38] at hF
 exact ret_mk hx20 (congrArg Value.bool (by simp [← hF, c51]))
 rw [decide_eq_false c17] at H
 revert A; refine go ?_; intro A H
 refine ret1 H rfl rfl ?_
 clear H A
 rw [drop_nil (by omega), drop_nil (by omega), eqL_nil] at hF
 exact ret_mk hx10 (congrArg Value.bool (by simp [← hF]))
 rw [decide_eq_false c7] at H
 revert A; refine go ?_; intro A H
 refine ret1 H rfl rfl ?_
 clear H A
 exact ret_mk hx0 (congrArg Value.bool (by rw [eqL_len (by omega)]))



theorem c_laws_likeEntries (w0 : World) (v_a : Value) (a : List (Int × Int × Str × Int)) {S_a : Nat → Prop} (v_b : Value) (b : List (Int × Int × Str × Int)) {S_b : Nat → Prop} (h_a : Rds shEnt S_a w0 v_a a) (h_b : Rds shEnt S_b w0 v_b b) :
    Calls Tryz.prog 24 #[v_a, v_b] w0 (Ret w0 (fun v _ => v = .bool (eqL a b))) := by
 refine enter (N := 26) Tryz.func24 rfl rfl rfl ?_
 intro A H
 have hx0 := Ext.rfl' w0
 have hl_a := h_a.length_le
 have hl_b := h_b.length_le
 revert A; refine go ?_; intro A H
 refine wv H (ln H U32 h_a) ?_
 clear H A; intro A H
 refine wv H (op_move H rfl rfl) ?_
 clear H A; intro A H
 refine wv H (ln H U32 h_b) ?_
 clear H A; refine go ?_; intro A H
 by_cases c7 : ((a.length : Nat) : Int) = ((b.length : Nat) : Int)
 rw [decide_eq_true c7] at H
 revert A; refine go ?_; intro A H
 refine loop_inv (X := Nat) (fun i fr wl => Sl 26 fr [(0, v_a), (1, v_b), (5, .int .i64 ((i : Nat) : Int))] ∧ Ext w0 wl ∧ w0.heap.size ≤ wl.heap.size ∧ (i ≤ a.length) ∧ (a.length = b.length) ∧ (eqL (a.drop i) (b.drop i) = eqL a b)) (fun i => a.length - i) (0) ?_ ?_
 exact ⟨(sl H), hx0, (by omega), (by omega), (by omega), (by simp)⟩
 clear H A
 rintro i A w9 ⟨H, hx10, hzl12, hi, hl, hF⟩
 have hzhx10 := hx10.size
 revert A; refine go ?_; intro A H
 refine wv H (ln H U32 h_a) ?_
 clear H A; refine go ?_; intro A H
 by_cases c17 : ((i : Nat) : Int) < ((a.length : Nat) : Int)
 rw [decide_eq_true c17] at H
 revert A; refine go ?_; intro A H
 refine dre Ext follows_mixed ?_
 intro w18 he19 hs21
 obtain ⟨hx20, _⟩ := nx hx10 he19
 revert A; refine dgo [0, 1] hs21 ?_; intro A H
 obtain ⟨x24, hx24⟩ := get_ex (xs := a) (j := i) (by omega)
 obtain ⟨p25, hi27, hc28, b31, b32, b33, b34, hs30⟩ := at_shEnt h_a hx24
 refine dw 2 H rfl hs21 (ix H U32 ti69 hi27) ?_
 clear H A; intro A H
 refine dv 3 H rfl hs21 (fun w' hw' => ls H U69 ti69 (hc28.ext (hx20.trans' hw'))) ?_
 clear H A; refine dgo [4, 5] hs21 ?_; intro A H
 obtain ⟨x39, hx39⟩ := get_ex (xs := b) (j := i) (by omega)
 obtain ⟨p40, hi42, hc43, b46, b47, b48, b49, hs45⟩ := at_shEnt h_b hx39
 refine dw 6 H rfl hs21 (ix H U32 ti69 hi42) ?_
 clear H A; intro A H
 refine dv 7 H rfl hs21 (fun w' hw' => ls H U69 ti69 (hc43.ext (hx20.trans' hw'))) ?_
 clear H A; intro A H
 refine dv 8 H rfl hs21 (fun w' hw' => (op_aneq H rfl eg69 (aeq69 _ x24 x39) rfl rfl)) ?_
 clear H A; intro A H
 refine dr_end (by kernel_rfl) ?_
 refine then_n ?_
 by_cases c53 : x24 = x39
 rw [decide_eq_true c53] at H
 revert A; refine go ?_; intro A H
 refine wv H ((op_add H rfl rfl rfl).int (IntWalk.i64_in _ (by omega))) ?_
 clear H A; refine go ?_; intro A H
 refine ⟨((i + 1)), ?_, ?_⟩
 refine ⟨(sl H), hx20, (by omega), (by omega), (by exact hl), (by rw [eqL_step hx24 hx39] at hF; simpa [c7, c17, c53] using hF)⟩
 show (a.length - ((i + 1)) : Nat) < a.length - i; omega
 rw [decide_eq_false c53] at H
 revert A; refine go ?_; intro A H
 refine ret1 H rfl rfl ?_
 clear H A
 rw [eqL_step hx24 hx39] at hF
 exact ret_mk hx20 (congrArg Value.bool (by simp [← hF, c53]))
 rw [decide_eq_false c17] at H
 revert A; refine go ?_; intro A H
 refine ret1 H rfl rfl ?_
 clear H A
 rw [drop_nil (by omega), drop_nil (by omega), eqL_nil] at hF
 exact ret_mk hx10 (congrArg Value.bool (by simp [← hF]))
 rw [decide_eq_false c7] at H
 revert A; refine go ?_; intro A H
 refine ret1 H rfl rfl ?_
 clear H A
 exact ret_mk hx0 (congrArg Value.bool (by rw [eqL_len (by omega)]))



set_option maxRecDepth 16000 in
theorem c_laws_FnDesks (w0 : World) (v_code : Value) (code : List UInt8) {S_code : Nat → Prop} (h_code : Rds shU8 S_code w0 v_code code) :
    Calls Tryz.prog 5 #[v_code] w0 (Ret w0 (fun v _ => v = .bool (true))) := by
 refine enter (N := 65) Tryz.func5 rfl rfl rfl ?_
 intro A H
 have hx0 := Ext.rfl' w0
 have hl_code := h_code.length_le
 revert A; refine go ?_; intro A H
 refine wc H cb7 (c_laws_big _ v_code code (h_code.ext pos_shU8 hx0)) ?_
 clear H A; rintro v3 w4 he5 rfl A H
 obtain ⟨hx7, _⟩ := nx hx0 he5
 revert A; refine go ?_; intro A H
 rcases Bool.eq_false_or_eq_true (decide (4096 < code.length)) with c8 | c8
 rw [c8] at H
 revert A; refine go ?_; intro A H
 refine ret1 H rfl rfl ?_
 clear H A
 exact ret_mk hx7 (congrArg Value.bool (by rfl))
 rw [c8] at H
 revert A; refine go ?_; intro A H
 refine wc H cb20 (c_spec_DrawDeskAfter _ v_code code (h_code.ext pos_shU8 hx7)) ?_
 clear H A; rintro v11 w12 he13 ⟨q14, hq15, rfl⟩ A H
 obtain ⟨hx17, _⟩ := nx hx7 he13
 revert A; refine go ?_; intro A H
 refine wc H cb16 (c_impl_DeskAfter _ ((q14)) (by omega)) ?_
 clear H A; rintro v20 w21 he22 ⟨u23, u25, u27, rfl, ho24, ho26, ho28⟩ A H
 obtain ⟨hx30, _⟩ := nx hx17 he22
 revert A; refine go ?_; intro A H
 refine we H (op_alloc' rfl ti34 rfl) ?_
 clear H A; rintro _ w35 ⟨rfl, he36, hb37, hz38⟩ A H
 obtain ⟨hx40, _⟩ := nx hx30 he36
 replace ho24 := ho24.ext he36
 replace ho26 := ho26.ext he36
 replace ho28 := ho28.ext he36
 refine ws H (op_storeAll' H rfl ti34 rfl rfl hb37 rfl rfl (o1 ho24.one (o1 ho26.one (o1 ho28.one o0))) rfl) ?_
 rintro w41 ⟨hb43, hst42, hz44⟩
 obtain ⟨hx45, _⟩ := nb hx40 hst42
 replace ho24 := ho24.stp hst42 (by intro q hq; cases hq; omega)
 replace ho26 := ho26.stp hst42 (by intro q hq; cases hq; omega)
 replace ho28 := ho28.stp hst42 (by intro q hq; cases hq; omega)
 clear hb37
 revert A; refine go ?_; intro A H
 refine wc H cb15 (c_spec_DeskAfter _ ((q14)) (by omega)) ?_
 clear H A; rintro v48 w49 he50 ⟨u51, u53, u55, rfl, ho52, ho54, ho56⟩ A H
 obtain ⟨hx58, _⟩ := nx hx45 he50
 replace ho24 := ho24.ext he50
 replace ho26 := ho26.ext he50
 replace ho28 := ho28.ext he50
 replace hb43 := hb43.ext he50
 revert A; refine go ?_; intro A H
 refine we H (op_alloc' rfl ti34 rfl) ?_
 clear H A; rintro _ w63 ⟨rfl, he64, hb65, hz66⟩ A H
 obtain ⟨hx68, _⟩ := nx hx58 he64
 replace ho24 := ho24.ext he64
 replace ho26 := ho26.ext he64
 replace ho28 := ho28.ext he64
 replace hb43 := hb43.ext he64
 replace ho52 := ho52.ext he64
 replace ho54 := ho54.ext he64
 replace ho56 := ho56.ext he64
 refine ws H (op_storeAll' H rfl ti34 rfl rfl hb65 rfl rfl (o1 ho52.one (o1 ho54.one (o1 ho56.one o0))) rfl) ?_
 rintro w69 ⟨hb71, hst70, hz72⟩
 obtain ⟨hx73, _⟩ := nb hx68 hst70
 replace ho24 := ho24.stp hst70 (by intro q hq; cases hq; omega)
 replace ho26 := ho26.stp hst70 (by intro q hq; cases hq; omega)
 replace ho28 := ho28.stp hst70 (by intro q hq; cases hq; omega)
 replace hb43 := bb hb43 hst70
 replace ho52 := ho52.stp hst70 (by intro q hq; cases hq; omega)
 replace ho54 := ho54.stp hst70 (by intro q hq; cases hq; omega)
 replace ho56 := ho56.stp hst70 (by intro q hq; cases hq; omega)
 clear hb65
 revert A; refine go ?_; intro A H
 refine wc H cb21 (c_spec_DrawIsDesk _ v_code code (h_code.ext pos_shU8 hx73)) ?_
 clear H A; rintro v76 w77 he78 ⟨q79, hq80, hq81, hq82, ⟨u83, u85, u87, rfl, ho84, ho86, ho88⟩⟩ A H
 obtain ⟨hx90, _⟩ := nx hx73 he78
 replace ho24 := ho24.ext he78
 replace ho26 := ho26.ext he78
 replace ho28 := ho28.ext he78
 replace hb43 := hb43.ext he78
 replace ho52 := ho52.ext he78
 replace ho54 := ho54.ext he78
 replace ho56 := ho56.ext he78
 replace hb71 := hb71.ext he78
 refine we H (op_alloc' rfl ti34 rfl) ?_
 clear H A; rintro _ w92 ⟨rfl, he93, hb94, hz95⟩ A H
 obtain ⟨hx97, _⟩ := nx hx90 he93
 replace ho24 := ho24.ext he93
 replace ho26 := ho26.ext he93
 replace ho28 := ho28.ext he93
 replace hb43 := hb43.ext he93
 replace ho52 := ho52.ext he93
 replace ho54 := ho54.ext he93
 replace ho56 := ho56.ext he93
 replace hb71 := hb71.ext he93
 replace ho84 := ho84.ext he93
 replace ho86 := ho86.ext he93
 replace ho88 := ho88.ext he93
 refine ws H (op_storeAll' H rfl ti34 rfl rfl hb94 rfl rfl (o1 ho84.one (o1 ho86.one (o1 ho88.one o0))) rfl) ?_
 rintro w98 ⟨hb100, hst99, hz101⟩
 obtain ⟨hx102, _⟩ := nb hx97 hst99
 replace ho24 := ho24.stp hst99 (by intro q hq; cases hq; omega)
 replace ho26 := ho26.stp hst99 (by intro q hq; cases hq; omega)
 replace ho28 := ho28.stp hst99 (by intro q hq; cases hq; omega)
 replace hb43 := bb hb43 hst99
 replace ho52 := ho52.stp hst99 (by intro q hq; cases hq; omega)
 replace ho54 := ho54.stp hst99 (by intro q hq; cases hq; omega)
 replace ho56 := ho56.stp hst99 (by intro q hq; cases hq; omega)
 replace hb71 := bb hb71 hst99
 replace ho84 := ho84.stp hst99 (by intro q hq; cases hq; omega)
 replace ho86 := ho86.stp hst99 (by intro q hq; cases hq; omega)
 replace ho88 := ho88.stp hst99 (by intro q hq; cases hq; omega)
 clear hb94
 revert A; refine go ?_; intro A H
 refine dre Ext follows_mixed ?_
 intro w103 he104 hs106
 obtain ⟨hx105, _⟩ := nx hx102 he104
 replace ho24 := ho24.ext he104
 replace ho26 := ho26.ext he104
 replace ho28 := ho28.ext he104
 replace hb43 := hb43.ext he104
 replace ho52 := ho52.ext he104
 replace ho54 := ho54.ext he104
 replace ho56 := ho56.ext he104
 replace hb71 := hb71.ext he104
 replace ho84 := ho84.ext he104
 replace ho86 := ho86.ext he104
 replace ho88 := ho88.ext he104
 replace hb100 := hb100.ext he104
 revert A; refine dgo [0, 1, 2, 3] hs106 ?_; intro A H
 by_cases c111 : (rcC ((q14)) : Int) = (rcC ((q14)) : Int)
 rw [decide_eq_true c111] at H
 have hcl := rcL_len q14
 have hcl2 := rcL_len (q14 ++ [110, 111, 105, 115, 101, 10])
 obtain ⟨_, _, _, hcd1, hcd2, hcd3⟩ := desk_bd (rcD_ok q14)
 refine dw 4 H rfl hs106 (fa H U34 ti30) ?_
 clear H A; intro A H
 refine dv 5 H rfl hs106 (fun w' hw' => lf 0 H U30 (hb43.ext hw').cells) ?_
 clear H A; intro A H
 refine dw 6 H rfl hs106 (fa H U34 ti30) ?_
 clear H A; intro A H
 refine dv 7 H rfl hs106 (fun w' hw' => lf 0 H U30 (hb71.ext hw').cells) ?_
 clear H A; intro A H
 refine dr_one (i := 8) (by kernel_rfl) ?_
 refine pc H cb22 rfl (c_laws_likeBins _ u23 (((rcD ((q14))).1)) u51 (((rcD ((q14))).1)) ((ho24.rds pos_shBin).ext pos_shBin hs106) ((ho52.rds pos_shBin).ext pos_shBin hs106)) ?_
 clear H A; rintro v116 w117 he118 rfl A H
 have hs120 := hs106.trans' he118
 obtain ⟨hx121, _⟩ := nx hx105 he118
 refine ⟨hs120, ?_⟩
 replace ho24 := ho24.ext hs120
 replace ho26 := ho26.ext hs120
 replace ho28 := ho28.ext hs120
 replace hb43 := hb43.ext hs120
 replace ho52 := ho52.ext hs120
 replace ho54 := ho54.ext hs120
 replace ho56 := ho56.ext hs120
 replace hb71 := hb71.ext hs120
 replace ho84 := ho84.ext hs120
 replace ho86 := ho86.ext hs120
 replace ho88 := ho88.ext hs120
 replace hb100 := hb100.ext hs120
 refine drn hs120 ?_
 intro hs122
 revert A; refine dgo [9, 10, 11] hs122 ?_; intro A H
 rcases Bool.eq_false_or_eq_true (eqL (((rcD ((q14))).1)) (((rcD ((q14))).1))) with c126 | c126
 rw [c126] at H
 refine dw 12 H rfl hs122 (fa H U34 ti31) ?_
 clear H A; intro A H
 refine dv 13 H rfl hs122 (fun w' hw' => lf 1 H U31 (hb43.ext hw').cells) ?_
 clear H A; intro A H
 refine dw 14 H rfl hs122 (fa H U34 ti31) ?_
 clear H A; intro A H
 refine dv 15 H rfl hs122 (fun w' hw' => lf 1 H U31 (hb71.ext hw').cells) ?_
 clear H A; intro A H
 refine dr_one (i := 16) (by kernel_rfl) ?_
 refine pc H cb23 rfl (c_laws_likePromises _ u25 (((rcD ((q14))).2.1)) u53 (((rcD ((q14))).2.1)) ((ho26.rds pos_shProm).ext pos_shProm hs122) ((ho54.rds pos_shProm).ext pos_shProm hs122)) ?_
 clear H A; rintro v131 w132 he133 rfl A H
 have hs135 := hs122.trans' he133
 obtain ⟨hx136, _⟩ := nx hx121 he133
 refine ⟨hs135, ?_⟩
 replace ho24 := ho24.ext hs135
 replace ho26 := ho26.ext hs135
 replace ho28 := ho28.ext hs135
 replace hb43 := hb43.ext hs135
 replace ho52 := ho52.ext hs135
 replace ho54 := ho54.ext hs135
 replace ho56 := ho56.ext hs135
 replace hb71 := hb71.ext hs135
 replace ho84 := ho84.ext hs135
 replace ho86 := ho86.ext hs135
 replace ho88 := ho88.ext hs135
 replace hb100 := hb100.ext hs135
 refine drn hs135 ?_
 intro hs137
 revert A; refine dgo [17, 18, 19] hs137 ?_; intro A H
 rcases Bool.eq_false_or_eq_true (eqL (((rcD ((q14))).2.1)) (((rcD ((q14))).2.1))) with c141 | c141
 rw [c141] at H
 refine dw 20 H rfl hs137 (fa H U34 ti32) ?_
 clear H A; intro A H
 refine dv 21 H rfl hs137 (fun w' hw' => lf 2 H U32 (hb43.ext hw').cells) ?_
 clear H A; intro A H
 refine dw 22 H rfl hs137 (fa H U34 ti32) ?_
 clear H A; intro A H
 refine dv 23 H rfl hs137 (fun w' hw' => lf 2 H U32 (hb71.ext hw').cells) ?_
 clear H A; intro A H
 refine dr_one (i := 24) (by kernel_rfl) ?_
 refine pc H cb24 rfl (c_laws_likeEntries _ u27 (((rcD ((q14))).2.2)) u55 (((rcD ((q14))).2.2)) ((ho28.rds pos_shEnt).ext pos_shEnt hs137) ((ho56.rds pos_shEnt).ext pos_shEnt hs137)) ?_
 clear H A; rintro v146 w147 he148 rfl A H
 have hs150 := hs137.trans' he148
 obtain ⟨hx151, _⟩ := nx hx136 he148
 refine ⟨hs150, ?_⟩
 replace ho24 := ho24.ext hs150
 replace ho26 := ho26.ext hs150
 replace ho28 := ho28.ext hs150
 replace hb43 := hb43.ext hs150
 replace ho52 := ho52.ext hs150
 replace ho54 := ho54.ext hs150
 replace ho56 := ho56.ext hs150
 replace hb71 := hb71.ext hs150
 replace ho84 := ho84.ext hs150
 replace ho86 := ho86.ext hs150
 replace ho88 := ho88.ext hs150
 replace hb100 := hb100.ext hs150
 refine drn hs150 ?_
 intro hs152
 revert A; refine dgo [25, 26, 27] hs152 ?_; intro A H
 rcases Bool.eq_false_or_eq_true (eqL (((rcD ((q14))).2.2)) (((rcD ((q14))).2.2))) with c156 | c156
 rw [c156] at H
 refine dv 28 H rfl hs152 (fun w' hw' => ls H U34 ti34 (hb100.ext hw').cells) ?_
 clear H A; intro A H
 refine dv 30 H rfl hs152 (fun w' hw' => ls H U34 ti34 (hb100.ext hw').cells) ?_
 clear H A; intro A H
 refine dr_one (i := 29) (by kernel_rfl) ?_
 refine pc H cb25 rfl (c_impl_IsDesk _ u83 u85 u87 ((q79)) ((ho84.rds pos_shBin).ext pos_shBin hs152) ((ho86.rds pos_shProm).ext pos_shProm hs152) ((ho88.rds pos_shEnt).ext pos_shEnt hs152) (by omega) (by omega) (by omega)) ?_
 clear H A; rintro v159 w160 he161 rfl A H
 have hs163 := hs152.trans' he161
 obtain ⟨hx164, _⟩ := nx hx151 he161
 refine ⟨hs163, ?_⟩
 replace ho24 := ho24.ext hs163
 replace ho26 := ho26.ext hs163
 replace ho28 := ho28.ext hs163
 replace hb43 := hb43.ext hs163
 replace ho52 := ho52.ext hs163
 replace ho54 := ho54.ext hs163
 replace ho56 := ho56.ext hs163
 replace hb71 := hb71.ext hs163
 replace ho84 := ho84.ext hs163
 replace ho86 := ho86.ext hs163
 replace ho88 := ho88.ext hs163
 replace hb100 := hb100.ext hs163
 refine drn hs163 ?_
 intro hs165
 refine dr_one (i := 31) (by kernel_rfl) ?_
 refine pc H cb26 rfl (c_spec_IsDesk _ u83 u85 u87 ((q79)) ((ho84.rds pos_shBin).ext pos_shBin hs165) ((ho86.rds pos_shProm).ext pos_shProm hs165) ((ho88.rds pos_shEnt).ext pos_shEnt hs165) (by omega) (by omega) (by omega)) ?_
 clear H A; rintro v166 w167 he168 rfl A H
 have hs170 := hs165.trans' he168
 obtain ⟨hx171, _⟩ := nx hx164 he168
 refine ⟨hs170, ?_⟩
 replace ho24 := ho24.ext hs170
 replace ho26 := ho26.ext hs170
 replace ho28 := ho28.ext hs170
 replace hb43 := hb43.ext hs170
 replace ho52 := ho52.ext hs170
 replace ho54 := ho54.ext hs170
 replace ho56 := ho56.ext hs170
 replace hb71 := hb71.ext hs170
 replace ho84 := ho84.ext hs170
 replace ho86 := ho86.ext hs170
 replace ho88 := ho88.ext hs170
 replace hb100 := hb100.ext hs170
 refine drn hs170 ?_
 intro hs172
 refine dw 32 H rfl hs172 (op_bneq H rfl U4 rfl rfl) ?_
 clear H A; intro A H
 refine dw 33 H rfl hs172 (op_pick_f H rfl rfl rfl) ?_
 clear H A; intro A H
 refine dr_end (by kernel_rfl) ?_
 refine then_n ?_
 rcases Bool.eq_false_or_eq_true ((deskB ((q79)) == deskB ((q79)))) with c175 | c175
 rw [c175] at H
 clear ho52 ho54 ho56 hb71 ho84 ho86 ho88 hb100
 revert A; refine go ?_; intro A H
 by_cases c179 : (rcC ((q14)) : Int) = (0 : Int)
 rw [decide_eq_true c179] at H
 refine wv H (ls H U34 ti34 hb43.cells) ?_
 clear H A; intro A H
 refine wc H cb25 (c_impl_IsDesk _ u23 u25 u27 ((rcD ((q14)))) (ho24.rds pos_shBin) (ho26.rds pos_shProm) (ho28.rds pos_shEnt) (by omega) (by omega) (by omega)) ?_
 clear H A; rintro v181 w182 he183 rfl A H
 obtain ⟨hx185, _⟩ := nx hx171 he183
 replace ho24 := ho24.ext he183
 replace ho26 := ho26.ext he183
 replace ho28 := ho28.ext he183
 replace hb43 := hb43.ext he183
 revert A; refine go ?_; intro A H
 refine ret1 H rfl rfl ?_
 clear H A
 exact ret_mk hx185 (congrArg Value.bool (by exact rcD_ok _))
 rw [decide_eq_false c179] at H
 revert A; refine go ?_; intro A H
 refine ret1 H rfl rfl ?_
 clear H A
 exact ret_mk hx171 (congrArg Value.bool (by rfl))
 rw [c175] at H
 clear ho24 ho26 ho28 hb43 ho52 ho54 ho56 hb71 ho84 ho86 ho88 hb100
 revert A; refine go ?_; intro A H
 refine ret1 H rfl rfl ?_
 clear H A
 exact ret_mk hx171 (congrArg Value.bool (by simp at c175))
 rw [c156] at H
 revert A; refine dgo [28, 29, 30, 31, 32, 33] hs152 ?_; intro A H
 refine dr_end (by kernel_rfl) ?_
 clear ho24 ho26 ho28 hb43 ho52 ho54 ho56 hb71 ho84 ho86 ho88 hb100
 revert A; refine go ?_; intro A H
 refine ret1 H rfl rfl ?_
 clear H A
 exact ret_mk hx151 (congrArg Value.bool (by rw [eqL_self] at c156; cases c156))
 rw [c141] at H
 revert A; refine dgo [20, 21, 22, 23, 24, 25, 26, 27, 28, 29, 30, 31, 32, 33] hs137 ?_; intro A H
 refine dr_end (by kernel_rfl) ?_
 clear ho24 ho26 ho28 hb43 ho52 ho54 ho56 hb71 ho84 ho86 ho88 hb100
 revert A; refine go ?_; intro A H
 refine ret1 H rfl rfl ?_
 clear H A
 exact ret_mk hx136 (congrArg Value.bool (by rw [eqL_self] at c141; cases c141))
 rw [c126] at H
 revert A; refine dgo [12, 13, 14, 15, 16, 17, 18, 19, 20, 21, 22, 23, 24, 25, 26, 27, 28, 29, 30, 31, 32, 33] hs122 ?_; intro A H
 refine dr_end (by kernel_rfl) ?_
 clear ho24 ho26 ho28 hb43 ho52 ho54 ho56 hb71 ho84 ho86 ho88 hb100
 revert A; refine go ?_; intro A H
 refine ret1 H rfl rfl ?_
 clear H A
 exact ret_mk hx121 (congrArg Value.bool (by rw [eqL_self] at c126; cases c126))
 rw [decide_eq_false c111] at H
 revert A; refine dgo [4, 5, 6, 7, 8, 9, 10, 11, 12, 13, 14, 15, 16, 17, 18, 19, 20, 21, 22, 23, 24, 25, 26, 27, 28, 29, 30, 31, 32, 33] hs106 ?_; intro A H
 refine dr_end (by kernel_rfl) ?_
 clear ho24 ho26 ho28 hb43 ho52 ho54 ho56 hb71 ho84 ho86 ho88 hb100
 revert A; refine go ?_; intro A H
 refine ret1 H rfl rfl ?_
 clear H A
 exact ret_mk hx105 (congrArg Value.bool (by exact absurd rfl c111))




end Go.Proofs.YthbehhhblchhhaaGreat
