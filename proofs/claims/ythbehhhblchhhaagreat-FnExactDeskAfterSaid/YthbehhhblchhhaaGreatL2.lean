/- The helpers of the laws that mark texts. -/
import Derived.Test.YthbehhhblchhhaaGreatD1
namespace Go.Proofs.YthbehhhblchhhaaGreat
open Go Go.RowKit
set_option maxHeartbeats 16000000

theorem set_take {α : Type} {acc xs : List α} {i : Nat} {x : α} (h : acc.take i = xs.take i) (hl : acc.length = xs.length) (hx : xs[i]? = some x) : (acc.set i x).take (i + 1) = xs.take (i + 1) := by
  have hi : i < xs.length := (List.getElem?_eq_some_iff.1 hx).1
  rw [take_snoc hx, ← h]
  have : (acc.set i x)[i]? = some x := by rw [List.getElem?_set_self (by omega)]
  rw [take_snoc this, List.take_set_of_le (Nat.le_refl _)]
/-- Do two lists agree place by place? -/
def eqL {α : Type} [DecidableEq α] (xs ys : List α) : Bool := decide (xs = ys)
theorem eqL_nil {α : Type} [DecidableEq α] : eqL ([] : List α) [] = true := by simp [eqL]
theorem eqL_self {α : Type} [DecidableEq α] (xs : List α) : eqL xs xs = true := by simp [eqL]
theorem eqL_len {α : Type} [DecidableEq α] {xs ys : List α} (h : ¬ xs.length = ys.length) : eqL xs ys = false := by
  unfold eqL; rw [decide_eq_false]; intro e; exact h (by rw [e])
theorem eqL_step {α : Type} [DecidableEq α] {xs ys : List α} {i : Nat} {x y : α} (hx : xs[i]? = some x) (hy : ys[i]? = some y) : eqL (xs.drop i) (ys.drop i) = (decide (x = y) && eqL (xs.drop (i + 1)) (ys.drop (i + 1))) := by
  unfold eqL; rw [drop_cons hx, drop_cons hy, Bool.eq_iff_iff]; simp
/-- How much is left of a size behind a piece of that cost; -1: too little. -/
def szR (n : Int) (k : Nat) : Int := if n - k < 0 then -1 else n - k
theorem szR_ok {n : Int} {k : Nat} (h : ¬ szR n k < 0) : (k : Int) ≤ n ∧ szR n k = n - k := by unfold szR at *; split at h <;> simp_all <;> omega
theorem szR_no {n : Int} {k : Nat} (h : szR n k < 0) : n < (k : Int) := by unfold szR at h; split at h <;> omega
theorem szR_add {n : Int} {k m : Nat} (h : ¬ szR n k < 0) : szR n (k + m) = szR (szR n k) m := by
  obtain ⟨h1, h2⟩ := szR_ok h
  rw [h2]; unfold szR; split <;> split <;> omega
theorem szR_neg {n : Int} {k m : Nat} (h : szR n k < 0) : szR n (k + m) = -1 := by
  have := szR_no h; unfold szR; rw [if_pos (by omega)]
theorem szR_le {n : Int} {k : Nat} (h : 0 ≤ n) : szR n k ≤ n := by unfold szR; split <;> omega
theorem szR_zero {n : Int} (h : 0 ≤ n) : szR n 0 = n := by unfold szR; rw [if_neg (by omega)]; omega
theorem szR_if {n : Int} {k : Nat} (h : n < (k : Int)) : szR n k = -1 := by unfold szR; rw [if_pos (by omega)]
theorem szR_nif {n : Int} {k : Nat} (h : (k : Int) ≤ n) : szR n k = n - k := by unfold szR; rw [if_neg (by omega)]
/-- What the elements cost, and a list of them. -/
def sumC {α : Type} (c : α → Nat) : List α → Nat
  | [] => 0
  | x :: xs => c x + sumC c xs
def costL {α : Type} (c : α → Nat) (xs : List α) : Nat := xs.length + sumC c xs
theorem costL_len {α : Type} (c : α → Nat) (xs : List α) : xs.length ≤ costL c xs := by unfold costL; omega
theorem sumC_mem {α : Type} (c : α → Nat) : ∀ (xs : List α) (x : α), x ∈ xs → c x ≤ sumC c xs
  | [], x, h => by simp at h
  | y :: ys, x, h => by
    rcases List.mem_cons.1 h with e | e
    · subst e; simp only [sumC]; omega
    · have := sumC_mem c ys x e; simp only [sumC]; omega
theorem cost_mem {α : Type} {c : α → Nat} {xs : List α} {x : α} (h : x ∈ xs) : c x ≤ costL c xs := by have := sumC_mem c xs x h; unfold costL; omega
theorem hset_self {α : Type} {xs : List α} {i : Nat} {x y : α} (h : (xs.set i x)[i]? = some y) (hi : i < xs.length) : y = x := by
  rw [List.getElem?_set_self hi] at h; exact (Option.some.inj h).symm

/-- The text of a mark. -/
def mkT (k : Int) : Str := if k ≤ 0 then [109, 48] else 109 :: digs k.toNat
theorem mkT_step {m : Int} (h : 0 < m) : (if 0 < m / 10 then digs (m / 10).toNat else []) ++ [UInt8.ofNat (48 + m.toNat % 10)] = digs m.toNat := by
  by_cases h10 : m < 10
  · rw [if_neg (by omega), digs_lt (by omega)]; simp
  · have e : (m / 10).toNat = m.toNat / 10 := by omega
    rw [if_pos (by omega), digs_ge (n := m.toNat) (by omega), e]
theorem mkT_len {k : Int} (h : k ≤ 9223372036854775807) : (mkT k).length ≤ 20 := by
  unfold mkT
  split
  · simp
  · have := digs_len19 (n := k.toNat) (by omega); simp; omega

def mkI (k : Int) : Int := k
def okI (x : Int) (k : Int) : Bool := decide (x = k)
theorem okI_mk (k : Int) : okI (mkI k) k = true := by simp [okI, mkI]
def mkS (k : Int) : Str := mkT k
def okS (x : Str) (k : Int) : Bool := decide (x = mkT k)
theorem okS_mk (k : Int) : okS (mkS k) k = true := by simp [okS, mkS]

theorem c_laws_markText (w0 : World) (k : Int) (g0 : k ≤ 9223372036854775807) :
    Calls Tryz.prog 59 #[.int .i64 k] w0 (Ret w0 (fun v _ => v = St (mkT k))) := by
 refine enter (N := 20) Tryz.func59 rfl rfl rfl ?_
 intro A H
 have hx0 := Ext.rfl' w0
 revert A; refine go ?_; intro A H
 by_cases c4 : k ≤ (0 : Int)
 rw [decide_eq_true c4] at H
 revert A; refine go ?_; intro A H
 refine ret1 H rfl rfl ?_
 clear H A
 exact ret_mk hx0 (congrArg St (by (unfold mkT; rw [if_pos (by omega)])))
 rw [decide_eq_false c4] at H
 revert A; refine go ?_; intro A H
 refine loop_inv (X := Int × Str) (fun ⟨m, t⟩ fr wl => Sl 20 fr [(0, .int .i64 m), (3, St t)] ∧ Ext w0 wl ∧ w0.heap.size ≤ wl.heap.size ∧ (0 ≤ m) ∧ (m ≤ 9223372036854775807) ∧ ((if 0 < m then digs m.toNat else []) ++ t = digs k.toNat) ∧ (0 < k)) (fun ⟨m, t⟩ => m.toNat) (k, ([] : Str)) ?_ ?_
 exact ⟨(sl H), hx0, (by omega), (by omega), (by omega), (by rw [if_pos (by omega)]; simp), (by omega)⟩
 clear H A
 rintro ⟨m, t⟩ A w7 ⟨H, hx8, hzl10, hm0, hm1, hF, hn⟩
 have hzhx8 := hx8.size
 revert A; refine go ?_; intro A H
 by_cases c13 : (0 : Int) < m
 rw [decide_eq_true c13] at H
 revert A; refine go ?_; intro A H
 refine wv H ((op_rem H rfl rfl rfl (by omega)).int (Int.tmod_eq_emod_of_nonneg (by omega))) ?_
 clear H A; intro A H
 refine wv H ((op_add H rfl rfl rfl).int (IntWalk.i64_in _ (by omega))) ?_
 clear H A; intro A H
 refine wv H ((op_conv_int H rfl U3 U5 rfl).int (IntWalk.u8_in _ (by omega))) ?_
 clear H A; intro A H
 refine we H (op_buildSlice (s := shU8) (xs := [UInt8.ofNat ((48 + (m.toNat % 10)))]) (cs := [.int .u8 ((48 : Int) + (m % (10 : Int)))]) (vs := [(0, .int .u8 ((48 : Int) + (m % (10 : Int))))]) (S := fun _ => False) (le := w7.heap.size) H rfl pos_shU8 U22 ti5 rfl rfl (by decide) (by kernel_rfl) (Els.single (mk_shU8i ((48 + (m.toNat % 10))) (by omega) (by omega))) (fun _ h => h.elim)) ?_
 clear H A; rintro v18 w19 ⟨ho20, he21, hob22⟩ A H
 obtain ⟨hx24, _⟩ := nx hx8 he21
 refine wv H (op_conv_str H rfl U22 U5 U9 rfl (ho20.rds pos_shU8)) ?_
 clear H A; intro A H
 refine wv H (op_move H rfl rfl) ?_
 clear H A; intro A H
 refine wv H (op_sadd H rfl rfl rfl (by have h1 := digs_len19 (n := k.toNat) (by omega); rw [← hF, List.length_append] at h1; have h2 := digs_pos m.toNat; (rw [if_pos (by omega)] at h1; simp <;> omega))) ?_
 clear H A; refine go ?_; intro A H
 refine wv H ((op_quo H rfl rfl rfl (by omega)).int (IntWalk.i64_quo _ _ (by omega))) ?_
 clear H A; refine go ?_; intro A H
 refine ⟨((m / (10 : Int)), ([UInt8.ofNat ((48 + (m.toNat % 10)))]) ++ t), ?_, ?_⟩
 refine ⟨(sl H), hx24, (by omega), (by omega), (by omega), (by rw [if_pos (by omega), ← mkT_step (by omega), List.append_assoc] at hF; exact hF), (by omega)⟩
 show (((m / (10 : Int))).toNat : Nat) < m.toNat; omega
 rw [decide_eq_false c13] at H
 revert A; refine go ?_; intro A H
 refine wv H (op_sadd H rfl rfl rfl (by have h1 := digs_len19 (n := k.toNat) (by omega); rw [← hF, List.length_append] at h1; have h2 := digs_pos m.toNat; (rw [if_neg (by omega)] at h1; simp at h1; simp <;> omega))) ?_
 clear H A; refine go ?_; intro A H
 refine ret1 H rfl rfl ?_
 clear H A
 exact ret_mk hx8 (congrArg St (by (unfold mkT; rw [if_neg (by omega), ← hF]; rw [if_neg (by omega)]; rfl)))



theorem c_laws_markStringS (w0 : World) (v_a : Value) (a : List Str) {lo_a le_a hi_a : Nat} (k : Int) (h_a : Own shStr 9 lo_a le_a hi_a w0 v_a a) (g0 : 0 ≤ k) (g1 : k ≤ 4611686018427387904) (g2 : a.length ≤ 4611686018427) :
    Calls Tryz.prog 28 #[v_a, .int .i64 k] w0 (RetS w0 v_a.ownBlock (fun v w1 => v = .int .i64 (k + 1 * (a.length : Nat)) ∧ Own shStr 9 lo_a le_a hi_a w1 v_a (mkN mkS 1 a.length k))) := by
 refine enter (N := 20) Tryz.func28 rfl rfl rfl ?_
 intro A H
 have hx0 := Stp.rfl' w0 v_a.ownBlock
 have hl_a := (h_a.rds pos_shStr).length_le
 revert A; refine go ?_; intro A H
 refine loop_inv (X := Nat × Int × (List Str)) (fun ⟨i, q, acc⟩ fr wl => Sl 20 fr [(0, v_a), (1, .int .i64 q), (5, .int .i64 ((i : Nat) : Int))] ∧ Stp w0 wl v_a.ownBlock ∧ Own shStr 9 lo_a le_a hi_a wl v_a acc ∧ w0.heap.size ≤ wl.heap.size ∧ (i ≤ a.length) ∧ (q = k + 1 * (i : Int)) ∧ (acc = mkN mkS 1 i k ++ a.drop i) ∧ (acc.length = a.length)) (fun ⟨i, q, acc⟩ => a.length - i) (0, k, a) ?_ ?_
 exact ⟨(sl H), hx0, h_a, (by omega), (by omega), (by simp), (by simp [mkN]), (by rfl)⟩
 clear H A
 rintro ⟨i, q, acc⟩ A w3 ⟨H, hx4, hf5, hzl7, hi, hq, hF, hl⟩
 have hzhx4 := hx4.size
 revert A; refine go ?_; intro A H
 refine wv H (ln H U25 (hf5.rds pos_shStr)) ?_
 clear H A; refine go ?_; intro A H
 by_cases c12 : ((i : Nat) : Int) < ((acc.length : Nat) : Int)
 rw [decide_eq_true c12] at H
 revert A; refine go ?_; intro A H
 refine wc H cb59 (c_laws_markText _ q gd) ?_
 clear H A; rintro v16 w17 he18 rfl A H
 obtain ⟨hx20, _⟩ := nxe hx4 he18
 replace hf5 := hf5.ext he18
 obtain ⟨x21, hx21⟩ := get_ex (xs := acc) (j := i) (by omega)
 obtain ⟨p22, hi24, hc25, b28, _, _⟩ := at_shStr (hf5.rds pos_shStr) hx21
 refine wv H (ix H U25 ti9 hi24) ?_
 clear H A; intro A H
 refine ws H (op_setElem (s := shStr) (ds := [St ((mkT q))]) (S' := fun _ => False) H rfl ti9 rfl rfl rfl hf5 pos_shStr hi24 (by omega) (mk_shStr ((mkT q)) (by exact Nat.le_trans (mkT_len (by omega)) (by omega))) (fun _ h => h.elim)) ?_
 rintro w30 ⟨ho32, hst31, hz33⟩
 have hx34 := hx20.trans' hst31
 have hzhx34 := hst31.size
 clear hf5
 have hlsho32 : ((acc.set i ((mkT q)))).length = acc.length := List.length_set
 revert A; refine go ?_; intro A H
 refine wv H ((op_add H rfl rfl rfl).int (IntWalk.i64_in _ (by omega))) ?_
 clear H A; refine go ?_; intro A H
 refine wv H ((op_add H rfl rfl rfl).int (IntWalk.i64_in _ (by omega))) ?_
 clear H A; refine go ?_; intro A H
 refine ⟨((i + 1), (q + (1 : Int)), (acc.set i ((mkT q)))), ?_, ?_⟩
 refine ⟨(sl H), hx34, ho32, (by omega), (by omega), (by omega), (by exact mkN_step hF (by omega) (by rfl) hq), (by simp only [List.length_set]; exact hl)⟩
 show (a.length - ((i + 1)) : Nat) < a.length - i; omega
 rw [decide_eq_false c12] at H
 revert A; refine go ?_; intro A H
 refine ret1 H rfl rfl ?_
 clear H A
 exact ret_mkS hx4 ⟨int_eq (by omega), hf5.cast (by rw [hF, drop_nil (by omega), List.append_nil]; congr 1; omega)⟩



theorem c_laws_heldStringS (w0 : World) (v_a : Value) (a : List Str) {S_a : Nat → Prop} (k : Int) (h_a : Rds shStr S_a w0 v_a a) (g0 : 0 ≤ k) (g1 : k ≤ 4611686018427387904) (g2 : a.length ≤ 4611686018427) :
    Calls Tryz.prog 29 #[v_a, .int .i64 k] w0 (Ret w0 (fun v _ => v = .int .i64 (heldG okS 1 a k))) := by
 refine enter (N := 22) Tryz.func29 rfl rfl rfl ?_
 intro A H
 have hx0 := Ext.rfl' w0
 have hl_a := h_a.length_le
 revert A; refine go ?_; intro A H
 refine loop_inv (X := Nat × Int) (fun ⟨i, q⟩ fr wl => Sl 22 fr [(0, v_a), (1, .int .i64 q), (5, .int .i64 ((i : Nat) : Int))] ∧ Ext w0 wl ∧ w0.heap.size ≤ wl.heap.size ∧ (i ≤ a.length) ∧ (q = k + 1 * (i : Int)) ∧ (heldG okS 1 (a.drop i) q = heldG okS 1 a k)) (fun ⟨i, q⟩ => a.length - i) (0, k) ?_ ?_
 exact ⟨(sl H), hx0, (by omega), (by omega), (by simp), (by rfl)⟩
 clear H A
 rintro ⟨i, q⟩ A w3 ⟨H, hx4, hzl6, hi, hq, hF⟩
 have hzhx4 := hx4.size
 revert A; refine go ?_; intro A H
 refine wv H (ln H U25 h_a) ?_
 clear H A; refine go ?_; intro A H
 by_cases c11 : ((i : Nat) : Int) < ((a.length : Nat) : Int)
 rw [decide_eq_true c11] at H
 revert A; refine go ?_; intro A H
 refine dre Ext follows_mixed ?_
 intro w12 he13 hs15
 obtain ⟨hx14, _⟩ := nx hx4 he13
 revert A; refine dgo [0, 1] hs15 ?_; intro A H
 obtain ⟨x18, hx18⟩ := get_ex (xs := a) (j := i) (by omega)
 obtain ⟨p19, hi21, hc22, b25, hs24⟩ := at_shStr h_a hx18
 refine dw 2 H rfl hs15 (ix H U25 ti9 hi21) ?_
 clear H A; intro A H
 refine dv 3 H rfl hs15 (fun w' hw' => lh H U9 (hc22.ext (hx14.trans' hw'))) ?_
 clear H A; intro A H
 refine dw 4 H rfl hs15 (op_move H rfl rfl) ?_
 clear H A; intro A H
 refine dr_one (i := 5) (by kernel_rfl) ?_
 refine pc H cb59 rfl (c_laws_markText _ q gd) ?_
 clear H A; rintro v29 w30 he31 rfl A H
 have hs33 := hs15.trans' he31
 obtain ⟨hx34, _⟩ := nx hx14 he31
 refine ⟨hs33, ?_⟩
 refine dv 6 H rfl hs33 (fun w' hw' => (op_sneq H rfl rfl rfl).to (congrArg Value.bool decide_not)) ?_
 clear H A; intro A H
 refine dr_end (by kernel_rfl) ?_
 refine then_n ?_
 by_cases c36 : x18 = (mkT q)
 rw [decide_eq_true c36] at H
 revert A; refine go ?_; intro A H
 refine wv H ((op_add H rfl rfl rfl).int (IntWalk.i64_in _ (by omega))) ?_
 clear H A; refine go ?_; intro A H
 refine wv H ((op_add H rfl rfl rfl).int (IntWalk.i64_in _ (by omega))) ?_
 clear H A; refine go ?_; intro A H
 refine ⟨((i + 1), (q + (1 : Int))), ?_, ?_⟩
 refine ⟨(sl H), hx34, (by omega), (by omega), (by omega), (by rw [drop_cons hx18] at hF; simp only [heldG] at hF; rw [if_pos (by simp [okS, c36] <;> omega)] at hF; rw [← hF] <;> (congr 1 <;> omega))⟩
 show (a.length - ((i + 1)) : Nat) < a.length - i; omega
 rw [decide_eq_false c36] at H
 revert A; refine go ?_; intro A H
 refine ret1 H rfl rfl ?_
 clear H A
 rw [drop_cons hx18] at hF
 simp only [heldG] at hF
 rw [if_neg (by simp [okS, c36])] at hF
 exact ret_mk hx34 (int_eq (by exact hF))
 rw [decide_eq_false c11] at H
 revert A; refine go ?_; intro A H
 refine ret1 H rfl rfl ?_
 clear H A
 rw [drop_nil (by omega)] at hF
 simp only [heldG] at hF
 exact ret_mk hx4 (int_eq (by exact hF))



theorem c_laws_eqStringS (w0 : World) (v_a : Value) (a : List Str) {S_a : Nat → Prop} (v_b : Value) (b : List Str) {S_b : Nat → Prop} (h_a : Rds shStr S_a w0 v_a a) (h_b : Rds shStr S_b w0 v_b b) :
    Calls Tryz.prog 27 #[v_a, v_b] w0 (Ret w0 (fun v _ => v = .bool (eqL a b))) := by
 refine enter (N := 26) Tryz.func27 rfl rfl rfl ?_
 intro A H
 have hx0 := Ext.rfl' w0
 have hl_a := h_a.length_le
 have hl_b := h_b.length_le
 revert A; refine go ?_; intro A H
 refine wv H (ln H U25 h_a) ?_
 clear H A; intro A H
 refine wv H (op_move H rfl rfl) ?_
 clear H A; intro A H
 refine wv H (ln H U25 h_b) ?_
 clear H A; refine go ?_; intro A H
 by_cases c7 : ((a.length : Nat) : Int) = ((b.length : Nat) : Int)
 rw [decide_eq_true c7] at H
 revert A; refine go ?_; intro A H
 refine loop_inv (X := Nat) (fun i fr wl => Sl 26 fr [(0, v_a), (1, v_b), (5, .int .i64 ((i : Nat) : Int))] ∧ Ext w0 wl ∧ w0.heap.size ≤ wl.heap.size ∧ (i ≤ a.length) ∧ (a.length = b.length) ∧ (eqL (a.drop i) (b.drop i) = eqL a b)) (fun i => a.length - i) (0) ?_ ?_
 exact ⟨(sl H), hx0, (by omega), (by omega), (by omega), (by simp)⟩
 clear H A
 rintro i A w9 ⟨H, hx10, hzl12, hi, hl, hF⟩
 have hzhx10 := hx10.size
 revert A; refine go ?_; intro A H
 refine wv H (ln H U25 h_a) ?_
 clear H A; refine go ?_; intro A H
 by_cases c17 : ((i : Nat) : Int) < ((a.length : Nat) : Int)
 rw [decide_eq_true c17] at H
 revert A; refine go ?_; intro A H
 refine dre Ext follows_mixed ?_
 intro w18 he19 hs21
 obtain ⟨hx20, _⟩ := nx hx10 he19
 revert A; refine dgo [0, 1] hs21 ?_; intro A H
 obtain ⟨x24, hx24⟩ := get_ex (xs := a) (j := i) (by omega)
 obtain ⟨p25, hi27, hc28, b31, hs30⟩ := at_shStr h_a hx24
 refine dw 2 H rfl hs21 (ix H U25 ti9 hi27) ?_
 clear H A; intro A H
 refine dv 3 H rfl hs21 (fun w' hw' => lh H U9 (hc28.ext (hx20.trans' hw'))) ?_
 clear H A; refine dgo [4, 5] hs21 ?_; intro A H
 obtain ⟨x36, hx36⟩ := get_ex (xs := b) (j := i) (by omega)
 obtain ⟨p37, hi39, hc40, b43, hs42⟩ := at_shStr h_b hx36
 refine dw 6 H rfl hs21 (ix H U25 ti9 hi39) ?_
 clear H A; intro A H
 refine dv 7 H rfl hs21 (fun w' hw' => lh H U9 (hc40.ext (hx20.trans' hw'))) ?_
 clear H A; intro A H
 refine dv 8 H rfl hs21 (fun w' hw' => (op_sneq H rfl rfl rfl).to (congrArg Value.bool decide_not)) ?_
 clear H A; intro A H
 refine dr_end (by kernel_rfl) ?_
 refine then_n ?_
 by_cases c47 : x24 = x36
 rw [decide_eq_true c47] at H
 revert A; refine go ?_; intro A H
 refine wv H ((op_add H rfl rfl rfl).int (IntWalk.i64_in _ (by omega))) ?_
 clear H A; refine go ?_; intro A H
 refine ⟨((i + 1)), ?_, ?_⟩
 refine ⟨(sl H), hx20, (by omega), (by omega), (by exact hl), (by rw [eqL_step hx24 hx36] at hF; simpa [c7, c17, c47] using hF)⟩
 show (a.length - ((i + 1)) : Nat) < a.length - i; omega
 rw [decide_eq_false c47] at H
 revert A; refine go ?_; intro A H
 refine ret1 H rfl rfl ?_
 clear H A
 rw [eqL_step hx24 hx36] at hF
 exact ret_mk hx20 (congrArg Value.bool (by simp [← hF, c47]))
 rw [decide_eq_false c17] at H
 revert A; refine go ?_; intro A H
 refine ret1 H rfl rfl ?_
 clear H A
 rw [drop_nil (by omega), drop_nil (by omega), eqL_nil] at hF
 exact ret_mk hx10 (congrArg Value.bool (by simp [← hF]))
 rw [decide_eq_false c7] at H
 revert A; refine go ?_; intro A H
 refine ret1 H rfl rfl ?_
 clear H A
 exact ret_mk hx0 (congrArg Value.bool (by rw [eqL_len (by omega)]))




end Go.Proofs.YthbehhhblchhhaaGreat
