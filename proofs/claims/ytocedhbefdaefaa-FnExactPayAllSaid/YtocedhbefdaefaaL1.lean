/- The helpers of the laws over entries. -/
import Derived.Test.YtocedhbefdaefaaW1
namespace Go.Proofs.Ytocedhbefdaefaa
open Go Go.RowKit

theorem set_take {α : Type} {acc xs : List α} {i : Nat} {x : α} (h : acc.take i = xs.take i) (hl : acc.length = xs.length) (hx : xs[i]? = some x) : (acc.set i x).take (i + 1) = xs.take (i + 1) := by
  have hi : i < xs.length := (List.getElem?_eq_some_iff.1 hx).1
  rw [take_snoc hx, ← h]
  have : (acc.set i x)[i]? = some x := by rw [List.getElem?_set_self (by omega)]
  rw [take_snoc this, List.take_set_of_le (Nat.le_refl _)]
/-- Do two lists agree place by place? -/
def eqL {α : Type} [DecidableEq α] (xs ys : List α) : Bool := decide (xs = ys)
theorem eqL_nil {α : Type} [DecidableEq α] : eqL ([] : List α) [] = true := by simp [eqL]
theorem eqL_self {α : Type} [DecidableEq α] (xs : List α) : eqL xs xs = true := by simp [eqL]
theorem eqL_len {α : Type} [DecidableEq α] {xs ys : List α} (h : ¬ xs.length = ys.length) : eqL xs ys = false := by
  unfold eqL; rw [decide_eq_false]; intro e; exact h (by rw [e])
theorem eqL_step {α : Type} [DecidableEq α] {xs ys : List α} {i : Nat} {x y : α} (hx : xs[i]? = some x) (hy : ys[i]? = some y) : eqL (xs.drop i) (ys.drop i) = (decide (x = y) && eqL (xs.drop (i + 1)) (ys.drop (i + 1))) := by
  unfold eqL; rw [drop_cons hx, drop_cons hy, Bool.eq_iff_iff]; simp
/-- How much is left of a size behind a piece of that cost; -1: too little. -/
def szR (n : Int) (k : Nat) : Int := if n - k < 0 then -1 else n - k
theorem szR_ok {n : Int} {k : Nat} (h : ¬ szR n k < 0) : (k : Int) ≤ n ∧ szR n k = n - k := by unfold szR at *; split at h <;> simp_all <;> omega
theorem szR_no {n : Int} {k : Nat} (h : szR n k < 0) : n < (k : Int) := by unfold szR at h; split at h <;> omega
theorem szR_add {n : Int} {k m : Nat} (h : ¬ szR n k < 0) : szR n (k + m) = szR (szR n k) m := by
  obtain ⟨h1, h2⟩ := szR_ok h
  rw [h2]; unfold szR; split <;> split <;> omega
theorem szR_neg {n : Int} {k m : Nat} (h : szR n k < 0) : szR n (k + m) = -1 := by
  have := szR_no h; unfold szR; rw [if_pos (by omega)]
theorem szR_le {n : Int} {k : Nat} (h : 0 ≤ n) : szR n k ≤ n := by unfold szR; split <;> omega
theorem szR_zero {n : Int} (h : 0 ≤ n) : szR n 0 = n := by unfold szR; rw [if_neg (by omega)]; omega
theorem szR_if {n : Int} {k : Nat} (h : n < (k : Int)) : szR n k = -1 := by unfold szR; rw [if_pos (by omega)]
theorem szR_nif {n : Int} {k : Nat} (h : (k : Int) ≤ n) : szR n k = n - k := by unfold szR; rw [if_neg (by omega)]
/-- What the elements cost, and a list of them. -/
def sumC {α : Type} (c : α → Nat) : List α → Nat
  | [] => 0
  | x :: xs => c x + sumC c xs
def costL {α : Type} (c : α → Nat) (xs : List α) : Nat := xs.length + sumC c xs
theorem costL_len {α : Type} (c : α → Nat) (xs : List α) : xs.length ≤ costL c xs := by unfold costL; omega
theorem sumC_mem {α : Type} (c : α → Nat) : ∀ (xs : List α) (x : α), x ∈ xs → c x ≤ sumC c xs
  | [], x, h => by simp at h
  | y :: ys, x, h => by
    rcases List.mem_cons.1 h with e | e
    · subst e; simp only [sumC]; omega
    · have := sumC_mem c ys x e; simp only [sumC]; omega
theorem cost_mem {α : Type} {c : α → Nat} {xs : List α} {x : α} (h : x ∈ xs) : c x ≤ costL c xs := by have := sumC_mem c xs x h; unfold costL; omega
theorem hset_self {α : Type} {xs : List α} {i : Nat} {x y : α} (h : (xs.set i x)[i]? = some y) (hi : i < xs.length) : y = x := by
  rw [List.getElem?_set_self hi] at h; exact (Option.some.inj h).symm

/-- The digits of a number. -/
def digs (n : Nat) : Str := if h : n < 10 then [UInt8.ofNat (48 + n % 10)] else digs (n / 10) ++ [UInt8.ofNat (48 + n % 10)]
termination_by n
decreasing_by omega
def decS (n : Int) : Str := if n < 0 then 45 :: digs (0 - n).toNat else digs n.toNat
theorem digs_lt {n : Nat} (h : n < 10) : digs n = [UInt8.ofNat (48 + n % 10)] := by rw [digs, dif_pos h]
theorem digs_ge {n : Nat} (h : ¬ n < 10) : digs n = digs (n / 10) ++ [UInt8.ofNat (48 + n % 10)] := by rw [digs, dif_neg h]
theorem digs_len : ∀ (k n : Nat), n < 10 ^ (k + 1) → (digs n).length ≤ k + 1 := by
  intro k
  induction k with
  | zero => intro n h; rw [digs_lt (by simpa using h)]; simp
  | succ k ih =>
    intro n h
    by_cases h10 : n < 10
    · rw [digs_lt h10]; simp
    · rw [digs_ge h10, List.length_append]
      have := ih (n / 10) (by rw [Nat.pow_succ] at h; omega)
      simp; omega
theorem digs_pos (n : Nat) : 1 ≤ (digs n).length := by
  by_cases h : n < 10
  · rw [digs_lt h]; simp
  · rw [digs_ge h]; simp
theorem digs_len19 {n : Nat} (h : n ≤ 9223372036854775807) : (digs n).length ≤ 19 := digs_len 18 n (by omega)
theorem decS_len {n : Int} (h : -9223372036854775808 ≤ n ∧ n ≤ 9223372036854775807) : (decS n).length ≤ 20 := by
  unfold decS
  split
  · by_cases e : n = -9223372036854775808
    · subst e
      have := digs_len 18 9223372036854775808 (by omega)
      simp only [List.length_cons]
      have e2 : (0 - (-9223372036854775808 : Int)).toNat = 9223372036854775808 := by decide
      rw [e2]; omega
    · have := digs_len19 (n := (0 - n).toNat) (by omega); rw [List.length_cons]; omega
  · have := digs_len19 (n := n.toNat) (by omega); omega
theorem decS_nn {n : Int} (h : 0 ≤ n) : decS n = digs n.toNat := by unfold decS; rw [if_neg (by omega)]
theorem decS_lt {n : Int} (h0 : 0 ≤ n) (h : n < 10) : decS n = [UInt8.ofNat (48 + n.toNat)] := by
  rw [decS_nn h0, digs_lt (by omega)]; congr 3; omega
theorem decS_ge {n : Int} (h0 : 0 ≤ n) (h : ¬ n < 10) : decS n = decS (n / 10) ++ [UInt8.ofNat (48 + n.toNat % 10)] := by
  rw [decS_nn h0, decS_nn (by omega), digs_ge (by omega)]
  have : (n / 10).toNat = n.toNat / 10 := by omega
  rw [this]

/-- The text of a mark. -/
def mkT (k : Int) : Str := if k ≤ 0 then [109, 48] else 109 :: digs k.toNat
theorem mkT_step {m : Int} (h : 0 < m) : (if 0 < m / 10 then digs (m / 10).toNat else []) ++ [UInt8.ofNat (48 + m.toNat % 10)] = digs m.toNat := by
  by_cases h10 : m < 10
  · rw [if_neg (by omega), digs_lt (by omega)]; simp
  · have e : (m / 10).toNat = m.toNat / 10 := by omega
    rw [if_pos (by omega), digs_ge (n := m.toNat) (by omega), e]
theorem mkT_len {k : Int} (h : k ≤ 9223372036854775807) : (mkT k).length ≤ 20 := by
  unfold mkT
  split
  · simp
  · have := digs_len19 (n := k.toNat) (by omega); simp; omega

def mkI (k : Int) : Int := k
def okI (x : Int) (k : Int) : Bool := decide (x = k)
theorem okI_mk (k : Int) : okI (mkI k) k = true := by simp [okI, mkI]
def mkS (k : Int) : Str := mkT k
def okS (x : Str) (k : Int) : Bool := decide (x = mkT k)
theorem okS_mk (k : Int) : okS (mkS k) k = true := by simp [okS, mkS]

def costEnt (x : Int × Int × Str × Int) : Nat := x.2.2.1.length
def mkEnt (k : Int) : Int × Int × Str × Int := (k, k + 1, mkT (k + 1 + 1), k + 1 + 1 + 1)
def okEnt (x : Int × Int × Str × Int) (k : Int) : Bool := decide (x = mkEnt k)
theorem okEnt_mk (k : Int) : okEnt (mkEnt k) k = true := by simp [okEnt]

theorem c_laws_szEntry (w0 : World) (a : Int × Int × Str × Int) (left : Int) (g0 : left ≤ 1048576) (g1 : 0 ≤ left) (g2 : a.2.2.1.length ≤ 9223372036854775807) :
    Calls Try.prog 28 #[.agg #[.int .i64 a.1, .int .i64 a.2.1, St a.2.2.1, .int .i64 a.2.2.2], .int .i64 left] w0 (Ret w0 (fun v _ => v = .int .i64 (szR left (costEnt a)))) := by
  refine enter (N := 13) Try.func28 rfl rfl rfl ?_
  intro a0 ha0
  have hx0 := Ext.rfl' w0
  refine wp_seq ?_
  refine wp_region_lit ?_
  refine wl_eff ha0 rfl rfl rfl (op_box' ha0 rfl rfl rfl) ?_
  rintro _ w2 ⟨rfl, he3, hb4, hz5⟩ a6 ha6; clear ha0 a0
  have hx7 := hx0.trans' he3
  have hzhx7 := he3.size
  refine wl_val ha6 rfl rfl rfl (op_assign ha6 rfl rfl) ?_
  intro a8 ha8; clear ha6 a6
  refine wpList_nil ?_
  refine then_n ?_
  refine wp_seq ?_
  refine wp_region_lit ?_
  refine wl_val ha8 rfl rfl rfl (op_move ha8 rfl rfl) ?_
  intro a9 ha9; clear ha8 a8
  refine wl_val ha9 rfl rfl rfl (op_fieldAddr (sz := 0) ha9 rfl Try.underlying37 rfl rfl ti9 rfl) ?_
  intro a10 ha10; clear ha9 a9
  refine wl_val ha10 rfl rfl rfl (op_loadF (off := 2) ha10 rfl Try.underlying9 rfl rfl hb4.cells rfl) ?_
  intro a11 ha11; clear ha10 a10
  refine wl_val ha11 rfl rfl rfl (op_len_str ha11 rfl Try.underlying9 rfl) ?_
  intro a12 ha12; clear ha11 a11
  refine wl_val ha12 rfl rfl rfl ((op_sub ha12 rfl rfl rfl).int (IntWalk.i64_in _ (by omega))) ?_
  intro a13 ha13; clear ha12 a12
  refine wl_val ha13 rfl rfl rfl (op_assign ha13 rfl rfl) ?_
  intro a14 ha14; clear ha13 a13
  refine wpList_nil ?_
  refine then_n ?_
  refine wp_seq ?_
  refine wp_seq ?_
  refine wp_region_lit ?_
  refine wl_val ha14 rfl rfl rfl (op_move ha14 rfl rfl) ?_
  intro a15 ha15; clear ha14 a14
  refine wl_val ha15 rfl rfl rfl (op_lss ha15 rfl rfl rfl) ?_
  intro a16 ha16; clear ha15 a15
  refine wpList_nil ?_
  refine then_n ?_
  by_cases c17 : (left - ((a.2.2.1.length : Nat) : Int)) < (0 : Int)
  ·
    rw [decide_eq_true c17] at ha16
    refine cond_t ha16 rfl ?_
    refine wp_seq ?_
    refine wp_region_lit ?_
    refine wl_val ha16 rfl rfl rfl (op_assign ha16 rfl rfl) ?_
    intro a18 ha18; clear ha16 a16
    refine wpList_nil ?_
    refine then_n ?_
    refine wp_ret ?_
    refine then_r ?_
    refine ret1 ha18 rfl rfl ?_
    clear ha18 a18
    exact ret_mk hx7 (int_eq (by unfold costEnt; first | rw [szR_if (by omega)] | rw [szR_nif (by omega)] | (rw [szR_nif (by omega)]; omega)))
  ·
    rw [decide_eq_false c17] at ha16
    refine cond_f ha16 rfl ?_
    refine wp_skip ?_
    refine then_n ?_
    refine wp_seq ?_
    refine wp_region_lit ?_
    refine wl_val ha16 rfl rfl rfl (op_move ha16 rfl rfl) ?_
    intro a19 ha19; clear ha16 a16
    refine wl_val ha19 rfl rfl rfl (op_assign ha19 rfl rfl) ?_
    intro a20 ha20; clear ha19 a19
    refine wpList_nil ?_
    refine then_n ?_
    refine wp_ret ?_
    refine ret1 ha20 rfl rfl ?_
    clear ha20 a20
    exact ret_mk hx7 (int_eq (by unfold costEnt; first | rw [szR_if (by omega)] | rw [szR_nif (by omega)] | (rw [szR_nif (by omega)]; omega)))

theorem c_laws_szEntryS (w0 : World) (v_a : Value) (a : List (Int × Int × Str × Int)) {S_a : Nat → Prop} (left : Int) (h_a : Rds shEnt S_a w0 v_a a) (g0 : left ≤ 1048576) (g1 : 0 ≤ left) :
    Calls Try.prog 15 #[v_a, .int .i64 left] w0 (Ret w0 (fun v _ => v = .int .i64 (szR left (costL costEnt a)))) := by
  refine enter (N := 27) Try.func15 rfl rfl rfl ?_
  intro a0 ha0
  have hx0 := Ext.rfl' w0
  have hl_a := h_a.length_le
  refine wp_seq ?_
  refine wp_region_lit ?_
  refine wl_val ha0 rfl rfl rfl (op_assign ha0 rfl rfl) ?_
  intro a1 ha1; clear ha0 a0
  refine wpList_nil ?_
  refine then_n ?_
  refine wp_seq ?_
  refine wp_region_lit ?_
  refine wl_val ha1 rfl rfl rfl (op_move ha1 rfl rfl) ?_
  intro a2 ha2; clear ha1 a1
  refine wl_val ha2 rfl rfl rfl (op_move ha2 rfl rfl) ?_
  intro a3 ha3; clear ha2 a2
  refine wl_val ha3 rfl rfl rfl (op_len_sl ha3 rfl Try.underlying22 rfl h_a) ?_
  intro a4 ha4; clear ha3 a3
  refine wl_val ha4 rfl rfl rfl ((op_sub ha4 rfl rfl rfl).int (IntWalk.i64_in _ (by omega))) ?_
  intro a5 ha5; clear ha4 a4
  refine wl_val ha5 rfl rfl rfl (op_assign ha5 rfl rfl) ?_
  intro a6 ha6; clear ha5 a5
  refine wpList_nil ?_
  refine then_n ?_
  refine wp_seq ?_
  refine wp_seq ?_
  refine wp_region_lit ?_
  refine wl_val ha6 rfl rfl rfl (op_move ha6 rfl rfl) ?_
  intro a7 ha7; clear ha6 a6
  refine wl_val ha7 rfl rfl rfl (op_lss ha7 rfl rfl rfl) ?_
  intro a8 ha8; clear ha7 a7
  refine wpList_nil ?_
  refine then_n ?_
  by_cases c9 : (left - ((a.length : Nat) : Int)) < (0 : Int)
  ·
    rw [decide_eq_true c9] at ha8
    refine cond_t ha8 rfl ?_
    refine wp_seq ?_
    refine wp_region_lit ?_
    refine wl_val ha8 rfl rfl rfl (op_assign ha8 rfl rfl) ?_
    intro a10 ha10; clear ha8 a8
    refine wpList_nil ?_
    refine then_n ?_
    refine wp_ret ?_
    refine then_r ?_
    refine ret1 ha10 rfl rfl ?_
    clear ha10 a10
    
    exact ret_mk hx0 (int_eq (by unfold costL; rw [szR_if (by omega)]))
  ·
    rw [decide_eq_false c9] at ha8
    refine cond_f ha8 rfl ?_
    refine wp_skip ?_
    refine then_n ?_
    refine wp_seq ?_
    refine wp_seq ?_
    refine wp_region_lit ?_
    refine wl_val ha8 rfl rfl rfl (op_assign ha8 rfl rfl) ?_
    intro a11 ha11; clear ha8 a8
    refine wpList_nil ?_
    refine then_n ?_
    refine wp_block ?_
    refine loop_inv (X := Nat × Int) (fun (⟨i, n⟩ : Nat × Int) fr wl => Sl 27 fr [(0, v_a), (1, .int .i64 n), (5, .int .i64 ((i : Nat) : Int))] ∧ Ext w0 wl ∧ w0.heap.size ≤ wl.heap.size ∧ (i ≤ a.length) ∧ (0 ≤ n) ∧ (n ≤ 1048576) ∧ (szR n (sumC costEnt (a.drop i)) = szR left (costL costEnt a))) (fun (⟨i, n⟩ : Nat × Int) => a.length - i) (0, (left - ((a.length : Nat) : Int))) ?_ ?_
    ·
      exact ⟨(Sl.cons_ ha11 rfl rfl (Sl.cons_ ha11 rfl (int_eq (by omega)) (Sl.cons_ ha11 rfl (int_eq (by omega)) (Sl.nil_ ha11)))), hx0, (by omega), (by omega), (by omega), (by omega), (by unfold costL; rw [szR_add (by rw [szR_nif (by omega)]; omega), szR_nif (k := a.length) (by omega)]; rfl)⟩
    ·
      clear ha11 a11
      rintro ⟨i, n⟩ a14 w12 ⟨ha14, hx13, hzl15, hi, hn0, hn1, hF⟩
      have hzhx13 := hx13.size
      refine wp_seq ?_
      refine wp_seq ?_
      refine wp_region_lit ?_
      refine wl_val ha14 rfl rfl rfl (op_move ha14 rfl rfl) ?_
      intro a16 ha16; clear ha14 a14
      refine wl_val ha16 rfl rfl rfl (op_move ha16 rfl rfl) ?_
      intro a17 ha17; clear ha16 a16
      refine wl_val ha17 rfl rfl rfl (op_len_sl ha17 rfl Try.underlying22 rfl h_a) ?_
      intro a18 ha18; clear ha17 a17
      refine wl_val ha18 rfl rfl rfl (op_lss ha18 rfl rfl rfl) ?_
      intro a19 ha19; clear ha18 a18
      refine wpList_nil ?_
      refine then_n ?_
      by_cases c20 : ((i : Nat) : Int) < ((a.length : Nat) : Int)
      ·
        rw [decide_eq_true c20] at ha19
        refine cond_t ha19 rfl ?_
        refine wp_skip ?_
        refine then_n ?_
        refine wp_seq ?_
        refine wp_block ?_
        refine wp_seq ?_
        refine wp_region_lit ?_
        refine wl_val ha19 rfl rfl rfl (op_move ha19 rfl rfl) ?_
        intro a21 ha21; clear ha19 a19
        refine wl_val ha21 rfl rfl rfl (op_move ha21 rfl rfl) ?_
        intro a22 ha22; clear ha21 a21
        obtain ⟨x23, hx23⟩ := get_ex (xs := a) (j := i) (by omega)
        obtain ⟨p24, c25, hi26, hc27, hr28, hs29⟩ := Rds.at_ h_a hx23
        obtain ⟨rfl, b30, b31, b32, b33⟩ := inv_shEnt hr28
        refine wl_val ha22 rfl rfl rfl (op_indexAddr ha22 rfl Try.underlying22 ti37 rfl rfl (by omega) hi26) ?_
        intro a34 ha34; clear ha22 a22
        refine wl_val ha34 rfl rfl rfl (op_loadS ha34 rfl Try.underlying37 ti37 rfl rfl (hc27.ext hx13)) ?_
        intro a35 ha35; clear ha34 a34
        refine wl_val ha35 rfl rfl rfl (op_move ha35 rfl rfl) ?_
        intro a36 ha36; clear ha35 a35
        refine wl_callR ha36 rfl rfl rfl (op_call ha36 rfl cb28 rfl) (c_laws_szEntry _ x23 n (by first | assumption | omega | (simp; omega) | (simp [mkN_length]; omega)) (by first | assumption | omega | (simp; omega) | (simp [mkN_length]; omega)) (by first | assumption | omega | (simp; omega) | (simp [mkN_length]; omega))) ?_
        rintro v37 w38 he39 rfl a40 ha40; clear ha36 a36
        have hx41 := hx13.trans' he39
        have hzhx41 := he39.size
        refine wl_val ha40 rfl rfl rfl (op_assign ha40 rfl rfl) ?_
        intro a42 ha42; clear ha40 a40
        refine wpList_nil ?_
        refine then_n ?_
        refine wp_seq ?_
        refine wp_region_lit ?_
        refine wl_val ha42 rfl rfl rfl (op_move ha42 rfl rfl) ?_
        intro a43 ha43; clear ha42 a42
        refine wl_val ha43 rfl rfl rfl (op_lss ha43 rfl rfl rfl) ?_
        intro a44 ha44; clear ha43 a43
        refine wpList_nil ?_
        refine then_n ?_
        by_cases c45 : (szR n (costEnt x23) : Int) < (0 : Int)
        ·
          rw [decide_eq_true c45] at ha44
          refine cond_t ha44 rfl ?_
          refine wp_seq ?_
          refine wp_region_lit ?_
          refine wl_val ha44 rfl rfl rfl (op_assign ha44 rfl rfl) ?_
          intro a46 ha46; clear ha44 a44
          refine wpList_nil ?_
          refine then_n ?_
          refine wp_ret ?_
          refine block_r ?_
          refine then_r ?_
          refine then_r ?_
          refine block_r ?_
          refine then_r ?_
          refine ret1 ha46 rfl rfl ?_
          clear ha46 a46
          rw [drop_cons hx23] at hF
          simp only [sumC] at hF
          rw [szR_neg (by omega)] at hF
          exact ret_mk hx41 (int_eq (by exact hF))
        ·
          rw [decide_eq_false c45] at ha44
          refine cond_f ha44 rfl ?_
          refine wp_skip ?_
          refine block_n ?_
          refine then_n ?_
          refine wp_region_lit ?_
          refine wl_val ha44 rfl rfl rfl (op_move ha44 rfl rfl) ?_
          intro a47 ha47; clear ha44 a44
          refine wl_val ha47 rfl rfl rfl ((op_add ha47 rfl rfl rfl).int (IntWalk.i64_in _ (by omega))) ?_
          intro a48 ha48; clear ha47 a47
          refine wl_val ha48 rfl rfl rfl (op_assign ha48 rfl rfl) ?_
          intro a49 ha49; clear ha48 a48
          refine wpList_nil ?_
          refine round_end (x := (i, n)) ((i + 1), (szR n (costEnt x23) : Int)) ?_ ?_
          ·
            refine ⟨(Sl.cons_ ha49 rfl rfl (Sl.cons_ ha49 rfl (int_eq (by omega)) (Sl.cons_ ha49 rfl (int_eq (by omega)) (Sl.nil_ ha49)))), hx41, (by omega), (by omega), (by omega), (by have := szR_le (k := costEnt x23) hn0; omega), (by rw [drop_cons hx23] at hF; simp only [sumC] at hF; rw [szR_add (by omega)] at hF; exact hF)⟩
          · show (a.length - ((i + 1)) : Nat) < a.length - i; omega
      ·
        rw [decide_eq_false c20] at ha19
        refine cond_f ha19 rfl ?_
        refine wp_exit ?_
        refine then_e ?_
        refine then_e ?_
        refine block_hit ?_
        refine then_n ?_
        refine wp_seq ?_
        refine wp_region_lit ?_
        refine wl_val ha19 rfl rfl rfl (op_move ha19 rfl rfl) ?_
        intro a50 ha50; clear ha19 a19
        refine wl_val ha50 rfl rfl rfl (op_assign ha50 rfl rfl) ?_
        intro a51 ha51; clear ha50 a50
        refine wpList_nil ?_
        refine then_n ?_
        refine wp_ret ?_
        refine ret1 ha51 rfl rfl ?_
        clear ha51 a51
        rw [drop_nil (by omega)] at hF
        simp only [sumC] at hF
        rw [szR_zero (by omega)] at hF
        exact ret_mk hx13 (int_eq (by exact hF))

theorem c_laws_toEntry (w0 : World) (a : Int × Int × Str × Int)  :
    Calls Try.prog 30 #[.agg #[.int .i64 a.1, .int .i64 a.2.1, St a.2.2.1, .int .i64 a.2.2.2]] w0 (Ret w0 (fun v _ => v = .agg #[.int .i64 ((a)).1, .int .i64 ((a)).2.1, St (((a)).2.2.1), .int .i64 ((a)).2.2.2])) := by
  refine enter (N := 17) Try.func30 rfl rfl rfl ?_
  intro a0 ha0
  have hx0 := Ext.rfl' w0
  refine wp_seq ?_
  refine wp_region_lit ?_
  refine wl_eff ha0 rfl rfl rfl (op_box' ha0 rfl rfl rfl) ?_
  rintro _ w2 ⟨rfl, he3, hb4, hz5⟩ a6 ha6; clear ha0 a0
  have hx7 := hx0.trans' he3
  have hzhx7 := he3.size
  refine wl_eff ha6 rfl rfl rfl (op_alloc' rfl ti41 rfl) ?_
  rintro _ w9 ⟨rfl, he10, hb11, hz12⟩ a13 ha13; clear ha6 a6
  have hx14 := hx7.trans' he10
  have hzhx14 := he10.size
  replace hb4 := hb4.ext he10
  refine wpList_nil ?_
  refine then_n ?_
  refine wp_seq ?_
  refine wp_region_lit ?_
  refine wl_eff ha13 rfl rfl rfl (op_alloc' rfl ti41 rfl) ?_
  rintro _ w16 ⟨rfl, he17, hb18, hz19⟩ a20 ha20; clear ha13 a13
  have hx21 := hx14.trans' he17
  have hzhx21 := he17.size
  replace hb4 := hb4.ext he17
  replace hb11 := hb11.ext he17
  refine wpList_nil ?_
  refine then_n ?_
  refine wp_seq ?_
  refine wp_region_lit ?_
  refine wl_val ha20 rfl rfl rfl (op_fieldAddr (sz := 0) ha20 rfl Try.underlying37 rfl rfl ti2 rfl) ?_
  intro a22 ha22; clear ha20 a20
  refine wl_val ha22 rfl rfl rfl (op_loadF (off := 0) ha22 rfl Try.underlying2 rfl rfl hb4.cells rfl) ?_
  intro a23 ha23; clear ha22 a22
  refine wl_val ha23 rfl rfl rfl (op_fieldAddr (sz := 0) ha23 rfl Try.underlying41 rfl rfl ti2 rfl) ?_
  intro a24 ha24; clear ha23 a23
  refine wl_effS ha24 rfl rfl (op_store' (off := 0) ha24 rfl ti2 rfl rfl hb18 rfl rfl (by simp [Value.oneCell']) (Nat.le_of_ble_eq_true rfl)) ?_
  rintro w25 ⟨hb27, hst26, hz28⟩
  have hx29 := hx21.stp hst26 (by intro q hq; cases hq; exact (by omega))
  have hzhx29 := hst26.size
  replace hb4 := hb4.stp hst26 (by intro q hq; cases hq; omega)
  replace hb11 := hb11.stp hst26 (by intro q hq; cases hq; omega)
  clear hb18
  refine wpList_nil ?_
  refine then_n ?_
  refine wp_seq ?_
  refine wp_region_lit ?_
  refine wl_val ha24 rfl rfl rfl (op_fieldAddr (sz := 0) ha24 rfl Try.underlying37 rfl rfl ti2 rfl) ?_
  intro a30 ha30; clear ha24 a24
  refine wl_val ha30 rfl rfl rfl (op_loadF (off := 1) ha30 rfl Try.underlying2 rfl rfl hb4.cells rfl) ?_
  intro a31 ha31; clear ha30 a30
  refine wl_val ha31 rfl rfl rfl (op_fieldAddr (sz := 0) ha31 rfl Try.underlying41 rfl rfl ti2 rfl) ?_
  intro a32 ha32; clear ha31 a31
  refine wl_effS ha32 rfl rfl (op_store' (off := 1) ha32 rfl ti2 rfl rfl hb27 rfl rfl (by simp [Value.oneCell']) (Nat.le_of_ble_eq_true rfl)) ?_
  rintro w33 ⟨hb35, hst34, hz36⟩
  have hx37 := hx29.stp hst34 (by intro q hq; cases hq; exact (by omega))
  have hzhx37 := hst34.size
  replace hb4 := hb4.stp hst34 (by intro q hq; cases hq; omega)
  replace hb11 := hb11.stp hst34 (by intro q hq; cases hq; omega)
  clear hb27
  refine wpList_nil ?_
  refine then_n ?_
  refine wp_seq ?_
  refine wp_region_lit ?_
  refine wl_val ha32 rfl rfl rfl (op_fieldAddr (sz := 0) ha32 rfl Try.underlying37 rfl rfl ti9 rfl) ?_
  intro a38 ha38; clear ha32 a32
  refine wl_val ha38 rfl rfl rfl (op_loadF (off := 2) ha38 rfl Try.underlying9 rfl rfl hb4.cells rfl) ?_
  intro a39 ha39; clear ha38 a38
  refine wl_val ha39 rfl rfl rfl (op_fieldAddr (sz := 0) ha39 rfl Try.underlying41 rfl rfl ti9 rfl) ?_
  intro a40 ha40; clear ha39 a39
  refine wl_effS ha40 rfl rfl (op_store' (off := 2) ha40 rfl ti9 rfl rfl hb35 rfl rfl (by simp [Value.oneCell']) (Nat.le_of_ble_eq_true rfl)) ?_
  rintro w41 ⟨hb43, hst42, hz44⟩
  have hx45 := hx37.stp hst42 (by intro q hq; cases hq; exact (by omega))
  have hzhx45 := hst42.size
  replace hb4 := hb4.stp hst42 (by intro q hq; cases hq; omega)
  replace hb11 := hb11.stp hst42 (by intro q hq; cases hq; omega)
  clear hb35
  refine wpList_nil ?_
  refine then_n ?_
  refine wp_seq ?_
  refine wp_region_lit ?_
  refine wl_val ha40 rfl rfl rfl (op_fieldAddr (sz := 0) ha40 rfl Try.underlying37 rfl rfl ti2 rfl) ?_
  intro a46 ha46; clear ha40 a40
  refine wl_val ha46 rfl rfl rfl (op_loadF (off := 3) ha46 rfl Try.underlying2 rfl rfl hb4.cells rfl) ?_
  intro a47 ha47; clear ha46 a46
  refine wl_val ha47 rfl rfl rfl (op_fieldAddr (sz := 0) ha47 rfl Try.underlying41 rfl rfl ti2 rfl) ?_
  intro a48 ha48; clear ha47 a47
  refine wl_effS ha48 rfl rfl (op_store' (off := 3) ha48 rfl ti2 rfl rfl hb43 rfl rfl (by simp [Value.oneCell']) (Nat.le_of_ble_eq_true rfl)) ?_
  rintro w49 ⟨hb51, hst50, hz52⟩
  have hx53 := hx45.stp hst50 (by intro q hq; cases hq; exact (by omega))
  have hzhx53 := hst50.size
  replace hb4 := hb4.stp hst50 (by intro q hq; cases hq; omega)
  replace hb11 := hb11.stp hst50 (by intro q hq; cases hq; omega)
  clear hb43
  refine wpList_nil ?_
  refine then_n ?_
  refine wp_seq ?_
  refine wp_region_lit ?_
  refine wl_val ha48 rfl rfl rfl (op_loadS ha48 rfl Try.underlying41 ti41 rfl rfl hb51.cells) ?_
  intro a54 ha54; clear ha48 a48
  refine wl_effS ha54 rfl rfl (op_storeAll' ha54 rfl ti41 rfl rfl hb11 rfl rfl (by simp [Value.oneCell']) rfl) ?_
  rintro w55 ⟨hb57, hst56, hz58⟩
  have hx59 := hx53.stp hst56 (by intro q hq; cases hq; exact (by omega))
  have hzhx59 := hst56.size
  replace hb4 := hb4.stp hst56 (by intro q hq; cases hq; omega)
  replace hb51 := hb51.stp hst56 (by intro q hq; cases hq; omega)
  clear hb11
  refine wpList_nil ?_
  refine then_n ?_
  refine wp_ret ?_
  refine retc ha54 rfl rfl Try.underlying41 ti41 rfl hb57.cells ?_
  clear ha54 a54
  exact ret_mk hx59 (by rfl)

theorem c_laws_toEntryS (w0 : World) (v_a : Value) (a : List (Int × Int × Str × Int)) {S_a : Nat → Prop} (h_a : Rds shEnt S_a w0 v_a a) (g0 : a.length ≤ 1048576) :
    Calls Try.prog 17 #[v_a] w0 (Ret w0 (fun v w1 => Own shEnt 41 w0.heap.size w0.heap.size w1.heap.size w1 v (a))) := by
  refine enter (N := 23) Try.func17 rfl rfl rfl ?_
  intro a0 ha0
  have hx0 := Ext.rfl' w0
  have hl_a := h_a.length_le
  refine wp_seq ?_
  refine wp_region_lit ?_
  refine wl_val ha0 rfl rfl rfl (op_assign ha0 rfl rfl) ?_
  intro a1 ha1; clear ha0 a0
  refine wpList_nil ?_
  refine then_n ?_
  refine wp_seq ?_
  refine wp_region_lit ?_
  refine wl_val ha1 rfl rfl rfl (op_move ha1 rfl rfl) ?_
  intro a2 ha2; clear ha1 a1
  refine wl_val ha2 rfl rfl rfl (op_len_sl ha2 rfl Try.underlying22 rfl h_a) ?_
  intro a3 ha3; clear ha2 a2
  refine wl_eff ha3 rfl rfl rfl (op_make (s := shEnt) (n := a.length) (k' := .i64) ha3 rfl Try.underlying25 ti41 pos_shEnt rfl (by omega) zero_shEnt (by omega) (by omega)) ?_
  rintro v4 w5 ⟨ho6, he7⟩ a8 ha8; clear ha3 a3
  have hx9 := hx0.trans' he7
  have hzhx9 := he7.size
  refine wl_val ha8 rfl rfl rfl (op_assign ha8 rfl rfl) ?_
  intro a10 ha10; clear ha8 a8
  refine wpList_nil ?_
  refine then_n ?_
  refine wp_seq ?_
  refine wp_seq ?_
  refine wp_region_lit ?_
  refine wl_val ha10 rfl rfl rfl (op_assign ha10 rfl rfl) ?_
  intro a11 ha11; clear ha10 a10
  refine wpList_nil ?_
  refine then_n ?_
  refine wp_block ?_
  refine loop_inv (X := Nat × Value × (List (Int × Int × Str × Int))) (fun (⟨i, v, acc⟩ : Nat × Value × (List (Int × Int × Str × Int))) fr wl => Sl 23 fr [(0, v_a), (3, v), (4, .int .i64 ((i : Nat) : Int))] ∧ Ext w0 wl ∧ Own shEnt 41 w0.heap.size w0.heap.size wl.heap.size wl v acc ∧ w5.heap.size ≤ wl.heap.size ∧ (i ≤ a.length) ∧ (acc.length = a.length) ∧ (acc.take i = a.take i)) (fun (⟨i, v, acc⟩ : Nat × Value × (List (Int × Int × Str × Int))) => a.length - i) (0, v4, (List.replicate a.length ((0, 0, [], 0) : Int × Int × Str × Int))) ?_ ?_
  ·
    exact ⟨(Sl.cons_ ha11 rfl rfl (Sl.cons_ ha11 rfl rfl (Sl.cons_ ha11 rfl (int_eq (by omega)) (Sl.nil_ ha11)))), hx9, (ho6.fin (by omega) (by omega) (by omega)), (by omega), (by omega), (by simp), (by simp)⟩
  ·
    clear ha11 a11
    rintro ⟨i, v, acc⟩ a15 w12 ⟨ha15, hx13, hf14, hzl16, hi, hl, hF⟩
    have hzhx13 := hx13.size
    refine wp_seq ?_
    refine wp_seq ?_
    refine wp_region_lit ?_
    refine wl_val ha15 rfl rfl rfl (op_move ha15 rfl rfl) ?_
    intro a17 ha17; clear ha15 a15
    refine wl_val ha17 rfl rfl rfl (op_move ha17 rfl rfl) ?_
    intro a18 ha18; clear ha17 a17
    refine wl_val ha18 rfl rfl rfl (op_len_sl ha18 rfl Try.underlying22 rfl h_a) ?_
    intro a19 ha19; clear ha18 a18
    refine wl_val ha19 rfl rfl rfl (op_lss ha19 rfl rfl rfl) ?_
    intro a20 ha20; clear ha19 a19
    refine wpList_nil ?_
    refine then_n ?_
    by_cases c21 : ((i : Nat) : Int) < ((a.length : Nat) : Int)
    ·
      rw [decide_eq_true c21] at ha20
      refine cond_t ha20 rfl ?_
      refine wp_skip ?_
      refine then_n ?_
      refine wp_seq ?_
      refine wp_block ?_
      refine wp_region_lit ?_
      refine wl_val ha20 rfl rfl rfl (op_move ha20 rfl rfl) ?_
      intro a22 ha22; clear ha20 a20
      refine wl_val ha22 rfl rfl rfl (op_move ha22 rfl rfl) ?_
      intro a23 ha23; clear ha22 a22
      refine wl_val ha23 rfl rfl rfl (op_move ha23 rfl rfl) ?_
      intro a24 ha24; clear ha23 a23
      refine wl_val ha24 rfl rfl rfl (op_move ha24 rfl rfl) ?_
      intro a25 ha25; clear ha24 a24
      obtain ⟨x26, hx26⟩ := get_ex (xs := a) (j := i) (by omega)
      obtain ⟨p27, c28, hi29, hc30, hr31, hs32⟩ := Rds.at_ h_a hx26
      obtain ⟨rfl, b33, b34, b35, b36⟩ := inv_shEnt hr31
      refine wl_val ha25 rfl rfl rfl (op_indexAddr ha25 rfl Try.underlying22 ti37 rfl rfl (by omega) hi29) ?_
      intro a37 ha37; clear ha25 a25
      refine wl_val ha37 rfl rfl rfl (op_loadS ha37 rfl Try.underlying37 ti37 rfl rfl (hc30.ext hx13)) ?_
      intro a38 ha38; clear ha37 a37
      refine wl_callR ha38 rfl rfl rfl (op_call ha38 rfl cb30 rfl) (c_laws_toEntry _ x26 ) ?_
      rintro v39 w40 he41 rfl a42 ha42; clear ha38 a38
      have hx43 := hx13.trans' he41
      have hzhx43 := he41.size
      replace hf14 := hf14.ext he41
      obtain ⟨x44, hx44⟩ := get_ex (xs := acc) (j := i) (by omega)
      obtain ⟨p45, c46, hi47, hc48, hr49, hs50⟩ := Rds.at_ (hf14.rds pos_shEnt) hx44
      obtain ⟨rfl, b51, b52, b53, b54⟩ := inv_shEnt hr49
      obtain ⟨_, _⟩ : _ ∧ _ := hs50
      refine wl_val ha42 rfl rfl rfl (op_indexAddr ha42 rfl Try.underlying25 ti41 rfl rfl (by omega) hi47) ?_
      intro a55 ha55; clear ha42 a42
      refine wl_effS ha55 rfl rfl (op_setElem (s := shEnt) (ds := [.int .i64 ((x26)).1, .int .i64 ((x26)).2.1, St (((x26)).2.2.1), .int .i64 ((x26)).2.2.2]) (S' := fun _ => False) ha55 rfl ti41 rfl rfl rfl hf14 pos_shEnt hi47 (by omega) (mk_shEnt ((x26)) (by first | assumption | omega | (simp; omega)) (by first | assumption | omega | (simp; omega)) (by first | assumption | omega | (simp; omega)) (by first | assumption | omega | (simp; omega))) (fun _ h => h.elim)) ?_
      rintro w56 ⟨ho58, hst57, hz59⟩
      have hx60 := hx43.stp hst57 (by intro q hq; have hq0 := hf14.lt q hq; omega)
      have hzhx60 := hst57.size
      clear hf14
      have hlsho58 : ((acc.set i ((x26)))).length = acc.length := List.length_set
      refine wpList_nil ?_
      refine block_n ?_
      refine then_n ?_
      refine wp_region_lit ?_
      refine wl_val ha55 rfl rfl rfl (op_move ha55 rfl rfl) ?_
      intro a61 ha61; clear ha55 a55
      refine wl_val ha61 rfl rfl rfl ((op_add ha61 rfl rfl rfl).int (IntWalk.i64_in _ (by omega))) ?_
      intro a62 ha62; clear ha61 a61
      refine wl_val ha62 rfl rfl rfl (op_assign ha62 rfl rfl) ?_
      intro a63 ha63; clear ha62 a62
      refine wpList_nil ?_
      refine round_end (x := (i, v, acc)) ((i + 1), v, (acc.set i ((x26)))) ?_ ?_
      ·
        refine ⟨(Sl.cons_ ha63 rfl rfl (Sl.cons_ ha63 rfl rfl (Sl.cons_ ha63 rfl (int_eq (by omega)) (Sl.nil_ ha63)))), hx60, (ho58.fin (by omega) (by omega) (by omega)), (by omega), (by omega), (by simpa using hl), (by exact set_take hF hl hx26)⟩
      · show (a.length - ((i + 1)) : Nat) < a.length - i; omega
    ·
      rw [decide_eq_false c21] at ha20
      refine cond_f ha20 rfl ?_
      refine wp_exit ?_
      refine then_e ?_
      refine then_e ?_
      refine block_hit ?_
      refine then_n ?_
      refine wp_seq ?_
      refine wp_region_lit ?_
      refine wl_val ha20 rfl rfl rfl (op_move ha20 rfl rfl) ?_
      intro a64 ha64; clear ha20 a20
      refine wl_val ha64 rfl rfl rfl (op_assign ha64 rfl rfl) ?_
      intro a65 ha65; clear ha64 a64
      refine wpList_nil ?_
      refine then_n ?_
      refine wp_ret ?_
      refine ret1 ha65 rfl rfl ?_
      clear ha65 a65
      refine ret_mk hx13 ?_
      refine (hf14.fin (by omega) (by omega) (by omega)).cast ?_
      rw [List.take_of_length_le (by omega)] at hF; rw [List.take_of_length_le (by omega)] at hF; exact hF

theorem c_laws_eqEntry (w0 : World) (a : Int × Int × Str × Int) (b : Int × Int × Str × Int)  :
    Calls Try.prog 60 #[.agg #[.int .i64 a.1, .int .i64 a.2.1, St a.2.2.1, .int .i64 a.2.2.2], .agg #[.int .i64 b.1, .int .i64 b.2.1, St b.2.2.1, .int .i64 b.2.2.2]] w0 (Ret w0 (fun v _ => v = .bool (decide (a = b)))) := by
  refine enter (N := 25) Try.func60 rfl rfl rfl ?_
  intro a0 ha0
  have hx0 := Ext.rfl' w0
  refine wp_seq ?_
  refine wp_region_lit ?_
  refine wl_eff ha0 rfl rfl rfl (op_box' ha0 rfl rfl rfl) ?_
  rintro _ w2 ⟨rfl, he3, hb4, hz5⟩ a6 ha6; clear ha0 a0
  have hx7 := hx0.trans' he3
  have hzhx7 := he3.size
  refine wl_eff ha6 rfl rfl rfl (op_box' ha6 rfl rfl rfl) ?_
  rintro _ w9 ⟨rfl, he10, hb11, hz12⟩ a13 ha13; clear ha6 a6
  have hx14 := hx7.trans' he10
  have hzhx14 := he10.size
  replace hb4 := hb4.ext he10
  refine wl_val ha13 rfl rfl rfl (op_assign ha13 rfl rfl) ?_
  intro a15 ha15; clear ha13 a13
  refine wpList_nil ?_
  refine then_n ?_
  refine wp_seq ?_
  refine wp_seq ?_
  refine wp_region_lit ?_
  refine wl_val ha15 rfl rfl rfl (op_fieldAddr (sz := 0) ha15 rfl Try.underlying41 rfl rfl ti2 rfl) ?_
  intro a16 ha16; clear ha15 a15
  refine wl_val ha16 rfl rfl rfl (op_loadF (off := 0) ha16 rfl Try.underlying2 rfl rfl hb4.cells rfl) ?_
  intro a17 ha17; clear ha16 a16
  refine wl_val ha17 rfl rfl rfl (op_fieldAddr (sz := 0) ha17 rfl Try.underlying41 rfl rfl ti2 rfl) ?_
  intro a18 ha18; clear ha17 a17
  refine wl_val ha18 rfl rfl rfl (op_loadF (off := 0) ha18 rfl Try.underlying2 rfl rfl hb11.cells rfl) ?_
  intro a19 ha19; clear ha18 a18
  refine wl_val ha19 rfl rfl rfl ((op_neq ha19 rfl rfl rfl).to (congrArg Value.bool decide_not)) ?_
  intro a20 ha20; clear ha19 a19
  refine wpList_nil ?_
  refine then_n ?_
  by_cases c21 : a.1 = b.1
  ·
    rw [decide_eq_true c21] at ha20
    refine cond_f ha20 rfl ?_
    refine wp_skip ?_
    refine then_n ?_
    refine wp_seq ?_
    refine wp_seq ?_
    refine wp_region_lit ?_
    refine wl_val ha20 rfl rfl rfl (op_fieldAddr (sz := 0) ha20 rfl Try.underlying41 rfl rfl ti2 rfl) ?_
    intro a22 ha22; clear ha20 a20
    refine wl_val ha22 rfl rfl rfl (op_loadF (off := 1) ha22 rfl Try.underlying2 rfl rfl hb4.cells rfl) ?_
    intro a23 ha23; clear ha22 a22
    refine wl_val ha23 rfl rfl rfl (op_fieldAddr (sz := 0) ha23 rfl Try.underlying41 rfl rfl ti2 rfl) ?_
    intro a24 ha24; clear ha23 a23
    refine wl_val ha24 rfl rfl rfl (op_loadF (off := 1) ha24 rfl Try.underlying2 rfl rfl hb11.cells rfl) ?_
    intro a25 ha25; clear ha24 a24
    refine wl_val ha25 rfl rfl rfl ((op_neq ha25 rfl rfl rfl).to (congrArg Value.bool decide_not)) ?_
    intro a26 ha26; clear ha25 a25
    refine wpList_nil ?_
    refine then_n ?_
    by_cases c27 : a.2.1 = b.2.1
    ·
      rw [decide_eq_true c27] at ha26
      refine cond_f ha26 rfl ?_
      refine wp_skip ?_
      refine then_n ?_
      refine wp_seq ?_
      refine wp_seq ?_
      refine wp_region_lit ?_
      refine wl_val ha26 rfl rfl rfl (op_fieldAddr (sz := 0) ha26 rfl Try.underlying41 rfl rfl ti9 rfl) ?_
      intro a28 ha28; clear ha26 a26
      refine wl_val ha28 rfl rfl rfl (op_loadF (off := 2) ha28 rfl Try.underlying9 rfl rfl hb4.cells rfl) ?_
      intro a29 ha29; clear ha28 a28
      refine wl_val ha29 rfl rfl rfl (op_fieldAddr (sz := 0) ha29 rfl Try.underlying41 rfl rfl ti9 rfl) ?_
      intro a30 ha30; clear ha29 a29
      refine wl_val ha30 rfl rfl rfl (op_loadF (off := 2) ha30 rfl Try.underlying9 rfl rfl hb11.cells rfl) ?_
      intro a31 ha31; clear ha30 a30
      refine wl_val ha31 rfl rfl rfl ((op_sneq ha31 rfl rfl rfl).to (congrArg Value.bool decide_not)) ?_
      intro a32 ha32; clear ha31 a31
      refine wpList_nil ?_
      refine then_n ?_
      by_cases c33 : a.2.2.1 = b.2.2.1
      ·
        rw [decide_eq_true c33] at ha32
        refine cond_f ha32 rfl ?_
        refine wp_skip ?_
        refine then_n ?_
        refine wp_seq ?_
        refine wp_seq ?_
        refine wp_region_lit ?_
        refine wl_val ha32 rfl rfl rfl (op_fieldAddr (sz := 0) ha32 rfl Try.underlying41 rfl rfl ti2 rfl) ?_
        intro a34 ha34; clear ha32 a32
        refine wl_val ha34 rfl rfl rfl (op_loadF (off := 3) ha34 rfl Try.underlying2 rfl rfl hb4.cells rfl) ?_
        intro a35 ha35; clear ha34 a34
        refine wl_val ha35 rfl rfl rfl (op_fieldAddr (sz := 0) ha35 rfl Try.underlying41 rfl rfl ti2 rfl) ?_
        intro a36 ha36; clear ha35 a35
        refine wl_val ha36 rfl rfl rfl (op_loadF (off := 3) ha36 rfl Try.underlying2 rfl rfl hb11.cells rfl) ?_
        intro a37 ha37; clear ha36 a36
        refine wl_val ha37 rfl rfl rfl ((op_neq ha37 rfl rfl rfl).to (congrArg Value.bool decide_not)) ?_
        intro a38 ha38; clear ha37 a37
        refine wpList_nil ?_
        refine then_n ?_
        by_cases c39 : a.2.2.2 = b.2.2.2
        ·
          rw [decide_eq_true c39] at ha38
          refine cond_f ha38 rfl ?_
          refine wp_skip ?_
          refine then_n ?_
          refine wp_seq ?_
          refine wp_region_lit ?_
          refine wl_val ha38 rfl rfl rfl (op_assign ha38 rfl rfl) ?_
          intro a40 ha40; clear ha38 a38
          refine wpList_nil ?_
          refine then_n ?_
          refine wp_ret ?_
          refine ret1 ha40 rfl rfl ?_
          clear ha40 a40
          exact ret_mk hx14 (congrArg Value.bool (by simp [Prod.ext_iff, c21, c27, c33, c39]))
        ·
          rw [decide_eq_false c39] at ha38
          refine cond_t ha38 rfl ?_
          refine wp_seq ?_
          refine wp_region_lit ?_
          refine wl_val ha38 rfl rfl rfl (op_assign ha38 rfl rfl) ?_
          intro a41 ha41; clear ha38 a38
          refine wpList_nil ?_
          refine then_n ?_
          refine wp_ret ?_
          refine then_r ?_
          refine ret1 ha41 rfl rfl ?_
          clear ha41 a41
          exact ret_mk hx14 (congrArg Value.bool (by simp [Prod.ext_iff, c21, c27, c33, c39]))
      ·
        rw [decide_eq_false c33] at ha32
        refine cond_t ha32 rfl ?_
        refine wp_seq ?_
        refine wp_region_lit ?_
        refine wl_val ha32 rfl rfl rfl (op_assign ha32 rfl rfl) ?_
        intro a42 ha42; clear ha32 a32
        refine wpList_nil ?_
        refine then_n ?_
        refine wp_ret ?_
        refine then_r ?_
        refine ret1 ha42 rfl rfl ?_
        clear ha42 a42
        exact ret_mk hx14 (congrArg Value.bool (by simp [Prod.ext_iff, c21, c27, c33]))
    ·
      rw [decide_eq_false c27] at ha26
      refine cond_t ha26 rfl ?_
      refine wp_seq ?_
      refine wp_region_lit ?_
      refine wl_val ha26 rfl rfl rfl (op_assign ha26 rfl rfl) ?_
      intro a43 ha43; clear ha26 a26
      refine wpList_nil ?_
      refine then_n ?_
      refine wp_ret ?_
      refine then_r ?_
      refine ret1 ha43 rfl rfl ?_
      clear ha43 a43
      exact ret_mk hx14 (congrArg Value.bool (by simp [Prod.ext_iff, c21, c27]))
  ·
    rw [decide_eq_false c21] at ha20
    refine cond_t ha20 rfl ?_
    refine wp_seq ?_
    refine wp_region_lit ?_
    refine wl_val ha20 rfl rfl rfl (op_assign ha20 rfl rfl) ?_
    intro a44 ha44; clear ha20 a20
    refine wpList_nil ?_
    refine then_n ?_
    refine wp_ret ?_
    refine then_r ?_
    refine ret1 ha44 rfl rfl ?_
    clear ha44 a44
    exact ret_mk hx14 (congrArg Value.bool (by simp [Prod.ext_iff, c21]))

theorem c_laws_eqEntryS (w0 : World) (v_a : Value) (a : List (Int × Int × Str × Int)) {S_a : Nat → Prop} (v_b : Value) (b : List (Int × Int × Str × Int)) {S_b : Nat → Prop} (h_a : Rds shEnt S_a w0 v_a a) (h_b : Rds shEnt S_b w0 v_b b) :
    Calls Try.prog 19 #[v_a, v_b] w0 (Ret w0 (fun v _ => v = .bool (eqL a b))) := by
  refine enter (N := 27) Try.func19 rfl rfl rfl ?_
  intro a0 ha0
  have hx0 := Ext.rfl' w0
  have hl_a := h_a.length_le
  have hl_b := h_b.length_le
  refine wp_seq ?_
  refine wp_region_lit ?_
  refine wl_val ha0 rfl rfl rfl (op_assign ha0 rfl rfl) ?_
  intro a1 ha1; clear ha0 a0
  refine wpList_nil ?_
  refine then_n ?_
  refine wp_seq ?_
  refine wp_seq ?_
  refine wp_region_lit ?_
  refine wl_val ha1 rfl rfl rfl (op_move ha1 rfl rfl) ?_
  intro a2 ha2; clear ha1 a1
  refine wl_val ha2 rfl rfl rfl (op_len_sl ha2 rfl Try.underlying25 rfl h_a) ?_
  intro a3 ha3; clear ha2 a2
  refine wl_val ha3 rfl rfl rfl (op_move ha3 rfl rfl) ?_
  intro a4 ha4; clear ha3 a3
  refine wl_val ha4 rfl rfl rfl (op_len_sl ha4 rfl Try.underlying25 rfl h_b) ?_
  intro a5 ha5; clear ha4 a4
  refine wl_val ha5 rfl rfl rfl ((op_neq ha5 rfl rfl rfl).to (congrArg Value.bool decide_not)) ?_
  intro a6 ha6; clear ha5 a5
  refine wpList_nil ?_
  refine then_n ?_
  by_cases c7 : ((a.length : Nat) : Int) = ((b.length : Nat) : Int)
  ·
    rw [decide_eq_true c7] at ha6
    refine cond_f ha6 rfl ?_
    refine wp_skip ?_
    refine then_n ?_
    refine wp_seq ?_
    refine wp_seq ?_
    refine wp_region_lit ?_
    refine wl_val ha6 rfl rfl rfl (op_assign ha6 rfl rfl) ?_
    intro a8 ha8; clear ha6 a6
    refine wpList_nil ?_
    refine then_n ?_
    refine wp_block ?_
    refine loop_inv (X := Nat) (fun (i : Nat) fr wl => Sl 27 fr [(0, v_a), (1, v_b), (5, .int .i64 ((i : Nat) : Int))] ∧ Ext w0 wl ∧ w0.heap.size ≤ wl.heap.size ∧ (i ≤ a.length) ∧ (a.length = b.length) ∧ (eqL (a.drop i) (b.drop i) = eqL a b)) (fun (i : Nat) => a.length - i) (0) ?_ ?_
    ·
      exact ⟨(Sl.cons_ ha8 rfl rfl (Sl.cons_ ha8 rfl rfl (Sl.cons_ ha8 rfl (int_eq (by omega)) (Sl.nil_ ha8)))), hx0, (by omega), (by omega), (by omega), (by simp)⟩
    ·
      clear ha8 a8
      rintro i a11 w9 ⟨ha11, hx10, hzl12, hi, hl, hF⟩
      have hzhx10 := hx10.size
      refine wp_seq ?_
      refine wp_seq ?_
      refine wp_region_lit ?_
      refine wl_val ha11 rfl rfl rfl (op_move ha11 rfl rfl) ?_
      intro a13 ha13; clear ha11 a11
      refine wl_val ha13 rfl rfl rfl (op_move ha13 rfl rfl) ?_
      intro a14 ha14; clear ha13 a13
      refine wl_val ha14 rfl rfl rfl (op_len_sl ha14 rfl Try.underlying25 rfl h_a) ?_
      intro a15 ha15; clear ha14 a14
      refine wl_val ha15 rfl rfl rfl (op_lss ha15 rfl rfl rfl) ?_
      intro a16 ha16; clear ha15 a15
      refine wpList_nil ?_
      refine then_n ?_
      by_cases c17 : ((i : Nat) : Int) < ((a.length : Nat) : Int)
      ·
        rw [decide_eq_true c17] at ha16
        refine cond_t ha16 rfl ?_
        refine wp_skip ?_
        refine then_n ?_
        refine wp_seq ?_
        refine wp_block ?_
        refine wp_seq ?_
        refine dr_enter Ext follows_mixed ?_
        intro w18 he19
        have hx20 := hx10.trans' he19
        have hzhx20 := he19.size
        have hs21 : Ext w18 w18 := Ext.rfl' _
        refine dr_val (i := 0) ha16 rfl (by kernel_rfl) (by kernel_rfl) (by kernel_rfl) rfl rfl rfl hs21 (fun w' hw' => op_move ha16 rfl rfl) ?_
        intro a22 ha22; clear ha16 a16
        refine dr_val (i := 1) ha22 rfl (by kernel_rfl) (by kernel_rfl) (by kernel_rfl) rfl rfl rfl hs21 (fun w' hw' => op_move ha22 rfl rfl) ?_
        intro a23 ha23; clear ha22 a22
        obtain ⟨x24, hx24⟩ := get_ex (xs := a) (j := i) (by omega)
        obtain ⟨p25, c26, hi27, hc28, hr29, hs30⟩ := Rds.at_ h_a hx24
        obtain ⟨rfl, b31, b32, b33, b34⟩ := inv_shEnt hr29
        refine dr_val (i := 2) ha23 rfl (by kernel_rfl) (by kernel_rfl) (by kernel_rfl) rfl rfl rfl hs21 (fun w' hw' => op_indexAddr ha23 rfl Try.underlying25 ti41 rfl rfl (by omega) hi27) ?_
        intro a35 ha35; clear ha23 a23
        refine dr_val (i := 3) ha35 rfl (by kernel_rfl) (by kernel_rfl) (by kernel_rfl) rfl rfl rfl hs21 (fun w' hw' => op_loadS ha35 rfl Try.underlying41 ti41 rfl rfl (hc28.ext (hx20.trans' hw'))) ?_
        intro a36 ha36; clear ha35 a35
        refine dr_val (i := 4) ha36 rfl (by kernel_rfl) (by kernel_rfl) (by kernel_rfl) rfl rfl rfl hs21 (fun w' hw' => op_move ha36 rfl rfl) ?_
        intro a37 ha37; clear ha36 a36
        refine dr_val (i := 5) ha37 rfl (by kernel_rfl) (by kernel_rfl) (by kernel_rfl) rfl rfl rfl hs21 (fun w' hw' => op_move ha37 rfl rfl) ?_
        intro a38 ha38; clear ha37 a37
        obtain ⟨x39, hx39⟩ := get_ex (xs := b) (j := i) (by omega)
        obtain ⟨p40, c41, hi42, hc43, hr44, hs45⟩ := Rds.at_ h_b hx39
        obtain ⟨rfl, b46, b47, b48, b49⟩ := inv_shEnt hr44
        refine dr_val (i := 6) ha38 rfl (by kernel_rfl) (by kernel_rfl) (by kernel_rfl) rfl rfl rfl hs21 (fun w' hw' => op_indexAddr ha38 rfl Try.underlying25 ti41 rfl rfl (by omega) hi42) ?_
        intro a50 ha50; clear ha38 a38
        refine dr_val (i := 7) ha50 rfl (by kernel_rfl) (by kernel_rfl) (by kernel_rfl) rfl rfl rfl hs21 (fun w' hw' => op_loadS ha50 rfl Try.underlying41 ti41 rfl rfl (hc43.ext (hx20.trans' hw'))) ?_
        intro a51 ha51; clear ha50 a50
        refine dr_one (i := 8) (by kernel_rfl) ?_
        refine po_callR ha51 rfl rfl rfl rfl (op_call ha51 rfl cb60 rfl) (c_laws_eqEntry _ x24 x39 ) ?_
        rintro v52 w53 he54 rfl a55 ha55; clear ha51 a51
        have hs56 := hs21.trans' he54
        have hx57 := hx20.trans' he54
        have hzhx57 := he54.size
        refine ⟨hs56, ?_⟩
        refine dr_val (i := 9) ha55 rfl (by kernel_rfl) (by kernel_rfl) (by kernel_rfl) rfl rfl rfl hs56 (fun w' hw' => op_not ha55 rfl rfl) ?_
        intro a58 ha58; clear ha55 a55
        refine dr_end (by kernel_rfl) ?_
        refine then_n ?_
        rcases Bool.eq_false_or_eq_true (decide (x24 = x39)) with c59 | c59
        ·
          rw [c59] at ha58
          refine cond_f ha58 rfl ?_
          refine wp_skip ?_
          refine block_n ?_
          refine then_n ?_
          refine wp_region_lit ?_
          refine wl_val ha58 rfl rfl rfl (op_move ha58 rfl rfl) ?_
          intro a60 ha60; clear ha58 a58
          refine wl_val ha60 rfl rfl rfl ((op_add ha60 rfl rfl rfl).int (IntWalk.i64_in _ (by omega))) ?_
          intro a61 ha61; clear ha60 a60
          refine wl_val ha61 rfl rfl rfl (op_assign ha61 rfl rfl) ?_
          intro a62 ha62; clear ha61 a61
          refine wpList_nil ?_
          refine round_end (x := i) ((i + 1)) ?_ ?_
          ·
            refine ⟨(Sl.cons_ ha62 rfl rfl (Sl.cons_ ha62 rfl rfl (Sl.cons_ ha62 rfl (int_eq (by omega)) (Sl.nil_ ha62)))), hx57, (by omega), (by omega), (by exact hl), (by rw [eqL_step hx24 hx39] at hF; simpa [c7, c17, c59] using hF)⟩
          · show (a.length - ((i + 1)) : Nat) < a.length - i; omega
        ·
          rw [c59] at ha58
          refine cond_t ha58 rfl ?_
          refine wp_seq ?_
          refine wp_region_lit ?_
          refine wl_val ha58 rfl rfl rfl (op_assign ha58 rfl rfl) ?_
          intro a63 ha63; clear ha58 a58
          refine wpList_nil ?_
          refine then_n ?_
          refine wp_ret ?_
          refine block_r ?_
          refine then_r ?_
          refine then_r ?_
          refine block_r ?_
          refine then_r ?_
          refine ret1 ha63 rfl rfl ?_
          clear ha63 a63
          rw [eqL_step hx24 hx39] at hF
          exact ret_mk hx57 (congrArg Value.bool (by first | (simp [← hF, c7, c17, c59]; done) | (simp [← hF, c7, c17, c59]; omega) | (rw [Bool.eq_iff_iff]; simp [← hF, c7, c17, c59]; done) | (rw [Bool.eq_iff_iff]; simp [← hF, c7, c17, c59]; omega)))
      ·
        rw [decide_eq_false c17] at ha16
        refine cond_f ha16 rfl ?_
        refine wp_exit ?_
        refine then_e ?_
        refine then_e ?_
        refine block_hit ?_
        refine then_n ?_
        refine wp_seq ?_
        refine wp_region_lit ?_
        refine wl_val ha16 rfl rfl rfl (op_assign ha16 rfl rfl) ?_
        intro a64 ha64; clear ha16 a16
        refine wpList_nil ?_
        refine then_n ?_
        refine wp_ret ?_
        refine ret1 ha64 rfl rfl ?_
        clear ha64 a64
        rw [drop_nil (by omega), drop_nil (by omega), eqL_nil] at hF
        exact ret_mk hx10 (congrArg Value.bool (by first | (simp [← hF, c7, c17]; done) | (simp [← hF, c7, c17]; omega) | (rw [Bool.eq_iff_iff]; simp [← hF, c7, c17]; done) | (rw [Bool.eq_iff_iff]; simp [← hF, c7, c17]; omega)))
  ·
    rw [decide_eq_false c7] at ha6
    refine cond_t ha6 rfl ?_
    refine wp_seq ?_
    refine wp_region_lit ?_
    refine wl_val ha6 rfl rfl rfl (op_assign ha6 rfl rfl) ?_
    intro a65 ha65; clear ha6 a6
    refine wpList_nil ?_
    refine then_n ?_
    refine wp_ret ?_
    refine then_r ?_
    refine ret1 ha65 rfl rfl ?_
    clear ha65 a65
    
    exact ret_mk hx0 (congrArg Value.bool (by rw [eqL_len (by omega)]))


end Go.Proofs.Ytocedhbefdaefaa
