/- The helpers of the laws over texts. -/
import Derived.Test.YthbkedflhmeohaaW1
namespace Go.Proofs.Ythbkedflhmeohaa
open Go Go.RowKit

theorem set_take {α : Type} {acc xs : List α} {i : Nat} {x : α} (h : acc.take i = xs.take i) (hl : acc.length = xs.length) (hx : xs[i]? = some x) : (acc.set i x).take (i + 1) = xs.take (i + 1) := by
  have hi : i < xs.length := (List.getElem?_eq_some_iff.1 hx).1
  rw [take_snoc hx, ← h]
  have : (acc.set i x)[i]? = some x := by rw [List.getElem?_set_self (by omega)]
  rw [take_snoc this, List.take_set_of_le (Nat.le_refl _)]
/-- Do two lists agree place by place? -/
def eqL {α : Type} [DecidableEq α] (xs ys : List α) : Bool := decide (xs = ys)
theorem eqL_nil {α : Type} [DecidableEq α] : eqL ([] : List α) [] = true := by simp [eqL]
theorem eqL_self {α : Type} [DecidableEq α] (xs : List α) : eqL xs xs = true := by simp [eqL]
theorem eqL_len {α : Type} [DecidableEq α] {xs ys : List α} (h : ¬ xs.length = ys.length) : eqL xs ys = false := by
  unfold eqL; rw [decide_eq_false]; intro e; exact h (by rw [e])
theorem eqL_step {α : Type} [DecidableEq α] {xs ys : List α} {i : Nat} {x y : α} (hx : xs[i]? = some x) (hy : ys[i]? = some y) : eqL (xs.drop i) (ys.drop i) = (decide (x = y) && eqL (xs.drop (i + 1)) (ys.drop (i + 1))) := by
  unfold eqL; rw [drop_cons hx, drop_cons hy, Bool.eq_iff_iff]; simp
/-- How much is left of a size behind a piece of that cost; -1: too little. -/
def szR (n : Int) (k : Nat) : Int := if n - k < 0 then -1 else n - k
theorem szR_ok {n : Int} {k : Nat} (h : ¬ szR n k < 0) : (k : Int) ≤ n ∧ szR n k = n - k := by unfold szR at *; split at h <;> simp_all <;> omega
theorem szR_no {n : Int} {k : Nat} (h : szR n k < 0) : n < (k : Int) := by unfold szR at h; split at h <;> omega
theorem szR_add {n : Int} {k m : Nat} (h : ¬ szR n k < 0) : szR n (k + m) = szR (szR n k) m := by
  obtain ⟨h1, h2⟩ := szR_ok h
  rw [h2]; unfold szR; split <;> split <;> omega
theorem szR_neg {n : Int} {k m : Nat} (h : szR n k < 0) : szR n (k + m) = -1 := by
  have := szR_no h; unfold szR; rw [if_pos (by omega)]
theorem szR_le {n : Int} {k : Nat} (h : 0 ≤ n) : szR n k ≤ n := by unfold szR; split <;> omega
theorem szR_zero {n : Int} (h : 0 ≤ n) : szR n 0 = n := by unfold szR; rw [if_neg (by omega)]; omega
theorem szR_if {n : Int} {k : Nat} (h : n < (k : Int)) : szR n k = -1 := by unfold szR; rw [if_pos (by omega)]
theorem szR_nif {n : Int} {k : Nat} (h : (k : Int) ≤ n) : szR n k = n - k := by unfold szR; rw [if_neg (by omega)]
/-- What the elements cost, and a list of them. -/
def sumC {α : Type} (c : α → Nat) : List α → Nat
  | [] => 0
  | x :: xs => c x + sumC c xs
def costL {α : Type} (c : α → Nat) (xs : List α) : Nat := xs.length + sumC c xs
theorem costL_len {α : Type} (c : α → Nat) (xs : List α) : xs.length ≤ costL c xs := by unfold costL; omega
theorem sumC_mem {α : Type} (c : α → Nat) : ∀ (xs : List α) (x : α), x ∈ xs → c x ≤ sumC c xs
  | [], x, h => by simp at h
  | y :: ys, x, h => by
    rcases List.mem_cons.1 h with e | e
    · subst e; simp only [sumC]; omega
    · have := sumC_mem c ys x e; simp only [sumC]; omega
theorem cost_mem {α : Type} {c : α → Nat} {xs : List α} {x : α} (h : x ∈ xs) : c x ≤ costL c xs := by have := sumC_mem c xs x h; unfold costL; omega
theorem hset_self {α : Type} {xs : List α} {i : Nat} {x y : α} (h : (xs.set i x)[i]? = some y) (hi : i < xs.length) : y = x := by
  rw [List.getElem?_set_self hi] at h; exact (Option.some.inj h).symm

/-- The digits of a number. -/
def digs (n : Nat) : Str := if h : n < 10 then [UInt8.ofNat (48 + n % 10)] else digs (n / 10) ++ [UInt8.ofNat (48 + n % 10)]
termination_by n
decreasing_by omega
def decS (n : Int) : Str := if n < 0 then 45 :: digs (0 - n).toNat else digs n.toNat
theorem digs_lt {n : Nat} (h : n < 10) : digs n = [UInt8.ofNat (48 + n % 10)] := by rw [digs, dif_pos h]
theorem digs_ge {n : Nat} (h : ¬ n < 10) : digs n = digs (n / 10) ++ [UInt8.ofNat (48 + n % 10)] := by rw [digs, dif_neg h]
theorem digs_len : ∀ (k n : Nat), n < 10 ^ (k + 1) → (digs n).length ≤ k + 1 := by
  intro k
  induction k with
  | zero => intro n h; rw [digs_lt (by simpa using h)]; simp
  | succ k ih =>
    intro n h
    by_cases h10 : n < 10
    · rw [digs_lt h10]; simp
    · rw [digs_ge h10, List.length_append]
      have := ih (n / 10) (by rw [Nat.pow_succ] at h; omega)
      simp; omega
theorem digs_pos (n : Nat) : 1 ≤ (digs n).length := by
  by_cases h : n < 10
  · rw [digs_lt h]; simp
  · rw [digs_ge h]; simp
theorem digs_len19 {n : Nat} (h : n ≤ 9223372036854775807) : (digs n).length ≤ 19 := digs_len 18 n (by omega)
theorem decS_len {n : Int} (h : -9223372036854775808 ≤ n ∧ n ≤ 9223372036854775807) : (decS n).length ≤ 20 := by
  unfold decS
  split
  · by_cases e : n = -9223372036854775808
    · subst e
      have := digs_len 18 9223372036854775808 (by omega)
      simp only [List.length_cons]
      have e2 : (0 - (-9223372036854775808 : Int)).toNat = 9223372036854775808 := by decide
      rw [e2]; omega
    · have := digs_len19 (n := (0 - n).toNat) (by omega); rw [List.length_cons]; omega
  · have := digs_len19 (n := n.toNat) (by omega); omega
theorem decS_nn {n : Int} (h : 0 ≤ n) : decS n = digs n.toNat := by unfold decS; rw [if_neg (by omega)]
theorem decS_lt {n : Int} (h0 : 0 ≤ n) (h : n < 10) : decS n = [UInt8.ofNat (48 + n.toNat)] := by
  rw [decS_nn h0, digs_lt (by omega)]; congr 3; omega
theorem decS_ge {n : Int} (h0 : 0 ≤ n) (h : ¬ n < 10) : decS n = decS (n / 10) ++ [UInt8.ofNat (48 + n.toNat % 10)] := by
  rw [decS_nn h0, decS_nn (by omega), digs_ge (by omega)]
  have : (n / 10).toNat = n.toNat / 10 := by omega
  rw [this]

/-- The text of a mark. -/
def mkT (k : Int) : Str := if k ≤ 0 then [109, 48] else 109 :: digs k.toNat
theorem mkT_step {m : Int} (h : 0 < m) : (if 0 < m / 10 then digs (m / 10).toNat else []) ++ [UInt8.ofNat (48 + m.toNat % 10)] = digs m.toNat := by
  by_cases h10 : m < 10
  · rw [if_neg (by omega), digs_lt (by omega)]; simp
  · have e : (m / 10).toNat = m.toNat / 10 := by omega
    rw [if_pos (by omega), digs_ge (n := m.toNat) (by omega), e]
theorem mkT_len {k : Int} (h : k ≤ 9223372036854775807) : (mkT k).length ≤ 20 := by
  unfold mkT
  split
  · simp
  · have := digs_len19 (n := k.toNat) (by omega); simp; omega

def mkI (k : Int) : Int := k
def okI (x : Int) (k : Int) : Bool := decide (x = k)
theorem okI_mk (k : Int) : okI (mkI k) k = true := by simp [okI, mkI]
def mkS (k : Int) : Str := mkT k
def okS (x : Str) (k : Int) : Bool := decide (x = mkT k)
theorem okS_mk (k : Int) : okS (mkS k) k = true := by simp [okS, mkS]

theorem c_laws_szStringS (w0 : World) (v_a : Value) (a : List Str) {S_a : Nat → Prop} (left : Int) (h_a : Rds shStr S_a w0 v_a a) (g0 : left ≤ 1048576) (g1 : 0 ≤ left) :
  Calls Try.prog 79 #[v_a, .int .i64 left] w0 (Ret w0 (fun v _ => v = .int .i64 (szR left (costL costS a)))) := by
 refine enter (N := 28) Try.func79 rfl rfl rfl ?_
 intro a0 ha0
 have hx0 := Ext.rfl' w0
 have hl_a := h_a.length_le
 refine wp_seq ?_
 refine wp_region_lit ?_
 refine wl_val ha0 rfl rfl rfl (op_assign ha0 rfl rfl) ?_
 intro a1 ha1; clear ha0 a0
 refine wpList_nil ?_
 refine then_n ?_
 refine wp_seq ?_
 refine wp_region_lit ?_
 refine wl_val ha1 rfl rfl rfl (op_move ha1 rfl rfl) ?_
 intro a2 ha2; clear ha1 a1
 refine wl_val ha2 rfl rfl rfl (op_move ha2 rfl rfl) ?_
 intro a3 ha3; clear ha2 a2
 refine wl_val ha3 rfl rfl rfl (op_len_sl ha3 rfl Try.underlying34 rfl h_a) ?_
 intro a4 ha4; clear ha3 a3
 refine wl_val ha4 rfl rfl rfl ((op_sub ha4 rfl rfl rfl).int (IntWalk.i64_in _ (by omega))) ?_
 intro a5 ha5; clear ha4 a4
 refine wl_val ha5 rfl rfl rfl (op_assign ha5 rfl rfl) ?_
 intro a6 ha6; clear ha5 a5
 refine wpList_nil ?_
 refine then_n ?_
 refine wp_seq ?_
 refine wp_seq ?_
 refine wp_region_lit ?_
 refine wl_val ha6 rfl rfl rfl (op_move ha6 rfl rfl) ?_
 intro a7 ha7; clear ha6 a6
 refine wl_val ha7 rfl rfl rfl (op_lss ha7 rfl rfl rfl) ?_
 intro a8 ha8; clear ha7 a7
 refine wpList_nil ?_
 refine then_n ?_
 by_cases c9 : (left - ((a.length : Nat) : Int)) < (0 : Int)
 ·
  rw [decide_eq_true c9] at ha8
  refine cond_t ha8 rfl ?_
  refine wp_seq ?_
  refine wp_region_lit ?_
  refine wl_val ha8 rfl rfl rfl (op_assign ha8 rfl rfl) ?_
  intro a10 ha10; clear ha8 a8
  refine wpList_nil ?_
  refine then_n ?_
  refine wp_ret ?_
  refine then_r ?_
  refine ret1 ha10 rfl rfl ?_
  clear ha10 a10
  
  exact ret_mk hx0 (int_eq (by unfold costL; rw [szR_if (by omega)]))
 ·
  rw [decide_eq_false c9] at ha8
  refine cond_f ha8 rfl ?_
  refine wp_skip ?_
  refine then_n ?_
  refine wp_seq ?_
  refine wp_seq ?_
  refine wp_region_lit ?_
  refine wl_val ha8 rfl rfl rfl (op_assign ha8 rfl rfl) ?_
  intro a11 ha11; clear ha8 a8
  refine wpList_nil ?_
  refine then_n ?_
  refine wp_block ?_
  refine loop_inv (X := Nat × Int) (fun (⟨i, n⟩ : Nat × Int) fr wl => Sl 28 fr [(0, v_a), (1, .int .i64 n), (5, .int .i64 ((i : Nat) : Int))] ∧ Ext w0 wl ∧ w0.heap.size ≤ wl.heap.size ∧ (i ≤ a.length) ∧ (0 ≤ n) ∧ (n ≤ 1048576) ∧ (szR n (sumC costS (a.drop i)) = szR left (costL costS a))) (fun (⟨i, n⟩ : Nat × Int) => a.length - i) (0, (left - ((a.length : Nat) : Int))) ?_ ?_
  ·
   exact ⟨(Sl.cons_ ha11 rfl rfl (Sl.cons_ ha11 rfl (int_eq (by omega)) (Sl.cons_ ha11 rfl (int_eq (by omega)) (Sl.nil_ ha11)))), hx0, (by omega), (by omega), (by omega), (by omega), (by unfold costL; rw [szR_add (by rw [szR_nif (by omega)]; omega), szR_nif (k := a.length) (by omega)]; rfl)⟩
  ·
   clear ha11 a11
   rintro ⟨i, n⟩ a14 w12 ⟨ha14, hx13, hzl15, hi, hn0, hn1, hF⟩
   have hzhx13 := hx13.size
   refine wp_seq ?_
   refine wp_seq ?_
   refine wp_region_lit ?_
   refine wl_val ha14 rfl rfl rfl (op_move ha14 rfl rfl) ?_
   intro a16 ha16; clear ha14 a14
   refine wl_val ha16 rfl rfl rfl (op_move ha16 rfl rfl) ?_
   intro a17 ha17; clear ha16 a16
   refine wl_val ha17 rfl rfl rfl (op_len_sl ha17 rfl Try.underlying34 rfl h_a) ?_
   intro a18 ha18; clear ha17 a17
   refine wl_val ha18 rfl rfl rfl (op_lss ha18 rfl rfl rfl) ?_
   intro a19 ha19; clear ha18 a18
   refine wpList_nil ?_
   refine then_n ?_
   by_cases c20 : ((i : Nat) : Int) < ((a.length : Nat) : Int)
   ·
    rw [decide_eq_true c20] at ha19
    refine cond_t ha19 rfl ?_
    refine wp_skip ?_
    refine then_n ?_
    refine wp_seq ?_
    refine wp_block ?_
    refine wp_seq ?_
    refine wp_region_lit ?_
    refine wl_val ha19 rfl rfl rfl (op_move ha19 rfl rfl) ?_
    intro a21 ha21; clear ha19 a19
    refine wl_val ha21 rfl rfl rfl (op_move ha21 rfl rfl) ?_
    intro a22 ha22; clear ha21 a21
    refine wl_val ha22 rfl rfl rfl (op_move ha22 rfl rfl) ?_
    intro a23 ha23; clear ha22 a22
    obtain ⟨x24, hx24⟩ := get_ex (xs := a) (j := i) (by omega)
    obtain ⟨p25, c26, hi27, hc28, hr29, hs30⟩ := Rds.at_ h_a hx24
    obtain ⟨rfl, b31⟩ := inv_shStr hr29
    refine wl_val ha23 rfl rfl rfl (op_indexAddr ha23 rfl Try.underlying34 ti9 rfl rfl (by omega) hi27) ?_
    intro a32 ha32; clear ha23 a23
    refine wl_val ha32 rfl rfl rfl (op_loadH ha32 rfl Try.underlying9 rfl rfl (hc28.ext hx13) rfl) ?_
    intro a33 ha33; clear ha32 a32
    refine wl_val ha33 rfl rfl rfl (op_len_str ha33 rfl Try.underlying9 rfl) ?_
    intro a34 ha34; clear ha33 a33
    refine wl_val ha34 rfl rfl rfl ((op_sub ha34 rfl rfl rfl).int (IntWalk.i64_in _ (by omega))) ?_
    intro a35 ha35; clear ha34 a34
    refine wl_val ha35 rfl rfl rfl (op_assign ha35 rfl rfl) ?_
    intro a36 ha36; clear ha35 a35
    refine wpList_nil ?_
    refine then_n ?_
    refine wp_seq ?_
    refine wp_region_lit ?_
    refine wl_val ha36 rfl rfl rfl (op_move ha36 rfl rfl) ?_
    intro a37 ha37; clear ha36 a36
    refine wl_val ha37 rfl rfl rfl (op_lss ha37 rfl rfl rfl) ?_
    intro a38 ha38; clear ha37 a37
    refine wpList_nil ?_
    refine then_n ?_
    by_cases c39 : (n - ((x24.length : Nat) : Int)) < (0 : Int)
    ·
     rw [decide_eq_true c39] at ha38
     refine cond_t ha38 rfl ?_
     refine wp_seq ?_
     refine wp_region_lit ?_
     refine wl_val ha38 rfl rfl rfl (op_assign ha38 rfl rfl) ?_
     intro a40 ha40; clear ha38 a38
     refine wpList_nil ?_
     refine then_n ?_
     refine wp_ret ?_
     refine block_r ?_
     refine then_r ?_
     refine then_r ?_
     refine block_r ?_
     refine then_r ?_
     refine ret1 ha40 rfl rfl ?_
     clear ha40 a40
     rw [drop_cons hx24] at hF
     simp only [sumC] at hF
     rw [szR_neg (by first | omega | (unfold costS; rw [szR_if (by omega)]; omega))] at hF
     exact ret_mk hx13 (int_eq (by exact hF))
    ·
     rw [decide_eq_false c39] at ha38
     refine cond_f ha38 rfl ?_
     refine wp_skip ?_
     refine block_n ?_
     refine then_n ?_
     refine wp_region_lit ?_
     refine wl_val ha38 rfl rfl rfl (op_move ha38 rfl rfl) ?_
     intro a41 ha41; clear ha38 a38
     refine wl_val ha41 rfl rfl rfl ((op_add ha41 rfl rfl rfl).int (IntWalk.i64_in _ (by omega))) ?_
     intro a42 ha42; clear ha41 a41
     refine wl_val ha42 rfl rfl rfl (op_assign ha42 rfl rfl) ?_
     intro a43 ha43; clear ha42 a42
     refine wpList_nil ?_
     refine round_end (x := (i, n)) ((i + 1), (n - ((x24.length : Nat) : Int))) ?_ ?_
     ·
      refine ⟨(Sl.cons_ ha43 rfl rfl (Sl.cons_ ha43 rfl (int_eq (by omega)) (Sl.cons_ ha43 rfl (int_eq (by omega)) (Sl.nil_ ha43)))), hx13, (by omega), (by omega), (by omega), (by omega), (by have hc : costS x24 = x24.length := rfl; rw [drop_cons hx24] at hF; simp only [sumC] at hF; rw [hc] at hF; rw [szR_add (by rw [szR_nif (by omega)]; omega)] at hF; rw [szR_nif (n := n) (k := x24.length) (by omega)] at hF; exact hF)⟩
     ·show (a.length - ((i + 1)) : Nat) < a.length - i; omega
   ·
    rw [decide_eq_false c20] at ha19
    refine cond_f ha19 rfl ?_
    refine wp_exit ?_
    refine then_e ?_
    refine then_e ?_
    refine block_hit ?_
    refine then_n ?_
    refine wp_seq ?_
    refine wp_region_lit ?_
    refine wl_val ha19 rfl rfl rfl (op_move ha19 rfl rfl) ?_
    intro a44 ha44; clear ha19 a19
    refine wl_val ha44 rfl rfl rfl (op_assign ha44 rfl rfl) ?_
    intro a45 ha45; clear ha44 a44
    refine wpList_nil ?_
    refine then_n ?_
    refine wp_ret ?_
    refine ret1 ha45 rfl rfl ?_
    clear ha45 a45
    rw [drop_nil (by omega)] at hF
    simp only [sumC] at hF
    rw [szR_zero (by omega)] at hF
    exact ret_mk hx13 (int_eq (by exact hF))

theorem c_laws_toStringS (w0 : World) (v_a : Value) (a : List Str) {S_a : Nat → Prop} (h_a : Rds shStr S_a w0 v_a a) (g0 : a.length ≤ 1048576) :
  Calls Try.prog 80 #[v_a] w0 (Ret w0 (fun v w1 => Own shStr 9 w0.heap.size w0.heap.size w1.heap.size w1 v (a))) := by
 refine enter (N := 22) Try.func80 rfl rfl rfl ?_
 intro a0 ha0
 have hx0 := Ext.rfl' w0
 have hl_a := h_a.length_le
 refine wp_seq ?_
 refine wp_region_lit ?_
 refine wl_val ha0 rfl rfl rfl (op_assign ha0 rfl rfl) ?_
 intro a1 ha1; clear ha0 a0
 refine wpList_nil ?_
 refine then_n ?_
 refine wp_seq ?_
 refine wp_region_lit ?_
 refine wl_val ha1 rfl rfl rfl (op_move ha1 rfl rfl) ?_
 intro a2 ha2; clear ha1 a1
 refine wl_val ha2 rfl rfl rfl (op_len_sl ha2 rfl Try.underlying34 rfl h_a) ?_
 intro a3 ha3; clear ha2 a2
 refine wl_eff ha3 rfl rfl rfl (op_make (s := shStr) (n := a.length) (k' := .i64) ha3 rfl Try.underlying34 ti9 pos_shStr rfl (by omega) zero_shStr (by omega) (by omega)) ?_
 rintro v4 w5 ⟨ho6, he7⟩ a8 ha8; clear ha3 a3
 have hx9 := hx0.trans' he7
 have hzhx9 := he7.size
 refine wl_val ha8 rfl rfl rfl (op_assign ha8 rfl rfl) ?_
 intro a10 ha10; clear ha8 a8
 refine wpList_nil ?_
 refine then_n ?_
 refine wp_seq ?_
 refine wp_seq ?_
 refine wp_region_lit ?_
 refine wl_val ha10 rfl rfl rfl (op_assign ha10 rfl rfl) ?_
 intro a11 ha11; clear ha10 a10
 refine wpList_nil ?_
 refine then_n ?_
 refine wp_block ?_
 refine loop_inv (X := Nat × Value × (List Str)) (fun (⟨i, v, acc⟩ : Nat × Value × (List Str)) fr wl => Sl 22 fr [(0, v_a), (3, v), (4, .int .i64 ((i : Nat) : Int))] ∧ Ext w0 wl ∧ Own shStr 9 w0.heap.size w0.heap.size wl.heap.size wl v acc ∧ w5.heap.size ≤ wl.heap.size ∧ (i ≤ a.length) ∧ (acc.length = a.length) ∧ (acc.take i = a.take i)) (fun (⟨i, v, acc⟩ : Nat × Value × (List Str)) => a.length - i) (0, v4, (List.replicate a.length ([] : Str))) ?_ ?_
 ·
  exact ⟨(Sl.cons_ ha11 rfl rfl (Sl.cons_ ha11 rfl rfl (Sl.cons_ ha11 rfl (int_eq (by omega)) (Sl.nil_ ha11)))), hx9, (ho6.fin (by omega) (by omega) (by omega)), (by omega), (by omega), (by simp), (by simp)⟩
 ·
  clear ha11 a11
  rintro ⟨i, v, acc⟩ a15 w12 ⟨ha15, hx13, hf14, hzl16, hi, hl, hF⟩
  have hzhx13 := hx13.size
  refine wp_seq ?_
  refine wp_seq ?_
  refine wp_region_lit ?_
  refine wl_val ha15 rfl rfl rfl (op_move ha15 rfl rfl) ?_
  intro a17 ha17; clear ha15 a15
  refine wl_val ha17 rfl rfl rfl (op_move ha17 rfl rfl) ?_
  intro a18 ha18; clear ha17 a17
  refine wl_val ha18 rfl rfl rfl (op_len_sl ha18 rfl Try.underlying34 rfl h_a) ?_
  intro a19 ha19; clear ha18 a18
  refine wl_val ha19 rfl rfl rfl (op_lss ha19 rfl rfl rfl) ?_
  intro a20 ha20; clear ha19 a19
  refine wpList_nil ?_
  refine then_n ?_
  by_cases c21 : ((i : Nat) : Int) < ((a.length : Nat) : Int)
  ·
   rw [decide_eq_true c21] at ha20
   refine cond_t ha20 rfl ?_
   refine wp_skip ?_
   refine then_n ?_
   refine wp_seq ?_
   refine wp_block ?_
   refine wp_region_lit ?_
   refine wl_val ha20 rfl rfl rfl (op_move ha20 rfl rfl) ?_
   intro a22 ha22; clear ha20 a20
   refine wl_val ha22 rfl rfl rfl (op_move ha22 rfl rfl) ?_
   intro a23 ha23; clear ha22 a22
   refine wl_val ha23 rfl rfl rfl (op_move ha23 rfl rfl) ?_
   intro a24 ha24; clear ha23 a23
   refine wl_val ha24 rfl rfl rfl (op_move ha24 rfl rfl) ?_
   intro a25 ha25; clear ha24 a24
   obtain ⟨x26, hx26⟩ := get_ex (xs := a) (j := i) (by omega)
   obtain ⟨p27, c28, hi29, hc30, hr31, hs32⟩ := Rds.at_ h_a hx26
   obtain ⟨rfl, b33⟩ := inv_shStr hr31
   refine wl_val ha25 rfl rfl rfl (op_indexAddr ha25 rfl Try.underlying34 ti9 rfl rfl (by omega) hi29) ?_
   intro a34 ha34; clear ha25 a25
   refine wl_val ha34 rfl rfl rfl (op_loadH ha34 rfl Try.underlying9 rfl rfl (hc30.ext hx13) rfl) ?_
   intro a35 ha35; clear ha34 a34
   obtain ⟨x36, hx36⟩ := get_ex (xs := acc) (j := i) (by omega)
   obtain ⟨p37, c38, hi39, hc40, hr41, hs42⟩ := Rds.at_ (hf14.rds pos_shStr) hx36
   obtain ⟨rfl, b43⟩ := inv_shStr hr41
   obtain ⟨_, _⟩ : _ ∧ _ := hs42
   refine wl_val ha35 rfl rfl rfl (op_indexAddr ha35 rfl Try.underlying34 ti9 rfl rfl (by omega) hi39) ?_
   intro a44 ha44; clear ha35 a35
   refine wl_effS ha44 rfl rfl (op_setElem (s := shStr) (ds := [St x26]) (S' := fun _ => False) ha44 rfl ti9 rfl rfl rfl hf14 pos_shStr hi39 (by omega) (mk_shStr x26 (by first | assumption | omega | (simp; omega))) (fun _ h => h.elim)) ?_
   rintro w45 ⟨ho47, hst46, hz48⟩
   have hx49 := hx13.stp hst46 (by intro q hq; have hq0 := hf14.lt q hq; omega)
   have hzhx49 := hst46.size
   clear hf14
   have hlsho47 : ((acc.set i x26)).length = acc.length := List.length_set
   refine wpList_nil ?_
   refine block_n ?_
   refine then_n ?_
   refine wp_region_lit ?_
   refine wl_val ha44 rfl rfl rfl (op_move ha44 rfl rfl) ?_
   intro a50 ha50; clear ha44 a44
   refine wl_val ha50 rfl rfl rfl ((op_add ha50 rfl rfl rfl).int (IntWalk.i64_in _ (by omega))) ?_
   intro a51 ha51; clear ha50 a50
   refine wl_val ha51 rfl rfl rfl (op_assign ha51 rfl rfl) ?_
   intro a52 ha52; clear ha51 a51
   refine wpList_nil ?_
   refine round_end (x := (i, v, acc)) ((i + 1), v, (acc.set i x26)) ?_ ?_
   ·
    refine ⟨(Sl.cons_ ha52 rfl rfl (Sl.cons_ ha52 rfl rfl (Sl.cons_ ha52 rfl (int_eq (by omega)) (Sl.nil_ ha52)))), hx49, (ho47.fin (by omega) (by omega) (by omega)), (by omega), (by omega), (by simpa using hl), (by exact set_take hF hl hx26)⟩
   ·show (a.length - ((i + 1)) : Nat) < a.length - i; omega
  ·
   rw [decide_eq_false c21] at ha20
   refine cond_f ha20 rfl ?_
   refine wp_exit ?_
   refine then_e ?_
   refine then_e ?_
   refine block_hit ?_
   refine then_n ?_
   refine wp_seq ?_
   refine wp_region_lit ?_
   refine wl_val ha20 rfl rfl rfl (op_move ha20 rfl rfl) ?_
   intro a53 ha53; clear ha20 a20
   refine wl_val ha53 rfl rfl rfl (op_assign ha53 rfl rfl) ?_
   intro a54 ha54; clear ha53 a53
   refine wpList_nil ?_
   refine then_n ?_
   refine wp_ret ?_
   refine ret1 ha54 rfl rfl ?_
   clear ha54 a54
   refine ret_mk hx13 ?_
   refine (hf14.fin (by omega) (by omega) (by omega)).cast ?_
   rw [List.take_of_length_le (by omega)] at hF; rw [List.take_of_length_le (by omega)] at hF; exact hF

theorem c_laws_eqStringS (w0 : World) (v_a : Value) (a : List Str) {S_a : Nat → Prop} (v_b : Value) (b : List Str) {S_b : Nat → Prop} (h_a : Rds shStr S_a w0 v_a a) (h_b : Rds shStr S_b w0 v_b b) :
  Calls Try.prog 25 #[v_a, v_b] w0 (Ret w0 (fun v _ => v = .bool (eqL a b))) := by
 refine enter (N := 26) Try.func25 rfl rfl rfl ?_
 intro a0 ha0
 have hx0 := Ext.rfl' w0
 have hl_a := h_a.length_le
 have hl_b := h_b.length_le
 refine wp_seq ?_
 refine wp_region_lit ?_
 refine wl_val ha0 rfl rfl rfl (op_assign ha0 rfl rfl) ?_
 intro a1 ha1; clear ha0 a0
 refine wpList_nil ?_
 refine then_n ?_
 refine wp_seq ?_
 refine wp_seq ?_
 refine wp_region_lit ?_
 refine wl_val ha1 rfl rfl rfl (op_move ha1 rfl rfl) ?_
 intro a2 ha2; clear ha1 a1
 refine wl_val ha2 rfl rfl rfl (op_len_sl ha2 rfl Try.underlying34 rfl h_a) ?_
 intro a3 ha3; clear ha2 a2
 refine wl_val ha3 rfl rfl rfl (op_move ha3 rfl rfl) ?_
 intro a4 ha4; clear ha3 a3
 refine wl_val ha4 rfl rfl rfl (op_len_sl ha4 rfl Try.underlying34 rfl h_b) ?_
 intro a5 ha5; clear ha4 a4
 refine wl_val ha5 rfl rfl rfl ((op_neq ha5 rfl rfl rfl).to (congrArg Value.bool decide_not)) ?_
 intro a6 ha6; clear ha5 a5
 refine wpList_nil ?_
 refine then_n ?_
 by_cases c7 : ((a.length : Nat) : Int) = ((b.length : Nat) : Int)
 ·
  rw [decide_eq_true c7] at ha6
  refine cond_f ha6 rfl ?_
  refine wp_skip ?_
  refine then_n ?_
  refine wp_seq ?_
  refine wp_seq ?_
  refine wp_region_lit ?_
  refine wl_val ha6 rfl rfl rfl (op_assign ha6 rfl rfl) ?_
  intro a8 ha8; clear ha6 a6
  refine wpList_nil ?_
  refine then_n ?_
  refine wp_block ?_
  refine loop_inv (X := Nat) (fun (i : Nat) fr wl => Sl 26 fr [(0, v_a), (1, v_b), (5, .int .i64 ((i : Nat) : Int))] ∧ Ext w0 wl ∧ w0.heap.size ≤ wl.heap.size ∧ (i ≤ a.length) ∧ (a.length = b.length) ∧ (eqL (a.drop i) (b.drop i) = eqL a b)) (fun (i : Nat) => a.length - i) (0) ?_ ?_
  ·
   exact ⟨(Sl.cons_ ha8 rfl rfl (Sl.cons_ ha8 rfl rfl (Sl.cons_ ha8 rfl (int_eq (by omega)) (Sl.nil_ ha8)))), hx0, (by omega), (by omega), (by omega), (by simp)⟩
  ·
   clear ha8 a8
   rintro i a11 w9 ⟨ha11, hx10, hzl12, hi, hl, hF⟩
   have hzhx10 := hx10.size
   refine wp_seq ?_
   refine wp_seq ?_
   refine wp_region_lit ?_
   refine wl_val ha11 rfl rfl rfl (op_move ha11 rfl rfl) ?_
   intro a13 ha13; clear ha11 a11
   refine wl_val ha13 rfl rfl rfl (op_move ha13 rfl rfl) ?_
   intro a14 ha14; clear ha13 a13
   refine wl_val ha14 rfl rfl rfl (op_len_sl ha14 rfl Try.underlying34 rfl h_a) ?_
   intro a15 ha15; clear ha14 a14
   refine wl_val ha15 rfl rfl rfl (op_lss ha15 rfl rfl rfl) ?_
   intro a16 ha16; clear ha15 a15
   refine wpList_nil ?_
   refine then_n ?_
   by_cases c17 : ((i : Nat) : Int) < ((a.length : Nat) : Int)
   ·
    rw [decide_eq_true c17] at ha16
    refine cond_t ha16 rfl ?_
    refine wp_skip ?_
    refine then_n ?_
    refine wp_seq ?_
    refine wp_block ?_
    refine wp_seq ?_
    refine dr_enter Ext follows_mixed ?_
    intro w18 he19
    have hx20 := hx10.trans' he19
    have hzhx20 := he19.size
    have hs21 : Ext w18 w18 := Ext.rfl' _
    refine dr_val (i := 0) ha16 rfl (by kernel_rfl) (by kernel_rfl) (by kernel_rfl) rfl rfl rfl hs21 (fun w' hw' => op_move ha16 rfl rfl) ?_
    intro a22 ha22; clear ha16 a16
    refine dr_val (i := 1) ha22 rfl (by kernel_rfl) (by kernel_rfl) (by kernel_rfl) rfl rfl rfl hs21 (fun w' hw' => op_move ha22 rfl rfl) ?_
    intro a23 ha23; clear ha22 a22
    obtain ⟨x24, hx24⟩ := get_ex (xs := a) (j := i) (by omega)
    obtain ⟨p25, c26, hi27, hc28, hr29, hs30⟩ := Rds.at_ h_a hx24
    obtain ⟨rfl, b31⟩ := inv_shStr hr29
    refine dr_val (i := 2) ha23 rfl (by kernel_rfl) (by kernel_rfl) (by kernel_rfl) rfl rfl rfl hs21 (fun w' hw' => op_indexAddr ha23 rfl Try.underlying34 ti9 rfl rfl (by omega) hi27) ?_
    intro a32 ha32; clear ha23 a23
    refine dr_val (i := 3) ha32 rfl (by kernel_rfl) (by kernel_rfl) (by kernel_rfl) rfl rfl rfl hs21 (fun w' hw' => op_loadH ha32 rfl Try.underlying9 rfl rfl (hc28.ext (hx20.trans' hw')) rfl) ?_
    intro a33 ha33; clear ha32 a32
    refine dr_val (i := 4) ha33 rfl (by kernel_rfl) (by kernel_rfl) (by kernel_rfl) rfl rfl rfl hs21 (fun w' hw' => op_move ha33 rfl rfl) ?_
    intro a34 ha34; clear ha33 a33
    refine dr_val (i := 5) ha34 rfl (by kernel_rfl) (by kernel_rfl) (by kernel_rfl) rfl rfl rfl hs21 (fun w' hw' => op_move ha34 rfl rfl) ?_
    intro a35 ha35; clear ha34 a34
    obtain ⟨x36, hx36⟩ := get_ex (xs := b) (j := i) (by omega)
    obtain ⟨p37, c38, hi39, hc40, hr41, hs42⟩ := Rds.at_ h_b hx36
    obtain ⟨rfl, b43⟩ := inv_shStr hr41
    refine dr_val (i := 6) ha35 rfl (by kernel_rfl) (by kernel_rfl) (by kernel_rfl) rfl rfl rfl hs21 (fun w' hw' => op_indexAddr ha35 rfl Try.underlying34 ti9 rfl rfl (by omega) hi39) ?_
    intro a44 ha44; clear ha35 a35
    refine dr_val (i := 7) ha44 rfl (by kernel_rfl) (by kernel_rfl) (by kernel_rfl) rfl rfl rfl hs21 (fun w' hw' => op_loadH ha44 rfl Try.underlying9 rfl rfl (hc40.ext (hx20.trans' hw')) rfl) ?_
    intro a45 ha45; clear ha44 a44
    refine dr_val (i := 8) ha45 rfl (by kernel_rfl) (by kernel_rfl) (by kernel_rfl) rfl rfl rfl hs21 (fun w' hw' => (op_sneq ha45 rfl rfl rfl).to (congrArg Value.bool decide_not)) ?_
    intro a46 ha46; clear ha45 a45
    refine dr_end (by kernel_rfl) ?_
    refine then_n ?_
    by_cases c47 : x24 = x36
    ·
     rw [decide_eq_true c47] at ha46
     refine cond_f ha46 rfl ?_
     refine wp_skip ?_
     refine block_n ?_
     refine then_n ?_
     refine wp_region_lit ?_
     refine wl_val ha46 rfl rfl rfl (op_move ha46 rfl rfl) ?_
     intro a48 ha48; clear ha46 a46
     refine wl_val ha48 rfl rfl rfl ((op_add ha48 rfl rfl rfl).int (IntWalk.i64_in _ (by omega))) ?_
     intro a49 ha49; clear ha48 a48
     refine wl_val ha49 rfl rfl rfl (op_assign ha49 rfl rfl) ?_
     intro a50 ha50; clear ha49 a49
     refine wpList_nil ?_
     refine round_end (x := i) ((i + 1)) ?_ ?_
     ·
      refine ⟨(Sl.cons_ ha50 rfl rfl (Sl.cons_ ha50 rfl rfl (Sl.cons_ ha50 rfl (int_eq (by omega)) (Sl.nil_ ha50)))), hx20, (by omega), (by omega), (by exact hl), (by rw [eqL_step hx24 hx36] at hF; simpa [c7, c17, c47] using hF)⟩
     ·show (a.length - ((i + 1)) : Nat) < a.length - i; omega
    ·
     rw [decide_eq_false c47] at ha46
     refine cond_t ha46 rfl ?_
     refine wp_seq ?_
     refine wp_region_lit ?_
     refine wl_val ha46 rfl rfl rfl (op_assign ha46 rfl rfl) ?_
     intro a51 ha51; clear ha46 a46
     refine wpList_nil ?_
     refine then_n ?_
     refine wp_ret ?_
     refine block_r ?_
     refine then_r ?_
     refine then_r ?_
     refine block_r ?_
     refine then_r ?_
     refine ret1 ha51 rfl rfl ?_
     clear ha51 a51
     rw [eqL_step hx24 hx36] at hF
     exact ret_mk hx20 (congrArg Value.bool (by first | (simp [← hF, c7, c17, c47]; done) | (simp [← hF, c7, c17, c47]; omega) | (rw [Bool.eq_iff_iff]; simp [← hF, c7, c17, c47]; done) | (rw [Bool.eq_iff_iff]; simp [← hF, c7, c17, c47]; omega)))
   ·
    rw [decide_eq_false c17] at ha16
    refine cond_f ha16 rfl ?_
    refine wp_exit ?_
    refine then_e ?_
    refine then_e ?_
    refine block_hit ?_
    refine then_n ?_
    refine wp_seq ?_
    refine wp_region_lit ?_
    refine wl_val ha16 rfl rfl rfl (op_assign ha16 rfl rfl) ?_
    intro a52 ha52; clear ha16 a16
    refine wpList_nil ?_
    refine then_n ?_
    refine wp_ret ?_
    refine ret1 ha52 rfl rfl ?_
    clear ha52 a52
    rw [drop_nil (by omega), drop_nil (by omega), eqL_nil] at hF
    exact ret_mk hx10 (congrArg Value.bool (by first | (simp [← hF, c7, c17]; done) | (simp [← hF, c7, c17]; omega) | (rw [Bool.eq_iff_iff]; simp [← hF, c7, c17]; done) | (rw [Bool.eq_iff_iff]; simp [← hF, c7, c17]; omega)))
 ·
  rw [decide_eq_false c7] at ha6
  refine cond_t ha6 rfl ?_
  refine wp_seq ?_
  refine wp_region_lit ?_
  refine wl_val ha6 rfl rfl rfl (op_assign ha6 rfl rfl) ?_
  intro a53 ha53; clear ha6 a6
  refine wpList_nil ?_
  refine then_n ?_
  refine wp_ret ?_
  refine then_r ?_
  refine ret1 ha53 rfl rfl ?_
  clear ha53 a53
  
  exact ret_mk hx0 (congrArg Value.bool (by rw [eqL_len (by omega)]))

theorem c_laws_markText (w0 : World) (k : Int) (g0 : k ≤ 9223372036854775807) :
  Calls Try.prog 61 #[.int .i64 k] w0 (Ret w0 (fun v _ => v = St (mkT k))) := by
 refine enter (N := 20) Try.func61 rfl rfl rfl ?_
 intro a0 ha0
 have hx0 := Ext.rfl' w0
 refine wp_seq ?_
 refine wp_region_lit ?_
 refine wl_val ha0 rfl rfl rfl (op_assign ha0 rfl rfl) ?_
 intro a1 ha1; clear ha0 a0
 refine wpList_nil ?_
 refine then_n ?_
 refine wp_seq ?_
 refine wp_seq ?_
 refine wp_region_lit ?_
 refine wl_val ha1 rfl rfl rfl (op_move ha1 rfl rfl) ?_
 intro a2 ha2; clear ha1 a1
 refine wl_val ha2 rfl rfl rfl (op_leq ha2 rfl rfl rfl) ?_
 intro a3 ha3; clear ha2 a2
 refine wpList_nil ?_
 refine then_n ?_
 by_cases c4 : k ≤ (0 : Int)
 ·
  rw [decide_eq_true c4] at ha3
  refine cond_t ha3 rfl ?_
  refine wp_seq ?_
  refine wp_region_lit ?_
  refine wl_val ha3 rfl rfl rfl (op_assign ha3 rfl rfl) ?_
  intro a5 ha5; clear ha3 a3
  refine wpList_nil ?_
  refine then_n ?_
  refine wp_ret ?_
  refine then_r ?_
  refine ret1 ha5 rfl rfl ?_
  clear ha5 a5
  exact ret_mk hx0 (congrArg St (by (unfold mkT; rw [if_pos (by omega)])))
 ·
  rw [decide_eq_false c4] at ha3
  refine cond_f ha3 rfl ?_
  refine wp_skip ?_
  refine then_n ?_
  refine wp_seq ?_
  refine wp_region_lit ?_
  refine wl_val ha3 rfl rfl rfl (op_assign ha3 rfl rfl) ?_
  intro a6 ha6; clear ha3 a3
  refine wpList_nil ?_
  refine then_n ?_
  refine wp_seq ?_
  refine wp_block ?_
  refine loop_inv (X := Int × Str) (fun (⟨m, t⟩ : Int × Str) fr wl => Sl 20 fr [(0, .int .i64 m), (3, St t)] ∧ Ext w0 wl ∧ w0.heap.size ≤ wl.heap.size ∧ (0 ≤ m) ∧ (m ≤ 9223372036854775807) ∧ ((if 0 < m then digs m.toNat else []) ++ t = digs k.toNat) ∧ (0 < k)) (fun (⟨m, t⟩ : Int × Str) => m.toNat) (k, ([] : Str)) ?_ ?_
  ·
   exact ⟨(Sl.cons_ ha6 rfl (int_eq (by omega)) (Sl.cons_ ha6 rfl rfl (Sl.nil_ ha6))), hx0, (by omega), (by omega), (by omega), (by rw [if_pos (by omega)]; simp), (by omega)⟩
  ·
   clear ha6 a6
   rintro ⟨m, t⟩ a9 w7 ⟨ha9, hx8, hzl10, hm0, hm1, hF, hn⟩
   have hzhx8 := hx8.size
   refine wp_seq ?_
   refine wp_seq ?_
   refine wp_region_lit ?_
   refine wl_val ha9 rfl rfl rfl (op_move ha9 rfl rfl) ?_
   intro a11 ha11; clear ha9 a9
   refine wl_val ha11 rfl rfl rfl (op_gtr ha11 rfl rfl rfl) ?_
   intro a12 ha12; clear ha11 a11
   refine wpList_nil ?_
   refine then_n ?_
   by_cases c13 : (0 : Int) < m
   ·
    rw [decide_eq_true c13] at ha12
    refine cond_t ha12 rfl ?_
    refine wp_skip ?_
    refine then_n ?_
    refine wp_block ?_
    refine wp_seq ?_
    refine wp_region_lit ?_
    refine wl_val ha12 rfl rfl rfl (op_move ha12 rfl rfl) ?_
    intro a14 ha14; clear ha12 a12
    refine wl_val ha14 rfl rfl rfl ((op_rem ha14 rfl rfl rfl (by omega)).int (Int.tmod_eq_emod_of_nonneg (by omega))) ?_
    intro a15 ha15; clear ha14 a14
    refine wl_val ha15 rfl rfl rfl ((op_add ha15 rfl rfl rfl).int (IntWalk.i64_in _ (by omega))) ?_
    intro a16 ha16; clear ha15 a15
    refine wl_val ha16 rfl rfl rfl ((op_conv_int ha16 rfl Try.underlying3 Try.underlying5 rfl).int (IntWalk.u8_in _ (by omega))) ?_
    intro a17 ha17; clear ha16 a16
    refine wl_eff ha17 rfl rfl rfl (op_buildSlice (s := shU8) (xs := [UInt8.ofNat ((48 + (m.toNat % 10)))]) (cs := [.int .u8 ((48 : Int) + (m % (10 : Int)))]) (vs := [(0, .int .u8 ((48 : Int) + (m % (10 : Int))))]) (S := fun _ => False) (le := w7.heap.size) ha17 rfl pos_shU8 Try.underlying47 ti5 rfl rfl (by decide) (by kernel_rfl) (Els.single (mk_shU8i ((48 + (m.toNat % 10))) (by omega) (by omega))) (fun _ h => h.elim)) ?_
    rintro v18 w19 ⟨ho20, he21, hob22⟩ a23 ha23; clear ha17 a17
    have hx24 := hx8.trans' he21
    have hzhx24 := he21.size
    refine wl_val ha23 rfl rfl rfl (op_conv_str ha23 rfl Try.underlying47 Try.underlying5 Try.underlying9 rfl (ho20.rds pos_shU8)) ?_
    intro a25 ha25; clear ha23 a23
    refine wl_val ha25 rfl rfl rfl (op_move ha25 rfl rfl) ?_
    intro a26 ha26; clear ha25 a25
    refine wl_val ha26 rfl rfl rfl (op_sadd ha26 rfl rfl rfl (by have h1 := digs_len19 (n := k.toNat) (by omega); rw [← hF, List.length_append] at h1; have h2 := digs_pos m.toNat; first | (rw [if_pos (by omega)] at h1; simp <;> omega) | (rw [if_neg (by omega)] at h1; simp at h1; simp <;> omega))) ?_
    intro a27 ha27; clear ha26 a26
    refine wl_val ha27 rfl rfl rfl (op_assign ha27 rfl rfl) ?_
    intro a28 ha28; clear ha27 a27
    refine wpList_nil ?_
    refine then_n ?_
    refine wp_region_lit ?_
    refine wl_val ha28 rfl rfl rfl (op_move ha28 rfl rfl) ?_
    intro a29 ha29; clear ha28 a28
    refine wl_val ha29 rfl rfl rfl ((op_quo ha29 rfl rfl rfl (by omega)).int (IntWalk.i64_quo _ _ (by omega))) ?_
    intro a30 ha30; clear ha29 a29
    refine wl_val ha30 rfl rfl rfl (op_assign ha30 rfl rfl) ?_
    intro a31 ha31; clear ha30 a30
    refine wpList_nil ?_
    refine block_n ?_
    refine round_end (x := (m, t)) ((m / (10 : Int)), ([UInt8.ofNat ((48 + (m.toNat % 10)))]) ++ t) ?_ ?_
    ·
     refine ⟨(Sl.cons_ ha31 rfl (int_eq (by omega)) (Sl.cons_ ha31 rfl rfl (Sl.nil_ ha31))), hx24, (by omega), (by omega), (by omega), (by rw [if_pos (by omega), ← mkT_step (by omega), List.append_assoc] at hF; exact hF), (by omega)⟩
    ·show (((m / (10 : Int))).toNat : Nat) < m.toNat; omega
   ·
    rw [decide_eq_false c13] at ha12
    refine cond_f ha12 rfl ?_
    refine wp_exit ?_
    refine then_e ?_
    refine then_e ?_
    refine block_hit ?_
    refine then_n ?_
    refine wp_seq ?_
    refine wp_region_lit ?_
    refine wl_val ha12 rfl rfl rfl (op_move ha12 rfl rfl) ?_
    intro a32 ha32; clear ha12 a12
    refine wl_val ha32 rfl rfl rfl (op_sadd ha32 rfl rfl rfl (by have h1 := digs_len19 (n := k.toNat) (by omega); rw [← hF, List.length_append] at h1; have h2 := digs_pos m.toNat; first | (rw [if_pos (by omega)] at h1; simp <;> omega) | (rw [if_neg (by omega)] at h1; simp at h1; simp <;> omega))) ?_
    intro a33 ha33; clear ha32 a32
    refine wl_val ha33 rfl rfl rfl (op_assign ha33 rfl rfl) ?_
    intro a34 ha34; clear ha33 a33
    refine wpList_nil ?_
    refine then_n ?_
    refine wp_ret ?_
    refine ret1 ha34 rfl rfl ?_
    clear ha34 a34
    exact ret_mk hx8 (congrArg St (by (unfold mkT; rw [if_neg (by omega), ← hF]; rw [if_neg (by omega)]; rfl)))

theorem c_laws_markStringS (w0 : World) (v_a : Value) (a : List Str) {lo_a le_a hi_a : Nat} (k : Int) (h_a : Own shStr 9 lo_a le_a hi_a w0 v_a a) (g0 : 0 ≤ k) (g1 : k ≤ 4611686018427387904) (g2 : a.length ≤ 4611686018427) :
  Calls Try.prog 27 #[v_a, .int .i64 k] w0 (RetS w0 v_a.ownBlock (fun v w1 => v = .int .i64 (k + 1 * (a.length : Nat)) ∧ Own shStr 9 lo_a le_a hi_a w1 v_a (mkN mkS 1 a.length k))) := by
 refine enter (N := 20) Try.func27 rfl rfl rfl ?_
 intro a0 ha0
 have hx0 := Stp.rfl' w0 v_a.ownBlock
 have hl_a := (h_a.rds pos_shStr).length_le
 refine wp_seq ?_
 refine wp_region_lit ?_
 refine wl_val ha0 rfl rfl rfl (op_assign ha0 rfl rfl) ?_
 intro a1 ha1; clear ha0 a0
 refine wpList_nil ?_
 refine then_n ?_
 refine wp_seq ?_
 refine wp_seq ?_
 refine wp_region_lit ?_
 refine wl_val ha1 rfl rfl rfl (op_assign ha1 rfl rfl) ?_
 intro a2 ha2; clear ha1 a1
 refine wpList_nil ?_
 refine then_n ?_
 refine wp_block ?_
 refine loop_inv (X := Nat × Int × (List Str)) (fun (⟨i, q, acc⟩ : Nat × Int × (List Str)) fr wl => Sl 20 fr [(0, v_a), (1, .int .i64 q), (5, .int .i64 ((i : Nat) : Int))] ∧ Stp w0 wl v_a.ownBlock ∧ Own shStr 9 lo_a le_a hi_a wl v_a acc ∧ w0.heap.size ≤ wl.heap.size ∧ (i ≤ a.length) ∧ (q = k + 1 * (i : Int)) ∧ (acc = mkN mkS 1 i k ++ a.drop i) ∧ (acc.length = a.length)) (fun (⟨i, q, acc⟩ : Nat × Int × (List Str)) => a.length - i) (0, k, a) ?_ ?_
 ·
  exact ⟨(Sl.cons_ ha2 rfl rfl (Sl.cons_ ha2 rfl (int_eq (by omega)) (Sl.cons_ ha2 rfl (int_eq (by omega)) (Sl.nil_ ha2)))), hx0, h_a, (by omega), (by omega), (by simp), (by simp [mkN]), (by rfl)⟩
 ·
  clear ha2 a2
  rintro ⟨i, q, acc⟩ a6 w3 ⟨ha6, hx4, hf5, hzl7, hi, hq, hF, hl⟩
  have hzhx4 := hx4.size
  refine wp_seq ?_
  refine wp_seq ?_
  refine wp_region_lit ?_
  refine wl_val ha6 rfl rfl rfl (op_move ha6 rfl rfl) ?_
  intro a8 ha8; clear ha6 a6
  refine wl_val ha8 rfl rfl rfl (op_move ha8 rfl rfl) ?_
  intro a9 ha9; clear ha8 a8
  refine wl_val ha9 rfl rfl rfl (op_len_sl ha9 rfl Try.underlying34 rfl (hf5.rds pos_shStr)) ?_
  intro a10 ha10; clear ha9 a9
  refine wl_val ha10 rfl rfl rfl (op_lss ha10 rfl rfl rfl) ?_
  intro a11 ha11; clear ha10 a10
  refine wpList_nil ?_
  refine then_n ?_
  by_cases c12 : ((i : Nat) : Int) < ((acc.length : Nat) : Int)
  ·
   rw [decide_eq_true c12] at ha11
   refine cond_t ha11 rfl ?_
   refine wp_skip ?_
   refine then_n ?_
   refine wp_seq ?_
   refine wp_block ?_
   refine wp_seq ?_
   refine wp_region_lit ?_
   refine wl_val ha11 rfl rfl rfl (op_move ha11 rfl rfl) ?_
   intro a13 ha13; clear ha11 a11
   refine wl_val ha13 rfl rfl rfl (op_move ha13 rfl rfl) ?_
   intro a14 ha14; clear ha13 a13
   refine wl_val ha14 rfl rfl rfl (op_move ha14 rfl rfl) ?_
   intro a15 ha15; clear ha14 a14
   refine wl_callR ha15 rfl rfl rfl (op_call ha15 rfl cb61 rfl) (c_laws_markText _ q (by first | assumption | omega | (simp; omega) | (simp [mkN_length]; omega))) ?_
   rintro v16 w17 he18 rfl a19 ha19; clear ha15 a15
   have hx20 := hx4.trans' (Stp.of_ext he18 _)
   have hzhx20 := he18.size
   replace hf5 := hf5.ext he18
   obtain ⟨x21, hx21⟩ := get_ex (xs := acc) (j := i) (by omega)
   obtain ⟨p22, c23, hi24, hc25, hr26, hs27⟩ := Rds.at_ (hf5.rds pos_shStr) hx21
   obtain ⟨rfl, b28⟩ := inv_shStr hr26
   obtain ⟨_, _⟩ : _ ∧ _ := hs27
   refine wl_val ha19 rfl rfl rfl (op_indexAddr ha19 rfl Try.underlying34 ti9 rfl rfl (by omega) hi24) ?_
   intro a29 ha29; clear ha19 a19
   refine wl_effS ha29 rfl rfl (op_setElem (s := shStr) (ds := [St ((mkT q))]) (S' := fun _ => False) ha29 rfl ti9 rfl rfl rfl hf5 pos_shStr hi24 (by omega) (mk_shStr ((mkT q)) (by first | assumption | omega | (dsimp only; omega) | exact Nat.le_trans (mkT_len (by omega)) (by omega))) (fun _ h => h.elim)) ?_
   rintro w30 ⟨ho32, hst31, hz33⟩
   have hx34 := hx20.trans' hst31
   have hzhx34 := hst31.size
   clear hf5
   have hlsho32 : ((acc.set i ((mkT q)))).length = acc.length := List.length_set
   refine wpList_nil ?_
   refine then_n ?_
   refine wp_region_lit ?_
   refine wl_val ha29 rfl rfl rfl (op_move ha29 rfl rfl) ?_
   intro a35 ha35; clear ha29 a29
   refine wl_val ha35 rfl rfl rfl ((op_add ha35 rfl rfl rfl).int (IntWalk.i64_in _ (by omega))) ?_
   intro a36 ha36; clear ha35 a35
   refine wl_val ha36 rfl rfl rfl (op_assign ha36 rfl rfl) ?_
   intro a37 ha37; clear ha36 a36
   refine wpList_nil ?_
   refine block_n ?_
   refine then_n ?_
   refine wp_region_lit ?_
   refine wl_val ha37 rfl rfl rfl (op_move ha37 rfl rfl) ?_
   intro a38 ha38; clear ha37 a37
   refine wl_val ha38 rfl rfl rfl ((op_add ha38 rfl rfl rfl).int (IntWalk.i64_in _ (by omega))) ?_
   intro a39 ha39; clear ha38 a38
   refine wl_val ha39 rfl rfl rfl (op_assign ha39 rfl rfl) ?_
   intro a40 ha40; clear ha39 a39
   refine wpList_nil ?_
   refine round_end (x := (i, q, acc)) ((i + 1), (q + (1 : Int)), (acc.set i ((mkT q)))) ?_ ?_
   ·
    refine ⟨(Sl.cons_ ha40 rfl rfl (Sl.cons_ ha40 rfl (int_eq (by omega)) (Sl.cons_ ha40 rfl (int_eq (by omega)) (Sl.nil_ ha40)))), hx34, ho32, (by omega), (by omega), (by omega), (by exact mkN_step hF (by omega) (by rfl) hq), (by simp only [List.length_set]; exact hl)⟩
   ·show (a.length - ((i + 1)) : Nat) < a.length - i; omega
  ·
   rw [decide_eq_false c12] at ha11
   refine cond_f ha11 rfl ?_
   refine wp_exit ?_
   refine then_e ?_
   refine then_e ?_
   refine block_hit ?_
   refine then_n ?_
   refine wp_seq ?_
   refine wp_region_lit ?_
   refine wl_val ha11 rfl rfl rfl (op_move ha11 rfl rfl) ?_
   intro a41 ha41; clear ha11 a11
   refine wl_val ha41 rfl rfl rfl (op_assign ha41 rfl rfl) ?_
   intro a42 ha42; clear ha41 a41
   refine wpList_nil ?_
   refine then_n ?_
   refine wp_ret ?_
   refine ret1 ha42 rfl rfl ?_
   clear ha42 a42
   exact ret_mkS hx4 ⟨int_eq (by omega), hf5.cast (by rw [hF, drop_nil (by omega), List.append_nil]; congr 1; omega)⟩

theorem c_laws_heldStringS (w0 : World) (v_a : Value) (a : List Str) {S_a : Nat → Prop} (k : Int) (h_a : Rds shStr S_a w0 v_a a) (g0 : 0 ≤ k) (g1 : k ≤ 4611686018427387904) (g2 : a.length ≤ 4611686018427) :
  Calls Try.prog 28 #[v_a, .int .i64 k] w0 (Ret w0 (fun v _ => v = .int .i64 (heldG okS 1 a k))) := by
 refine enter (N := 22) Try.func28 rfl rfl rfl ?_
 intro a0 ha0
 have hx0 := Ext.rfl' w0
 have hl_a := h_a.length_le
 refine wp_seq ?_
 refine wp_region_lit ?_
 refine wl_val ha0 rfl rfl rfl (op_assign ha0 rfl rfl) ?_
 intro a1 ha1; clear ha0 a0
 refine wpList_nil ?_
 refine then_n ?_
 refine wp_seq ?_
 refine wp_seq ?_
 refine wp_region_lit ?_
 refine wl_val ha1 rfl rfl rfl (op_assign ha1 rfl rfl) ?_
 intro a2 ha2; clear ha1 a1
 refine wpList_nil ?_
 refine then_n ?_
 refine wp_block ?_
 refine loop_inv (X := Nat × Int) (fun (⟨i, q⟩ : Nat × Int) fr wl => Sl 22 fr [(0, v_a), (1, .int .i64 q), (5, .int .i64 ((i : Nat) : Int))] ∧ Ext w0 wl ∧ w0.heap.size ≤ wl.heap.size ∧ (i ≤ a.length) ∧ (q = k + 1 * (i : Int)) ∧ (heldG okS 1 (a.drop i) q = heldG okS 1 a k)) (fun (⟨i, q⟩ : Nat × Int) => a.length - i) (0, k) ?_ ?_
 ·
  exact ⟨(Sl.cons_ ha2 rfl rfl (Sl.cons_ ha2 rfl (int_eq (by omega)) (Sl.cons_ ha2 rfl (int_eq (by omega)) (Sl.nil_ ha2)))), hx0, (by omega), (by omega), (by simp), (by rfl)⟩
 ·
  clear ha2 a2
  rintro ⟨i, q⟩ a5 w3 ⟨ha5, hx4, hzl6, hi, hq, hF⟩
  have hzhx4 := hx4.size
  refine wp_seq ?_
  refine wp_seq ?_
  refine wp_region_lit ?_
  refine wl_val ha5 rfl rfl rfl (op_move ha5 rfl rfl) ?_
  intro a7 ha7; clear ha5 a5
  refine wl_val ha7 rfl rfl rfl (op_move ha7 rfl rfl) ?_
  intro a8 ha8; clear ha7 a7
  refine wl_val ha8 rfl rfl rfl (op_len_sl ha8 rfl Try.underlying34 rfl h_a) ?_
  intro a9 ha9; clear ha8 a8
  refine wl_val ha9 rfl rfl rfl (op_lss ha9 rfl rfl rfl) ?_
  intro a10 ha10; clear ha9 a9
  refine wpList_nil ?_
  refine then_n ?_
  by_cases c11 : ((i : Nat) : Int) < ((a.length : Nat) : Int)
  ·
   rw [decide_eq_true c11] at ha10
   refine cond_t ha10 rfl ?_
   refine wp_skip ?_
   refine then_n ?_
   refine wp_seq ?_
   refine wp_block ?_
   refine wp_seq ?_
   refine wp_seq ?_
   refine dr_enter Ext follows_mixed ?_
   intro w12 he13
   have hx14 := hx4.trans' he13
   have hzhx14 := he13.size
   have hs15 : Ext w12 w12 := Ext.rfl' _
   refine dr_val (i := 0) ha10 rfl (by kernel_rfl) (by kernel_rfl) (by kernel_rfl) rfl rfl rfl hs15 (fun w' hw' => op_move ha10 rfl rfl) ?_
   intro a16 ha16; clear ha10 a10
   refine dr_val (i := 1) ha16 rfl (by kernel_rfl) (by kernel_rfl) (by kernel_rfl) rfl rfl rfl hs15 (fun w' hw' => op_move ha16 rfl rfl) ?_
   intro a17 ha17; clear ha16 a16
   obtain ⟨x18, hx18⟩ := get_ex (xs := a) (j := i) (by omega)
   obtain ⟨p19, c20, hi21, hc22, hr23, hs24⟩ := Rds.at_ h_a hx18
   obtain ⟨rfl, b25⟩ := inv_shStr hr23
   refine dr_val (i := 2) ha17 rfl (by kernel_rfl) (by kernel_rfl) (by kernel_rfl) rfl rfl rfl hs15 (fun w' hw' => op_indexAddr ha17 rfl Try.underlying34 ti9 rfl rfl (by omega) hi21) ?_
   intro a26 ha26; clear ha17 a17
   refine dr_val (i := 3) ha26 rfl (by kernel_rfl) (by kernel_rfl) (by kernel_rfl) rfl rfl rfl hs15 (fun w' hw' => op_loadH ha26 rfl Try.underlying9 rfl rfl (hc22.ext (hx14.trans' hw')) rfl) ?_
   intro a27 ha27; clear ha26 a26
   refine dr_val (i := 4) ha27 rfl (by kernel_rfl) (by kernel_rfl) (by kernel_rfl) rfl rfl rfl hs15 (fun w' hw' => op_move ha27 rfl rfl) ?_
   intro a28 ha28; clear ha27 a27
   refine dr_one (i := 5) (by kernel_rfl) ?_
   refine po_callR ha28 rfl rfl rfl rfl (op_call ha28 rfl cb61 rfl) (c_laws_markText _ q (by first | assumption | omega | (simp; omega) | (simp [mkN_length]; omega))) ?_
   rintro v29 w30 he31 rfl a32 ha32; clear ha28 a28
   have hs33 := hs15.trans' he31
   have hx34 := hx14.trans' he31
   have hzhx34 := he31.size
   refine ⟨hs33, ?_⟩
   refine dr_val (i := 6) ha32 rfl (by kernel_rfl) (by kernel_rfl) (by kernel_rfl) rfl rfl rfl hs33 (fun w' hw' => (op_sneq ha32 rfl rfl rfl).to (congrArg Value.bool decide_not)) ?_
   intro a35 ha35; clear ha32 a32
   refine dr_end (by kernel_rfl) ?_
   refine then_n ?_
   by_cases c36 : x18 = (mkT q)
   ·
    rw [decide_eq_true c36] at ha35
    refine cond_f ha35 rfl ?_
    refine wp_skip ?_
    refine then_n ?_
    refine wp_region_lit ?_
    refine wl_val ha35 rfl rfl rfl (op_move ha35 rfl rfl) ?_
    intro a37 ha37; clear ha35 a35
    refine wl_val ha37 rfl rfl rfl ((op_add ha37 rfl rfl rfl).int (IntWalk.i64_in _ (by omega))) ?_
    intro a38 ha38; clear ha37 a37
    refine wl_val ha38 rfl rfl rfl (op_assign ha38 rfl rfl) ?_
    intro a39 ha39; clear ha38 a38
    refine wpList_nil ?_
    refine block_n ?_
    refine then_n ?_
    refine wp_region_lit ?_
    refine wl_val ha39 rfl rfl rfl (op_move ha39 rfl rfl) ?_
    intro a40 ha40; clear ha39 a39
    refine wl_val ha40 rfl rfl rfl ((op_add ha40 rfl rfl rfl).int (IntWalk.i64_in _ (by omega))) ?_
    intro a41 ha41; clear ha40 a40
    refine wl_val ha41 rfl rfl rfl (op_assign ha41 rfl rfl) ?_
    intro a42 ha42; clear ha41 a41
    refine wpList_nil ?_
    refine round_end (x := (i, q)) ((i + 1), (q + (1 : Int))) ?_ ?_
    ·
     refine ⟨(Sl.cons_ ha42 rfl rfl (Sl.cons_ ha42 rfl (int_eq (by omega)) (Sl.cons_ ha42 rfl (int_eq (by omega)) (Sl.nil_ ha42)))), hx34, (by omega), (by omega), (by omega), (by rw [drop_cons hx18] at hF; simp only [heldG] at hF; rw [if_pos (by simp [okS, Prod.ext_iff, c11, c36] <;> omega)] at hF; rw [← hF] <;> (congr 1 <;> omega))⟩
    ·show (a.length - ((i + 1)) : Nat) < a.length - i; omega
   ·
    rw [decide_eq_false c36] at ha35
    refine cond_t ha35 rfl ?_
    refine wp_seq ?_
    refine wp_region_lit ?_
    refine wl_val ha35 rfl rfl rfl (op_assign ha35 rfl rfl) ?_
    intro a43 ha43; clear ha35 a35
    refine wpList_nil ?_
    refine then_n ?_
    refine wp_ret ?_
    refine then_r ?_
    refine block_r ?_
    refine then_r ?_
    refine then_r ?_
    refine block_r ?_
    refine then_r ?_
    refine ret1 ha43 rfl rfl ?_
    clear ha43 a43
    rw [drop_cons hx18] at hF
    simp only [heldG] at hF
    rw [if_neg (by simp [okS, Prod.ext_iff, c11, c36])] at hF
    exact ret_mk hx34 (int_eq (by exact hF))
  ·
   rw [decide_eq_false c11] at ha10
   refine cond_f ha10 rfl ?_
   refine wp_exit ?_
   refine then_e ?_
   refine then_e ?_
   refine block_hit ?_
   refine then_n ?_
   refine wp_seq ?_
   refine wp_region_lit ?_
   refine wl_val ha10 rfl rfl rfl (op_move ha10 rfl rfl) ?_
   intro a44 ha44; clear ha10 a10
   refine wl_val ha44 rfl rfl rfl (op_assign ha44 rfl rfl) ?_
   intro a45 ha45; clear ha44 a44
   refine wpList_nil ?_
   refine then_n ?_
   refine wp_ret ?_
   refine ret1 ha45 rfl rfl ?_
   clear ha45 a45
   rw [drop_nil (by omega)] at hF
   simp only [heldG] at hF
   exact ret_mk hx4 (int_eq (by exact hF))


end Go.Proofs.Ythbkedflhmeohaa
