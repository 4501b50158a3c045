/- The helpers of the property laws. -/
import Derived.Test.YtkdnclpgijkceaaW2
namespace Go.Proofs.Ytkdnclpgijkceaa
open Go Go.RowKit

theorem set_take {α : Type} {acc xs : List α} {i : Nat} {x : α} (h : acc.take i = xs.take i) (hl : acc.length = xs.length) (hx : xs[i]? = some x) : (acc.set i x).take (i + 1) = xs.take (i + 1) := by
  have hi : i < xs.length := (List.getElem?_eq_some_iff.1 hx).1
  rw [take_snoc hx, ← h]
  have : (acc.set i x)[i]? = some x := by rw [List.getElem?_set_self (by omega)]
  rw [take_snoc this, List.take_set_of_le (Nat.le_refl _)]
/-- Do two lists agree place by place? -/
def eqL {α : Type} [DecidableEq α] (xs ys : List α) : Bool := decide (xs = ys)
theorem eqL_nil {α : Type} [DecidableEq α] : eqL ([] : List α) [] = true := by simp [eqL]
theorem eqL_self {α : Type} [DecidableEq α] (xs : List α) : eqL xs xs = true := by simp [eqL]
theorem eqL_len {α : Type} [DecidableEq α] {xs ys : List α} (h : ¬ xs.length = ys.length) : eqL xs ys = false := by
  unfold eqL; rw [decide_eq_false]; intro e; exact h (by rw [e])
theorem eqL_step {α : Type} [DecidableEq α] {xs ys : List α} {i : Nat} {x y : α} (hx : xs[i]? = some x) (hy : ys[i]? = some y) : eqL (xs.drop i) (ys.drop i) = (decide (x = y) && eqL (xs.drop (i + 1)) (ys.drop (i + 1))) := by
  unfold eqL; rw [drop_cons hx, drop_cons hy, Bool.eq_iff_iff]; simp
/-- How much is left of a size behind a piece of that cost; -1: too little. -/
def szR (n : Int) (k : Nat) : Int := if n - k < 0 then -1 else n - k
theorem szR_ok {n : Int} {k : Nat} (h : ¬ szR n k < 0) : (k : Int) ≤ n ∧ szR n k = n - k := by unfold szR at *; split at h <;> simp_all <;> omega
theorem szR_no {n : Int} {k : Nat} (h : szR n k < 0) : n < (k : Int) := by unfold szR at h; split at h <;> omega
theorem szR_add {n : Int} {k m : Nat} (h : ¬ szR n k < 0) : szR n (k + m) = szR (szR n k) m := by
  obtain ⟨h1, h2⟩ := szR_ok h
  rw [h2]; unfold szR; split <;> split <;> omega
theorem szR_neg {n : Int} {k m : Nat} (h : szR n k < 0) : szR n (k + m) = -1 := by
  have := szR_no h; unfold szR; rw [if_pos (by omega)]
theorem szR_le {n : Int} {k : Nat} (h : 0 ≤ n) : szR n k ≤ n := by unfold szR; split <;> omega
theorem szR_zero {n : Int} (h : 0 ≤ n) : szR n 0 = n := by unfold szR; rw [if_neg (by omega)]; omega
theorem szR_if {n : Int} {k : Nat} (h : n < (k : Int)) : szR n k = -1 := by unfold szR; rw [if_pos (by omega)]
theorem szR_nif {n : Int} {k : Nat} (h : (k : Int) ≤ n) : szR n k = n - k := by unfold szR; rw [if_neg (by omega)]
/-- What the elements cost, and a list of them. -/
def sumC {α : Type} (c : α → Nat) : List α → Nat
  | [] => 0
  | x :: xs => c x + sumC c xs
def costL {α : Type} (c : α → Nat) (xs : List α) : Nat := xs.length + sumC c xs
theorem costL_len {α : Type} (c : α → Nat) (xs : List α) : xs.length ≤ costL c xs := by unfold costL; omega
theorem sumC_mem {α : Type} (c : α → Nat) : ∀ (xs : List α) (x : α), x ∈ xs → c x ≤ sumC c xs
  | [], x, h => by simp at h
  | y :: ys, x, h => by
    rcases List.mem_cons.1 h with e | e
    · subst e; simp only [sumC]; omega
    · have := sumC_mem c ys x e; simp only [sumC]; omega
theorem cost_mem {α : Type} {c : α → Nat} {xs : List α} {x : α} (h : x ∈ xs) : c x ≤ costL c xs := by have := sumC_mem c xs x h; unfold costL; omega
theorem hset_self {α : Type} {xs : List α} {i : Nat} {x y : α} (h : (xs.set i x)[i]? = some y) (hi : i < xs.length) : y = x := by
  rw [List.getElem?_set_self hi] at h; exact (Option.some.inj h).symm

theorem c_laws_big (w0 : World) (v_code : Value) (code : List UInt8) {S_code : Nat → Prop} (h_code : Rds shU8 S_code w0 v_code code) :
  Calls Try.prog 39 #[v_code] w0 (Ret w0 (fun v _ => v = .bool (decide (4096 < code.length)))) := by
 refine enter (N := 6) Try.func39 rfl rfl rfl ?_
 intro a0 ha0
 have hx0 := Ext.rfl' w0
 have hl_code := h_code.length_le
 refine wp_seq ?_
 refine wp_region_lit ?_
 refine wl_val ha0 rfl rfl rfl (op_assign ha0 rfl rfl) ?_
 intro a1 ha1; clear ha0 a0
 refine wpList_nil ?_
 refine then_n ?_
 refine wp_seq ?_
 refine wp_region_lit ?_
 refine wl_val ha1 rfl rfl rfl (op_move ha1 rfl rfl) ?_
 intro a2 ha2; clear ha1 a1
 refine wl_val ha2 rfl rfl rfl (op_len_sl ha2 rfl Try.underlying51 rfl h_code) ?_
 intro a3 ha3; clear ha2 a2
 refine wl_val ha3 rfl rfl rfl (op_gtr ha3 rfl rfl rfl) ?_
 intro a4 ha4; clear ha3 a3
 refine wl_val ha4 rfl rfl rfl (op_assign ha4 rfl rfl) ?_
 intro a5 ha5; clear ha4 a4
 refine wpList_nil ?_
 refine then_n ?_
 refine wp_ret ?_
 refine ret1 ha5 rfl rfl ?_
 clear ha5 a5
 exact ret_mk hx0 (congrArg Value.bool (by simp; omega))

theorem c_laws_likeInts (w0 : World) (v_a : Value) (a : List Int) {S_a : Nat → Prop} (v_b : Value) (b : List Int) {S_b : Nat → Prop} (h_a : Rds shI64 S_a w0 v_a a) (h_b : Rds shI64 S_b w0 v_b b) :
  Calls Try.prog 43 #[v_a, v_b] w0 (Ret w0 (fun v _ => v = .bool (eqL a b))) := by
 refine enter (N := 26) Try.func43 rfl rfl rfl ?_
 intro a0 ha0
 have hx0 := Ext.rfl' w0
 have hl_a := h_a.length_le
 have hl_b := h_b.length_le
 refine wp_seq ?_
 refine wp_region_lit ?_
 refine wl_val ha0 rfl rfl rfl (op_assign ha0 rfl rfl) ?_
 intro a1 ha1; clear ha0 a0
 refine wpList_nil ?_
 refine then_n ?_
 refine wp_seq ?_
 refine wp_seq ?_
 refine wp_region_lit ?_
 refine wl_val ha1 rfl rfl rfl (op_move ha1 rfl rfl) ?_
 intro a2 ha2; clear ha1 a1
 refine wl_val ha2 rfl rfl rfl (op_len_sl ha2 rfl Try.underlying44 rfl h_a) ?_
 intro a3 ha3; clear ha2 a2
 refine wl_val ha3 rfl rfl rfl (op_move ha3 rfl rfl) ?_
 intro a4 ha4; clear ha3 a3
 refine wl_val ha4 rfl rfl rfl (op_len_sl ha4 rfl Try.underlying44 rfl h_b) ?_
 intro a5 ha5; clear ha4 a4
 refine wl_val ha5 rfl rfl rfl ((op_neq ha5 rfl rfl rfl).to (congrArg Value.bool decide_not)) ?_
 intro a6 ha6; clear ha5 a5
 refine wpList_nil ?_
 refine then_n ?_
 by_cases c7 : ((a.length : Nat) : Int) = ((b.length : Nat) : Int)
 ·
  rw [decide_eq_true c7] at ha6
  refine cond_f ha6 rfl ?_
  refine wp_skip ?_
  refine then_n ?_
  refine wp_seq ?_
  refine wp_seq ?_
  refine wp_region_lit ?_
  refine wl_val ha6 rfl rfl rfl (op_assign ha6 rfl rfl) ?_
  intro a8 ha8; clear ha6 a6
  refine wpList_nil ?_
  refine then_n ?_
  refine wp_block ?_
  refine loop_inv (X := Nat) (fun (i : Nat) fr wl => Sl 26 fr [(0, v_a), (1, v_b), (5, .int .i64 ((i : Nat) : Int))] ∧ Ext w0 wl ∧ w0.heap.size ≤ wl.heap.size ∧ (i ≤ a.length) ∧ (a.length = b.length) ∧ (eqL (a.drop i) (b.drop i) = eqL a b)) (fun (i : Nat) => a.length - i) (0) ?_ ?_
  ·
   exact ⟨(Sl.cons_ ha8 rfl rfl (Sl.cons_ ha8 rfl rfl (Sl.cons_ ha8 rfl (int_eq (by omega)) (Sl.nil_ ha8)))), hx0, (by omega), (by omega), (by omega), (by simp)⟩
  ·
   clear ha8 a8
   rintro i a11 w9 ⟨ha11, hx10, hzl12, hi, hl, hF⟩
   have hzhx10 := hx10.size
   refine wp_seq ?_
   refine wp_seq ?_
   refine wp_region_lit ?_
   refine wl_val ha11 rfl rfl rfl (op_move ha11 rfl rfl) ?_
   intro a13 ha13; clear ha11 a11
   refine wl_val ha13 rfl rfl rfl (op_move ha13 rfl rfl) ?_
   intro a14 ha14; clear ha13 a13
   refine wl_val ha14 rfl rfl rfl (op_len_sl ha14 rfl Try.underlying44 rfl h_a) ?_
   intro a15 ha15; clear ha14 a14
   refine wl_val ha15 rfl rfl rfl (op_lss ha15 rfl rfl rfl) ?_
   intro a16 ha16; clear ha15 a15
   refine wpList_nil ?_
   refine then_n ?_
   by_cases c17 : ((i : Nat) : Int) < ((a.length : Nat) : Int)
   ·
    rw [decide_eq_true c17] at ha16
    refine cond_t ha16 rfl ?_
    refine wp_skip ?_
    refine then_n ?_
    refine wp_seq ?_
    refine wp_block ?_
    refine wp_seq ?_
    refine dr_enter Ext follows_mixed ?_
    intro w18 he19
    have hx20 := hx10.trans' he19
    have hzhx20 := he19.size
    have hs21 : Ext w18 w18 := Ext.rfl' _
    refine dr_val (i := 0) ha16 rfl (by kernel_rfl) (by kernel_rfl) (by kernel_rfl) rfl rfl rfl hs21 (fun w' hw' => op_move ha16 rfl rfl) ?_
    intro a22 ha22; clear ha16 a16
    refine dr_val (i := 1) ha22 rfl (by kernel_rfl) (by kernel_rfl) (by kernel_rfl) rfl rfl rfl hs21 (fun w' hw' => op_move ha22 rfl rfl) ?_
    intro a23 ha23; clear ha22 a22
    obtain ⟨x24, hx24⟩ := get_ex (xs := a) (j := i) (by omega)
    obtain ⟨p25, c26, hi27, hc28, hr29, hs30⟩ := Rds.at_ h_a hx24
    obtain ⟨rfl, b31⟩ := inv_shI64 hr29
    refine dr_val (i := 2) ha23 rfl (by kernel_rfl) (by kernel_rfl) (by kernel_rfl) rfl rfl rfl hs21 (fun w' hw' => op_indexAddr ha23 rfl Try.underlying44 ti2 rfl rfl (by omega) hi27) ?_
    intro a32 ha32; clear ha23 a23
    refine dr_val (i := 3) ha32 rfl (by kernel_rfl) (by kernel_rfl) (by kernel_rfl) rfl rfl rfl hs21 (fun w' hw' => op_loadH ha32 rfl Try.underlying2 rfl rfl (hc28.ext (hx20.trans' hw')) rfl) ?_
    intro a33 ha33; clear ha32 a32
    refine dr_val (i := 4) ha33 rfl (by kernel_rfl) (by kernel_rfl) (by kernel_rfl) rfl rfl rfl hs21 (fun w' hw' => op_move ha33 rfl rfl) ?_
    intro a34 ha34; clear ha33 a33
    refine dr_val (i := 5) ha34 rfl (by kernel_rfl) (by kernel_rfl) (by kernel_rfl) rfl rfl rfl hs21 (fun w' hw' => op_move ha34 rfl rfl) ?_
    intro a35 ha35; clear ha34 a34
    obtain ⟨x36, hx36⟩ := get_ex (xs := b) (j := i) (by omega)
    obtain ⟨p37, c38, hi39, hc40, hr41, hs42⟩ := Rds.at_ h_b hx36
    obtain ⟨rfl, b43⟩ := inv_shI64 hr41
    refine dr_val (i := 6) ha35 rfl (by kernel_rfl) (by kernel_rfl) (by kernel_rfl) rfl rfl rfl hs21 (fun w' hw' => op_indexAddr ha35 rfl Try.underlying44 ti2 rfl rfl (by omega) hi39) ?_
    intro a44 ha44; clear ha35 a35
    refine dr_val (i := 7) ha44 rfl (by kernel_rfl) (by kernel_rfl) (by kernel_rfl) rfl rfl rfl hs21 (fun w' hw' => op_loadH ha44 rfl Try.underlying2 rfl rfl (hc40.ext (hx20.trans' hw')) rfl) ?_
    intro a45 ha45; clear ha44 a44
    refine dr_val (i := 8) ha45 rfl (by kernel_rfl) (by kernel_rfl) (by kernel_rfl) rfl rfl rfl hs21 (fun w' hw' => (op_neq ha45 rfl rfl rfl).to (congrArg Value.bool decide_not)) ?_
    intro a46 ha46; clear ha45 a45
    refine dr_end (by kernel_rfl) ?_
    refine then_n ?_
    by_cases c47 : x24 = x36
    ·
     rw [decide_eq_true c47] at ha46
     refine cond_f ha46 rfl ?_
     refine wp_skip ?_
     refine block_n ?_
     refine then_n ?_
     refine wp_region_lit ?_
     refine wl_val ha46 rfl rfl rfl (op_move ha46 rfl rfl) ?_
     intro a48 ha48; clear ha46 a46
     refine wl_val ha48 rfl rfl rfl ((op_add ha48 rfl rfl rfl).int (IntWalk.i64_in _ (by omega))) ?_
     intro a49 ha49; clear ha48 a48
     refine wl_val ha49 rfl rfl rfl (op_assign ha49 rfl rfl) ?_
     intro a50 ha50; clear ha49 a49
     refine wpList_nil ?_
     refine round_end (x := i) ((i + 1)) ?_ ?_
     ·
      refine ⟨(Sl.cons_ ha50 rfl rfl (Sl.cons_ ha50 rfl rfl (Sl.cons_ ha50 rfl (int_eq (by omega)) (Sl.nil_ ha50)))), hx20, (by omega), (by omega), (by exact hl), (by rw [eqL_step hx24 hx36] at hF; simpa [c7, c17, c47] using hF)⟩
     ·show (a.length - ((i + 1)) : Nat) < a.length - i; omega
    ·
     rw [decide_eq_false c47] at ha46
     refine cond_t ha46 rfl ?_
     refine wp_seq ?_
     refine wp_region_lit ?_
     refine wl_val ha46 rfl rfl rfl (op_assign ha46 rfl rfl) ?_
     intro a51 ha51; clear ha46 a46
     refine wpList_nil ?_
     refine then_n ?_
     refine wp_ret ?_
     refine block_r ?_
     refine then_r ?_
     refine then_r ?_
     refine block_r ?_
     refine then_r ?_
     refine ret1 ha51 rfl rfl ?_
     clear ha51 a51
     rw [eqL_step hx24 hx36] at hF
     exact ret_mk hx20 (congrArg Value.bool (by first | (simp [← hF, c7, c17, c47]; done) | (rw [← hF]; simp_all [eqL]; done)))
   ·
    rw [decide_eq_false c17] at ha16
    refine cond_f ha16 rfl ?_
    refine wp_exit ?_
    refine then_e ?_
    refine then_e ?_
    refine block_hit ?_
    refine then_n ?_
    refine wp_seq ?_
    refine wp_region_lit ?_
    refine wl_val ha16 rfl rfl rfl (op_assign ha16 rfl rfl) ?_
    intro a52 ha52; clear ha16 a16
    refine wpList_nil ?_
    refine then_n ?_
    refine wp_ret ?_
    refine ret1 ha52 rfl rfl ?_
    clear ha52 a52
    rw [drop_nil (by omega), drop_nil (by omega), eqL_nil] at hF
    exact ret_mk hx10 (congrArg Value.bool (by first | (simp [← hF, c7, c17]; done) | (rw [← hF]; simp_all [eqL]; done)))
 ·
  rw [decide_eq_false c7] at ha6
  refine cond_t ha6 rfl ?_
  refine wp_seq ?_
  refine wp_region_lit ?_
  refine wl_val ha6 rfl rfl rfl (op_assign ha6 rfl rfl) ?_
  intro a53 ha53; clear ha6 a6
  refine wpList_nil ?_
  refine then_n ?_
  refine wp_ret ?_
  refine then_r ?_
  refine ret1 ha53 rfl rfl ?_
  clear ha53 a53
  
  exact ret_mk hx0 (congrArg Value.bool (by rw [eqL_len (by omega)]))

theorem c_laws_likeRecords (w0 : World) (v_a : Value) (a : List (Int × Str)) {S_a : Nat → Prop} (v_b : Value) (b : List (Int × Str)) {S_b : Nat → Prop} (h_a : Rds shRec S_a w0 v_a a) (h_b : Rds shRec S_b w0 v_b b) :
  Calls Try.prog 42 #[v_a, v_b] w0 (Ret w0 (fun v _ => v = .bool (eqL a b))) := by
 refine enter (N := 26) Try.func42 rfl rfl rfl ?_
 intro a0 ha0
 have hx0 := Ext.rfl' w0
 have hl_a := h_a.length_le
 have hl_b := h_b.length_le
 refine wp_seq ?_
 refine wp_region_lit ?_
 refine wl_val ha0 rfl rfl rfl (op_assign ha0 rfl rfl) ?_
 intro a1 ha1; clear ha0 a0
 refine wpList_nil ?_
 refine then_n ?_
 refine wp_seq ?_
 refine wp_seq ?_
 refine wp_region_lit ?_
 refine wl_val ha1 rfl rfl rfl (op_move ha1 rfl rfl) ?_
 intro a2 ha2; clear ha1 a1
 refine wl_val ha2 rfl rfl rfl (op_len_sl ha2 rfl Try.underlying25 rfl h_a) ?_
 intro a3 ha3; clear ha2 a2
 refine wl_val ha3 rfl rfl rfl (op_move ha3 rfl rfl) ?_
 intro a4 ha4; clear ha3 a3
 refine wl_val ha4 rfl rfl rfl (op_len_sl ha4 rfl Try.underlying25 rfl h_b) ?_
 intro a5 ha5; clear ha4 a4
 refine wl_val ha5 rfl rfl rfl ((op_neq ha5 rfl rfl rfl).to (congrArg Value.bool decide_not)) ?_
 intro a6 ha6; clear ha5 a5
 refine wpList_nil ?_
 refine then_n ?_
 by_cases c7 : ((a.length : Nat) : Int) = ((b.length : Nat) : Int)
 ·
  rw [decide_eq_true c7] at ha6
  refine cond_f ha6 rfl ?_
  refine wp_skip ?_
  refine then_n ?_
  refine wp_seq ?_
  refine wp_seq ?_
  refine wp_region_lit ?_
  refine wl_val ha6 rfl rfl rfl (op_assign ha6 rfl rfl) ?_
  intro a8 ha8; clear ha6 a6
  refine wpList_nil ?_
  refine then_n ?_
  refine wp_block ?_
  refine loop_inv (X := Nat) (fun (i : Nat) fr wl => Sl 26 fr [(0, v_a), (1, v_b), (5, .int .i64 ((i : Nat) : Int))] ∧ Ext w0 wl ∧ w0.heap.size ≤ wl.heap.size ∧ (i ≤ a.length) ∧ (a.length = b.length) ∧ (eqL (a.drop i) (b.drop i) = eqL a b)) (fun (i : Nat) => a.length - i) (0) ?_ ?_
  ·
   exact ⟨(Sl.cons_ ha8 rfl rfl (Sl.cons_ ha8 rfl rfl (Sl.cons_ ha8 rfl (int_eq (by omega)) (Sl.nil_ ha8)))), hx0, (by omega), (by omega), (by omega), (by simp)⟩
  ·
   clear ha8 a8
   rintro i a11 w9 ⟨ha11, hx10, hzl12, hi, hl, hF⟩
   have hzhx10 := hx10.size
   refine wp_seq ?_
   refine wp_seq ?_
   refine wp_region_lit ?_
   refine wl_val ha11 rfl rfl rfl (op_move ha11 rfl rfl) ?_
   intro a13 ha13; clear ha11 a11
   refine wl_val ha13 rfl rfl rfl (op_move ha13 rfl rfl) ?_
   intro a14 ha14; clear ha13 a13
   refine wl_val ha14 rfl rfl rfl (op_len_sl ha14 rfl Try.underlying25 rfl h_a) ?_
   intro a15 ha15; clear ha14 a14
   refine wl_val ha15 rfl rfl rfl (op_lss ha15 rfl rfl rfl) ?_
   intro a16 ha16; clear ha15 a15
   refine wpList_nil ?_
   refine then_n ?_
   by_cases c17 : ((i : Nat) : Int) < ((a.length : Nat) : Int)
   ·
    rw [decide_eq_true c17] at ha16
    refine cond_t ha16 rfl ?_
    refine wp_skip ?_
    refine then_n ?_
    refine wp_seq ?_
    refine wp_block ?_
    refine wp_seq ?_
    refine dr_enter Ext follows_mixed ?_
    intro w18 he19
    have hx20 := hx10.trans' he19
    have hzhx20 := he19.size
    have hs21 : Ext w18 w18 := Ext.rfl' _
    refine dr_val (i := 0) ha16 rfl (by kernel_rfl) (by kernel_rfl) (by kernel_rfl) rfl rfl rfl hs21 (fun w' hw' => op_move ha16 rfl rfl) ?_
    intro a22 ha22; clear ha16 a16
    refine dr_val (i := 1) ha22 rfl (by kernel_rfl) (by kernel_rfl) (by kernel_rfl) rfl rfl rfl hs21 (fun w' hw' => op_move ha22 rfl rfl) ?_
    intro a23 ha23; clear ha22 a22
    obtain ⟨x24, hx24⟩ := get_ex (xs := a) (j := i) (by omega)
    obtain ⟨p25, c26, hi27, hc28, hr29, hs30⟩ := Rds.at_ h_a hx24
    obtain ⟨rfl, b31, b32⟩ := inv_shRec hr29
    refine dr_val (i := 2) ha23 rfl (by kernel_rfl) (by kernel_rfl) (by kernel_rfl) rfl rfl rfl hs21 (fun w' hw' => op_indexAddr ha23 rfl Try.underlying25 ti36 rfl rfl (by omega) hi27) ?_
    intro a33 ha33; clear ha23 a23
    refine dr_val (i := 3) ha33 rfl (by kernel_rfl) (by kernel_rfl) (by kernel_rfl) rfl rfl rfl hs21 (fun w' hw' => op_loadS ha33 rfl Try.underlying36 ti36 rfl rfl (hc28.ext (hx20.trans' hw'))) ?_
    intro a34 ha34; clear ha33 a33
    refine dr_val (i := 4) ha34 rfl (by kernel_rfl) (by kernel_rfl) (by kernel_rfl) rfl rfl rfl hs21 (fun w' hw' => op_move ha34 rfl rfl) ?_
    intro a35 ha35; clear ha34 a34
    refine dr_val (i := 5) ha35 rfl (by kernel_rfl) (by kernel_rfl) (by kernel_rfl) rfl rfl rfl hs21 (fun w' hw' => op_move ha35 rfl rfl) ?_
    intro a36 ha36; clear ha35 a35
    obtain ⟨x37, hx37⟩ := get_ex (xs := b) (j := i) (by omega)
    obtain ⟨p38, c39, hi40, hc41, hr42, hs43⟩ := Rds.at_ h_b hx37
    obtain ⟨rfl, b44, b45⟩ := inv_shRec hr42
    refine dr_val (i := 6) ha36 rfl (by kernel_rfl) (by kernel_rfl) (by kernel_rfl) rfl rfl rfl hs21 (fun w' hw' => op_indexAddr ha36 rfl Try.underlying25 ti36 rfl rfl (by omega) hi40) ?_
    intro a46 ha46; clear ha36 a36
    refine dr_val (i := 7) ha46 rfl (by kernel_rfl) (by kernel_rfl) (by kernel_rfl) rfl rfl rfl hs21 (fun w' hw' => op_loadS ha46 rfl Try.underlying36 ti36 rfl rfl (hc41.ext (hx20.trans' hw'))) ?_
    intro a47 ha47; clear ha46 a46
    refine dr_val (i := 8) ha47 rfl (by kernel_rfl) (by kernel_rfl) (by kernel_rfl) rfl rfl rfl hs21 (fun w' hw' => (op_aneq ha47 rfl eg36 (aeq36 _ x24 x37) rfl rfl)) ?_
    intro a48 ha48; clear ha47 a47
    refine dr_end (by kernel_rfl) ?_
    refine then_n ?_
    by_cases c49 : x24 = x37
    ·
     rw [decide_eq_true c49] at ha48
     refine cond_f ha48 rfl ?_
     refine wp_skip ?_
     refine block_n ?_
     refine then_n ?_
     refine wp_region_lit ?_
     refine wl_val ha48 rfl rfl rfl (op_move ha48 rfl rfl) ?_
     intro a50 ha50; clear ha48 a48
     refine wl_val ha50 rfl rfl rfl ((op_add ha50 rfl rfl rfl).int (IntWalk.i64_in _ (by omega))) ?_
     intro a51 ha51; clear ha50 a50
     refine wl_val ha51 rfl rfl rfl (op_assign ha51 rfl rfl) ?_
     intro a52 ha52; clear ha51 a51
     refine wpList_nil ?_
     refine round_end (x := i) ((i + 1)) ?_ ?_
     ·
      refine ⟨(Sl.cons_ ha52 rfl rfl (Sl.cons_ ha52 rfl rfl (Sl.cons_ ha52 rfl (int_eq (by omega)) (Sl.nil_ ha52)))), hx20, (by omega), (by omega), (by exact hl), (by rw [eqL_step hx24 hx37] at hF; simpa [c7, c17, c49] using hF)⟩
     ·show (a.length - ((i + 1)) : Nat) < a.length - i; omega
    ·
     rw [decide_eq_false c49] at ha48
     refine cond_t ha48 rfl ?_
     refine wp_seq ?_
     refine wp_region_lit ?_
     refine wl_val ha48 rfl rfl rfl (op_assign ha48 rfl rfl) ?_
     intro a53 ha53; clear ha48 a48
     refine wpList_nil ?_
     refine then_n ?_
     refine wp_ret ?_
     refine block_r ?_
     refine then_r ?_
     refine then_r ?_
     refine block_r ?_
     refine then_r ?_
     refine ret1 ha53 rfl rfl ?_
     clear ha53 a53
     rw [eqL_step hx24 hx37] at hF
     exact ret_mk hx20 (congrArg Value.bool (by first | (simp [← hF, c7, c17, c49]; done) | (rw [← hF]; simp_all [eqL]; done)))
   ·
    rw [decide_eq_false c17] at ha16
    refine cond_f ha16 rfl ?_
    refine wp_exit ?_
    refine then_e ?_
    refine then_e ?_
    refine block_hit ?_
    refine then_n ?_
    refine wp_seq ?_
    refine wp_region_lit ?_
    refine wl_val ha16 rfl rfl rfl (op_assign ha16 rfl rfl) ?_
    intro a54 ha54; clear ha16 a16
    refine wpList_nil ?_
    refine then_n ?_
    refine wp_ret ?_
    refine ret1 ha54 rfl rfl ?_
    clear ha54 a54
    rw [drop_nil (by omega), drop_nil (by omega), eqL_nil] at hF
    exact ret_mk hx10 (congrArg Value.bool (by first | (simp [← hF, c7, c17]; done) | (rw [← hF]; simp_all [eqL]; done)))
 ·
  rw [decide_eq_false c7] at ha6
  refine cond_t ha6 rfl ?_
  refine wp_seq ?_
  refine wp_region_lit ?_
  refine wl_val ha6 rfl rfl rfl (op_assign ha6 rfl rfl) ?_
  intro a55 ha55; clear ha6 a6
  refine wpList_nil ?_
  refine then_n ?_
  refine wp_ret ?_
  refine then_r ?_
  refine ret1 ha55 rfl rfl ?_
  clear ha55 a55
  
  exact ret_mk hx0 (congrArg Value.bool (by rw [eqL_len (by omega)]))


end Go.Proofs.Ytkdnclpgijkceaa
