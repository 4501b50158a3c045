/- The helpers of the property laws. -/
import Derived.Test.YthbkedflhmeohaaW2
import Derived.Test.YthbkedflhmeohaaL1
namespace Go.Proofs.Ythbkedflhmeohaa
open Go Go.RowKit

theorem c_laws_big (w0 : World) (v_code : Value) (code : List UInt8) {S_code : Nat → Prop} (h_code : Rds shU8 S_code w0 v_code code) :
  Calls Try.prog 40 #[v_code] w0 (Ret w0 (fun v _ => v = .bool (decide (4096 < code.length)))) := by
 refine enter (N := 6) Try.func40 rfl rfl rfl ?_
 intro a0 ha0
 have hx0 := Ext.rfl' w0
 have hl_code := h_code.length_le
 refine wp_seq ?_
 refine wp_region_lit ?_
 refine wl_val ha0 rfl rfl rfl (op_assign ha0 rfl rfl) ?_
 intro a1 ha1; clear ha0 a0
 refine wpList_nil ?_
 refine then_n ?_
 refine wp_seq ?_
 refine wp_region_lit ?_
 refine wl_val ha1 rfl rfl rfl (op_move ha1 rfl rfl) ?_
 intro a2 ha2; clear ha1 a1
 refine wl_val ha2 rfl rfl rfl (op_len_sl ha2 rfl Try.underlying47 rfl h_code) ?_
 intro a3 ha3; clear ha2 a2
 refine wl_val ha3 rfl rfl rfl (op_gtr ha3 rfl rfl rfl) ?_
 intro a4 ha4; clear ha3 a3
 refine wl_val ha4 rfl rfl rfl (op_assign ha4 rfl rfl) ?_
 intro a5 ha5; clear ha4 a4
 refine wpList_nil ?_
 refine then_n ?_
 refine wp_ret ?_
 refine ret1 ha5 rfl rfl ?_
 clear ha5 a5
 exact ret_mk hx0 (congrArg Value.bool (by simp; omega))

theorem c_laws_likeTexts (w0 : World) (v_a : Value) (a : List Str) {S_a : Nat → Prop} (v_b : Value) (b : List Str) {S_b : Nat → Prop} (h_a : Rds shStr S_a w0 v_a a) (h_b : Rds shStr S_b w0 v_b b) :
  Calls Try.prog 46 #[v_a, v_b] w0 (Ret w0 (fun v _ => v = .bool (eqL a b))) := by
 refine enter (N := 26) Try.func46 rfl rfl rfl ?_
 intro a0 ha0
 have hx0 := Ext.rfl' w0
 have hl_a := h_a.length_le
 have hl_b := h_b.length_le
 refine wp_seq ?_
 refine wp_region_lit ?_
 refine wl_val ha0 rfl rfl rfl (op_assign ha0 rfl rfl) ?_
 intro a1 ha1; clear ha0 a0
 refine wpList_nil ?_
 refine then_n ?_
 refine wp_seq ?_
 refine wp_seq ?_
 refine wp_region_lit ?_
 refine wl_val ha1 rfl rfl rfl (op_move ha1 rfl rfl) ?_
 intro a2 ha2; clear ha1 a1
 refine wl_val ha2 rfl rfl rfl (op_len_sl ha2 rfl Try.underlying34 rfl h_a) ?_
 intro a3 ha3; clear ha2 a2
 refine wl_val ha3 rfl rfl rfl (op_move ha3 rfl rfl) ?_
 intro a4 ha4; clear ha3 a3
 refine wl_val ha4 rfl rfl rfl (op_len_sl ha4 rfl Try.underlying34 rfl h_b) ?_
 intro a5 ha5; clear ha4 a4
 refine wl_val ha5 rfl rfl rfl ((op_neq ha5 rfl rfl rfl).to (congrArg Value.bool decide_not)) ?_
 intro a6 ha6; clear ha5 a5
 refine wpList_nil ?_
 refine then_n ?_
 by_cases c7 : ((a.length : Nat) : Int) = ((b.length : Nat) : Int)
 ·
  rw [decide_eq_true c7] at ha6
  refine cond_f ha6 rfl ?_
  refine wp_skip ?_
  refine then_n ?_
  refine wp_seq ?_
  refine wp_seq ?_
  refine wp_region_lit ?_
  refine wl_val ha6 rfl rfl rfl (op_assign ha6 rfl rfl) ?_
  intro a8 ha8; clear ha6 a6
  refine wpList_nil ?_
  refine then_n ?_
  refine wp_block ?_
  refine loop_inv (X := Nat) (fun (i : Nat) fr wl => Sl 26 fr [(0, v_a), (1, v_b), (5, .int .i64 ((i : Nat) : Int))] ∧ Ext w0 wl ∧ w0.heap.size ≤ wl.heap.size ∧ (i ≤ a.length) ∧ (a.length = b.length) ∧ (eqL (a.drop i) (b.drop i) = eqL a b)) (fun (i : Nat) => a.length - i) (0) ?_ ?_
  ·
   exact ⟨(Sl.cons_ ha8 rfl rfl (Sl.cons_ ha8 rfl rfl (Sl.cons_ ha8 rfl (int_eq (by omega)) (Sl.nil_ ha8)))), hx0, (by omega), (by omega), (by omega), (by simp)⟩
  ·
   clear ha8 a8
   rintro i a11 w9 ⟨ha11, hx10, hzl12, hi, hl, hF⟩
   have hzhx10 := hx10.size
   refine wp_seq ?_
   refine wp_seq ?_
   refine wp_region_lit ?_
   refine wl_val ha11 rfl rfl rfl (op_move ha11 rfl rfl) ?_
   intro a13 ha13; clear ha11 a11
   refine wl_val ha13 rfl rfl rfl (op_move ha13 rfl rfl) ?_
   intro a14 ha14; clear ha13 a13
   refine wl_val ha14 rfl rfl rfl (op_len_sl ha14 rfl Try.underlying34 rfl h_a) ?_
   intro a15 ha15; clear ha14 a14
   refine wl_val ha15 rfl rfl rfl (op_lss ha15 rfl rfl rfl) ?_
   intro a16 ha16; clear ha15 a15
   refine wpList_nil ?_
   refine then_n ?_
   by_cases c17 : ((i : Nat) : Int) < ((a.length : Nat) : Int)
   ·
    rw [decide_eq_true c17] at ha16
    refine cond_t ha16 rfl ?_
    refine wp_skip ?_
    refine then_n ?_
    refine wp_seq ?_
    refine wp_block ?_
    refine wp_seq ?_
    refine dr_enter Ext follows_mixed ?_
    intro w18 he19
    have hx20 := hx10.trans' he19
    have hzhx20 := he19.size
    have hs21 : Ext w18 w18 := Ext.rfl' _
    refine dr_val (i := 0) ha16 rfl (by kernel_rfl) (by kernel_rfl) (by kernel_rfl) rfl rfl rfl hs21 (fun w' hw' => op_move ha16 rfl rfl) ?_
    intro a22 ha22; clear ha16 a16
    refine dr_val (i := 1) ha22 rfl (by kernel_rfl) (by kernel_rfl) (by kernel_rfl) rfl rfl rfl hs21 (fun w' hw' => op_move ha22 rfl rfl) ?_
    intro a23 ha23; clear ha22 a22
    obtain ⟨x24, hx24⟩ := get_ex (xs := a) (j := i) (by omega)
    obtain ⟨p25, c26, hi27, hc28, hr29, hs30⟩ := Rds.at_ h_a hx24
    obtain ⟨rfl, b31⟩ := inv_shStr hr29
    refine dr_val (i := 2) ha23 rfl (by kernel_rfl) (by kernel_rfl) (by kernel_rfl) rfl rfl rfl hs21 (fun w' hw' => op_indexAddr ha23 rfl Try.underlying34 ti9 rfl rfl (by omega) hi27) ?_
    intro a32 ha32; clear ha23 a23
    refine dr_val (i := 3) ha32 rfl (by kernel_rfl) (by kernel_rfl) (by kernel_rfl) rfl rfl rfl hs21 (fun w' hw' => op_loadH ha32 rfl Try.underlying9 rfl rfl (hc28.ext (hx20.trans' hw')) rfl) ?_
    intro a33 ha33; clear ha32 a32
    refine dr_val (i := 4) ha33 rfl (by kernel_rfl) (by kernel_rfl) (by kernel_rfl) rfl rfl rfl hs21 (fun w' hw' => op_move ha33 rfl rfl) ?_
    intro a34 ha34; clear ha33 a33
    refine dr_val (i := 5) ha34 rfl (by kernel_rfl) (by kernel_rfl) (by kernel_rfl) rfl rfl rfl hs21 (fun w' hw' => op_move ha34 rfl rfl) ?_
    intro a35 ha35; clear ha34 a34
    obtain ⟨x36, hx36⟩ := get_ex (xs := b) (j := i) (by omega)
    obtain ⟨p37, c38, hi39, hc40, hr41, hs42⟩ := Rds.at_ h_b hx36
    obtain ⟨rfl, b43⟩ := inv_shStr hr41
    refine dr_val (i := 6) ha35 rfl (by kernel_rfl) (by kernel_rfl) (by kernel_rfl) rfl rfl rfl hs21 (fun w' hw' => op_indexAddr ha35 rfl Try.underlying34 ti9 rfl rfl (by omega) hi39) ?_
    intro a44 ha44; clear ha35 a35
    refine dr_val (i := 7) ha44 rfl (by kernel_rfl) (by kernel_rfl) (by kernel_rfl) rfl rfl rfl hs21 (fun w' hw' => op_loadH ha44 rfl Try.underlying9 rfl rfl (hc40.ext (hx20.trans' hw')) rfl) ?_
    intro a45 ha45; clear ha44 a44
    refine dr_val (i := 8) ha45 rfl (by kernel_rfl) (by kernel_rfl) (by kernel_rfl) rfl rfl rfl hs21 (fun w' hw' => (op_sneq ha45 rfl rfl rfl).to (congrArg Value.bool decide_not)) ?_
    intro a46 ha46; clear ha45 a45
    refine dr_end (by kernel_rfl) ?_
    refine then_n ?_
    by_cases c47 : x24 = x36
    ·
     rw [decide_eq_true c47] at ha46
     refine cond_f ha46 rfl ?_
     refine wp_skip ?_
     refine block_n ?_
     refine then_n ?_
     refine wp_region_lit ?_
     refine wl_val ha46 rfl rfl rfl (op_move ha46 rfl rfl) ?_
     intro a48 ha48; clear ha46 a46
     refine wl_val ha48 rfl rfl rfl ((op_add ha48 rfl rfl rfl).int (IntWalk.i64_in _ (by omega))) ?_
     intro a49 ha49; clear ha48 a48
     refine wl_val ha49 rfl rfl rfl (op_assign ha49 rfl rfl) ?_
     intro a50 ha50; clear ha49 a49
     refine wpList_nil ?_
     refine round_end (x := i) ((i + 1)) ?_ ?_
     ·
      refine ⟨(Sl.cons_ ha50 rfl rfl (Sl.cons_ ha50 rfl rfl (Sl.cons_ ha50 rfl (int_eq (by omega)) (Sl.nil_ ha50)))), hx20, (by omega), (by omega), (by exact hl), (by rw [eqL_step hx24 hx36] at hF; simpa [c7, c17, c47] using hF)⟩
     ·show (a.length - ((i + 1)) : Nat) < a.length - i; omega
    ·
     rw [decide_eq_false c47] at ha46
     refine cond_t ha46 rfl ?_
     refine wp_seq ?_
     refine wp_region_lit ?_
     refine wl_val ha46 rfl rfl rfl (op_assign ha46 rfl rfl) ?_
     intro a51 ha51; clear ha46 a46
     refine wpList_nil ?_
     refine then_n ?_
     refine wp_ret ?_
     refine block_r ?_
     refine then_r ?_
     refine then_r ?_
     refine block_r ?_
     refine then_r ?_
     refine ret1 ha51 rfl rfl ?_
     clear ha51 a51
     rw [eqL_step hx24 hx36] at hF
     exact ret_mk hx20 (congrArg Value.bool (by first | (simp [← hF, c7, c17, c47]; done) | (rw [← hF]; simp_all [eqL]; done)))
   ·
    rw [decide_eq_false c17] at ha16
    refine cond_f ha16 rfl ?_
    refine wp_exit ?_
    refine then_e ?_
    refine then_e ?_
    refine block_hit ?_
    refine then_n ?_
    refine wp_seq ?_
    refine wp_region_lit ?_
    refine wl_val ha16 rfl rfl rfl (op_assign ha16 rfl rfl) ?_
    intro a52 ha52; clear ha16 a16
    refine wpList_nil ?_
    refine then_n ?_
    refine wp_ret ?_
    refine ret1 ha52 rfl rfl ?_
    clear ha52 a52
    rw [drop_nil (by omega), drop_nil (by omega), eqL_nil] at hF
    exact ret_mk hx10 (congrArg Value.bool (by first | (simp [← hF, c7, c17]; done) | (rw [← hF]; simp_all [eqL]; done)))
 ·
  rw [decide_eq_false c7] at ha6
  refine cond_t ha6 rfl ?_
  refine wp_seq ?_
  refine wp_region_lit ?_
  refine wl_val ha6 rfl rfl rfl (op_assign ha6 rfl rfl) ?_
  intro a53 ha53; clear ha6 a6
  refine wpList_nil ?_
  refine then_n ?_
  refine wp_ret ?_
  refine then_r ?_
  refine ret1 ha53 rfl rfl ?_
  clear ha53 a53
  
  exact ret_mk hx0 (congrArg Value.bool (by rw [eqL_len (by omega)]))

theorem c_laws_likeCustomers (w0 : World) (v_a : Value) (a : List (Str × Int × List Str)) {S_a : Nat → Prop} (v_b : Value) (b : List (Str × Int × List Str)) {S_b : Nat → Prop} (h_a : Rds shCust S_a w0 v_a a) (h_b : Rds shCust S_b w0 v_b b) :
  Calls Try.prog 45 #[v_a, v_b] w0 (Ret w0 (fun v _ => v = .bool (eqL a b))) := by
 refine enter (N := 55) Try.func45 rfl rfl rfl ?_
 intro a0 ha0
 have hx0 := Ext.rfl' w0
 have hl_a := h_a.length_le
 have hl_b := h_b.length_le
 refine wp_seq ?_
 refine wp_region_lit ?_
 refine wl_val ha0 rfl rfl rfl (op_assign ha0 rfl rfl) ?_
 intro a1 ha1; clear ha0 a0
 refine wpList_nil ?_
 refine then_n ?_
 refine wp_seq ?_
 refine wp_seq ?_
 refine wp_region_lit ?_
 refine wl_val ha1 rfl rfl rfl (op_move ha1 rfl rfl) ?_
 intro a2 ha2; clear ha1 a1
 refine wl_val ha2 rfl rfl rfl (op_len_sl ha2 rfl Try.underlying25 rfl h_a) ?_
 intro a3 ha3; clear ha2 a2
 refine wl_val ha3 rfl rfl rfl (op_move ha3 rfl rfl) ?_
 intro a4 ha4; clear ha3 a3
 refine wl_val ha4 rfl rfl rfl (op_len_sl ha4 rfl Try.underlying25 rfl h_b) ?_
 intro a5 ha5; clear ha4 a4
 refine wl_val ha5 rfl rfl rfl ((op_neq ha5 rfl rfl rfl).to (congrArg Value.bool decide_not)) ?_
 intro a6 ha6; clear ha5 a5
 refine wpList_nil ?_
 refine then_n ?_
 by_cases c7 : ((a.length : Nat) : Int) = ((b.length : Nat) : Int)
 ·
  rw [decide_eq_true c7] at ha6
  refine cond_f ha6 rfl ?_
  refine wp_skip ?_
  refine then_n ?_
  refine wp_seq ?_
  refine wp_seq ?_
  refine wp_region_lit ?_
  refine wl_val ha6 rfl rfl rfl (op_assign ha6 rfl rfl) ?_
  intro a8 ha8; clear ha6 a6
  refine wpList_nil ?_
  refine then_n ?_
  refine wp_block ?_
  refine loop_inv (X := Nat) (fun (i : Nat) fr wl => Sl 55 fr [(0, v_a), (1, v_b), (5, .int .i64 ((i : Nat) : Int))] ∧ Ext w0 wl ∧ w0.heap.size ≤ wl.heap.size ∧ (i ≤ a.length) ∧ (a.length = b.length) ∧ (eqL (a.drop i) (b.drop i) = eqL a b)) (fun (i : Nat) => a.length - i) (0) ?_ ?_
  ·
   exact ⟨(Sl.cons_ ha8 rfl rfl (Sl.cons_ ha8 rfl rfl (Sl.cons_ ha8 rfl (int_eq (by omega)) (Sl.nil_ ha8)))), hx0, (by omega), (by omega), (by omega), (by simp)⟩
  ·
   clear ha8 a8
   rintro i a11 w9 ⟨ha11, hx10, hzl12, hi, hl, hF⟩
   have hzhx10 := hx10.size
   refine wp_seq ?_
   refine wp_seq ?_
   refine wp_region_lit ?_
   refine wl_val ha11 rfl rfl rfl (op_move ha11 rfl rfl) ?_
   intro a13 ha13; clear ha11 a11
   refine wl_val ha13 rfl rfl rfl (op_move ha13 rfl rfl) ?_
   intro a14 ha14; clear ha13 a13
   refine wl_val ha14 rfl rfl rfl (op_len_sl ha14 rfl Try.underlying25 rfl h_a) ?_
   intro a15 ha15; clear ha14 a14
   refine wl_val ha15 rfl rfl rfl (op_lss ha15 rfl rfl rfl) ?_
   intro a16 ha16; clear ha15 a15
   refine wpList_nil ?_
   refine then_n ?_
   by_cases c17 : ((i : Nat) : Int) < ((a.length : Nat) : Int)
   ·
    rw [decide_eq_true c17] at ha16
    refine cond_t ha16 rfl ?_
    refine wp_skip ?_
    refine then_n ?_
    refine wp_seq ?_
    refine wp_block ?_
    refine wp_seq ?_
    refine dr_enter Ext follows_mixed ?_
    intro w18 he19
    have hx20 := hx10.trans' he19
    have hzhx20 := he19.size
    have hs21 : Ext w18 w18 := Ext.rfl' _
    refine dr_val (i := 0) ha16 rfl (by kernel_rfl) (by kernel_rfl) (by kernel_rfl) rfl rfl rfl hs21 (fun w' hw' => op_move ha16 rfl rfl) ?_
    intro a22 ha22; clear ha16 a16
    refine dr_val (i := 1) ha22 rfl (by kernel_rfl) (by kernel_rfl) (by kernel_rfl) rfl rfl rfl hs21 (fun w' hw' => op_move ha22 rfl rfl) ?_
    intro a23 ha23; clear ha22 a22
    obtain ⟨x24, hx24⟩ := get_ex (xs := a) (j := i) (by omega)
    obtain ⟨p25, c26, hi27, hc28, hr29, hs30⟩ := Rds.at_ h_a hx24
    obtain ⟨v31, rfl, b32, b33, b34⟩ := inv_shCust hr29
    have hlb34 := b34.length_le
    refine dr_val (i := 2) ha23 rfl (by kernel_rfl) (by kernel_rfl) (by kernel_rfl) rfl rfl rfl hs21 (fun w' hw' => op_indexAddr ha23 rfl Try.underlying25 ti55 rfl rfl (by omega) hi27) ?_
    intro a35 ha35; clear ha23 a23
    refine dr_val (i := 3) ha35 rfl (by kernel_rfl) (by kernel_rfl) (by kernel_rfl) rfl rfl rfl hs21 (fun w' hw' => op_fieldAddr (sz := 0) ha35 rfl Try.underlying55 rfl rfl ti9 rfl) ?_
    intro a36 ha36; clear ha35 a35
    refine dr_val (i := 4) ha36 rfl (by kernel_rfl) (by kernel_rfl) (by kernel_rfl) rfl rfl rfl hs21 (fun w' hw' => op_loadF (off := 0) ha36 rfl Try.underlying9 rfl rfl (hc28.ext (hx20.trans' hw')) rfl) ?_
    intro a37 ha37; clear ha36 a36
    refine dr_val (i := 5) ha37 rfl (by kernel_rfl) (by kernel_rfl) (by kernel_rfl) rfl rfl rfl hs21 (fun w' hw' => op_move ha37 rfl rfl) ?_
    intro a38 ha38; clear ha37 a37
    refine dr_val (i := 6) ha38 rfl (by kernel_rfl) (by kernel_rfl) (by kernel_rfl) rfl rfl rfl hs21 (fun w' hw' => op_move ha38 rfl rfl) ?_
    intro a39 ha39; clear ha38 a38
    obtain ⟨x40, hx40⟩ := get_ex (xs := b) (j := i) (by omega)
    obtain ⟨p41, c42, hi43, hc44, hr45, hs46⟩ := Rds.at_ h_b hx40
    obtain ⟨v47, rfl, b48, b49, b50⟩ := inv_shCust hr45
    have hlb50 := b50.length_le
    refine dr_val (i := 7) ha39 rfl (by kernel_rfl) (by kernel_rfl) (by kernel_rfl) rfl rfl rfl hs21 (fun w' hw' => op_indexAddr ha39 rfl Try.underlying25 ti55 rfl rfl (by omega) hi43) ?_
    intro a51 ha51; clear ha39 a39
    refine dr_val (i := 8) ha51 rfl (by kernel_rfl) (by kernel_rfl) (by kernel_rfl) rfl rfl rfl hs21 (fun w' hw' => op_fieldAddr (sz := 0) ha51 rfl Try.underlying55 rfl rfl ti9 rfl) ?_
    intro a52 ha52; clear ha51 a51
    refine dr_val (i := 9) ha52 rfl (by kernel_rfl) (by kernel_rfl) (by kernel_rfl) rfl rfl rfl hs21 (fun w' hw' => op_loadF (off := 0) ha52 rfl Try.underlying9 rfl rfl (hc44.ext (hx20.trans' hw')) rfl) ?_
    intro a53 ha53; clear ha52 a52
    refine dr_val (i := 10) ha53 rfl (by kernel_rfl) (by kernel_rfl) (by kernel_rfl) rfl rfl rfl hs21 (fun w' hw' => (op_sneq ha53 rfl rfl rfl).to (congrArg Value.bool decide_not)) ?_
    intro a54 ha54; clear ha53 a53
    refine dr_val (i := 11) ha54 rfl (by kernel_rfl) (by kernel_rfl) (by kernel_rfl) rfl rfl rfl hs21 (fun w' hw' => op_move ha54 rfl rfl) ?_
    intro a55 ha55; clear ha54 a54
    by_cases c56 : x24.1 = x40.1
    ·
     rw [decide_eq_true c56] at ha55
     refine dr_val (i := 12) ha55 rfl (by kernel_rfl) (by kernel_rfl) (by kernel_rfl) rfl rfl rfl hs21 (fun w' hw' => op_move ha55 rfl rfl) ?_
     intro a57 ha57; clear ha55 a55
     refine dr_val (i := 13) ha57 rfl (by kernel_rfl) (by kernel_rfl) (by kernel_rfl) rfl rfl rfl hs21 (fun w' hw' => op_move ha57 rfl rfl) ?_
     intro a58 ha58; clear ha57 a57
     refine dr_val (i := 14) ha58 rfl (by kernel_rfl) (by kernel_rfl) (by kernel_rfl) rfl rfl rfl hs21 (fun w' hw' => op_indexAddr ha58 rfl Try.underlying25 ti55 rfl rfl (by omega) hi27) ?_
     intro a59 ha59; clear ha58 a58
     refine dr_val (i := 15) ha59 rfl (by kernel_rfl) (by kernel_rfl) (by kernel_rfl) rfl rfl rfl hs21 (fun w' hw' => op_fieldAddr (sz := 0) ha59 rfl Try.underlying55 rfl rfl ti2 rfl) ?_
     intro a60 ha60; clear ha59 a59
     refine dr_val (i := 16) ha60 rfl (by kernel_rfl) (by kernel_rfl) (by kernel_rfl) rfl rfl rfl hs21 (fun w' hw' => op_loadF (off := 1) ha60 rfl Try.underlying2 rfl rfl (hc28.ext (hx20.trans' hw')) rfl) ?_
     intro a61 ha61; clear ha60 a60
     refine dr_val (i := 17) ha61 rfl (by kernel_rfl) (by kernel_rfl) (by kernel_rfl) rfl rfl rfl hs21 (fun w' hw' => op_move ha61 rfl rfl) ?_
     intro a62 ha62; clear ha61 a61
     refine dr_val (i := 18) ha62 rfl (by kernel_rfl) (by kernel_rfl) (by kernel_rfl) rfl rfl rfl hs21 (fun w' hw' => op_move ha62 rfl rfl) ?_
     intro a63 ha63; clear ha62 a62
     refine dr_val (i := 19) ha63 rfl (by kernel_rfl) (by kernel_rfl) (by kernel_rfl) rfl rfl rfl hs21 (fun w' hw' => op_indexAddr ha63 rfl Try.underlying25 ti55 rfl rfl (by omega) hi43) ?_
     intro a64 ha64; clear ha63 a63
     refine dr_val (i := 20) ha64 rfl (by kernel_rfl) (by kernel_rfl) (by kernel_rfl) rfl rfl rfl hs21 (fun w' hw' => op_fieldAddr (sz := 0) ha64 rfl Try.underlying55 rfl rfl ti2 rfl) ?_
     intro a65 ha65; clear ha64 a64
     refine dr_val (i := 21) ha65 rfl (by kernel_rfl) (by kernel_rfl) (by kernel_rfl) rfl rfl rfl hs21 (fun w' hw' => op_loadF (off := 1) ha65 rfl Try.underlying2 rfl rfl (hc44.ext (hx20.trans' hw')) rfl) ?_
     intro a66 ha66; clear ha65 a65
     refine dr_val (i := 22) ha66 rfl (by kernel_rfl) (by kernel_rfl) (by kernel_rfl) rfl rfl rfl hs21 (fun w' hw' => (op_neq ha66 rfl rfl rfl).to (congrArg Value.bool decide_not)) ?_
     intro a67 ha67; clear ha66 a66
     refine dr_val (i := 23) ha67 rfl (by kernel_rfl) (by kernel_rfl) (by kernel_rfl) rfl rfl rfl hs21 (fun w' hw' => op_pick_f ha67 rfl rfl rfl) ?_
     intro a68 ha68; clear ha67 a67
     refine dr_val (i := 24) ha68 rfl (by kernel_rfl) (by kernel_rfl) (by kernel_rfl) rfl rfl rfl hs21 (fun w' hw' => op_move ha68 rfl rfl) ?_
     intro a69 ha69; clear ha68 a68
     by_cases c70 : x24.2.1 = x40.2.1
     ·
      rw [decide_eq_true c70] at ha69
      refine dr_val (i := 25) ha69 rfl (by kernel_rfl) (by kernel_rfl) (by kernel_rfl) rfl rfl rfl hs21 (fun w' hw' => op_move ha69 rfl rfl) ?_
      intro a71 ha71; clear ha69 a69
      refine dr_val (i := 26) ha71 rfl (by kernel_rfl) (by kernel_rfl) (by kernel_rfl) rfl rfl rfl hs21 (fun w' hw' => op_move ha71 rfl rfl) ?_
      intro a72 ha72; clear ha71 a71
      refine dr_val (i := 27) ha72 rfl (by kernel_rfl) (by kernel_rfl) (by kernel_rfl) rfl rfl rfl hs21 (fun w' hw' => op_indexAddr ha72 rfl Try.underlying25 ti55 rfl rfl (by omega) hi27) ?_
      intro a73 ha73; clear ha72 a72
      refine dr_val (i := 28) ha73 rfl (by kernel_rfl) (by kernel_rfl) (by kernel_rfl) rfl rfl rfl hs21 (fun w' hw' => op_fieldAddr (sz := 0) ha73 rfl Try.underlying55 rfl rfl ti34 rfl) ?_
      intro a74 ha74; clear ha73 a73
      refine dr_val (i := 29) ha74 rfl (by kernel_rfl) (by kernel_rfl) (by kernel_rfl) rfl rfl rfl hs21 (fun w' hw' => op_loadF (off := 2) ha74 rfl Try.underlying34 rfl rfl (hc28.ext (hx20.trans' hw')) rfl) ?_
      intro a75 ha75; clear ha74 a74
      refine dr_val (i := 30) ha75 rfl (by kernel_rfl) (by kernel_rfl) (by kernel_rfl) rfl rfl rfl hs21 (fun w' hw' => op_move ha75 rfl rfl) ?_
      intro a76 ha76; clear ha75 a75
      refine dr_val (i := 31) ha76 rfl (by kernel_rfl) (by kernel_rfl) (by kernel_rfl) rfl rfl rfl hs21 (fun w' hw' => op_move ha76 rfl rfl) ?_
      intro a77 ha77; clear ha76 a76
      refine dr_val (i := 32) ha77 rfl (by kernel_rfl) (by kernel_rfl) (by kernel_rfl) rfl rfl rfl hs21 (fun w' hw' => op_indexAddr ha77 rfl Try.underlying25 ti55 rfl rfl (by omega) hi43) ?_
      intro a78 ha78; clear ha77 a77
      refine dr_val (i := 33) ha78 rfl (by kernel_rfl) (by kernel_rfl) (by kernel_rfl) rfl rfl rfl hs21 (fun w' hw' => op_fieldAddr (sz := 0) ha78 rfl Try.underlying55 rfl rfl ti34 rfl) ?_
      intro a79 ha79; clear ha78 a78
      refine dr_val (i := 34) ha79 rfl (by kernel_rfl) (by kernel_rfl) (by kernel_rfl) rfl rfl rfl hs21 (fun w' hw' => op_loadF (off := 2) ha79 rfl Try.underlying34 rfl rfl (hc44.ext (hx20.trans' hw')) rfl) ?_
      intro a80 ha80; clear ha79 a79
      refine dr_one (i := 35) (by kernel_rfl) ?_
      refine po_callR ha80 rfl rfl rfl rfl (op_call ha80 rfl cb46 rfl) (c_laws_likeTexts _ v31 x24.2.2 v47 x40.2.2 (b34.ext pos_shStr (hx20.trans' hs21)) (b50.ext pos_shStr (hx20.trans' hs21))) ?_
      rintro v81 w82 he83 rfl a84 ha84; clear ha80 a80
      have hs85 := hs21.trans' he83
      have hx86 := hx20.trans' he83
      have hzhx86 := he83.size
      refine ⟨hs85, ?_⟩
      refine dr_val (i := 36) ha84 rfl (by kernel_rfl) (by kernel_rfl) (by kernel_rfl) rfl rfl rfl hs85 (fun w' hw' => op_not ha84 rfl rfl) ?_
      intro a87 ha87; clear ha84 a84
      refine dr_val (i := 37) ha87 rfl (by kernel_rfl) (by kernel_rfl) (by kernel_rfl) rfl rfl rfl hs85 (fun w' hw' => op_pick_f ha87 rfl rfl rfl) ?_
      intro a88 ha88; clear ha87 a87
      refine dr_end (by kernel_rfl) ?_
      refine then_n ?_
      rcases Bool.eq_false_or_eq_true (eqL x24.2.2 x40.2.2) with c89 | c89
      ·
       rw [c89] at ha88
       refine cond_f ha88 rfl ?_
       refine wp_skip ?_
       refine block_n ?_
       refine then_n ?_
       refine wp_region_lit ?_
       refine wl_val ha88 rfl rfl rfl (op_move ha88 rfl rfl) ?_
       intro a90 ha90; clear ha88 a88
       refine wl_val ha90 rfl rfl rfl ((op_add ha90 rfl rfl rfl).int (IntWalk.i64_in _ (by omega))) ?_
       intro a91 ha91; clear ha90 a90
       refine wl_val ha91 rfl rfl rfl (op_assign ha91 rfl rfl) ?_
       intro a92 ha92; clear ha91 a91
       refine wpList_nil ?_
       refine round_end (x := i) ((i + 1)) ?_ ?_
       ·
        refine ⟨(Sl.cons_ ha92 rfl rfl (Sl.cons_ ha92 rfl rfl (Sl.cons_ ha92 rfl (int_eq (by omega)) (Sl.nil_ ha92)))), hx86, (by omega), (by omega), (by exact hl), (by rw [eqL_step hx24 hx40] at hF; simp_all [eqL, Prod.ext_iff])⟩
       ·show (a.length - ((i + 1)) : Nat) < a.length - i; omega
      ·
       rw [c89] at ha88
       refine cond_t ha88 rfl ?_
       refine wp_seq ?_
       refine wp_region_lit ?_
       refine wl_val ha88 rfl rfl rfl (op_assign ha88 rfl rfl) ?_
       intro a93 ha93; clear ha88 a88
       refine wpList_nil ?_
       refine then_n ?_
       refine wp_ret ?_
       refine block_r ?_
       refine then_r ?_
       refine then_r ?_
       refine block_r ?_
       refine then_r ?_
       refine ret1 ha93 rfl rfl ?_
       clear ha93 a93
       rw [eqL_step hx24 hx40] at hF
       exact ret_mk hx86 (congrArg Value.bool (by first | (simp [← hF, c7, c17, c56, c70, c89]; done) | (rw [← hF]; simp_all [eqL, Prod.ext_iff]; done)))
     ·
      rw [decide_eq_false c70] at ha69
      refine dr_skip (i := 25) ha69 rfl (by kernel_rfl) (by kernel_rfl) (by kernel_rfl) rfl rfl rfl hs21 ?_
      intro a94 ha94; clear ha69 a69
      refine dr_skip (i := 26) ha94 rfl (by kernel_rfl) (by kernel_rfl) (by kernel_rfl) rfl rfl rfl hs21 ?_
      intro a95 ha95; clear ha94 a94
      refine dr_skip (i := 27) ha95 rfl (by kernel_rfl) (by kernel_rfl) (by kernel_rfl) rfl rfl rfl hs21 ?_
      intro a96 ha96; clear ha95 a95
      refine dr_skip (i := 28) ha96 rfl (by kernel_rfl) (by kernel_rfl) (by kernel_rfl) rfl rfl rfl hs21 ?_
      intro a97 ha97; clear ha96 a96
      refine dr_skip (i := 29) ha97 rfl (by kernel_rfl) (by kernel_rfl) (by kernel_rfl) rfl rfl rfl hs21 ?_
      intro a98 ha98; clear ha97 a97
      refine dr_skip (i := 30) ha98 rfl (by kernel_rfl) (by kernel_rfl) (by kernel_rfl) rfl rfl rfl hs21 ?_
      intro a99 ha99; clear ha98 a98
      refine dr_skip (i := 31) ha99 rfl (by kernel_rfl) (by kernel_rfl) (by kernel_rfl) rfl rfl rfl hs21 ?_
      intro a100 ha100; clear ha99 a99
      refine dr_skip (i := 32) ha100 rfl (by kernel_rfl) (by kernel_rfl) (by kernel_rfl) rfl rfl rfl hs21 ?_
      intro a101 ha101; clear ha100 a100
      refine dr_skip (i := 33) ha101 rfl (by kernel_rfl) (by kernel_rfl) (by kernel_rfl) rfl rfl rfl hs21 ?_
      intro a102 ha102; clear ha101 a101
      refine dr_skip (i := 34) ha102 rfl (by kernel_rfl) (by kernel_rfl) (by kernel_rfl) rfl rfl rfl hs21 ?_
      intro a103 ha103; clear ha102 a102
      refine dr_skip (i := 35) ha103 rfl (by kernel_rfl) (by kernel_rfl) (by kernel_rfl) rfl rfl rfl hs21 ?_
      intro a104 ha104; clear ha103 a103
      refine dr_skip (i := 36) ha104 rfl (by kernel_rfl) (by kernel_rfl) (by kernel_rfl) rfl rfl rfl hs21 ?_
      intro a105 ha105; clear ha104 a104
      refine dr_val (i := 37) ha105 rfl (by kernel_rfl) (by kernel_rfl) (by kernel_rfl) rfl rfl rfl hs21 (fun w' hw' => op_pick_t ha105 rfl rfl rfl) ?_
      intro a106 ha106; clear ha105 a105
      refine dr_end (by kernel_rfl) ?_
      refine then_n ?_
      refine cond_t ha106 rfl ?_
      refine wp_seq ?_
      refine wp_region_lit ?_
      refine wl_val ha106 rfl rfl rfl (op_assign ha106 rfl rfl) ?_
      intro a107 ha107; clear ha106 a106
      refine wpList_nil ?_
      refine then_n ?_
      refine wp_ret ?_
      refine block_r ?_
      refine then_r ?_
      refine then_r ?_
      refine block_r ?_
      refine then_r ?_
      refine ret1 ha107 rfl rfl ?_
      clear ha107 a107
      rw [eqL_step hx24 hx40] at hF
      exact ret_mk hx20 (congrArg Value.bool (by first | (simp [← hF, c7, c17, c56, c70]; done) | (rw [← hF]; simp_all [eqL, Prod.ext_iff]; done)))
    ·
     rw [decide_eq_false c56] at ha55
     refine dr_skip (i := 12) ha55 rfl (by kernel_rfl) (by kernel_rfl) (by kernel_rfl) rfl rfl rfl hs21 ?_
     intro a108 ha108; clear ha55 a55
     refine dr_skip (i := 13) ha108 rfl (by kernel_rfl) (by kernel_rfl) (by kernel_rfl) rfl rfl rfl hs21 ?_
     intro a109 ha109; clear ha108 a108
     refine dr_skip (i := 14) ha109 rfl (by kernel_rfl) (by kernel_rfl) (by kernel_rfl) rfl rfl rfl hs21 ?_
     intro a110 ha110; clear ha109 a109
     refine dr_skip (i := 15) ha110 rfl (by kernel_rfl) (by kernel_rfl) (by kernel_rfl) rfl rfl rfl hs21 ?_
     intro a111 ha111; clear ha110 a110
     refine dr_skip (i := 16) ha111 rfl (by kernel_rfl) (by kernel_rfl) (by kernel_rfl) rfl rfl rfl hs21 ?_
     intro a112 ha112; clear ha111 a111
     refine dr_skip (i := 17) ha112 rfl (by kernel_rfl) (by kernel_rfl) (by kernel_rfl) rfl rfl rfl hs21 ?_
     intro a113 ha113; clear ha112 a112
     refine dr_skip (i := 18) ha113 rfl (by kernel_rfl) (by kernel_rfl) (by kernel_rfl) rfl rfl rfl hs21 ?_
     intro a114 ha114; clear ha113 a113
     refine dr_skip (i := 19) ha114 rfl (by kernel_rfl) (by kernel_rfl) (by kernel_rfl) rfl rfl rfl hs21 ?_
     intro a115 ha115; clear ha114 a114
     refine dr_skip (i := 20) ha115 rfl (by kernel_rfl) (by kernel_rfl) (by kernel_rfl) rfl rfl rfl hs21 ?_
     intro a116 ha116; clear ha115 a115
     refine dr_skip (i := 21) ha116 rfl (by kernel_rfl) (by kernel_rfl) (by kernel_rfl) rfl rfl rfl hs21 ?_
     intro a117 ha117; clear ha116 a116
     refine dr_skip (i := 22) ha117 rfl (by kernel_rfl) (by kernel_rfl) (by kernel_rfl) rfl rfl rfl hs21 ?_
     intro a118 ha118; clear ha117 a117
     refine dr_val (i := 23) ha118 rfl (by kernel_rfl) (by kernel_rfl) (by kernel_rfl) rfl rfl rfl hs21 (fun w' hw' => op_pick_t ha118 rfl rfl rfl) ?_
     intro a119 ha119; clear ha118 a118
     refine dr_val (i := 24) ha119 rfl (by kernel_rfl) (by kernel_rfl) (by kernel_rfl) rfl rfl rfl hs21 (fun w' hw' => op_move ha119 rfl rfl) ?_
     intro a120 ha120; clear ha119 a119
     refine dr_skip (i := 25) ha120 rfl (by kernel_rfl) (by kernel_rfl) (by kernel_rfl) rfl rfl rfl hs21 ?_
     intro a121 ha121; clear ha120 a120
     refine dr_skip (i := 26) ha121 rfl (by kernel_rfl) (by kernel_rfl) (by kernel_rfl) rfl rfl rfl hs21 ?_
     intro a122 ha122; clear ha121 a121
     refine dr_skip (i := 27) ha122 rfl (by kernel_rfl) (by kernel_rfl) (by kernel_rfl) rfl rfl rfl hs21 ?_
     intro a123 ha123; clear ha122 a122
     refine dr_skip (i := 28) ha123 rfl (by kernel_rfl) (by kernel_rfl) (by kernel_rfl) rfl rfl rfl hs21 ?_
     intro a124 ha124; clear ha123 a123
     refine dr_skip (i := 29) ha124 rfl (by kernel_rfl) (by kernel_rfl) (by kernel_rfl) rfl rfl rfl hs21 ?_
     intro a125 ha125; clear ha124 a124
     refine dr_skip (i := 30) ha125 rfl (by kernel_rfl) (by kernel_rfl) (by kernel_rfl) rfl rfl rfl hs21 ?_
     intro a126 ha126; clear ha125 a125
     refine dr_skip (i := 31) ha126 rfl (by kernel_rfl) (by kernel_rfl) (by kernel_rfl) rfl rfl rfl hs21 ?_
     intro a127 ha127; clear ha126 a126
     refine dr_skip (i := 32) ha127 rfl (by kernel_rfl) (by kernel_rfl) (by kernel_rfl) rfl rfl rfl hs21 ?_
     intro a128 ha128; clear ha127 a127
     refine dr_skip (i := 33) ha128 rfl (by kernel_rfl) (by kernel_rfl) (by kernel_rfl) rfl rfl rfl hs21 ?_
     intro a129 ha129; clear ha128 a128
     refine dr_skip (i := 34) ha129 rfl (by kernel_rfl) (by kernel_rfl) (by kernel_rfl) rfl rfl rfl hs21 ?_
     intro a130 ha130; clear ha129 a129
     refine dr_skip (i := 35) ha130 rfl (by kernel_rfl) (by kernel_rfl) (by kernel_rfl) rfl rfl rfl hs21 ?_
     intro a131 ha131; clear ha130 a130
     refine dr_skip (i := 36) ha131 rfl (by kernel_rfl) (by kernel_rfl) (by kernel_rfl) rfl rfl rfl hs21 ?_
     intro a132 ha132; clear ha131 a131
     refine dr_val (i := 37) ha132 rfl (by kernel_rfl) (by kernel_rfl) (by kernel_rfl) rfl rfl rfl hs21 (fun w' hw' => op_pick_t ha132 rfl rfl rfl) ?_
     intro a133 ha133; clear ha132 a132
     refine dr_end (by kernel_rfl) ?_
     refine then_n ?_
     refine cond_t ha133 rfl ?_
     refine wp_seq ?_
     refine wp_region_lit ?_
     refine wl_val ha133 rfl rfl rfl (op_assign ha133 rfl rfl) ?_
     intro a134 ha134; clear ha133 a133
     refine wpList_nil ?_
     refine then_n ?_
     refine wp_ret ?_
     refine block_r ?_
     refine then_r ?_
     refine then_r ?_
     refine block_r ?_
     refine then_r ?_
     refine ret1 ha134 rfl rfl ?_
     clear ha134 a134
     rw [eqL_step hx24 hx40] at hF
     exact ret_mk hx20 (congrArg Value.bool (by first | (simp [← hF, c7, c17, c56]; done) | (rw [← hF]; simp_all [eqL, Prod.ext_iff]; done)))
   ·
    rw [decide_eq_false c17] at ha16
    refine cond_f ha16 rfl ?_
    refine wp_exit ?_
    refine then_e ?_
    refine then_e ?_
    refine block_hit ?_
    refine then_n ?_
    refine wp_seq ?_
    refine wp_region_lit ?_
    refine wl_val ha16 rfl rfl rfl (op_assign ha16 rfl rfl) ?_
    intro a135 ha135; clear ha16 a16
    refine wpList_nil ?_
    refine then_n ?_
    refine wp_ret ?_
    refine ret1 ha135 rfl rfl ?_
    clear ha135 a135
    rw [drop_nil (by omega), drop_nil (by omega), eqL_nil] at hF
    exact ret_mk hx10 (congrArg Value.bool (by first | (simp [← hF, c7, c17]; done) | (rw [← hF]; simp_all [eqL, Prod.ext_iff]; done)))
 ·
  rw [decide_eq_false c7] at ha6
  refine cond_t ha6 rfl ?_
  refine wp_seq ?_
  refine wp_region_lit ?_
  refine wl_val ha6 rfl rfl rfl (op_assign ha6 rfl rfl) ?_
  intro a136 ha136; clear ha6 a6
  refine wpList_nil ?_
  refine then_n ?_
  refine wp_ret ?_
  refine then_r ?_
  refine ret1 ha136 rfl rfl ?_
  clear ha136 a136
  
  exact ret_mk hx0 (congrArg Value.bool (by rw [eqL_len (by omega)]))

theorem c_laws_hasText (w0 : World) (v_list : Value) (list : List Str) {S_list : Nat → Prop} (s : Str) (h_list : Rds shStr S_list w0 v_list list) :
  Calls Try.prog 47 #[v_list, St s] w0 (Ret w0 (fun v _ => v = .bool (decide (s ∈ list)))) := by
 refine enter (N := 18) Try.func47 rfl rfl rfl ?_
 intro a0 ha0
 have hx0 := Ext.rfl' w0
 have hl_list := h_list.length_le
 refine wp_seq ?_
 refine wp_region_lit ?_
 refine wl_val ha0 rfl rfl rfl (op_assign ha0 rfl rfl) ?_
 intro a1 ha1; clear ha0 a0
 refine wpList_nil ?_
 refine then_n ?_
 refine wp_seq ?_
 refine wp_seq ?_
 refine wp_region_lit ?_
 refine wl_val ha1 rfl rfl rfl (op_assign ha1 rfl rfl) ?_
 intro a2 ha2; clear ha1 a1
 refine wpList_nil ?_
 refine then_n ?_
 refine wp_block ?_
 refine loop_inv (X := Nat) (fun (i : Nat) fr wl => Sl 18 fr [(0, v_list), (1, St s), (5, .int .i64 ((i : Nat) : Int))] ∧ Ext w0 wl ∧ w0.heap.size ≤ wl.heap.size ∧ (i ≤ list.length) ∧ ((s ∈ list.drop i) = (s ∈ list))) (fun (i : Nat) => list.length - i) (0) ?_ ?_
 ·
  exact ⟨(Sl.cons_ ha2 rfl rfl (Sl.cons_ ha2 rfl rfl (Sl.cons_ ha2 rfl (int_eq (by omega)) (Sl.nil_ ha2)))), hx0, (by omega), (by omega), (by simp)⟩
 ·
  clear ha2 a2
  rintro i a5 w3 ⟨ha5, hx4, hzl6, hi, hF⟩
  have hzhx4 := hx4.size
  refine wp_seq ?_
  refine wp_seq ?_
  refine wp_region_lit ?_
  refine wl_val ha5 rfl rfl rfl (op_move ha5 rfl rfl) ?_
  intro a7 ha7; clear ha5 a5
  refine wl_val ha7 rfl rfl rfl (op_move ha7 rfl rfl) ?_
  intro a8 ha8; clear ha7 a7
  refine wl_val ha8 rfl rfl rfl (op_len_sl ha8 rfl Try.underlying34 rfl h_list) ?_
  intro a9 ha9; clear ha8 a8
  refine wl_val ha9 rfl rfl rfl (op_lss ha9 rfl rfl rfl) ?_
  intro a10 ha10; clear ha9 a9
  refine wpList_nil ?_
  refine then_n ?_
  by_cases c11 : ((i : Nat) : Int) < ((list.length : Nat) : Int)
  ·
   rw [decide_eq_true c11] at ha10
   refine cond_t ha10 rfl ?_
   refine wp_skip ?_
   refine then_n ?_
   refine wp_seq ?_
   refine wp_block ?_
   refine wp_seq ?_
   refine wp_region_lit ?_
   refine wl_val ha10 rfl rfl rfl (op_move ha10 rfl rfl) ?_
   intro a12 ha12; clear ha10 a10
   refine wl_val ha12 rfl rfl rfl (op_move ha12 rfl rfl) ?_
   intro a13 ha13; clear ha12 a12
   obtain ⟨x14, hx14⟩ := get_ex (xs := list) (j := i) (by omega)
   obtain ⟨p15, c16, hi17, hc18, hr19, hs20⟩ := Rds.at_ h_list hx14
   obtain ⟨rfl, b21⟩ := inv_shStr hr19
   refine wl_val ha13 rfl rfl rfl (op_indexAddr ha13 rfl Try.underlying34 ti9 rfl rfl (by omega) hi17) ?_
   intro a22 ha22; clear ha13 a13
   refine wl_val ha22 rfl rfl rfl (op_loadH ha22 rfl Try.underlying9 rfl rfl (hc18.ext hx4) rfl) ?_
   intro a23 ha23; clear ha22 a22
   refine wl_val ha23 rfl rfl rfl (op_move ha23 rfl rfl) ?_
   intro a24 ha24; clear ha23 a23
   refine wl_val ha24 rfl rfl rfl (op_seql ha24 rfl rfl rfl) ?_
   intro a25 ha25; clear ha24 a24
   refine wpList_nil ?_
   refine then_n ?_
   by_cases c26 : x14 = s
   ·
    rw [decide_eq_true c26] at ha25
    refine cond_t ha25 rfl ?_
    refine wp_seq ?_
    refine wp_region_lit ?_
    refine wl_val ha25 rfl rfl rfl (op_assign ha25 rfl rfl) ?_
    intro a27 ha27; clear ha25 a25
    refine wpList_nil ?_
    refine then_n ?_
    refine wp_ret ?_
    refine block_r ?_
    refine then_r ?_
    refine then_r ?_
    refine block_r ?_
    refine then_r ?_
    refine ret1 ha27 rfl rfl ?_
    clear ha27 a27
    exact ret_mk hx4 (congrArg Value.bool (by have h9 := List.mem_of_getElem? hx14; simp_all))
   ·
    rw [decide_eq_false c26] at ha25
    refine cond_f ha25 rfl ?_
    refine wp_skip ?_
    refine block_n ?_
    refine then_n ?_
    refine wp_region_lit ?_
    refine wl_val ha25 rfl rfl rfl (op_move ha25 rfl rfl) ?_
    intro a28 ha28; clear ha25 a25
    refine wl_val ha28 rfl rfl rfl ((op_add ha28 rfl rfl rfl).int (IntWalk.i64_in _ (by omega))) ?_
    intro a29 ha29; clear ha28 a28
    refine wl_val ha29 rfl rfl rfl (op_assign ha29 rfl rfl) ?_
    intro a30 ha30; clear ha29 a29
    refine wpList_nil ?_
    refine round_end (x := i) ((i + 1)) ?_ ?_
    ·
     refine ⟨(Sl.cons_ ha30 rfl rfl (Sl.cons_ ha30 rfl rfl (Sl.cons_ ha30 rfl (int_eq (by omega)) (Sl.nil_ ha30)))), hx4, (by omega), (by omega), (by rw [drop_cons hx14, List.mem_cons] at hF; rw [← hF]; apply propext; constructor; (intro q; exact .inr q); (rintro (q | q); (exact absurd q.symm (by assumption)); (exact q)))⟩
    ·show (list.length - ((i + 1)) : Nat) < list.length - i; omega
  ·
   rw [decide_eq_false c11] at ha10
   refine cond_f ha10 rfl ?_
   refine wp_exit ?_
   refine then_e ?_
   refine then_e ?_
   refine block_hit ?_
   refine then_n ?_
   refine wp_seq ?_
   refine wp_region_lit ?_
   refine wl_val ha10 rfl rfl rfl (op_assign ha10 rfl rfl) ?_
   intro a31 ha31; clear ha10 a10
   refine wpList_nil ?_
   refine then_n ?_
   refine wp_ret ?_
   refine ret1 ha31 rfl rfl ?_
   clear ha31 a31
   exact ret_mk hx4 (congrArg Value.bool (by rw [drop_nil (by omega)] at hF; simp at hF; simp [hF]))


end Go.Proofs.Ythbkedflhmeohaa
