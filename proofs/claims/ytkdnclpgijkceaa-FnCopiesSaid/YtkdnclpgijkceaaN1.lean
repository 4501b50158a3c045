/- Sources of drawn numbers. -/
import Derived.Test.YtkdnclpgijkceaaShapes
namespace Go.Proofs.Ytkdnclpgijkceaa
open Go Go.RowKit

theorem el_len {xs : List Str} {i : Nat} {x : Str} (n : Nat) (h : (xs.all fun s => decide (s.length ≤ n)) = true) (hx : xs[i]? = some x) : x.length ≤ n := by
  rw [List.all_eq_true] at h
  simpa using h x (List.mem_of_getElem? hx)

theorem c_spec_l01From (w0 : World) (v_code : Value) (code : List UInt8) {b_code : Nat} (h_code : Rds shU8 (Iv 0 b_code) w0 v_code code) (l_code : b_code ≤ w0.heap.size) :
  Calls Try.prog 59 #[v_code] w0 (Ret w0 (fun v w1 => ∃ g, v = .pointer (some (⟨g, 0, none⟩ : Addr)) ∧ w0.heap.size ≤ g ∧ Src w1 g b_code 88)) := by
 refine enter (N := 34) Try.func59 rfl rfl rfl ?_
 intro a0 ha0
 have hx0 := Ext.rfl' w0
 have hl_code := h_code.length_le
 refine wp_seq ?_
 refine wp_region_lit ?_
 refine wl_val ha0 rfl rfl rfl (op_assign ha0 rfl rfl) ?_
 intro a1 ha1; clear ha0 a0
 refine wpList_nil ?_
 refine then_n ?_
 refine wp_seq ?_
 refine wp_region_lit ?_
 refine wl_val ha1 rfl rfl rfl (op_move ha1 rfl rfl) ?_
 intro a2 ha2; clear ha1 a1
 refine wl_val ha2 rfl rfl rfl (op_build (vs := [(0, v_code), (2, .int .i64 (61043 : Int))]) (cs := #[v_code, .int .i64 (0 : Int), .int .i64 (61043 : Int)]) ha2 rfl Try.underlying88 ti88 bp88 rfl ((fill_one h_code.cells1 rfl rfl).trans ((fill_one rfl rfl rfl).trans rfl))) ?_
 intro a3 ha3; clear ha2 a2
 refine wl_eff ha3 rfl rfl rfl (op_box' ha3 rfl rfl rfl) ?_
 rintro _ w5 ⟨rfl, he6, hb7, hz8⟩ a9 ha9; clear ha3 a3
 have hx10 := hx0.trans' he6
 have hzhx10 := he6.size
 refine wl_val ha9 rfl rfl rfl (op_assign ha9 rfl rfl) ?_
 intro a11 ha11; clear ha9 a9
 refine wpList_nil ?_
 refine then_n ?_
 refine wp_seq ?_
 refine wp_seq ?_
 refine wp_region_lit ?_
 refine wl_val ha11 rfl rfl rfl (op_assign ha11 rfl rfl) ?_
 intro a12 ha12; clear ha11 a11
 refine wpList_nil ?_
 refine then_n ?_
 refine wp_block ?_
 refine loop_inv (X := Nat × Int) (fun (⟨i, q⟩ : Nat × Int) fr wl => Sl 34 fr [(0, v_code), (3, .pointer (some (⟨w0.heap.size, 0, none⟩ : Addr))), (4, .int .i64 ((i : Nat) : Int))] ∧ Ext w0 wl ∧ Box wl w0.heap.size 88 [v_code, .int .i64 (0 : Int), .int .i64 q] ∧ w5.heap.size ≤ wl.heap.size ∧ (i ≤ code.length) ∧ (0 ≤ q) ∧ (q < 2147483647)) (fun (⟨i, q⟩ : Nat × Int) => code.length - i) (0, (61043 : Int)) ?_ ?_
 ·
  exact ⟨(Sl.cons_ ha12 rfl rfl (Sl.cons_ ha12 rfl rfl (Sl.cons_ ha12 rfl (int_eq (by omega)) (Sl.nil_ ha12)))), hx10, hb7, (by omega), (by omega), (by omega), (by omega)⟩
 ·
  clear ha12 a12
  rintro ⟨i, q⟩ a16 w13 ⟨ha16, hx14, hf15, hzl17, hi, hq0, hq1⟩
  have hzhx14 := hx14.size
  refine wp_seq ?_
  refine wp_seq ?_
  refine wp_region_lit ?_
  refine wl_val ha16 rfl rfl rfl (op_move ha16 rfl rfl) ?_
  intro a18 ha18; clear ha16 a16
  refine wl_val ha18 rfl rfl rfl (op_move ha18 rfl rfl) ?_
  intro a19 ha19; clear ha18 a18
  refine wl_val ha19 rfl rfl rfl (op_len_sl ha19 rfl Try.underlying51 rfl h_code) ?_
  intro a20 ha20; clear ha19 a19
  refine wl_val ha20 rfl rfl rfl (op_lss ha20 rfl rfl rfl) ?_
  intro a21 ha21; clear ha20 a20
  refine wl_val ha21 rfl rfl rfl (op_move ha21 rfl rfl) ?_
  intro a22 ha22; clear ha21 a21
  by_cases c23 : ((i : Nat) : Int) < ((code.length : Nat) : Int)
  ·
   rw [decide_eq_true c23] at ha22
   refine wl_val ha22 rfl rfl rfl (op_move ha22 rfl rfl) ?_
   intro a24 ha24; clear ha22 a22
   refine wl_val ha24 rfl rfl rfl (op_lss ha24 rfl rfl rfl) ?_
   intro a25 ha25; clear ha24 a24
   refine wl_val ha25 rfl rfl rfl (op_pick_t ha25 rfl rfl rfl) ?_
   intro a26 ha26; clear ha25 a25
   refine wpList_nil ?_
   refine then_n ?_
   by_cases c27 : ((i : Nat) : Int) < (64 : Int)
   ·
    rw [decide_eq_true c27] at ha26
    refine cond_t ha26 rfl ?_
    refine wp_skip ?_
    refine then_n ?_
    refine wp_seq ?_
    refine wp_block ?_
    refine dr_enter (fun wa_ wb_ => Stp wa_ wb_ (some w0.heap.size)) follows_mixed ?_
    intro w28 he29
    have hx30 := hx14.trans' he29
    have hzhx30 := he29.size
    replace hf15 := hf15.ext he29
    have hs31 : Ext w28 w28 := Ext.rfl' _
    refine dr_val (i := 0) ha26 rfl (by kernel_rfl) (by kernel_rfl) (by kernel_rfl) rfl rfl rfl (Stp.of_ext hs31 _) (fun w' hw' => op_move ha26 rfl rfl) ?_
    intro a32 ha32; clear ha26 a26
    refine dr_val (i := 1) ha32 rfl (by kernel_rfl) (by kernel_rfl) (by kernel_rfl) rfl rfl rfl (Stp.of_ext hs31 _) (fun w' hw' => op_move ha32 rfl rfl) ?_
    intro a33 ha33; clear ha32 a32
    refine dr_val (i := 2) ha33 rfl (by kernel_rfl) (by kernel_rfl) (by kernel_rfl) rfl rfl rfl (Stp.of_ext hs31 _) (fun w' hw' => op_nilCheck ha33 rfl rfl) ?_
    intro a34 ha34; clear ha33 a33
    refine dr_val (i := 3) ha34 rfl (by kernel_rfl) (by kernel_rfl) (by kernel_rfl) rfl rfl rfl (Stp.of_ext hs31 _) (fun w' hw' => op_fieldAddr (sz := 0) ha34 rfl Try.underlying88 rfl rfl ti2 rfl) ?_
    intro a35 ha35; clear ha34 a34
    refine dr_val (i := 6) ha35 rfl (by kernel_rfl) (by kernel_rfl) (by kernel_rfl) rfl rfl rfl (Stp.of_ext hs31 _) (fun w' hw' => op_move ha35 rfl rfl) ?_
    intro a36 ha36; clear ha35 a35
    refine dr_val (i := 7) ha36 rfl (by kernel_rfl) (by kernel_rfl) (by kernel_rfl) rfl rfl rfl (Stp.of_ext hs31 _) (fun w' hw' => op_move ha36 rfl rfl) ?_
    intro a37 ha37; clear ha36 a36
    obtain ⟨x38, hx38⟩ := get_ex (xs := code) (j := i) (by omega)
    obtain ⟨p39, c40, hi41, hc42, hr43, hs44⟩ := Rds.at_ h_code hx38
    obtain rfl := inv_shU8 hr43
    have hltx38 := x38.toNat_lt
    refine dr_val (i := 8) ha37 rfl (by kernel_rfl) (by kernel_rfl) (by kernel_rfl) rfl rfl rfl (Stp.of_ext hs31 _) (fun w' hw' => op_indexAddr ha37 rfl Try.underlying51 ti5 rfl rfl (by omega) hi41) ?_
    intro a46 ha46; clear ha37 a37
    refine dr_val (i := 9) ha46 rfl (by kernel_rfl) (by kernel_rfl) (by kernel_rfl) rfl rfl rfl (Stp.of_ext hs31 _) (fun w' hw' => op_loadH ha46 rfl Try.underlying5 rfl rfl (hc42.ext (hx30.stp hw' (by intro q hq; cases hq; omega))) rfl) ?_
    intro a47 ha47; clear ha46 a46
    refine dr_val (i := 10) ha47 rfl (by kernel_rfl) (by kernel_rfl) (by kernel_rfl) rfl rfl rfl (Stp.of_ext hs31 _) (fun w' hw' => (op_conv_int ha47 rfl Try.underlying5 Try.underlying2 rfl).int (IntWalk.i64_in _ (by omega))) ?_
    intro a48 ha48; clear ha47 a47
    refine dr_one (i := 4) (by kernel_rfl) ?_
    refine po_to ha48 rfl rfl rfl rfl (op_loadF (off := 2) ha48 rfl Try.underlying2 rfl rfl (hf15.ext hs31).cells rfl) ?_
    intro a49 ha49; clear ha48 a48
    refine ⟨(Stp.of_ext hs31 _), ?_⟩
    refine dr_val (i := 5) ha49 rfl (by kernel_rfl) (by kernel_rfl) (by kernel_rfl) rfl rfl rfl (Stp.of_ext hs31 _) (fun w' hw' => (op_mul ha49 rfl rfl rfl).int (IntWalk.i64_in _ (by omega))) ?_
    intro a50 ha50; clear ha49 a49
    refine dr_val (i := 11) ha50 rfl (by kernel_rfl) (by kernel_rfl) (by kernel_rfl) rfl rfl rfl (Stp.of_ext hs31 _) (fun w' hw' => (op_add ha50 rfl rfl rfl).int (IntWalk.i64_in _ (by omega))) ?_
    intro a51 ha51; clear ha50 a50
    refine dr_val (i := 12) ha51 rfl (by kernel_rfl) (by kernel_rfl) (by kernel_rfl) rfl rfl rfl (Stp.of_ext hs31 _) (fun w' hw' => (op_rem ha51 rfl rfl rfl (by omega)).int (Int.tmod_eq_emod_of_nonneg (by omega))) ?_
    intro a52 ha52; clear ha51 a51
    refine dr_val (i := 13) ha52 rfl (by kernel_rfl) (by kernel_rfl) (by kernel_rfl) rfl rfl rfl (Stp.of_ext hs31 _) (fun w' hw' => op_nilCheck ha52 rfl rfl) ?_
    intro a53 ha53; clear ha52 a52
    refine dr_val (i := 14) ha53 rfl (by kernel_rfl) (by kernel_rfl) (by kernel_rfl) rfl rfl rfl (Stp.of_ext hs31 _) (fun w' hw' => op_fieldAddr (sz := 0) ha53 rfl Try.underlying88 rfl rfl ti2 rfl) ?_
    intro a54 ha54; clear ha53 a53
    refine dr_one (i := 15) (by kernel_rfl) ?_
    replace hf15 := hf15.ext hs31
    refine po_effS ha54 rfl rfl rfl (op_store' (off := 2) ha54 rfl ti2 rfl rfl hf15 rfl rfl (by simp [Value.oneCell']) (Nat.le_of_ble_eq_true rfl)) ?_
    rintro w60 ⟨hb62, hst61, hz63⟩
    have hx64 := hx30.stp hst61 (by intro q hq; cases hq; exact (by omega))
    have hzhx64 := hst61.size
    clear hf15
    have hs59 := (Stp.of_ext hs31 (some w0.heap.size)).trans' hst61
    refine ⟨hs59, ?_⟩
    refine dr_end (by kernel_rfl) ?_
    refine block_n ?_
    refine then_n ?_
    refine wp_region_lit ?_
    refine wl_val ha54 rfl rfl rfl (op_move ha54 rfl rfl) ?_
    intro a65 ha65; clear ha54 a54
    refine wl_val ha65 rfl rfl rfl ((op_add ha65 rfl rfl rfl).int (IntWalk.i64_in _ (by omega))) ?_
    intro a66 ha66; clear ha65 a65
    refine wl_val ha66 rfl rfl rfl (op_assign ha66 rfl rfl) ?_
    intro a67 ha67; clear ha66 a66
    refine wpList_nil ?_
    refine round_end (x := (i, q)) ((i + 1), (((q * (83 : Int)) + (x38.toNat : Int)) % (2147483647 : Int))) ?_ ?_
    ·
     refine ⟨(Sl.cons_ ha67 rfl rfl (Sl.cons_ ha67 rfl rfl (Sl.cons_ ha67 rfl (int_eq (by omega)) (Sl.nil_ ha67)))), hx64, hb62, (by omega), (by omega), (by omega), (by omega)⟩
    ·show (code.length - ((i + 1)) : Nat) < code.length - i; omega
   ·
    rw [decide_eq_false c27] at ha26
    refine cond_f ha26 rfl ?_
    refine wp_exit ?_
    refine then_e ?_
    refine then_e ?_
    refine block_hit ?_
    refine then_n ?_
    refine wp_seq ?_
    refine wp_region_lit ?_
    refine wl_val ha26 rfl rfl rfl (op_move ha26 rfl rfl) ?_
    intro a68 ha68; clear ha26 a26
    refine wl_val ha68 rfl rfl rfl (op_assign ha68 rfl rfl) ?_
    intro a69 ha69; clear ha68 a68
    refine wpList_nil ?_
    refine then_n ?_
    refine wp_ret ?_
    refine ret1 ha69 rfl rfl ?_
    clear ha69 a69
    exact ret_mk hx14 ⟨w0.heap.size, rfl, by omega, ⟨by omega, _, _, 0, q, hf15, (h_code.ext pos_shU8 hx14), by omega, by omega, by omega⟩⟩
  ·
   rw [decide_eq_false c23] at ha22
   refine wl_skip ha22 rfl rfl rfl ?_
   intro a70 ha70; clear ha22 a22
   refine wl_skip ha70 rfl rfl rfl ?_
   intro a71 ha71; clear ha70 a70
   refine wl_val ha71 rfl rfl rfl (op_pick_f ha71 rfl rfl rfl) ?_
   intro a72 ha72; clear ha71 a71
   refine wpList_nil ?_
   refine then_n ?_
   refine cond_f ha72 rfl ?_
   refine wp_exit ?_
   refine then_e ?_
   refine then_e ?_
   refine block_hit ?_
   refine then_n ?_
   refine wp_seq ?_
   refine wp_region_lit ?_
   refine wl_val ha72 rfl rfl rfl (op_move ha72 rfl rfl) ?_
   intro a73 ha73; clear ha72 a72
   refine wl_val ha73 rfl rfl rfl (op_assign ha73 rfl rfl) ?_
   intro a74 ha74; clear ha73 a73
   refine wpList_nil ?_
   refine then_n ?_
   refine wp_ret ?_
   refine ret1 ha74 rfl rfl ?_
   clear ha74 a74
   exact ret_mk hx14 ⟨w0.heap.size, rfl, by omega, ⟨by omega, _, _, 0, q, hf15, (h_code.ext pos_shU8 hx14), by omega, by omega, by omega⟩⟩

theorem c_spec_l01Next (w0 : World) (g_s b_s : Nat) (n : Int) (h_s : Src w0 g_s b_s 88) :
  Calls Try.prog 62 #[.pointer (some (⟨g_s, 0, none⟩ : Addr)), .int .i64 n] w0 (RetS w0 (some g_s) (fun v w1 => Src w1 g_s b_s 88 ∧ (fun v w1 => ∃ (r : Int), (0 ≤ r) ∧ (n ≤ 1 → r = 0) ∧ (1 < n → r < n) ∧ (fun v _ => v = .int .i64 (r)) v w1) v w1)) := by
 refine enter (N := 78) Try.func62 rfl rfl rfl ?_
 intro a0 ha0
 have hx0 := Stp.rfl' w0 (some g_s)
 have hgl_s := h_s.lt
 obtain ⟨_, v_s, code_s, at_s, seed_s, hB_s, hr_s, hat_s, hs0_s, hs1_s⟩ := h_s
 have hcl_s := hr_s.length_le
 refine wp_seq ?_
 refine wp_region_lit ?_
 refine wl_val ha0 rfl rfl rfl (op_assign ha0 rfl rfl) ?_
 intro a1 ha1; clear ha0 a0
 refine wpList_nil ?_
 refine then_n ?_
 refine wp_seq ?_
 refine wp_seq ?_
 refine wp_region_lit ?_
 refine wl_val ha1 rfl rfl rfl (op_move ha1 rfl rfl) ?_
 intro a2 ha2; clear ha1 a1
 refine wl_val ha2 rfl rfl rfl (op_leq ha2 rfl rfl rfl) ?_
 intro a3 ha3; clear ha2 a2
 refine wpList_nil ?_
 refine then_n ?_
 by_cases c4 : n ≤ (1 : Int)
 ·
  rw [decide_eq_true c4] at ha3
  refine cond_t ha3 rfl ?_
  refine wp_seq ?_
  refine wp_region_lit ?_
  refine wl_val ha3 rfl rfl rfl (op_assign ha3 rfl rfl) ?_
  intro a5 ha5; clear ha3 a3
  refine wpList_nil ?_
  refine then_n ?_
  refine wp_ret ?_
  refine then_r ?_
  refine ret1 ha5 rfl rfl ?_
  clear ha5 a5
  have hSr : Src w0 g_s b_s 88 := ⟨by omega, _, _, at_s, seed_s, hB_s, hr_s, by omega, by omega, by omega⟩
  refine ret_mkS hx0 ⟨hSr, ?_⟩
  refine ⟨(0 : Int), (by first | omega | exact Int.emod_nonneg _ (by omega)), (by first | omega | (intro _; omega)), (by first | omega | (intro _; exact Int.emod_lt_of_pos _ (by omega))), ?_⟩
  exact (int_eq (by rfl))
 ·
  rw [decide_eq_false c4] at ha3
  refine cond_f ha3 rfl ?_
  refine wp_skip ?_
  refine then_n ?_
  refine wp_seq ?_
  refine wp_region_lit ?_
  refine wl_val ha3 rfl rfl rfl (op_move ha3 rfl rfl) ?_
  intro a6 ha6; clear ha3 a3
  refine wl_val ha6 rfl rfl rfl (op_move ha6 rfl rfl) ?_
  intro a7 ha7; clear ha6 a6
  refine wl_val ha7 rfl rfl rfl (op_nilCheck ha7 rfl rfl) ?_
  intro a8 ha8; clear ha7 a7
  refine wl_val ha8 rfl rfl rfl (op_fieldAddr (sz := 0) ha8 rfl Try.underlying88 rfl rfl ti2 rfl) ?_
  intro a9 ha9; clear ha8 a8
  refine wl_val ha9 rfl rfl rfl (op_loadF (off := 2) ha9 rfl Try.underlying2 rfl rfl hB_s.cells rfl) ?_
  intro a10 ha10; clear ha9 a9
  refine wl_val ha10 rfl rfl rfl ((op_mul ha10 rfl rfl rfl).int (IntWalk.i64_in _ (by omega))) ?_
  intro a11 ha11; clear ha10 a10
  refine wl_val ha11 rfl rfl rfl ((op_add ha11 rfl rfl rfl).int (IntWalk.i64_in _ (by omega))) ?_
  intro a12 ha12; clear ha11 a11
  refine wl_val ha12 rfl rfl rfl ((op_rem ha12 rfl rfl rfl (by omega)).int (Int.tmod_eq_emod_of_nonneg (by omega))) ?_
  intro a13 ha13; clear ha12 a12
  refine wl_val ha13 rfl rfl rfl (op_nilCheck ha13 rfl rfl) ?_
  intro a14 ha14; clear ha13 a13
  refine wl_val ha14 rfl rfl rfl (op_fieldAddr (sz := 0) ha14 rfl Try.underlying88 rfl rfl ti2 rfl) ?_
  intro a15 ha15; clear ha14 a14
  refine wl_effS ha15 rfl rfl (op_store' (off := 2) ha15 rfl ti2 rfl rfl hB_s rfl rfl (by simp [Value.oneCell']) (Nat.le_of_ble_eq_true rfl)) ?_
  rintro w16 ⟨hb18, hst17, hz19⟩
  have hx20 := hx0.trans' hst17
  have hzhx20 := hst17.size
  replace hr_s := hr_s.stp pos_shU8 hst17 (by intro q hq; cases hq; exact not_iv (by omega))
  clear hB_s
  refine wpList_nil ?_
  refine then_n ?_
  refine wp_seq ?_
  refine wp_region_lit ?_
  refine wl_val ha15 rfl rfl rfl (op_move ha15 rfl rfl) ?_
  intro a21 ha21; clear ha15 a15
  refine wl_val ha21 rfl rfl rfl (op_nilCheck ha21 rfl rfl) ?_
  intro a22 ha22; clear ha21 a21
  refine wl_val ha22 rfl rfl rfl (op_fieldAddr (sz := 0) ha22 rfl Try.underlying88 rfl rfl ti2 rfl) ?_
  intro a23 ha23; clear ha22 a22
  refine wl_val ha23 rfl rfl rfl (op_loadF (off := 2) ha23 rfl Try.underlying2 rfl rfl hb18.cells rfl) ?_
  intro a24 ha24; clear ha23 a23
  refine wl_val ha24 rfl rfl rfl ((op_quo ha24 rfl rfl rfl (by omega)).int (IntWalk.i64_quo _ _ (by omega))) ?_
  intro a25 ha25; clear ha24 a24
  refine wl_val ha25 rfl rfl rfl (op_assign ha25 rfl rfl) ?_
  intro a26 ha26; clear ha25 a25
  refine wpList_nil ?_
  refine then_n ?_
  refine wp_seq ?_
  refine wp_seq ?_
  refine dr_enter Ext follows_mixed ?_
  intro w27 he28
  have hx29 := hx20.trans' (Stp.of_ext he28 _)
  have hzhx29 := he28.size
  replace hr_s := hr_s.ext pos_shU8 he28
  replace hb18 := hb18.ext he28
  have hs30 : Ext w27 w27 := Ext.rfl' _
  refine dr_val (i := 0) ha26 rfl (by kernel_rfl) (by kernel_rfl) (by kernel_rfl) rfl rfl rfl hs30 (fun w' hw' => op_move ha26 rfl rfl) ?_
  intro a31 ha31; clear ha26 a26
  refine dr_val (i := 1) ha31 rfl (by kernel_rfl) (by kernel_rfl) (by kernel_rfl) rfl rfl rfl hs30 (fun w' hw' => op_nilCheck ha31 rfl rfl) ?_
  intro a32 ha32; clear ha31 a31
  refine dr_val (i := 2) ha32 rfl (by kernel_rfl) (by kernel_rfl) (by kernel_rfl) rfl rfl rfl hs30 (fun w' hw' => op_fieldAddr (sz := 0) ha32 rfl Try.underlying88 rfl rfl ti3 rfl) ?_
  intro a33 ha33; clear ha32 a32
  refine dr_val (i := 3) ha33 rfl (by kernel_rfl) (by kernel_rfl) (by kernel_rfl) rfl rfl rfl hs30 (fun w' hw' => op_loadF (off := 1) ha33 rfl Try.underlying3 rfl rfl (hb18.ext hw').cells rfl) ?_
  intro a34 ha34; clear ha33 a33
  refine dr_val (i := 4) ha34 rfl (by kernel_rfl) (by kernel_rfl) (by kernel_rfl) rfl rfl rfl hs30 (fun w' hw' => op_move ha34 rfl rfl) ?_
  intro a35 ha35; clear ha34 a34
  refine dr_val (i := 5) ha35 rfl (by kernel_rfl) (by kernel_rfl) (by kernel_rfl) rfl rfl rfl hs30 (fun w' hw' => op_nilCheck ha35 rfl rfl) ?_
  intro a36 ha36; clear ha35 a35
  refine dr_val (i := 6) ha36 rfl (by kernel_rfl) (by kernel_rfl) (by kernel_rfl) rfl rfl rfl hs30 (fun w' hw' => op_fieldAddr (sz := 0) ha36 rfl Try.underlying88 rfl rfl ti51 rfl) ?_
  intro a37 ha37; clear ha36 a36
  refine dr_val (i := 7) ha37 rfl (by kernel_rfl) (by kernel_rfl) (by kernel_rfl) rfl rfl rfl hs30 (fun w' hw' => op_loadF (off := 0) ha37 rfl Try.underlying51 rfl rfl (hb18.ext hw').cells rfl) ?_
  intro a38 ha38; clear ha37 a37
  refine dr_val (i := 8) ha38 rfl (by kernel_rfl) (by kernel_rfl) (by kernel_rfl) rfl rfl rfl hs30 (fun w' hw' => op_len_sl ha38 rfl Try.underlying51 rfl hr_s) ?_
  intro a39 ha39; clear ha38 a38
  refine dr_val (i := 9) ha39 rfl (by kernel_rfl) (by kernel_rfl) (by kernel_rfl) rfl rfl rfl hs30 (fun w' hw' => op_lss ha39 rfl rfl rfl) ?_
  intro a40 ha40; clear ha39 a39
  refine dr_end (by kernel_rfl) ?_
  replace hr_s := hr_s.ext pos_shU8 hs30
  replace hb18 := hb18.ext hs30
  refine then_n ?_
  by_cases c41 : ((at_s : Nat) : Int) < ((code_s.length : Nat) : Int)
  ·
   rw [decide_eq_true c41] at ha40
   refine cond_t ha40 rfl ?_
   refine wp_seq ?_
   refine dr_enter Ext follows_mixed ?_
   intro w42 he43
   have hx44 := hx29.trans' (Stp.of_ext he43 _)
   have hzhx44 := he43.size
   replace hr_s := hr_s.ext pos_shU8 he43
   replace hb18 := hb18.ext he43
   have hs45 : Ext w42 w42 := Ext.rfl' _
   refine dr_val (i := 0) ha40 rfl (by kernel_rfl) (by kernel_rfl) (by kernel_rfl) rfl rfl rfl hs45 (fun w' hw' => op_move ha40 rfl rfl) ?_
   intro a46 ha46; clear ha40 a40
   refine dr_val (i := 1) ha46 rfl (by kernel_rfl) (by kernel_rfl) (by kernel_rfl) rfl rfl rfl hs45 (fun w' hw' => op_move ha46 rfl rfl) ?_
   intro a47 ha47; clear ha46 a46
   refine dr_val (i := 2) ha47 rfl (by kernel_rfl) (by kernel_rfl) (by kernel_rfl) rfl rfl rfl hs45 (fun w' hw' => op_nilCheck ha47 rfl rfl) ?_
   intro a48 ha48; clear ha47 a47
   refine dr_val (i := 3) ha48 rfl (by kernel_rfl) (by kernel_rfl) (by kernel_rfl) rfl rfl rfl hs45 (fun w' hw' => op_fieldAddr (sz := 0) ha48 rfl Try.underlying88 rfl rfl ti51 rfl) ?_
   intro a49 ha49; clear ha48 a48
   refine dr_val (i := 4) ha49 rfl (by kernel_rfl) (by kernel_rfl) (by kernel_rfl) rfl rfl rfl hs45 (fun w' hw' => op_loadF (off := 0) ha49 rfl Try.underlying51 rfl rfl (hb18.ext hw').cells rfl) ?_
   intro a50 ha50; clear ha49 a49
   refine dr_val (i := 5) ha50 rfl (by kernel_rfl) (by kernel_rfl) (by kernel_rfl) rfl rfl rfl hs45 (fun w' hw' => op_move ha50 rfl rfl) ?_
   intro a51 ha51; clear ha50 a50
   refine dr_val (i := 6) ha51 rfl (by kernel_rfl) (by kernel_rfl) (by kernel_rfl) rfl rfl rfl hs45 (fun w' hw' => op_nilCheck ha51 rfl rfl) ?_
   intro a52 ha52; clear ha51 a51
   refine dr_val (i := 7) ha52 rfl (by kernel_rfl) (by kernel_rfl) (by kernel_rfl) rfl rfl rfl hs45 (fun w' hw' => op_fieldAddr (sz := 0) ha52 rfl Try.underlying88 rfl rfl ti3 rfl) ?_
   intro a53 ha53; clear ha52 a52
   refine dr_val (i := 8) ha53 rfl (by kernel_rfl) (by kernel_rfl) (by kernel_rfl) rfl rfl rfl hs45 (fun w' hw' => op_loadF (off := 1) ha53 rfl Try.underlying3 rfl rfl (hb18.ext hw').cells rfl) ?_
   intro a54 ha54; clear ha53 a53
   obtain ⟨x55, hx55⟩ := get_ex (xs := code_s) (j := at_s) (by omega)
   obtain ⟨p56, c57, hi58, hc59, hr60, hs61⟩ := Rds.at_ hr_s hx55
   obtain rfl := inv_shU8 hr60
   obtain ⟨_, _⟩ : _ ∧ _ := hs61
   have hltx55 := x55.toNat_lt
   refine dr_val (i := 9) ha54 rfl (by kernel_rfl) (by kernel_rfl) (by kernel_rfl) rfl rfl rfl hs45 (fun w' hw' => op_indexAddr ha54 rfl Try.underlying51 ti5 rfl rfl (by omega) hi58) ?_
   intro a63 ha63; clear ha54 a54
   refine dr_val (i := 10) ha63 rfl (by kernel_rfl) (by kernel_rfl) (by kernel_rfl) rfl rfl rfl hs45 (fun w' hw' => op_loadH ha63 rfl Try.underlying5 rfl rfl (hc59.ext hw') rfl) ?_
   intro a64 ha64; clear ha63 a63
   refine dr_val (i := 11) ha64 rfl (by kernel_rfl) (by kernel_rfl) (by kernel_rfl) rfl rfl rfl hs45 (fun w' hw' => (op_conv_int ha64 rfl Try.underlying5 Try.underlying2 rfl).int (IntWalk.i64_in _ (by omega))) ?_
   intro a65 ha65; clear ha64 a64
   refine dr_val (i := 12) ha65 rfl (by kernel_rfl) (by kernel_rfl) (by kernel_rfl) rfl rfl rfl hs45 (fun w' hw' => (op_add ha65 rfl rfl rfl).int (IntWalk.i64_in _ (by omega))) ?_
   intro a66 ha66; clear ha65 a65
   refine dr_val (i := 13) ha66 rfl (by kernel_rfl) (by kernel_rfl) (by kernel_rfl) rfl rfl rfl hs45 (fun w' hw' => op_assign ha66 rfl rfl) ?_
   intro a67 ha67; clear ha66 a66
   refine dr_end (by kernel_rfl) ?_
   replace hr_s := hr_s.ext pos_shU8 hs45
   replace hb18 := hb18.ext hs45
   replace hc59 := hc59.ext hs45
   refine then_n ?_
   refine wp_seq ?_
   refine wp_region_lit ?_
   refine wl_val ha67 rfl rfl rfl (op_move ha67 rfl rfl) ?_
   intro a68 ha68; clear ha67 a67
   refine wl_val ha68 rfl rfl rfl (op_nilCheck ha68 rfl rfl) ?_
   intro a69 ha69; clear ha68 a68
   refine wl_val ha69 rfl rfl rfl (op_fieldAddr (sz := 0) ha69 rfl Try.underlying88 rfl rfl ti3 rfl) ?_
   intro a70 ha70; clear ha69 a69
   refine wl_val ha70 rfl rfl rfl (op_loadF (off := 1) ha70 rfl Try.underlying3 rfl rfl hb18.cells rfl) ?_
   intro a71 ha71; clear ha70 a70
   refine wl_val ha71 rfl rfl rfl ((op_add ha71 rfl rfl rfl).int (IntWalk.i64_in _ (by omega))) ?_
   intro a72 ha72; clear ha71 a71
   refine wl_val ha72 rfl rfl rfl (op_nilCheck ha72 rfl rfl) ?_
   intro a73 ha73; clear ha72 a72
   refine wl_val ha73 rfl rfl rfl (op_fieldAddr (sz := 0) ha73 rfl Try.underlying88 rfl rfl ti3 rfl) ?_
   intro a74 ha74; clear ha73 a73
   refine wl_effS ha74 rfl rfl (op_store' (off := 1) ha74 rfl ti3 rfl rfl hb18 rfl rfl (by simp [Value.oneCell']) (Nat.le_of_ble_eq_true rfl)) ?_
   rintro w75 ⟨hb77, hst76, hz78⟩
   have hx79 := hx44.trans' hst76
   have hzhx79 := hst76.size
   replace hr_s := hr_s.stp pos_shU8 hst76 (by intro q hq; cases hq; exact not_iv (by omega))
   replace hc59 := hc59.stp hst76 (by intro q hq; cases hq; omega)
   clear hb18
   refine wpList_nil ?_
   refine then_n ?_
   refine wp_seq ?_
   refine wp_region_lit ?_
   refine wl_val ha74 rfl rfl rfl (op_move ha74 rfl rfl) ?_
   intro a80 ha80; clear ha74 a74
   refine wl_val ha80 rfl rfl rfl (op_leq ha80 rfl rfl rfl) ?_
   intro a81 ha81; clear ha80 a80
   refine wl_val ha81 rfl rfl rfl (op_move ha81 rfl rfl) ?_
   intro a82 ha82; clear ha81 a81
   by_cases c83 : n ≤ (256 : Int)
   ·
    rw [decide_eq_true c83] at ha82
    refine wl_val ha82 rfl rfl rfl (op_move ha82 rfl rfl) ?_
    intro a84 ha84; clear ha82 a82
    refine wl_val ha84 rfl rfl rfl (op_nilCheck ha84 rfl rfl) ?_
    intro a85 ha85; clear ha84 a84
    refine wl_val ha85 rfl rfl rfl (op_fieldAddr (sz := 0) ha85 rfl Try.underlying88 rfl rfl ti3 rfl) ?_
    intro a86 ha86; clear ha85 a85
    refine wl_val ha86 rfl rfl rfl (op_loadF (off := 1) ha86 rfl Try.underlying3 rfl rfl hb77.cells rfl) ?_
    intro a87 ha87; clear ha86 a86
    refine wl_val ha87 rfl rfl rfl ((op_rem ha87 rfl rfl rfl (by omega)).int (Int.tmod_eq_emod_of_nonneg (by omega))) ?_
    intro a88 ha88; clear ha87 a87
    refine wl_val ha88 rfl rfl rfl (op_eql ha88 rfl rfl rfl) ?_
    intro a89 ha89; clear ha88 a88
    refine wl_val ha89 rfl rfl rfl (op_pick_t ha89 rfl rfl rfl) ?_
    intro a90 ha90; clear ha89 a89
    refine wpList_nil ?_
    refine then_n ?_
    by_cases c91 : ((((at_s : Nat) : Int) + (1 : Int)) % (2 : Int)) = (0 : Int)
    ·
     rw [decide_eq_true c91] at ha90
     refine cond_t ha90 rfl ?_
     refine dr_enter Ext follows_mixed ?_
     intro w92 he93
     have hx94 := hx79.trans' (Stp.of_ext he93 _)
     have hzhx94 := he93.size
     replace hr_s := hr_s.ext pos_shU8 he93
     replace hc59 := hc59.ext he93
     replace hb77 := hb77.ext he93
     have hs95 : Ext w92 w92 := Ext.rfl' _
     refine dr_val (i := 0) ha90 rfl (by kernel_rfl) (by kernel_rfl) (by kernel_rfl) rfl rfl rfl hs95 (fun w' hw' => op_move ha90 rfl rfl) ?_
     intro a96 ha96; clear ha90 a90
     refine dr_val (i := 1) ha96 rfl (by kernel_rfl) (by kernel_rfl) (by kernel_rfl) rfl rfl rfl hs95 (fun w' hw' => op_nilCheck ha96 rfl rfl) ?_
     intro a97 ha97; clear ha96 a96
     refine dr_val (i := 2) ha97 rfl (by kernel_rfl) (by kernel_rfl) (by kernel_rfl) rfl rfl rfl hs95 (fun w' hw' => op_fieldAddr (sz := 0) ha97 rfl Try.underlying88 rfl rfl ti51 rfl) ?_
     intro a98 ha98; clear ha97 a97
     refine dr_val (i := 3) ha98 rfl (by kernel_rfl) (by kernel_rfl) (by kernel_rfl) rfl rfl rfl hs95 (fun w' hw' => op_loadF (off := 0) ha98 rfl Try.underlying51 rfl rfl (hb77.ext hw').cells rfl) ?_
     intro a99 ha99; clear ha98 a98
     refine dr_val (i := 4) ha99 rfl (by kernel_rfl) (by kernel_rfl) (by kernel_rfl) rfl rfl rfl hs95 (fun w' hw' => op_move ha99 rfl rfl) ?_
     intro a100 ha100; clear ha99 a99
     refine dr_val (i := 5) ha100 rfl (by kernel_rfl) (by kernel_rfl) (by kernel_rfl) rfl rfl rfl hs95 (fun w' hw' => op_nilCheck ha100 rfl rfl) ?_
     intro a101 ha101; clear ha100 a100
     refine dr_val (i := 6) ha101 rfl (by kernel_rfl) (by kernel_rfl) (by kernel_rfl) rfl rfl rfl hs95 (fun w' hw' => op_fieldAddr (sz := 0) ha101 rfl Try.underlying88 rfl rfl ti3 rfl) ?_
     intro a102 ha102; clear ha101 a101
     refine dr_val (i := 7) ha102 rfl (by kernel_rfl) (by kernel_rfl) (by kernel_rfl) rfl rfl rfl hs95 (fun w' hw' => op_loadF (off := 1) ha102 rfl Try.underlying3 rfl rfl (hb77.ext hw').cells rfl) ?_
     intro a103 ha103; clear ha102 a102
     refine dr_val (i := 8) ha103 rfl (by kernel_rfl) (by kernel_rfl) (by kernel_rfl) rfl rfl rfl hs95 (fun w' hw' => (op_sub ha103 rfl rfl rfl).int (IntWalk.i64_in _ (by omega))) ?_
     intro a104 ha104; clear ha103 a103
     obtain ⟨x105, hx105⟩ := get_ex (xs := code_s) (j := ((at_s + 1) - 1)) (by omega)
     obtain ⟨p106, c107, hi108, hc109, hr110, hs111⟩ := Rds.at_ hr_s hx105
     obtain rfl := inv_shU8 hr110
     obtain ⟨_, _⟩ : _ ∧ _ := hs111
     have hltx105 := x105.toNat_lt
     refine dr_val (i := 9) ha104 rfl (by kernel_rfl) (by kernel_rfl) (by kernel_rfl) rfl rfl rfl hs95 (fun w' hw' => op_indexAddr ha104 rfl Try.underlying51 ti5 rfl rfl (by omega) hi108) ?_
     intro a113 ha113; clear ha104 a104
     refine dr_val (i := 10) ha113 rfl (by kernel_rfl) (by kernel_rfl) (by kernel_rfl) rfl rfl rfl hs95 (fun w' hw' => op_loadH ha113 rfl Try.underlying5 rfl rfl (hc109.ext hw') rfl) ?_
     intro a114 ha114; clear ha113 a113
     refine dr_val (i := 11) ha114 rfl (by kernel_rfl) (by kernel_rfl) (by kernel_rfl) rfl rfl rfl hs95 (fun w' hw' => (op_conv_int ha114 rfl Try.underlying5 Try.underlying2 rfl).int (IntWalk.i64_in _ (by omega))) ?_
     intro a115 ha115; clear ha114 a114
     refine dr_val (i := 12) ha115 rfl (by kernel_rfl) (by kernel_rfl) (by kernel_rfl) rfl rfl rfl hs95 (fun w' hw' => op_assign ha115 rfl rfl) ?_
     intro a116 ha116; clear ha115 a115
     refine dr_end (by kernel_rfl) ?_
     replace hr_s := hr_s.ext pos_shU8 hs95
     replace hc59 := hc59.ext hs95
     replace hb77 := hb77.ext hs95
     replace hc109 := hc109.ext hs95
     refine then_n ?_
     refine wp_seq ?_
     refine wp_region_lit ?_
     refine wl_val ha116 rfl rfl rfl (op_move ha116 rfl rfl) ?_
     intro a117 ha117; clear ha116 a116
     refine wl_val ha117 rfl rfl rfl (op_move ha117 rfl rfl) ?_
     intro a118 ha118; clear ha117 a117
     refine wl_val ha118 rfl rfl rfl ((op_rem ha118 rfl rfl rfl (by omega)).int (Int.tmod_eq_emod_of_nonneg (by omega))) ?_
     intro a119 ha119; clear ha118 a118
     refine wl_val ha119 rfl rfl rfl (op_assign ha119 rfl rfl) ?_
     intro a120 ha120; clear ha119 a119
     refine wpList_nil ?_
     refine then_n ?_
     refine wp_ret ?_
     refine ret1 ha120 rfl rfl ?_
     clear ha120 a120
     have hSr : Src w92 g_s b_s 88 := ⟨by omega, _, _, (at_s + 1), (((seed_s * (48271 : Int)) + (29 : Int)) % (2147483647 : Int)), hb77, hr_s, by omega, by omega, by omega⟩
     refine ret_mkS hx94 ⟨hSr, ?_⟩
     refine ⟨((x105.toNat : Int) % n), (by first | omega | exact Int.emod_nonneg _ (by omega)), (by first | omega | (intro _; omega)), (by first | omega | (intro _; exact Int.emod_lt_of_pos _ (by omega))), ?_⟩
     exact (int_eq (by rfl))
    ·
     rw [decide_eq_false c91] at ha90
     refine cond_f ha90 rfl ?_
     refine wp_skip ?_
     refine then_n ?_
     refine wp_seq ?_
     refine wp_region_lit ?_
     refine wl_val ha90 rfl rfl rfl (op_move ha90 rfl rfl) ?_
     intro a121 ha121; clear ha90 a90
     refine wl_val ha121 rfl rfl rfl (op_move ha121 rfl rfl) ?_
     intro a122 ha122; clear ha121 a121
     refine wl_val ha122 rfl rfl rfl ((op_rem ha122 rfl rfl rfl (by omega)).int (Int.tmod_eq_emod_of_nonneg (by omega))) ?_
     intro a123 ha123; clear ha122 a122
     refine wl_val ha123 rfl rfl rfl (op_assign ha123 rfl rfl) ?_
     intro a124 ha124; clear ha123 a123
     refine wpList_nil ?_
     refine then_n ?_
     refine wp_ret ?_
     refine ret1 ha124 rfl rfl ?_
     clear ha124 a124
     have hSr : Src w75 g_s b_s 88 := ⟨by omega, _, _, (at_s + 1), (((seed_s * (48271 : Int)) + (29 : Int)) % (2147483647 : Int)), hb77, hr_s, by omega, by omega, by omega⟩
     refine ret_mkS hx79 ⟨hSr, ?_⟩
     refine ⟨((((((seed_s * (48271 : Int)) + (29 : Int)) % (2147483647 : Int)) / (31 : Int)) + (x55.toNat : Int)) % n), (by first | omega | exact Int.emod_nonneg _ (by omega)), (by first | omega | (intro _; omega)), (by first | omega | (intro _; exact Int.emod_lt_of_pos _ (by omega))), ?_⟩
     exact (int_eq (by rfl))
   ·
    rw [decide_eq_false c83] at ha82
    refine wl_skip ha82 rfl rfl rfl ?_
    intro a125 ha125; clear ha82 a82
    refine wl_skip ha125 rfl rfl rfl ?_
    intro a126 ha126; clear ha125 a125
    refine wl_skip ha126 rfl rfl rfl ?_
    intro a127 ha127; clear ha126 a126
    refine wl_skip ha127 rfl rfl rfl ?_
    intro a128 ha128; clear ha127 a127
    refine wl_skip ha128 rfl rfl rfl ?_
    intro a129 ha129; clear ha128 a128
    refine wl_skip ha129 rfl rfl rfl ?_
    intro a130 ha130; clear ha129 a129
    refine wl_val ha130 rfl rfl rfl (op_pick_f ha130 rfl rfl rfl) ?_
    intro a131 ha131; clear ha130 a130
    refine wpList_nil ?_
    refine then_n ?_
    refine cond_f ha131 rfl ?_
    refine wp_skip ?_
    refine then_n ?_
    refine wp_seq ?_
    refine wp_region_lit ?_
    refine wl_val ha131 rfl rfl rfl (op_move ha131 rfl rfl) ?_
    intro a132 ha132; clear ha131 a131
    refine wl_val ha132 rfl rfl rfl (op_move ha132 rfl rfl) ?_
    intro a133 ha133; clear ha132 a132
    refine wl_val ha133 rfl rfl rfl ((op_rem ha133 rfl rfl rfl (by omega)).int (Int.tmod_eq_emod_of_nonneg (by omega))) ?_
    intro a134 ha134; clear ha133 a133
    refine wl_val ha134 rfl rfl rfl (op_assign ha134 rfl rfl) ?_
    intro a135 ha135; clear ha134 a134
    refine wpList_nil ?_
    refine then_n ?_
    refine wp_ret ?_
    refine ret1 ha135 rfl rfl ?_
    clear ha135 a135
    have hSr : Src w75 g_s b_s 88 := ⟨by omega, _, _, (at_s + 1), (((seed_s * (48271 : Int)) + (29 : Int)) % (2147483647 : Int)), hb77, hr_s, by omega, by omega, by omega⟩
    refine ret_mkS hx79 ⟨hSr, ?_⟩
    refine ⟨((((((seed_s * (48271 : Int)) + (29 : Int)) % (2147483647 : Int)) / (31 : Int)) + (x55.toNat : Int)) % n), (by first | omega | exact Int.emod_nonneg _ (by omega)), (by first | omega | (intro _; omega)), (by first | omega | (intro _; exact Int.emod_lt_of_pos _ (by omega))), ?_⟩
    exact (int_eq (by rfl))
  ·
   rw [decide_eq_false c41] at ha40
   refine cond_f ha40 rfl ?_
   refine wp_skip ?_
   refine then_n ?_
   refine wp_seq ?_
   refine wp_region_lit ?_
   refine wl_val ha40 rfl rfl rfl (op_move ha40 rfl rfl) ?_
   intro a136 ha136; clear ha40 a40
   refine wl_val ha136 rfl rfl rfl (op_move ha136 rfl rfl) ?_
   intro a137 ha137; clear ha136 a136
   refine wl_val ha137 rfl rfl rfl ((op_rem ha137 rfl rfl rfl (by omega)).int (Int.tmod_eq_emod_of_nonneg (by omega))) ?_
   intro a138 ha138; clear ha137 a137
   refine wl_val ha138 rfl rfl rfl (op_assign ha138 rfl rfl) ?_
   intro a139 ha139; clear ha138 a138
   refine wpList_nil ?_
   refine then_n ?_
   refine wp_ret ?_
   refine ret1 ha139 rfl rfl ?_
   clear ha139 a139
   have hSr : Src w27 g_s b_s 88 := ⟨by omega, _, _, at_s, (((seed_s * (48271 : Int)) + (29 : Int)) % (2147483647 : Int)), hb18, hr_s, by omega, by omega, by omega⟩
   refine ret_mkS hx29 ⟨hSr, ?_⟩
   refine ⟨(((((seed_s * (48271 : Int)) + (29 : Int)) % (2147483647 : Int)) / (31 : Int)) % n), (by first | omega | exact Int.emod_nonneg _ (by omega)), (by first | omega | (intro _; omega)), (by first | omega | (intro _; exact Int.emod_lt_of_pos _ (by omega))), ?_⟩
   exact (int_eq (by rfl))

theorem c_spec_l01Pick (w0 : World) (g_s b_s : Nat) (v_list : Value) (list : List Int) {S_list : Nat → Prop} (h_s : Src w0 g_s b_s 88) (h_list : Rds shI64 S_list w0 v_list list) (d_list : ¬ S_list g_s) (g0 : 1 ≤ list.length) :
  Calls Try.prog 65 #[.pointer (some (⟨g_s, 0, none⟩ : Addr)), v_list] w0 (RetS w0 (some g_s) (fun v w1 => Src w1 g_s b_s 88 ∧ (fun v w1 => ∃ (r : Int), (r ∈ list) ∧ (fun v _ => v = .int .i64 (r)) v w1) v w1)) := by
 refine enter (N := 12) Try.func65 rfl rfl rfl ?_
 intro a0 ha0
 have hx0 := Stp.rfl' w0 (some g_s)
 have hl_list := h_list.length_le
 have hgl_s := h_s.lt
 refine wp_seq ?_
 refine wp_region_lit ?_
 refine wl_val ha0 rfl rfl rfl (op_assign ha0 rfl rfl) ?_
 intro a1 ha1; clear ha0 a0
 refine wpList_nil ?_
 refine then_n ?_
 refine wp_seq ?_
 refine wp_region_lit ?_
 refine wl_val ha1 rfl rfl rfl (op_move ha1 rfl rfl) ?_
 intro a2 ha2; clear ha1 a1
 refine wl_val ha2 rfl rfl rfl (op_move ha2 rfl rfl) ?_
 intro a3 ha3; clear ha2 a2
 refine wl_val ha3 rfl rfl rfl (op_move ha3 rfl rfl) ?_
 intro a4 ha4; clear ha3 a3
 refine wl_val ha4 rfl rfl rfl (op_len_sl ha4 rfl Try.underlying44 rfl h_list) ?_
 intro a5 ha5; clear ha4 a4
 refine wl_callS ha5 rfl rfl rfl (op_call ha5 rfl cb62 rfl) (c_spec_l01Next _ g_s b_s ((list.length : Nat) : Int) h_s) ?_
 rintro v6 w7 he8 ⟨hS9, ⟨q10, hq11, hq12, hq13, rfl⟩⟩ a14 ha14; clear ha5 a5
 have hx15 := hx0.trans' he8
 have hzhx15 := he8.size
 have hSlhS9 := hS9.lt
 obtain ⟨x16, hx16⟩ := get_ex (xs := list) (j := ((q10 : Int)).toNat) (by omega)
 obtain ⟨p17, c18, hi19, hc20, hr21, hs22⟩ := Rds.at_ h_list hx16
 obtain ⟨rfl, b23⟩ := inv_shI64 hr21
 refine wl_val ha14 rfl rfl rfl (op_indexAddr ha14 rfl Try.underlying44 ti2 rfl rfl (by omega) hi19) ?_
 intro a24 ha24; clear ha14 a14
 refine wl_val ha24 rfl rfl rfl (op_loadH ha24 rfl Try.underlying2 rfl rfl (hc20.stp hx15 (by intro q hq; cases hq; intro e; rw [e] at hs22; exact d_list hs22)) rfl) ?_
 intro a25 ha25; clear ha24 a24
 refine wl_val ha25 rfl rfl rfl (op_assign ha25 rfl rfl) ?_
 intro a26 ha26; clear ha25 a25
 refine wpList_nil ?_
 refine then_n ?_
 refine wp_ret ?_
 refine ret1 ha26 rfl rfl ?_
 clear ha26 a26
 refine ret_mkS hx15 ⟨hS9, ?_⟩
 refine ⟨x16, (by exact List.mem_of_getElem? hx16), ?_⟩
 exact (int_eq (by rfl))

set_option maxHeartbeats 8000000 in
theorem c_spec_l01Damage (w0 : World) (g_s b_s : Nat) (t : Str) (h_s : Src w0 g_s b_s 88) (g0 : t.length ≤ 1048576) :
  Calls Try.prog 64 #[.pointer (some (⟨g_s, 0, none⟩ : Addr)), St t] w0 (RetS w0 (some g_s) (fun v w1 => Src w1 g_s b_s 88 ∧ (fun v w1 => ∃ (d : Str), (d.length ≤ t.length + 1) ∧ (fun v _ => v = St (d)) v w1) v w1)) := by
 refine enter (N := 48) Try.func64 rfl rfl rfl ?_
 intro a0 ha0
 have hx0 := Stp.rfl' w0 (some g_s)
 have hgl_s := h_s.lt
 refine wp_seq ?_
 refine wp_region_lit ?_
 refine wl_val ha0 rfl rfl rfl (op_assign ha0 rfl rfl) ?_
 intro a1 ha1; clear ha0 a0
 refine wpList_nil ?_
 refine then_n ?_
 refine wp_seq ?_
 refine wp_region_lit ?_
 refine wl_val ha1 rfl rfl rfl (op_move ha1 rfl rfl) ?_
 intro a2 ha2; clear ha1 a1
 refine wl_val ha2 rfl rfl rfl (op_move ha2 rfl rfl) ?_
 intro a3 ha3; clear ha2 a2
 refine wl_val ha3 rfl rfl rfl (op_len_str ha3 rfl Try.underlying9 rfl) ?_
 intro a4 ha4; clear ha3 a3
 refine wl_val ha4 rfl rfl rfl ((op_add ha4 rfl rfl rfl).int (IntWalk.i64_in _ (by omega))) ?_
 intro a5 ha5; clear ha4 a4
 refine wl_callS ha5 rfl rfl rfl (op_call ha5 rfl cb62 rfl) (c_spec_l01Next _ g_s b_s (((t.length : Nat) : Int) + (1 : Int)) h_s) ?_
 rintro v6 w7 he8 ⟨hS9, ⟨q10, hq11, hq12, hq13, rfl⟩⟩ a14 ha14; clear ha5 a5
 have hx15 := hx0.trans' he8
 have hzhx15 := he8.size
 have hSlhS9 := hS9.lt
 refine wl_val ha14 rfl rfl rfl (op_assign ha14 rfl rfl) ?_
 intro a16 ha16; clear ha14 a14
 refine wpList_nil ?_
 refine then_n ?_
 refine wp_seq ?_
 refine wp_seq ?_
 refine wp_region_lit ?_
 refine wl_val ha16 rfl rfl rfl (op_move ha16 rfl rfl) ?_
 intro a17 ha17; clear ha16 a16
 refine wl_callS ha17 rfl rfl rfl (op_call ha17 rfl cb62 rfl) (c_spec_l01Next _ g_s b_s (8 : Int) hS9) ?_
 rintro v18 w19 he20 ⟨hS21, ⟨q22, hq23, hq24, hq25, rfl⟩⟩ a26 ha26; clear ha17 a17
 have hx27 := hx15.trans' he20
 have hzhx27 := he20.size
 clear hS9
 have hSlhS21 := hS21.lt
 refine wpList_nil ?_
 refine then_n ?_
 refine wp_block ?_
 refine wp_seq ?_
 refine wp_region_lit ?_
 refine wl_val ha26 rfl rfl rfl (op_eql ha26 rfl rfl rfl) ?_
 intro a28 ha28; clear ha26 a26
 refine wl_val ha28 rfl rfl rfl (op_assign ha28 rfl rfl) ?_
 intro a29 ha29; clear ha28 a28
 refine wpList_nil ?_
 refine then_n ?_
 by_cases c30 : (q22 : Int) = (0 : Int)
 ·
  rw [decide_eq_true c30] at ha29
  refine cond_t ha29 rfl ?_
  refine wp_seq ?_
  refine wp_region_lit ?_
  refine wl_val ha29 rfl rfl rfl (op_move ha29 rfl rfl) ?_
  intro a31 ha31; clear ha29 a29
  refine wl_val ha31 rfl rfl rfl (op_move ha31 rfl rfl) ?_
  intro a32 ha32; clear ha31 a31
  refine wl_val ha32 rfl rfl rfl (op_slice_str_t (j := ((q10 : Int)).toNat) (by omega) ha32 rfl Try.underlying9 rfl rfl (by first | omega | (simp; omega))) ?_
  intro a33 ha33; clear ha32 a32
  refine wl_val ha33 rfl rfl rfl (op_assign ha33 rfl rfl) ?_
  intro a34 ha34; clear ha33 a33
  refine wpList_nil ?_
  refine then_n ?_
  refine wp_ret ?_
  refine block_r ?_
  refine then_r ?_
  refine ret1 ha34 rfl rfl ?_
  clear ha34 a34
  refine ret_mkS hx27 ⟨hS21, ?_⟩
  refine ⟨(t.take (((q10 : Int)).toNat) : Str), (by first | omega | (simp; omega)), ?_⟩
  exact (congrArg St (by rfl))
 ·
  rw [decide_eq_false c30] at ha29
  refine cond_f ha29 rfl ?_
  refine wp_seq ?_
  refine wp_region_lit ?_
  refine wl_val ha29 rfl rfl rfl (op_eql ha29 rfl rfl rfl) ?_
  intro a35 ha35; clear ha29 a29
  refine wl_val ha35 rfl rfl rfl (op_assign ha35 rfl rfl) ?_
  intro a36 ha36; clear ha35 a35
  refine wpList_nil ?_
  refine then_n ?_
  by_cases c37 : (q22 : Int) = (1 : Int)
  ·
   rw [decide_eq_true c37] at ha36
   refine cond_t ha36 rfl ?_
   refine wp_seq ?_
   refine dr_enter (fun wa_ wb_ => Stp wa_ wb_ (some g_s)) follows_mixed ?_
   intro w38 he39
   have hx40 := hx27.trans' (Stp.of_ext he39 _)
   have hzhx40 := he39.size
   replace hS21 := hS21.ext he39
   have hs41 : Ext w38 w38 := Ext.rfl' _
   refine dr_val (i := 0) ha36 rfl (by kernel_rfl) (by kernel_rfl) (by kernel_rfl) rfl rfl rfl (Stp.of_ext hs41 _) (fun w' hw' => op_move ha36 rfl rfl) ?_
   intro a42 ha42; clear ha36 a36
   refine dr_val (i := 1) ha42 rfl (by kernel_rfl) (by kernel_rfl) (by kernel_rfl) rfl rfl rfl (Stp.of_ext hs41 _) (fun w' hw' => op_move ha42 rfl rfl) ?_
   intro a43 ha43; clear ha42 a42
   refine dr_val (i := 2) ha43 rfl (by kernel_rfl) (by kernel_rfl) (by kernel_rfl) rfl rfl rfl (Stp.of_ext hs41 _) (fun w' hw' => op_slice_str_t (j := ((q10 : Int)).toNat) (by omega) ha43 rfl Try.underlying9 rfl rfl (by first | omega | (simp; omega))) ?_
   intro a44 ha44; clear ha43 a43
   refine dr_val (i := 4) ha44 rfl (by kernel_rfl) (by kernel_rfl) (by kernel_rfl) rfl rfl rfl (Stp.of_ext hs41 _) (fun w' hw' => op_move ha44 rfl rfl) ?_
   intro a45 ha45; clear ha44 a44
   refine dr_val (i := 9) ha45 rfl (by kernel_rfl) (by kernel_rfl) (by kernel_rfl) rfl rfl rfl (Stp.of_ext hs41 _) (fun w' hw' => op_move ha45 rfl rfl) ?_
   intro a46 ha46; clear ha45 a45
   refine dr_val (i := 10) ha46 rfl (by kernel_rfl) (by kernel_rfl) (by kernel_rfl) rfl rfl rfl (Stp.of_ext hs41 _) (fun w' hw' => op_move ha46 rfl rfl) ?_
   intro a47 ha47; clear ha46 a46
   refine dr_val (i := 11) ha47 rfl (by kernel_rfl) (by kernel_rfl) (by kernel_rfl) rfl rfl rfl (Stp.of_ext hs41 _) (fun w' hw' => op_slice_str_f (i := ((q10 : Int)).toNat) (by omega) ha47 rfl Try.underlying9 rfl rfl (by first | omega | (simp; omega))) ?_
   intro a48 ha48; clear ha47 a47
   refine dr_two (i := 3) (j := 5) (by kernel_rfl) ?_ ?_
   ·
    refine po_eff ha48 rfl rfl rfl rfl (op_buildSlice (s := shStr) (xs := [([48] : Str), ([35] : Str), ([46] : Str), ([47] : Str), ([32] : Str), ([97] : Str), ([45] : Str), ([10] : Str)]) (cs := [St (([48] : Str)), St (([35] : Str)), St (([46] : Str)), St (([47] : Str)), St (([32] : Str)), St (([97] : Str)), St (([45] : Str)), St (([10] : Str))]) (vs := [(0, St (([48] : Str))), (1, St (([35] : Str))), (2, St (([46] : Str))), (3, St (([47] : Str))), (4, St (([32] : Str))), (5, St (([97] : Str))), (6, St (([45] : Str))), (7, St (([10] : Str)))]) (S := fun _ => False) (le := w38.heap.size) ha48 rfl pos_shStr Try.underlying82 ti9 rfl rfl (by decide) (by kernel_rfl) ⟨mk_shStr (([48] : Str)) (by first | omega | (simp only []; omega) | (simp; done)), mk_shStr (([35] : Str)) (by first | omega | (simp only []; omega) | (simp; done)), mk_shStr (([46] : Str)) (by first | omega | (simp only []; omega) | (simp; done)), mk_shStr (([47] : Str)) (by first | omega | (simp only []; omega) | (simp; done)), mk_shStr (([32] : Str)) (by first | omega | (simp only []; omega) | (simp; done)), mk_shStr (([97] : Str)) (by first | omega | (simp only []; omega) | (simp; done)), mk_shStr (([45] : Str)) (by first | omega | (simp only []; omega) | (simp; done)), mk_shStr (([10] : Str)) (by first | omega | (simp only []; omega) | (simp; done)), rfl⟩ (fun _ h => h.elim)) ?_
    rintro v49 w50 ⟨ho51, he52, hob53⟩ a54 ha54; clear ha48 a48
    have hs55 := hs41.trans' he52
    have hx56 := hx40.trans' (Stp.of_ext he52 _)
    have hzhx56 := he52.size
    refine ⟨(Stp.of_ext hs55 _), ?_⟩
    refine dr_one (i := 5) (by kernel_rfl) ?_
    replace hS21 := hS21.ext hs55
    refine po_callS ha54 rfl rfl rfl rfl (op_call ha54 rfl cb62 rfl) (c_spec_l01Next _ g_s b_s (8 : Int) hS21) ?_
    rintro v57 w58 he59 ⟨hS60, ⟨q61, hq62, hq63, hq64, rfl⟩⟩ a65 ha65; clear ha54 a54
    have hx66 := hx56.trans' he59
    have hzhx66 := he59.size
    first | replace ho51 := ho51.stp he59 (by intro q hq; cases hq; omega) | replace ho51 := ho51.stpF flat_shStr he59 (by intro q hq; cases hq; exact ho51.ne_box (by assumption) rfl)
    clear hS21
    have hSlhS60 := hS60.lt
    have hs67 := (Stp.of_ext hs55 (some g_s)).trans' he59
    refine ⟨hs67, ?_⟩
    obtain ⟨x68, hx68⟩ := get_ex (xs := [([48] : Str), ([35] : Str), ([46] : Str), ([47] : Str), ([32] : Str), ([97] : Str), ([45] : Str), ([10] : Str)]) (j := ((q61 : Int)).toNat) (by first | omega | (simp only [List.length_cons, List.length_nil]; omega))
    obtain ⟨p69, c70, hi71, hc72, hr73, hs74⟩ := Rds.at_ (ho51.rds pos_shStr) hx68
    obtain ⟨rfl, b75⟩ := inv_shStr hr73
    obtain ⟨_, _⟩ : _ ∧ _ := hs74
    have hdlx68 := el_len 1 (by rfl) hx68
    refine dr_val (i := 6) ha65 rfl (by kernel_rfl) (by kernel_rfl) (by kernel_rfl) rfl rfl rfl hs67 (fun w' hw' => op_indexAddr ha65 rfl Try.underlying82 ti9 rfl rfl (by omega) hi71) ?_
    intro a76 ha76; clear ha65 a65
    refine dr_one (i := 7) (by kernel_rfl) ?_
    refine po_to ha76 rfl rfl rfl rfl (op_loadH ha76 rfl Try.underlying9 rfl rfl hc72 rfl) ?_
    intro a77 ha77; clear ha76 a76
    refine ⟨hs67, ?_⟩
    refine dr_val (i := 8) ha77 rfl (by kernel_rfl) (by kernel_rfl) (by kernel_rfl) rfl rfl rfl hs67 (fun w' hw' => op_sadd ha77 rfl rfl rfl (by first | omega | (simp; omega))) ?_
    intro a78 ha78; clear ha77 a77
    refine dr_val (i := 12) ha78 rfl (by kernel_rfl) (by kernel_rfl) (by kernel_rfl) rfl rfl rfl hs67 (fun w' hw' => op_sadd ha78 rfl rfl rfl (by first | omega | (simp; omega))) ?_
    intro a79 ha79; clear ha78 a78
    refine dr_val (i := 13) ha79 rfl (by kernel_rfl) (by kernel_rfl) (by kernel_rfl) rfl rfl rfl hs67 (fun w' hw' => op_assign ha79 rfl rfl) ?_
    intro a80 ha80; clear ha79 a79
    refine dr_end (by kernel_rfl) ?_
    refine then_n ?_
    refine wp_ret ?_
    refine block_r ?_
    refine then_r ?_
    refine ret1 ha80 rfl rfl ?_
    clear ha80 a80
    refine ret_mkS hx66 ⟨hS60, ?_⟩
    refine ⟨(((t.take (((q10 : Int)).toNat)) ++ x68) ++ (t.drop (((q10 : Int)).toNat)) : Str), (by first | omega | (simp; omega)), ?_⟩
    exact (congrArg St (by rfl))
   ·
    replace hS21 := hS21.ext hs41
    refine po_callS ha48 rfl rfl rfl rfl (op_call ha48 rfl cb62 rfl) (c_spec_l01Next _ g_s b_s (8 : Int) hS21) ?_
    rintro v81 w82 he83 ⟨hS84, ⟨q85, hq86, hq87, hq88, rfl⟩⟩ a89 ha89; clear ha48 a48
    have hx90 := hx40.trans' he83
    have hzhx90 := he83.size
    clear hS21
    have hSlhS84 := hS84.lt
    have hs91 := (Stp.of_ext hs41 (some g_s)).trans' he83
    refine ⟨hs91, ?_⟩
    refine dr_one (i := 3) (by kernel_rfl) ?_
    refine po_eff ha89 rfl rfl rfl rfl (op_buildSlice (s := shStr) (xs := [([48] : Str), ([35] : Str), ([46] : Str), ([47] : Str), ([32] : Str), ([97] : Str), ([45] : Str), ([10] : Str)]) (cs := [St (([48] : Str)), St (([35] : Str)), St (([46] : Str)), St (([47] : Str)), St (([32] : Str)), St (([97] : Str)), St (([45] : Str)), St (([10] : Str))]) (vs := [(0, St (([48] : Str))), (1, St (([35] : Str))), (2, St (([46] : Str))), (3, St (([47] : Str))), (4, St (([32] : Str))), (5, St (([97] : Str))), (6, St (([45] : Str))), (7, St (([10] : Str)))]) (S := fun _ => False) (le := w82.heap.size) ha89 rfl pos_shStr Try.underlying82 ti9 rfl rfl (by decide) (by kernel_rfl) ⟨mk_shStr (([48] : Str)) (by first | omega | (simp only []; omega) | (simp; done)), mk_shStr (([35] : Str)) (by first | omega | (simp only []; omega) | (simp; done)), mk_shStr (([46] : Str)) (by first | omega | (simp only []; omega) | (simp; done)), mk_shStr (([47] : Str)) (by first | omega | (simp only []; omega) | (simp; done)), mk_shStr (([32] : Str)) (by first | omega | (simp only []; omega) | (simp; done)), mk_shStr (([97] : Str)) (by first | omega | (simp only []; omega) | (simp; done)), mk_shStr (([45] : Str)) (by first | omega | (simp only []; omega) | (simp; done)), mk_shStr (([10] : Str)) (by first | omega | (simp only []; omega) | (simp; done)), rfl⟩ (fun _ h => h.elim)) ?_
    rintro v92 w93 ⟨ho94, he95, hob96⟩ a97 ha97; clear ha89 a89
    have hs98 := hs91.trans' (Stp.of_ext he95 _)
    have hx99 := hx90.trans' (Stp.of_ext he95 _)
    have hzhx99 := he95.size
    replace hS84 := hS84.ext he95
    refine ⟨hs98, ?_⟩
    obtain ⟨x100, hx100⟩ := get_ex (xs := [([48] : Str), ([35] : Str), ([46] : Str), ([47] : Str), ([32] : Str), ([97] : Str), ([45] : Str), ([10] : Str)]) (j := ((q85 : Int)).toNat) (by first | omega | (simp only [List.length_cons, List.length_nil]; omega))
    obtain ⟨p101, c102, hi103, hc104, hr105, hs106⟩ := Rds.at_ (ho94.rds pos_shStr) hx100
    obtain ⟨rfl, b107⟩ := inv_shStr hr105
    obtain ⟨_, _⟩ : _ ∧ _ := hs106
    have hdlx100 := el_len 1 (by rfl) hx100
    refine dr_val (i := 6) ha97 rfl (by kernel_rfl) (by kernel_rfl) (by kernel_rfl) rfl rfl rfl hs98 (fun w' hw' => op_indexAddr ha97 rfl Try.underlying82 ti9 rfl rfl (by omega) hi103) ?_
    intro a108 ha108; clear ha97 a97
    refine dr_one (i := 7) (by kernel_rfl) ?_
    refine po_to ha108 rfl rfl rfl rfl (op_loadH ha108 rfl Try.underlying9 rfl rfl hc104 rfl) ?_
    intro a109 ha109; clear ha108 a108
    refine ⟨hs98, ?_⟩
    refine dr_val (i := 8) ha109 rfl (by kernel_rfl) (by kernel_rfl) (by kernel_rfl) rfl rfl rfl hs98 (fun w' hw' => op_sadd ha109 rfl rfl rfl (by first | omega | (simp; omega))) ?_
    intro a110 ha110; clear ha109 a109
    refine dr_val (i := 12) ha110 rfl (by kernel_rfl) (by kernel_rfl) (by kernel_rfl) rfl rfl rfl hs98 (fun w' hw' => op_sadd ha110 rfl rfl rfl (by first | omega | (simp; omega))) ?_
    intro a111 ha111; clear ha110 a110
    refine dr_val (i := 13) ha111 rfl (by kernel_rfl) (by kernel_rfl) (by kernel_rfl) rfl rfl rfl hs98 (fun w' hw' => op_assign ha111 rfl rfl) ?_
    intro a112 ha112; clear ha111 a111
    refine dr_end (by kernel_rfl) ?_
    refine then_n ?_
    refine wp_ret ?_
    refine block_r ?_
    refine then_r ?_
    refine ret1 ha112 rfl rfl ?_
    clear ha112 a112
    refine ret_mkS hx99 ⟨hS84, ?_⟩
    refine ⟨(((t.take (((q10 : Int)).toNat)) ++ x100) ++ (t.drop (((q10 : Int)).toNat)) : Str), (by first | omega | (simp; omega)), ?_⟩
    exact (congrArg St (by rfl))
  ·
   rw [decide_eq_false c37] at ha36
   refine cond_f ha36 rfl ?_
   refine wp_seq ?_
   refine wp_region_lit ?_
   refine wl_val ha36 rfl rfl rfl (op_eql ha36 rfl rfl rfl) ?_
   intro a113 ha113; clear ha36 a36
   refine wl_val ha113 rfl rfl rfl (op_assign ha113 rfl rfl) ?_
   intro a114 ha114; clear ha113 a113
   refine wpList_nil ?_
   refine then_n ?_
   by_cases c115 : (q22 : Int) = (2 : Int)
   ·
    rw [decide_eq_true c115] at ha114
    refine cond_t ha114 rfl ?_
    refine wp_seq ?_
    refine wp_region_lit ?_
    refine wl_val ha114 rfl rfl rfl (op_move ha114 rfl rfl) ?_
    intro a116 ha116; clear ha114 a114
    refine wl_val ha116 rfl rfl rfl (op_move ha116 rfl rfl) ?_
    intro a117 ha117; clear ha116 a116
    refine wl_val ha117 rfl rfl rfl (op_len_str ha117 rfl Try.underlying9 rfl) ?_
    intro a118 ha118; clear ha117 a117
    refine wl_val ha118 rfl rfl rfl (op_lss ha118 rfl rfl rfl) ?_
    intro a119 ha119; clear ha118 a118
    refine wpList_nil ?_
    refine then_n ?_
    by_cases c120 : (q10 : Int) < ((t.length : Nat) : Int)
    ·
     rw [decide_eq_true c120] at ha119
     refine cond_t ha119 rfl ?_
     refine wp_seq ?_
     refine dr_enter Ext follows_mixed ?_
     intro w121 he122
     have hx123 := hx27.trans' (Stp.of_ext he122 _)
     have hzhx123 := he122.size
     replace hS21 := hS21.ext he122
     have hs124 : Ext w121 w121 := Ext.rfl' _
     refine dr_val (i := 0) ha119 rfl (by kernel_rfl) (by kernel_rfl) (by kernel_rfl) rfl rfl rfl hs124 (fun w' hw' => op_move ha119 rfl rfl) ?_
     intro a125 ha125; clear ha119 a119
     refine dr_val (i := 1) ha125 rfl (by kernel_rfl) (by kernel_rfl) (by kernel_rfl) rfl rfl rfl hs124 (fun w' hw' => op_move ha125 rfl rfl) ?_
     intro a126 ha126; clear ha125 a125
     refine dr_val (i := 2) ha126 rfl (by kernel_rfl) (by kernel_rfl) (by kernel_rfl) rfl rfl rfl hs124 (fun w' hw' => op_slice_str_t (j := ((q10 : Int)).toNat) (by omega) ha126 rfl Try.underlying9 rfl rfl (by first | omega | (simp; omega))) ?_
     intro a127 ha127; clear ha126 a126
     refine dr_val (i := 3) ha127 rfl (by kernel_rfl) (by kernel_rfl) (by kernel_rfl) rfl rfl rfl hs124 (fun w' hw' => op_move ha127 rfl rfl) ?_
     intro a128 ha128; clear ha127 a127
     refine dr_val (i := 4) ha128 rfl (by kernel_rfl) (by kernel_rfl) (by kernel_rfl) rfl rfl rfl hs124 (fun w' hw' => op_move ha128 rfl rfl) ?_
     intro a129 ha129; clear ha128 a128
     refine dr_val (i := 5) ha129 rfl (by kernel_rfl) (by kernel_rfl) (by kernel_rfl) rfl rfl rfl hs124 (fun w' hw' => (op_add ha129 rfl rfl rfl).int (IntWalk.i64_in _ (by omega))) ?_
     intro a130 ha130; clear ha129 a129
     refine dr_val (i := 6) ha130 rfl (by kernel_rfl) (by kernel_rfl) (by kernel_rfl) rfl rfl rfl hs124 (fun w' hw' => op_slice_str_f (i := (((q10 : Int)).toNat + 1)) (by omega) ha130 rfl Try.underlying9 rfl rfl (by first | omega | (simp; omega))) ?_
     intro a131 ha131; clear ha130 a130
     refine dr_val (i := 7) ha131 rfl (by kernel_rfl) (by kernel_rfl) (by kernel_rfl) rfl rfl rfl hs124 (fun w' hw' => op_sadd ha131 rfl rfl rfl (by first | omega | (simp; omega))) ?_
     intro a132 ha132; clear ha131 a131
     refine dr_val (i := 8) ha132 rfl (by kernel_rfl) (by kernel_rfl) (by kernel_rfl) rfl rfl rfl hs124 (fun w' hw' => op_assign ha132 rfl rfl) ?_
     intro a133 ha133; clear ha132 a132
     refine dr_end (by kernel_rfl) ?_
     replace hS21 := hS21.ext hs124
     refine then_n ?_
     refine wp_ret ?_
     refine block_r ?_
     refine then_r ?_
     refine ret1 ha133 rfl rfl ?_
     clear ha133 a133
     refine ret_mkS hx123 ⟨hS21, ?_⟩
     refine ⟨((t.take (((q10 : Int)).toNat)) ++ (t.drop ((((q10 : Int)).toNat + 1))) : Str), (by first | omega | (simp; omega)), ?_⟩
     exact (congrArg St (by rfl))
    ·
     rw [decide_eq_false c120] at ha119
     refine cond_f ha119 rfl ?_
     refine wp_skip ?_
     refine block_n ?_
     refine then_n ?_
     refine wp_seq ?_
     refine wp_region_lit ?_
     refine wl_val ha119 rfl rfl rfl (op_move ha119 rfl rfl) ?_
     intro a134 ha134; clear ha119 a119
     refine wl_val ha134 rfl rfl rfl (op_assign ha134 rfl rfl) ?_
     intro a135 ha135; clear ha134 a134
     refine wpList_nil ?_
     refine then_n ?_
     refine wp_ret ?_
     refine ret1 ha135 rfl rfl ?_
     clear ha135 a135
     refine ret_mkS hx27 ⟨hS21, ?_⟩
     refine ⟨(t : Str), (by first | omega | (simp; omega)), ?_⟩
     exact (congrArg St (by rfl))
   ·
    rw [decide_eq_false c115] at ha114
    refine cond_f ha114 rfl ?_
    refine wp_skip ?_
    refine block_n ?_
    refine then_n ?_
    refine wp_seq ?_
    refine wp_region_lit ?_
    refine wl_val ha114 rfl rfl rfl (op_move ha114 rfl rfl) ?_
    intro a136 ha136; clear ha114 a114
    refine wl_val ha136 rfl rfl rfl (op_assign ha136 rfl rfl) ?_
    intro a137 ha137; clear ha136 a136
    refine wpList_nil ?_
    refine then_n ?_
    refine wp_ret ?_
    refine ret1 ha137 rfl rfl ?_
    clear ha137 a137
    refine ret_mkS hx27 ⟨hS21, ?_⟩
    refine ⟨(t : Str), (by first | omega | (simp; omega)), ?_⟩
    exact (congrArg St (by rfl))


end Go.Proofs.Ytkdnclpgijkceaa
