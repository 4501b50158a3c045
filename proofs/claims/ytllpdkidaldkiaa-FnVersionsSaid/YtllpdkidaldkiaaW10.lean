/- Versions added. -/
import Derived.Test.YtllpdkidaldkiaaW8
namespace Go.Proofs.Ytllpdkidaldkiaa
open Go Go.RowKit

set_option maxHeartbeats 4000000 in
theorem c_spec_AddVersion (w0 : World) (v_list : Value) (list : List (Int × List (Str × Int))) {S_list : Nat → Prop} (parent : Int) (v_lines : Value) (lines : List (Str × Int)) {S_lines : Nat → Prop} (h_list : Rds shVer S_list w0 v_list list) (h_lines : Rds shLine S_lines w0 v_lines lines) (g0 : I64 parent) :
  Calls Try.prog 35 #[v_list, .int .i64 parent, v_lines] w0 (Ret w0 (fun v w1 => ∃ r0 z0, v = .tuple #[r0, .int .i64 (avC list parent lines)] ∧ Own shVerN 56 w0.heap.size w0.heap.size w1.heap.size w1 r0 z0 ∧ Nst shLine 83 (fun x : Int × List (Str × Int) => x.2) w0.heap.size w1.heap.size w1 z0 ∧ z0.map (·.1) = (avL list parent lines))) := by
 refine enter (N := 30) Try.func35 rfl rfl rfl ?_
 intro a0 ha0
 have hx0 := Ext.rfl' w0
 have hl_list := h_list.length_le
 have hl_lines := h_lines.length_le
 refine wp_seq ?_
 refine wp_region_lit ?_
 refine wl_val ha0 rfl rfl rfl (op_assign ha0 rfl rfl) ?_
 intro a1 ha1; clear ha0 a0
 refine wl_val ha1 rfl rfl rfl (op_assign ha1 rfl rfl) ?_
 intro a2 ha2; clear ha1 a1
 refine wpList_nil ?_
 refine then_n ?_
 refine wp_seq ?_
 refine wp_seq ?_
 refine wp_region_lit ?_
 refine wl_val ha2 rfl rfl rfl (op_move ha2 rfl rfl) ?_
 intro a3 ha3; clear ha2 a2
 refine wl_callR ha3 rfl rfl rfl (op_call ha3 rfl cb60 rfl) (c_spec_l29Sheet _ v_lines lines (h_lines.ext pos_shLine hx0)) ?_
 rintro v4 w5 he6 rfl a7 ha7; clear ha3 a3
 have hx8 := hx0.trans' he6
 have hzhx8 := he6.size
 refine wl_val ha7 rfl rfl rfl (op_not ha7 rfl rfl) ?_
 intro a9 ha9; clear ha7 a7
 refine wpList_nil ?_
 refine then_n ?_
 rcases Bool.eq_false_or_eq_true (shB lines) with c10 | c10
 ·
  rw [c10] at ha9
  have hsl := shB_len c10
  refine cond_f ha9 rfl ?_
  refine wp_skip ?_
  refine then_n ?_
  refine wp_seq ?_
  refine wp_region_lit ?_
  refine wl_val ha9 rfl rfl rfl (op_move ha9 rfl rfl) ?_
  intro a11 ha11; clear ha9 a9
  refine wl_val ha11 rfl rfl rfl (op_move ha11 rfl rfl) ?_
  intro a12 ha12; clear ha11 a11
  refine wl_val ha12 rfl rfl rfl (op_move ha12 rfl rfl) ?_
  intro a13 ha13; clear ha12 a12
  refine wl_callR ha13 rfl rfl rfl (op_call ha13 rfl cb50 rfl) (c_spec_l29Code _ v_list list parent parent (h_list.ext pos_shVer hx8)) ?_
  rintro v14 w15 he16 rfl a17 ha17; clear ha13 a13
  have hx18 := hx8.trans' he16
  have hzhx18 := he16.size
  refine wl_val ha17 rfl rfl rfl (op_assign ha17 rfl rfl) ?_
  intro a19 ha19; clear ha17 a17
  refine wpList_nil ?_
  refine then_n ?_
  refine wp_seq ?_
  refine wp_seq ?_
  refine wp_region_lit ?_
  refine wl_val ha19 rfl rfl rfl (op_move ha19 rfl rfl) ?_
  intro a20 ha20; clear ha19 a19
  refine wl_val ha20 rfl rfl rfl (op_eql ha20 rfl rfl rfl) ?_
  intro a21 ha21; clear ha20 a20
  refine wl_val ha21 rfl rfl rfl (op_move ha21 rfl rfl) ?_
  intro a22 ha22; clear ha21 a21
  by_cases c23 : (cdV list parent parent : Int) = (0 : Int)
  ·
   rw [decide_eq_true c23] at ha22
   obtain ⟨hv1, hv2, hv3⟩ := cdV_ok c23
   have hlen := veB_len hv1
   have hia := in_bd hv2
   have hib := in_bd hv3
   refine wl_val ha22 rfl rfl rfl (op_move ha22 rfl rfl) ?_
   intro a24 ha24; clear ha22 a22
   refine wl_val ha24 rfl rfl rfl (op_len_sl ha24 rfl Try.underlying27 rfl h_list) ?_
   intro a25 ha25; clear ha24 a24
   refine wl_val ha25 rfl rfl rfl (op_eql ha25 rfl rfl rfl) ?_
   intro a26 ha26; clear ha25 a25
   refine wl_val ha26 rfl rfl rfl (op_pick_t ha26 rfl rfl rfl) ?_
   intro a27 ha27; clear ha26 a26
   refine wpList_nil ?_
   refine then_n ?_
   by_cases c28 : ((list.length : Nat) : Int) = (20 : Int)
   ·
    rw [decide_eq_true c28] at ha27
    refine cond_t ha27 rfl ?_
    refine wp_region_lit ?_
    refine wl_val ha27 rfl rfl rfl (op_assign ha27 rfl rfl) ?_
    intro a29 ha29; clear ha27 a27
    refine wpList_nil ?_
    refine then_n ?_
    refine wp_seq ?_
    refine wp_seq ?_
    refine wp_region_lit ?_
    refine wl_val ha29 rfl rfl rfl (op_move ha29 rfl rfl) ?_
    intro a30 ha30; clear ha29 a29
    refine wl_val ha30 rfl rfl rfl ((op_neq ha30 rfl rfl rfl).to (congrArg Value.bool decide_not)) ?_
    intro a31 ha31; clear ha30 a30
    refine wpList_nil ?_
    refine then_n ?_
    by_cases c32 : (3 : Int) = (0 : Int)
    ·
     rw [decide_eq_true c32] at ha31
     refine cond_f ha31 rfl ?_
     refine wp_skip ?_
     refine then_n ?_
     refine wp_seq ?_
     refine wp_region_lit ?_
     refine wl_val ha31 rfl rfl rfl (op_move ha31 rfl rfl) ?_
     intro a33 ha33; clear ha31 a31
     refine wl_val ha33 rfl rfl rfl (op_move ha33 rfl rfl) ?_
     intro a34 ha34; clear ha33 a33
     refine wl_val ha34 rfl rfl rfl (op_move ha34 rfl rfl) ?_
     intro a35 ha35; clear ha34 a34
     refine wl_callR ha35 rfl rfl rfl (op_call ha35 rfl cb73 rfl) (c_spec_l29With _ v_list list parent v_lines lines (h_list.ext pos_shVer hx18) (h_lines.ext pos_shLine hx18) (by first | assumption | omega | (simp; omega)) (by intro c hc; obtain ⟨j9, hj9⟩ := List.getElem?_of_mem hc; exact Nat.le_trans (shB_len (veB_at hv1 hj9).1) (by decide)) (by first | assumption | omega | (simp; omega)) (by first | assumption | omega | (simp; omega))) ?_
     rintro v36 w37 he38 ⟨z40, ho39, hN41, hE42⟩ a43 ha43; clear ha35 a35
     have hx44 := hx18.trans' he38
     have hzhx44 := he38.size
     have hlhE42 := absLen hE42
     refine wl_val ha43 rfl rfl rfl (op_assign ha43 rfl rfl) ?_
     intro a45 ha45; clear ha43 a43
     refine wl_val ha45 rfl rfl rfl (op_assign ha45 rfl rfl) ?_
     intro a46 ha46; clear ha45 a45
     refine wpList_nil ?_
     refine then_n ?_
     refine wp_ret ?_
     refine ret2 ha46 rfl rfl rfl ?_
     clear ha46 a46
     have hr : avC list parent lines = (0 : Int) := (by unfold avC; first | (simp [c10, c23, c28, c32]; done) | (simp [cdV, c10, c23, c28, c32]; done) | (simp_all [cdV]; done) | (simp_all [cdV]; omega))
     refine ret_mk hx44 ⟨v36, z40, (tup2_eq rfl (int_eq (by first | exact hr.symm | omega))), ho39.fin (by omega) (by omega) (by omega), hN41.fin (by omega) (by omega), ?_⟩
     ·
      unfold avL; first | (rw [if_neg (show ¬ avC list parent lines = 0 by rw [hr]; first | decide | assumption)]; done) | (rw [if_neg (show ¬ avC list parent lines = 0 by rw [hr]; first | decide | assumption)]; rfl) | (rw [if_pos hr]; done) | (rw [if_pos hr]; assumption) | (rw [if_pos hr, List.map_append]; simp_all; done)
    ·
     rw [decide_eq_false c32] at ha31
     refine cond_t ha31 rfl ?_
     refine wp_seq ?_
     refine wp_region_lit ?_
     refine wl_val ha31 rfl rfl rfl (op_move ha31 rfl rfl) ?_
     intro a47 ha47; clear ha31 a31
     refine wl_val ha47 rfl rfl rfl (op_assign ha47 rfl rfl) ?_
     intro a48 ha48; clear ha47 a47
     refine wl_val ha48 rfl rfl rfl (op_assign ha48 rfl rfl) ?_
     intro a49 ha49; clear ha48 a48
     refine wpList_nil ?_
     refine then_n ?_
     refine wp_ret ?_
     refine then_r ?_
     refine ret2 ha49 rfl rfl rfl ?_
     clear ha49 a49
     have hr : avC list parent lines = (3 : Int) := (by unfold avC; first | (simp [c10, c23, c28, c32]; done) | (simp [cdV, c10, c23, c28, c32]; done) | (simp_all [cdV]; done) | (simp_all [cdV]; omega))
     refine ret_mk hx18 ⟨(.slice none 0 0), [], (tup2_eq rfl (int_eq (by first | exact hr.symm | omega))), Own.nil _ _ _ _ _ _, Nst.nil _ _ _ _ _ _, ?_⟩
     ·
      unfold avL; first | (rw [if_neg (show ¬ avC list parent lines = 0 by rw [hr]; first | decide | assumption)]; done) | (rw [if_neg (show ¬ avC list parent lines = 0 by rw [hr]; first | decide | assumption)]; rfl) | (rw [if_pos hr]; done) | (rw [if_pos hr]; assumption) | (rw [if_pos hr, List.map_append]; simp_all; done)
   ·
    rw [decide_eq_false c28] at ha27
    refine cond_f ha27 rfl ?_
    refine wp_skip ?_
    refine then_n ?_
    refine wp_seq ?_
    refine wp_seq ?_
    refine wp_region_lit ?_
    refine wl_val ha27 rfl rfl rfl (op_move ha27 rfl rfl) ?_
    intro a50 ha50; clear ha27 a27
    refine wl_val ha50 rfl rfl rfl ((op_neq ha50 rfl rfl rfl).to (congrArg Value.bool decide_not)) ?_
    intro a51 ha51; clear ha50 a50
    refine wpList_nil ?_
    refine then_n ?_
    rw [decide_eq_true c23] at ha51
    refine cond_f ha51 rfl ?_
    refine wp_skip ?_
    refine then_n ?_
    refine wp_seq ?_
    refine wp_region_lit ?_
    refine wl_val ha51 rfl rfl rfl (op_move ha51 rfl rfl) ?_
    intro a52 ha52; clear ha51 a51
    refine wl_val ha52 rfl rfl rfl (op_move ha52 rfl rfl) ?_
    intro a53 ha53; clear ha52 a52
    refine wl_val ha53 rfl rfl rfl (op_move ha53 rfl rfl) ?_
    intro a54 ha54; clear ha53 a53
    refine wl_callR ha54 rfl rfl rfl (op_call ha54 rfl cb73 rfl) (c_spec_l29With _ v_list list parent v_lines lines (h_list.ext pos_shVer hx18) (h_lines.ext pos_shLine hx18) (by first | assumption | omega | (simp; omega)) (by intro c hc; obtain ⟨j9, hj9⟩ := List.getElem?_of_mem hc; exact Nat.le_trans (shB_len (veB_at hv1 hj9).1) (by decide)) (by first | assumption | omega | (simp; omega)) (by first | assumption | omega | (simp; omega))) ?_
    rintro v55 w56 he57 ⟨z59, ho58, hN60, hE61⟩ a62 ha62; clear ha54 a54
    have hx63 := hx18.trans' he57
    have hzhx63 := he57.size
    have hlhE61 := absLen hE61
    refine wl_val ha62 rfl rfl rfl (op_assign ha62 rfl rfl) ?_
    intro a64 ha64; clear ha62 a62
    refine wl_val ha64 rfl rfl rfl (op_assign ha64 rfl rfl) ?_
    intro a65 ha65; clear ha64 a64
    refine wpList_nil ?_
    refine then_n ?_
    refine wp_ret ?_
    refine ret2 ha65 rfl rfl rfl ?_
    clear ha65 a65
    have hr : avC list parent lines = (0 : Int) := (by unfold avC; first | (simp [c10, c23, c28]; done) | (simp [cdV, c10, c23, c28]; done) | (simp_all [cdV]; done) | (simp_all [cdV]; omega))
    refine ret_mk hx63 ⟨v55, z59, (tup2_eq rfl (int_eq (by first | exact hr.symm | omega))), ho58.fin (by omega) (by omega) (by omega), hN60.fin (by omega) (by omega), ?_⟩
    ·
     unfold avL; first | (rw [if_neg (show ¬ avC list parent lines = 0 by rw [hr]; first | decide | assumption)]; done) | (rw [if_neg (show ¬ avC list parent lines = 0 by rw [hr]; first | decide | assumption)]; rfl) | (rw [if_pos hr]; done) | (rw [if_pos hr]; assumption) | (rw [if_pos hr, List.map_append]; simp_all; done)
  ·
   rw [decide_eq_false c23] at ha22
   refine wl_skip ha22 rfl rfl rfl ?_
   intro a66 ha66; clear ha22 a22
   refine wl_skip ha66 rfl rfl rfl ?_
   intro a67 ha67; clear ha66 a66
   refine wl_skip ha67 rfl rfl rfl ?_
   intro a68 ha68; clear ha67 a67
   refine wl_val ha68 rfl rfl rfl (op_pick_f ha68 rfl rfl rfl) ?_
   intro a69 ha69; clear ha68 a68
   refine wpList_nil ?_
   refine then_n ?_
   refine cond_f ha69 rfl ?_
   refine wp_skip ?_
   refine then_n ?_
   refine wp_seq ?_
   refine wp_seq ?_
   refine wp_region_lit ?_
   refine wl_val ha69 rfl rfl rfl (op_move ha69 rfl rfl) ?_
   intro a70 ha70; clear ha69 a69
   refine wl_val ha70 rfl rfl rfl ((op_neq ha70 rfl rfl rfl).to (congrArg Value.bool decide_not)) ?_
   intro a71 ha71; clear ha70 a70
   refine wpList_nil ?_
   refine then_n ?_
   rw [decide_eq_false c23] at ha71
   refine cond_t ha71 rfl ?_
   refine wp_seq ?_
   refine wp_region_lit ?_
   refine wl_val ha71 rfl rfl rfl (op_move ha71 rfl rfl) ?_
   intro a72 ha72; clear ha71 a71
   refine wl_val ha72 rfl rfl rfl (op_assign ha72 rfl rfl) ?_
   intro a73 ha73; clear ha72 a72
   refine wl_val ha73 rfl rfl rfl (op_assign ha73 rfl rfl) ?_
   intro a74 ha74; clear ha73 a73
   refine wpList_nil ?_
   refine then_n ?_
   refine wp_ret ?_
   refine then_r ?_
   refine ret2 ha74 rfl rfl rfl ?_
   clear ha74 a74
   have hr : avC list parent lines = (cdV list parent parent : Int) := (by unfold avC; first | (simp [c10, c23]; done) | (simp [cdV, c10, c23]; done) | (simp_all [cdV]; done) | (simp_all [cdV]; omega))
   refine ret_mk hx18 ⟨(.slice none 0 0), [], (tup2_eq rfl (int_eq (by first | exact hr.symm | omega))), Own.nil _ _ _ _ _ _, Nst.nil _ _ _ _ _ _, ?_⟩
   ·
    unfold avL; first | (rw [if_neg (show ¬ avC list parent lines = 0 by rw [hr]; first | decide | assumption)]; done) | (rw [if_neg (show ¬ avC list parent lines = 0 by rw [hr]; first | decide | assumption)]; rfl) | (rw [if_pos hr]; done) | (rw [if_pos hr]; assumption) | (rw [if_pos hr, List.map_append]; simp_all; done)
 ·
  rw [c10] at ha9
  refine cond_t ha9 rfl ?_
  refine wp_seq ?_
  refine wp_region_lit ?_
  refine wl_val ha9 rfl rfl rfl (op_assign ha9 rfl rfl) ?_
  intro a75 ha75; clear ha9 a9
  refine wl_val ha75 rfl rfl rfl (op_assign ha75 rfl rfl) ?_
  intro a76 ha76; clear ha75 a75
  refine wpList_nil ?_
  refine then_n ?_
  refine wp_ret ?_
  refine then_r ?_
  refine ret2 ha76 rfl rfl rfl ?_
  clear ha76 a76
  have hr : avC list parent lines = (1 : Int) := (by unfold avC; first | (simp [c10]; done) | (simp [cdV, c10]; done) | (simp_all [cdV]; done) | (simp_all [cdV]; omega))
  refine ret_mk hx8 ⟨(.slice none 0 0), [], (tup2_eq rfl (int_eq (by first | exact hr.symm | omega))), Own.nil _ _ _ _ _ _, Nst.nil _ _ _ _ _ _, ?_⟩
  ·
   unfold avL; first | (rw [if_neg (show ¬ avC list parent lines = 0 by rw [hr]; first | decide | assumption)]; done) | (rw [if_neg (show ¬ avC list parent lines = 0 by rw [hr]; first | decide | assumption)]; rfl) | (rw [if_pos hr]; done) | (rw [if_pos hr]; assumption) | (rw [if_pos hr, List.map_append]; simp_all; done)

set_option maxHeartbeats 4000000 in
theorem c_impl_AddVersion (w0 : World) (v_list : Value) (list : List (Int × List (Str × Int))) {S_list : Nat → Prop} (parent : Int) (v_lines : Value) (lines : List (Str × Int)) {S_lines : Nat → Prop} (h_list : Rds shVer S_list w0 v_list list) (h_lines : Rds shLine S_lines w0 v_lines lines) (g0 : I64 parent) :
  Calls Try.prog 34 #[v_list, .int .i64 parent, v_lines] w0 (Ret w0 (fun v w1 => ∃ r0 z0, v = .tuple #[r0, .int .i64 (avC list parent lines)] ∧ Own shVerN 56 w0.heap.size w0.heap.size w1.heap.size w1 r0 z0 ∧ Nst shLine 83 (fun x : Int × List (Str × Int) => x.2) w0.heap.size w1.heap.size w1 z0 ∧ z0.map (·.1) = (avL list parent lines))) := by
 refine enter (N := 32) Try.func34 rfl rfl rfl ?_
 intro a0 ha0
 have hx0 := Ext.rfl' w0
 have hl_list := h_list.length_le
 have hl_lines := h_lines.length_le
 refine wp_seq ?_
 refine wp_region_lit ?_
 refine wl_val ha0 rfl rfl rfl (op_assign ha0 rfl rfl) ?_
 intro a1 ha1; clear ha0 a0
 refine wl_val ha1 rfl rfl rfl (op_assign ha1 rfl rfl) ?_
 intro a2 ha2; clear ha1 a1
 refine wpList_nil ?_
 refine then_n ?_
 refine wp_seq ?_
 refine wp_seq ?_
 refine wp_region_lit ?_
 refine wl_val ha2 rfl rfl rfl (op_move ha2 rfl rfl) ?_
 intro a3 ha3; clear ha2 a2
 refine wl_callR ha3 rfl rfl rfl (op_call ha3 rfl cb38 rfl) (c_impl_AreVersions _ v_list list (h_list.ext pos_shVer hx0)) ?_
 rintro v4 w5 he6 rfl a7 ha7; clear ha3 a3
 have hx8 := hx0.trans' he6
 have hzhx8 := he6.size
 refine wl_val ha7 rfl rfl rfl (op_not ha7 rfl rfl) ?_
 intro a9 ha9; clear ha7 a7
 refine wl_val ha9 rfl rfl rfl (op_move ha9 rfl rfl) ?_
 intro a10 ha10; clear ha9 a9
 rcases Bool.eq_false_or_eq_true (veB list) with c11 | c11
 ·
  rw [c11] at ha10
  have hv1 := c11
  have hlen := veB_len hv1
  refine wl_val ha10 rfl rfl rfl (op_move ha10 rfl rfl) ?_
  intro a12 ha12; clear ha10 a10
  refine wl_callR ha12 rfl rfl rfl (op_call ha12 rfl cb78 rfl) (c_impl_isSheet _ v_lines lines (h_lines.ext pos_shLine hx8)) ?_
  rintro v13 w14 he15 rfl a16 ha16; clear ha12 a12
  have hx17 := hx8.trans' he15
  have hzhx17 := he15.size
  refine wl_val ha16 rfl rfl rfl (op_not ha16 rfl rfl) ?_
  intro a18 ha18; clear ha16 a16
  refine wl_val ha18 rfl rfl rfl (op_pick_f ha18 rfl rfl rfl) ?_
  intro a19 ha19; clear ha18 a18
  refine wpList_nil ?_
  refine then_n ?_
  rcases Bool.eq_false_or_eq_true (shB lines) with c20 | c20
  ·
   rw [c20] at ha19
   have hsl := shB_len c20
   refine cond_f ha19 rfl ?_
   refine wp_skip ?_
   refine then_n ?_
   refine wp_seq ?_
   refine wp_seq ?_
   refine wp_region_lit ?_
   refine wl_val ha19 rfl rfl rfl (op_move ha19 rfl rfl) ?_
   intro a21 ha21; clear ha19 a19
   refine wl_val ha21 rfl rfl rfl (op_move ha21 rfl rfl) ?_
   intro a22 ha22; clear ha21 a21
   refine wl_callR ha22 rfl rfl rfl (op_call ha22 rfl cb67 rfl) (c_impl_isVersion _ v_list list parent (h_list.ext pos_shVer hx17)) ?_
   rintro v23 w24 he25 rfl a26 ha26; clear ha22 a22
   have hx27 := hx17.trans' he25
   have hzhx27 := he25.size
   refine wl_val ha26 rfl rfl rfl (op_not ha26 rfl rfl) ?_
   intro a28 ha28; clear ha26 a26
   refine wpList_nil ?_
   refine then_n ?_
   rcases Bool.eq_false_or_eq_true (inV list parent) with c29 | c29
   ·
    rw [c29] at ha28
    have hia := in_bd c29
    refine cond_f ha28 rfl ?_
    refine wp_skip ?_
    refine then_n ?_
    refine wp_seq ?_
    refine wp_seq ?_
    refine wp_region_lit ?_
    refine wl_val ha28 rfl rfl rfl (op_move ha28 rfl rfl) ?_
    intro a30 ha30; clear ha28 a28
    refine wl_val ha30 rfl rfl rfl (op_len_sl ha30 rfl Try.underlying27 rfl h_list) ?_
    intro a31 ha31; clear ha30 a30
    refine wl_val ha31 rfl rfl rfl (op_eql ha31 rfl rfl rfl) ?_
    intro a32 ha32; clear ha31 a31
    refine wpList_nil ?_
    refine then_n ?_
    by_cases c33 : ((list.length : Nat) : Int) = (20 : Int)
    ·
     rw [decide_eq_true c33] at ha32
     refine cond_t ha32 rfl ?_
     refine wp_seq ?_
     refine wp_region_lit ?_
     refine wl_val ha32 rfl rfl rfl (op_assign ha32 rfl rfl) ?_
     intro a34 ha34; clear ha32 a32
     refine wl_val ha34 rfl rfl rfl (op_assign ha34 rfl rfl) ?_
     intro a35 ha35; clear ha34 a34
     refine wpList_nil ?_
     refine then_n ?_
     refine wp_ret ?_
     refine then_r ?_
     refine ret2 ha35 rfl rfl rfl ?_
     clear ha35 a35
     have hr : avC list parent lines = (3 : Int) := (by unfold avC; first | (simp [c11, c20, c29, c33]; done) | (simp [cdV, c11, c20, c29, c33]; done) | (simp_all [cdV]; done) | (simp_all [cdV]; omega))
     refine ret_mk hx27 ⟨(.slice none 0 0), [], (tup2_eq rfl (int_eq (by first | exact hr.symm | omega))), Own.nil _ _ _ _ _ _, Nst.nil _ _ _ _ _ _, ?_⟩
     ·
      unfold avL; first | (rw [if_neg (show ¬ avC list parent lines = 0 by rw [hr]; first | decide | assumption)]; done) | (rw [if_neg (show ¬ avC list parent lines = 0 by rw [hr]; first | decide | assumption)]; rfl) | (rw [if_pos hr]; done) | (rw [if_pos hr]; assumption) | (rw [if_pos hr, List.map_append]; simp_all; done)
    ·
     rw [decide_eq_false c33] at ha32
     refine cond_f ha32 rfl ?_
     refine wp_skip ?_
     refine then_n ?_
     refine wp_seq ?_
     refine wp_region_lit ?_
     refine wl_val ha32 rfl rfl rfl (op_move ha32 rfl rfl) ?_
     intro a36 ha36; clear ha32 a32
     refine wl_callR ha36 rfl rfl rfl (op_call ha36 rfl cb69 rfl) (c_impl_copyVersions _ v_list list (h_list.ext pos_shVer hx27) (by first | assumption | omega | (simp; omega)) (by intro c hc; obtain ⟨j9, hj9⟩ := List.getElem?_of_mem hc; exact Nat.le_trans (shB_len (veB_at hv1 hj9).1) (by decide))) ?_
     rintro v37 w38 he39 ⟨z41, ho40, hN42, hE43⟩ a44 ha44; clear ha36 a36
     have hx45 := hx27.trans' he39
     have hzhx45 := he39.size
     have hlhE43 := absLen hE43
     refine wl_val ha44 rfl rfl rfl (op_move ha44 rfl rfl) ?_
     intro a46 ha46; clear ha44 a44
     refine wl_eff ha46 rfl rfl rfl (op_buildSlice (s := shLine) (xs := ([] : List (Str × Int))) (cs := []) (vs := []) (S := fun _ => False) (le := w38.heap.size) ha46 rfl pos_shLine Try.underlying34 ti83 rfl rfl (by decide) (by kernel_rfl) rfl (fun _ h => h.elim)) ?_
     rintro v47 w48 ⟨ho49, he50, hob51⟩ a52 ha52; clear ha46 a46
     have hx53 := hx45.trans' he50
     have hzhx53 := he50.size
     replace ho40 := ho40.ext he50
     replace hN42 := hN42.ext he50
     refine wl_val ha52 rfl rfl rfl (op_move ha52 rfl rfl) ?_
     intro a54 ha54; clear ha52 a52
     refine wl_eff ha54 rfl rfl rfl (op_append (ts := #[]) (s := shLine) ha54 rfl Try.underlying34 ti83 rfl pos_shLine rfl rfl ho49 (h_lines.ext pos_shLine hx53) (by omega) (by omega) (by first | omega | (simp; omega)) (by first | omega | (simp; omega)) (.inl flat_shLine)) ?_
     rintro v55 w56 ⟨ho57, hst58, hob59⟩ a60 ha60; clear ha54 a54
     replace ho57 := ho57.cast (List.nil_append _)
     have hx61 := hx53.stp hst58 (by intro q hq; have hq0 := ho49.lt q hq; omega)
     have hzhx61 := hst58.size
     replace ho40 := ho40.stp hst58 (by intro q hq; have hq0 := ho49.lt q hq; omega)
     replace hN42 := hN42.stp hst58 (by intro q hq; have hq0 := ho49.lt q hq; omega)
     refine wl_val ha60 rfl rfl rfl (op_build (vs := [(0, .int .i64 parent), (1, v55)]) (cs := #[.int .i64 parent, v55]) ha60 rfl Try.underlying56 ti56 bp56 rfl ((fill_one rfl rfl rfl).trans ((fill_one ho57.cells1 rfl rfl).trans rfl))) ?_
     intro a62 ha62; clear ha60 a60
     refine wl_eff ha62 rfl rfl rfl (op_buildSlice (s := shVerN) (xs := [(((parent, lines) : Int × List (Str × Int)), (v55 : Value))]) (cs := [.int .i64 parent, v55]) (vs := [(0, .agg #[.int .i64 parent, v55])]) (S := fun _ => False) (le := w56.heap.size) ha62 rfl pos_shVerN Try.underlying27 ti56 rfl rfl (by decide) (by kernel_rfl) (Els.single (mk_shVerN ((((parent, lines) : Int × List (Str × Int)), (v55 : Value))) (by first | assumption | omega | (simp; omega)) ho57.one)) (fun _ h => h.elim)) ?_
     rintro v63 w64 ⟨ho65, he66, hob67⟩ a68 ha68; clear ha62 a62
     have hx69 := hx61.trans' he66
     have hzhx69 := he66.size
     replace ho40 := ho40.ext he66
     replace hN42 := hN42.ext he66
     replace ho57 := ho57.ext he66
     have hN70 : Nst shLine 83 (fun x : Int × List (Str × Int) => x.2) w38.heap.size w64.heap.size w64 ([(((parent, lines) : Int × List (Str × Int)), (v55 : Value))]) := Nst.one (ho57.fin (by omega) (by omega) (by omega))
     refine wl_eff ha68 rfl rfl rfl (op_append (ts := #[]) (s := shVerN) ha68 rfl Try.underlying27 ti56 rfl pos_shVerN rfl rfl ho40 (ho65.rds pos_shVerN) (by omega) (by omega) (by first | omega | (simp; omega)) (by first | omega | (simp; omega)) (.inl flat_shVerN)) ?_
     rintro v71 w72 ⟨ho73, hst74, hob75⟩ a76 ha76; clear ha68 a68
     have hx77 := hx69.stp hst74 (by intro q hq; have hq0 := ho40.lt q hq; omega)
     have hzhx77 := hst74.size
     first | replace hN42 := hN42.stpF flat_shLine hst74 ho40 rfl | replace hN42 := hN42.stp hst74 (by intro q hq; have hq0 := ho40.lt q hq; omega)
     replace ho57 := ho57.stp hst74 (by intro q hq; have hq0 := ho40.lt q hq; omega)
     replace ho65 := ho65.stp hst74 (by intro q hq; have hq0 := ho40.lt q hq; omega)
     replace hN70 := hN70.stp hst74 (by intro q hq; have hq0 := ho40.lt q hq; omega)
     have hsp78 : ∀ q, Value.ownBlock v71 = some q → Value.ownBlock v63 ≠ some q := by intro q hq hb; have hq0 := ho65.lt q hb; rcases hob75 with h | h; (rw [h] at hq; first | (have hq1 := ho40.lt q hq; omega)); (rw [h] at hq; cases hq; omega)
     have hN79 : Nst shLine 83 (fun x : Int × List (Str × Int) => x.2) w24.heap.size w72.heap.size w72 ((z41 ++ [(((parent, lines) : Int × List (Str × Int)), (v55 : Value))])) := (hN42.app hN70 (by omega) (by omega) (by omega)).fin (by omega) (by omega)
     refine wl_val ha76 rfl rfl rfl (op_assign ha76 rfl rfl) ?_
     intro a80 ha80; clear ha76 a76
     refine wl_val ha80 rfl rfl rfl (op_assign ha80 rfl rfl) ?_
     intro a81 ha81; clear ha80 a80
     refine wpList_nil ?_
     refine then_n ?_
     refine wp_ret ?_
     refine ret2 ha81 rfl rfl rfl ?_
     clear ha81 a81
     have hr : avC list parent lines = (0 : Int) := (by unfold avC; first | (simp [c11, c20, c29, c33]; done) | (simp [cdV, c11, c20, c29, c33]; done) | (simp_all [cdV]; done) | (simp_all [cdV]; omega))
     refine ret_mk hx77 ⟨v71, (z41 ++ [(((parent, lines) : Int × List (Str × Int)), (v55 : Value))]), (tup2_eq rfl (int_eq (by first | exact hr.symm | omega))), ho73.fin (by omega) (by omega) (by omega), hN79.fin (by omega) (by omega), ?_⟩
     ·
      unfold avL; first | (rw [if_neg (show ¬ avC list parent lines = 0 by rw [hr]; first | decide | assumption)]; done) | (rw [if_neg (show ¬ avC list parent lines = 0 by rw [hr]; first | decide | assumption)]; rfl) | (rw [if_pos hr]; done) | (rw [if_pos hr]; assumption) | (rw [if_pos hr, List.map_append]; simp_all; done)
   ·
    rw [c29] at ha28
    refine cond_t ha28 rfl ?_
    refine wp_seq ?_
    refine wp_region_lit ?_
    refine wl_val ha28 rfl rfl rfl (op_assign ha28 rfl rfl) ?_
    intro a82 ha82; clear ha28 a28
    refine wl_val ha82 rfl rfl rfl (op_assign ha82 rfl rfl) ?_
    intro a83 ha83; clear ha82 a82
    refine wpList_nil ?_
    refine then_n ?_
    refine wp_ret ?_
    refine then_r ?_
    refine ret2 ha83 rfl rfl rfl ?_
    clear ha83 a83
    have hr : avC list parent lines = (2 : Int) := (by unfold avC; first | (simp [c11, c20, c29]; done) | (simp [cdV, c11, c20, c29]; done) | (simp_all [cdV]; done) | (simp_all [cdV]; omega))
    refine ret_mk hx27 ⟨(.slice none 0 0), [], (tup2_eq rfl (int_eq (by first | exact hr.symm | omega))), Own.nil _ _ _ _ _ _, Nst.nil _ _ _ _ _ _, ?_⟩
    ·
     unfold avL; first | (rw [if_neg (show ¬ avC list parent lines = 0 by rw [hr]; first | decide | assumption)]; done) | (rw [if_neg (show ¬ avC list parent lines = 0 by rw [hr]; first | decide | assumption)]; rfl) | (rw [if_pos hr]; done) | (rw [if_pos hr]; assumption) | (rw [if_pos hr, List.map_append]; simp_all; done)
  ·
   rw [c20] at ha19
   refine cond_t ha19 rfl ?_
   refine wp_seq ?_
   refine wp_region_lit ?_
   refine wl_val ha19 rfl rfl rfl (op_assign ha19 rfl rfl) ?_
   intro a84 ha84; clear ha19 a19
   refine wl_val ha84 rfl rfl rfl (op_assign ha84 rfl rfl) ?_
   intro a85 ha85; clear ha84 a84
   refine wpList_nil ?_
   refine then_n ?_
   refine wp_ret ?_
   refine then_r ?_
   refine ret2 ha85 rfl rfl rfl ?_
   clear ha85 a85
   have hr : avC list parent lines = (1 : Int) := (by unfold avC; first | (simp [c11, c20]; done) | (simp [cdV, c11, c20]; done) | (simp_all [cdV]; done) | (simp_all [cdV]; omega))
   refine ret_mk hx17 ⟨(.slice none 0 0), [], (tup2_eq rfl (int_eq (by first | exact hr.symm | omega))), Own.nil _ _ _ _ _ _, Nst.nil _ _ _ _ _ _, ?_⟩
   ·
    unfold avL; first | (rw [if_neg (show ¬ avC list parent lines = 0 by rw [hr]; first | decide | assumption)]; done) | (rw [if_neg (show ¬ avC list parent lines = 0 by rw [hr]; first | decide | assumption)]; rfl) | (rw [if_pos hr]; done) | (rw [if_pos hr]; assumption) | (rw [if_pos hr, List.map_append]; simp_all; done)
 ·
  rw [c11] at ha10
  refine wl_skip ha10 rfl rfl rfl ?_
  intro a86 ha86; clear ha10 a10
  refine wl_skip ha86 rfl rfl rfl ?_
  intro a87 ha87; clear ha86 a86
  refine wl_skip ha87 rfl rfl rfl ?_
  intro a88 ha88; clear ha87 a87
  refine wl_val ha88 rfl rfl rfl (op_pick_t ha88 rfl rfl rfl) ?_
  intro a89 ha89; clear ha88 a88
  refine wpList_nil ?_
  refine then_n ?_
  refine cond_t ha89 rfl ?_
  refine wp_seq ?_
  refine wp_region_lit ?_
  refine wl_val ha89 rfl rfl rfl (op_assign ha89 rfl rfl) ?_
  intro a90 ha90; clear ha89 a89
  refine wl_val ha90 rfl rfl rfl (op_assign ha90 rfl rfl) ?_
  intro a91 ha91; clear ha90 a90
  refine wpList_nil ?_
  refine then_n ?_
  refine wp_ret ?_
  refine then_r ?_
  refine ret2 ha91 rfl rfl rfl ?_
  clear ha91 a91
  have hr : avC list parent lines = (1 : Int) := (by unfold avC; first | (simp [c11]; done) | (simp [cdV, c11]; done) | (simp_all [cdV]; done) | (simp_all [cdV]; omega))
  refine ret_mk hx8 ⟨(.slice none 0 0), [], (tup2_eq rfl (int_eq (by first | exact hr.symm | omega))), Own.nil _ _ _ _ _ _, Nst.nil _ _ _ _ _ _, ?_⟩
  ·
   unfold avL; first | (rw [if_neg (show ¬ avC list parent lines = 0 by rw [hr]; first | decide | assumption)]; done) | (rw [if_neg (show ¬ avC list parent lines = 0 by rw [hr]; first | decide | assumption)]; rfl) | (rw [if_pos hr]; done) | (rw [if_pos hr]; assumption) | (rw [if_pos hr, List.map_append]; simp_all; done)


end Go.Proofs.Ytllpdkidaldkiaa
