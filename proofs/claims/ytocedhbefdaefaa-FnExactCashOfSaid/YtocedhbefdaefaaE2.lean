/- The laws OwesOf, OldestDebt, LowestCash, CashOf, walked. -/
import Derived.Test.YtocedhbefdaefaaW3
import Derived.Test.YtocedhbefdaefaaL1
namespace Go.Proofs.Ytocedhbefdaefaa
open Go Go.RowKit

theorem c_laws_FnExactOwesOf (w0 : World) (v_aList : Value) (aList : List (Int × Int × Str × Int)) {S_aList : Nat → Prop} (aName : Str) (h_aList : Rds shEnt S_aList w0 v_aList aList) :
    Calls Try.prog 4 #[v_aList, St aName] w0 (Ret w0 (fun v _ => v = .bool (true))) := by
  refine enter (N := 47) Try.func4 rfl rfl rfl ?_
  intro a0 ha0
  have hx0 := Ext.rfl' w0
  have hl_aList := h_aList.length_le
  have hcl := costL_len costEnt aList
  refine wp_seq ?_
  refine wp_region_lit ?_
  refine wl_val ha0 rfl rfl rfl (op_assign ha0 rfl rfl) ?_
  intro a1 ha1; clear ha0 a0
  refine wpList_nil ?_
  refine then_n ?_
  refine wp_seq ?_
  refine wp_seq ?_
  refine wp_region_lit ?_
  refine wl_val ha1 rfl rfl rfl (op_move ha1 rfl rfl) ?_
  intro a2 ha2; clear ha1 a1
  refine wl_val ha2 rfl rfl rfl (op_len_str ha2 rfl Try.underlying9 rfl) ?_
  intro a3 ha3; clear ha2 a2
  refine wl_val ha3 rfl rfl rfl (op_gtr ha3 rfl rfl rfl) ?_
  intro a4 ha4; clear ha3 a3
  refine wpList_nil ?_
  refine then_n ?_
  by_cases c5 : (1048576 : Int) < ((aName.length : Nat) : Int)
  ·
    rw [decide_eq_true c5] at ha4
    refine cond_t ha4 rfl ?_
    refine wp_seq ?_
    refine wp_region_lit ?_
    refine wl_val ha4 rfl rfl rfl (op_assign ha4 rfl rfl) ?_
    intro a6 ha6; clear ha4 a4
    refine wpList_nil ?_
    refine then_n ?_
    refine wp_ret ?_
    refine then_r ?_
    refine ret1 ha6 rfl rfl ?_
    clear ha6 a6
    exact ret_mk hx0 (congrArg Value.bool (by first | rfl | omega | (simp [eqL, mkN_length, eqL, mkN_length, held_mkN okI_mk, held_mkN okEnt_mk, held_mkN okS_mk] at c5; done) | (simp [eqL, mkN_length, eqL, mkN_length, held_mkN okI_mk, held_mkN okEnt_mk, held_mkN okS_mk] at c5; omega)))
  ·
    rw [decide_eq_false c5] at ha4
    refine cond_f ha4 rfl ?_
    refine wp_skip ?_
    refine then_n ?_
    refine wp_seq ?_
    refine wp_region_lit ?_
    refine wl_val ha4 rfl rfl rfl (op_assign ha4 rfl rfl) ?_
    intro a7 ha7; clear ha4 a4
    refine wpList_nil ?_
    refine then_n ?_
    refine wp_seq ?_
    refine wp_region_lit ?_
    refine wl_val ha7 rfl rfl rfl (op_move ha7 rfl rfl) ?_
    intro a8 ha8; clear ha7 a7
    refine wl_val ha8 rfl rfl rfl (op_move ha8 rfl rfl) ?_
    intro a9 ha9; clear ha8 a8
    refine wl_callR ha9 rfl rfl rfl (op_call ha9 rfl cb15 rfl) (c_laws_szEntryS _ v_aList aList (1048576 : Int) (h_aList.ext pos_shEnt hx0) (by first | assumption | omega | (simp; omega) | (simp [mkN_length, held_mkN okI_mk, held_mkN okEnt_mk, held_mkN okS_mk]; omega)) (by first | assumption | omega | (simp; omega) | (simp [mkN_length, held_mkN okI_mk, held_mkN okEnt_mk, held_mkN okS_mk]; omega))) ?_
    rintro v10 w11 he12 rfl a13 ha13; clear ha9 a9
    have hx14 := hx0.trans' he12
    have hzhx14 := he12.size
    refine wl_val ha13 rfl rfl rfl (op_assign ha13 rfl rfl) ?_
    intro a15 ha15; clear ha13 a13
    refine wpList_nil ?_
    refine then_n ?_
    refine wp_seq ?_
    refine wp_seq ?_
    refine wp_region_lit ?_
    refine wl_val ha15 rfl rfl rfl (op_move ha15 rfl rfl) ?_
    intro a16 ha16; clear ha15 a15
    refine wl_val ha16 rfl rfl rfl (op_lss ha16 rfl rfl rfl) ?_
    intro a17 ha17; clear ha16 a16
    refine wpList_nil ?_
    refine then_n ?_
    by_cases c18 : (szR (1048576 : Int) (costL costEnt aList) : Int) < (0 : Int)
    ·
      rw [decide_eq_true c18] at ha17
      refine cond_t ha17 rfl ?_
      refine wp_seq ?_
      refine wp_region_lit ?_
      refine wl_val ha17 rfl rfl rfl (op_assign ha17 rfl rfl) ?_
      intro a19 ha19; clear ha17 a17
      refine wpList_nil ?_
      refine then_n ?_
      refine wp_ret ?_
      refine then_r ?_
      refine ret1 ha19 rfl rfl ?_
      clear ha19 a19
      exact ret_mk hx14 (congrArg Value.bool (by first | rfl | omega | (simp [eqL, mkN_length, eqL, mkN_length, held_mkN okI_mk, held_mkN okEnt_mk, held_mkN okS_mk] at c18; done) | (simp [eqL, mkN_length, eqL, mkN_length, held_mkN okI_mk, held_mkN okEnt_mk, held_mkN okS_mk] at c5; done) | (simp [eqL, mkN_length, eqL, mkN_length, held_mkN okI_mk, held_mkN okEnt_mk, held_mkN okS_mk] at c18; omega) | (simp [eqL, mkN_length, eqL, mkN_length, held_mkN okI_mk, held_mkN okEnt_mk, held_mkN okS_mk] at c5; omega)))
    ·
      rw [decide_eq_false c18] at ha17
      have hzc18 := szR_ok c18
      refine cond_f ha17 rfl ?_
      refine wp_skip ?_
      refine then_n ?_
      refine wp_seq ?_
      refine wp_region_lit ?_
      refine wl_val ha17 rfl rfl rfl (op_move ha17 rfl rfl) ?_
      intro a20 ha20; clear ha17 a17
      refine wl_callR ha20 rfl rfl rfl (op_call ha20 rfl cb17 rfl) (c_laws_toEntryS _ v_aList aList (h_aList.ext pos_shEnt hx14) (by first | assumption | omega | (simp; omega) | (simp [mkN_length, held_mkN okI_mk, held_mkN okEnt_mk, held_mkN okS_mk]; omega))) ?_
      rintro v21 w22 he23 ho24 a25 ha25; clear ha20 a20
      have hx26 := hx14.trans' he23
      have hzhx26 := he23.size
      refine wl_val ha25 rfl rfl rfl (op_move ha25 rfl rfl) ?_
      intro a27 ha27; clear ha25 a25
      refine wl_callR ha27 rfl rfl rfl (op_call ha27 rfl cb20 rfl) (c_spec_OwesOf _ v21 ((aList)) aName (ho24.rds pos_shEnt) (by first | assumption | omega | (simp; omega) | (simp [mkN_length, held_mkN okI_mk, held_mkN okEnt_mk, held_mkN okS_mk]; omega)) (by first | assumption | omega | (simp; omega) | (simp [mkN_length, held_mkN okI_mk, held_mkN okEnt_mk, held_mkN okS_mk]; omega))) ?_
      rintro v28 w29 he30 rfl a31 ha31; clear ha27 a27
      have hx32 := hx26.trans' he30
      have hzhx32 := he30.size
      replace ho24 := ho24.ext he30
      refine wl_val ha31 rfl rfl rfl (op_move ha31 rfl rfl) ?_
      intro a33 ha33; clear ha31 a31
      refine wl_val ha33 rfl rfl rfl (op_extract ha33 rfl rfl rfl) ?_
      intro a34 ha34; clear ha33 a33
      refine wl_val ha34 rfl rfl rfl (op_extract ha34 rfl rfl rfl) ?_
      intro a35 ha35; clear ha34 a34
      refine wl_val ha35 rfl rfl rfl (op_assign ha35 rfl rfl) ?_
      intro a36 ha36; clear ha35 a35
      refine wl_val ha36 rfl rfl rfl (op_assign ha36 rfl rfl) ?_
      intro a37 ha37; clear ha36 a36
      refine wpList_nil ?_
      refine then_n ?_
      refine wp_seq ?_
      refine wp_region_lit ?_
      refine wl_val ha37 rfl rfl rfl (op_move ha37 rfl rfl) ?_
      intro a38 ha38; clear ha37 a37
      refine wl_callR ha38 rfl rfl rfl (op_call ha38 rfl cb17 rfl) (c_laws_toEntryS _ v_aList aList (h_aList.ext pos_shEnt hx32) (by first | assumption | omega | (simp; omega) | (simp [mkN_length, held_mkN okI_mk, held_mkN okEnt_mk, held_mkN okS_mk]; omega))) ?_
      rintro v39 w40 he41 ho42 a43 ha43; clear ha38 a38
      have hx44 := hx32.trans' he41
      have hzhx44 := he41.size
      replace ho24 := ho24.ext he41
      refine wl_val ha43 rfl rfl rfl (op_assign ha43 rfl rfl) ?_
      intro a45 ha45; clear ha43 a43
      refine wpList_nil ?_
      refine then_n ?_
      refine wp_seq ?_
      refine wp_region_lit ?_
      refine wl_val ha45 rfl rfl rfl (op_move ha45 rfl rfl) ?_
      intro a46 ha46; clear ha45 a45
      refine wl_val ha46 rfl rfl rfl (op_move ha46 rfl rfl) ?_
      intro a47 ha47; clear ha46 a46
      refine wl_callR ha47 rfl rfl rfl (op_call ha47 rfl cb21 rfl) (c_impl_OwesOf _ v39 ((aList)) aName (ho42.rds pos_shEnt) (by first | assumption | omega | (simp; omega) | (simp [mkN_length, held_mkN okI_mk, held_mkN okEnt_mk, held_mkN okS_mk]; omega)) (by first | assumption | omega | (simp; omega) | (simp [mkN_length, held_mkN okI_mk, held_mkN okEnt_mk, held_mkN okS_mk]; omega))) ?_
      rintro v48 w49 he50 rfl a51 ha51; clear ha47 a47
      have hx52 := hx44.trans' he50
      have hzhx52 := he50.size
      replace ho24 := ho24.ext he50
      replace ho42 := ho42.ext he50
      refine wl_val ha51 rfl rfl rfl (op_move ha51 rfl rfl) ?_
      intro a53 ha53; clear ha51 a51
      refine wl_val ha53 rfl rfl rfl (op_extract ha53 rfl rfl rfl) ?_
      intro a54 ha54; clear ha53 a53
      refine wl_val ha54 rfl rfl rfl (op_extract ha54 rfl rfl rfl) ?_
      intro a55 ha55; clear ha54 a54
      refine wl_val ha55 rfl rfl rfl (op_assign ha55 rfl rfl) ?_
      intro a56 ha56; clear ha55 a55
      refine wl_val ha56 rfl rfl rfl (op_assign ha56 rfl rfl) ?_
      intro a57 ha57; clear ha56 a56
      refine wpList_nil ?_
      refine then_n ?_
      refine wp_seq ?_
      refine wp_seq ?_
      refine wp_region_lit ?_
      refine wl_val ha57 rfl rfl rfl (op_move ha57 rfl rfl) ?_
      intro a58 ha58; clear ha57 a57
      refine wl_val ha58 rfl rfl rfl (op_move ha58 rfl rfl) ?_
      intro a59 ha59; clear ha58 a58
      refine wl_val ha59 rfl rfl rfl ((op_neq ha59 rfl rfl rfl).to (congrArg Value.bool decide_not)) ?_
      intro a60 ha60; clear ha59 a59
      refine wl_val ha60 rfl rfl rfl (op_move ha60 rfl rfl) ?_
      intro a61 ha61; clear ha60 a60
      by_cases c62 : (if dbB ((aList)) && wordB aName then owS aName ((aList)) else 0 : Int) = (if dbB ((aList)) && wordB aName then owS aName ((aList)) else 0 : Int)
      ·
        rw [decide_eq_true c62] at ha61
        refine wl_val ha61 rfl rfl rfl (op_move ha61 rfl rfl) ?_
        intro a63 ha63; clear ha61 a61
        refine wl_val ha63 rfl rfl rfl (op_move ha63 rfl rfl) ?_
        intro a64 ha64; clear ha63 a63
        refine wl_val ha64 rfl rfl rfl ((op_neq ha64 rfl rfl rfl).to (congrArg Value.bool decide_not)) ?_
        intro a65 ha65; clear ha64 a64
        refine wl_val ha65 rfl rfl rfl (op_pick_f ha65 rfl rfl rfl) ?_
        intro a66 ha66; clear ha65 a65
        refine wpList_nil ?_
        refine then_n ?_
        by_cases c67 : (if dbB ((aList)) && wordB aName then 0 else 1 : Int) = (if dbB ((aList)) && wordB aName then 0 else 1 : Int)
        ·
          rw [decide_eq_true c67] at ha66
          refine cond_f ha66 rfl ?_
          refine wp_skip ?_
          refine then_n ?_
          refine wp_seq ?_
          refine wp_seq ?_
          refine wp_region_lit ?_
          refine wl_val ha66 rfl rfl rfl (op_move ha66 rfl rfl) ?_
          intro a68 ha68; clear ha66 a66
          refine wl_val ha68 rfl rfl rfl (op_move ha68 rfl rfl) ?_
          intro a69 ha69; clear ha68 a68
          refine wl_callR ha69 rfl rfl rfl (op_call ha69 rfl cb17 rfl) (c_laws_toEntryS _ v_aList aList (h_aList.ext pos_shEnt hx52) (by first | assumption | omega | (simp; omega) | (simp [mkN_length, held_mkN okI_mk, held_mkN okEnt_mk, held_mkN okS_mk]; omega))) ?_
          rintro v70 w71 he72 ho73 a74 ha74; clear ha69 a69
          have hx75 := hx52.trans' he72
          have hzhx75 := he72.size
          replace ho24 := ho24.ext he72
          replace ho42 := ho42.ext he72
          refine wl_callR ha74 rfl rfl rfl (op_call ha74 rfl cb19 rfl) (c_laws_eqEntryS _ v39 ((aList)) v70 ((aList)) (ho42.rds pos_shEnt) (ho73.rds pos_shEnt)) ?_
          rintro v76 w77 he78 rfl a79 ha79; clear ha74 a74
          have hx80 := hx75.trans' he78
          have hzhx80 := he78.size
          replace ho24 := ho24.ext he78
          replace ho42 := ho42.ext he78
          replace ho73 := ho73.ext he78
          refine wl_val ha79 rfl rfl rfl (op_not ha79 rfl rfl) ?_
          intro a81 ha81; clear ha79 a79
          refine wpList_nil ?_
          refine then_n ?_
          rcases Bool.eq_false_or_eq_true (eqL ((aList)) ((aList))) with c82 | c82
          ·
            rw [c82] at ha81
            refine cond_f ha81 rfl ?_
            refine wp_skip ?_
            refine then_n ?_
            refine wp_seq ?_
            refine wp_region_lit ?_
            refine wl_val ha81 rfl rfl rfl (op_assign ha81 rfl rfl) ?_
            intro a83 ha83; clear ha81 a81
            refine wpList_nil ?_
            refine then_n ?_
            refine wp_ret ?_
            refine ret1 ha83 rfl rfl ?_
            clear ha83 a83
            exact ret_mk hx80 (congrArg Value.bool (by first | rfl | omega | (simp [eqL, mkN_length, eqL, mkN_length, held_mkN okI_mk, held_mkN okEnt_mk, held_mkN okS_mk] at c82; done) | (simp [eqL, mkN_length, eqL, mkN_length, held_mkN okI_mk, held_mkN okEnt_mk, held_mkN okS_mk] at c67; done) | (simp [eqL, mkN_length, eqL, mkN_length, held_mkN okI_mk, held_mkN okEnt_mk, held_mkN okS_mk] at c62; done) | (simp [eqL, mkN_length, eqL, mkN_length, held_mkN okI_mk, held_mkN okEnt_mk, held_mkN okS_mk] at c18; done) | (simp [eqL, mkN_length, eqL, mkN_length, held_mkN okI_mk, held_mkN okEnt_mk, held_mkN okS_mk] at c5; done) | (simp [eqL, mkN_length, eqL, mkN_length, held_mkN okI_mk, held_mkN okEnt_mk, held_mkN okS_mk] at c82; omega) | (simp [eqL, mkN_length, eqL, mkN_length, held_mkN okI_mk, held_mkN okEnt_mk, held_mkN okS_mk] at c67; omega) | (simp [eqL, mkN_length, eqL, mkN_length, held_mkN okI_mk, held_mkN okEnt_mk, held_mkN okS_mk] at c62; omega)))
          ·
            rw [c82] at ha81
            refine cond_t ha81 rfl ?_
            refine wp_seq ?_
            refine wp_region_lit ?_
            refine wl_val ha81 rfl rfl rfl (op_assign ha81 rfl rfl) ?_
            intro a84 ha84; clear ha81 a81
            refine wpList_nil ?_
            refine then_n ?_
            refine wp_ret ?_
            refine then_r ?_
            refine ret1 ha84 rfl rfl ?_
            clear ha84 a84
            exact ret_mk hx80 (congrArg Value.bool (by first | rfl | omega | (simp [eqL, mkN_length, eqL, mkN_length, held_mkN okI_mk, held_mkN okEnt_mk, held_mkN okS_mk] at c82; done) | (simp [eqL, mkN_length, eqL, mkN_length, held_mkN okI_mk, held_mkN okEnt_mk, held_mkN okS_mk] at c67; done) | (simp [eqL, mkN_length, eqL, mkN_length, held_mkN okI_mk, held_mkN okEnt_mk, held_mkN okS_mk] at c62; done) | (simp [eqL, mkN_length, eqL, mkN_length, held_mkN okI_mk, held_mkN okEnt_mk, held_mkN okS_mk] at c18; done) | (simp [eqL, mkN_length, eqL, mkN_length, held_mkN okI_mk, held_mkN okEnt_mk, held_mkN okS_mk] at c5; done) | (simp [eqL, mkN_length, eqL, mkN_length, held_mkN okI_mk, held_mkN okEnt_mk, held_mkN okS_mk] at c82; omega) | (simp [eqL, mkN_length, eqL, mkN_length, held_mkN okI_mk, held_mkN okEnt_mk, held_mkN okS_mk] at c67; omega) | (simp [eqL, mkN_length, eqL, mkN_length, held_mkN okI_mk, held_mkN okEnt_mk, held_mkN okS_mk] at c62; omega)))
        ·
          rw [decide_eq_false c67] at ha66
          refine cond_t ha66 rfl ?_
          refine wp_seq ?_
          refine wp_region_lit ?_
          refine wl_val ha66 rfl rfl rfl (op_assign ha66 rfl rfl) ?_
          intro a85 ha85; clear ha66 a66
          refine wpList_nil ?_
          refine then_n ?_
          refine wp_ret ?_
          refine then_r ?_
          refine ret1 ha85 rfl rfl ?_
          clear ha85 a85
          exact ret_mk hx52 (congrArg Value.bool (by first | rfl | omega | (simp [eqL, mkN_length, eqL, mkN_length, held_mkN okI_mk, held_mkN okEnt_mk, held_mkN okS_mk] at c67; done) | (simp [eqL, mkN_length, eqL, mkN_length, held_mkN okI_mk, held_mkN okEnt_mk, held_mkN okS_mk] at c62; done) | (simp [eqL, mkN_length, eqL, mkN_length, held_mkN okI_mk, held_mkN okEnt_mk, held_mkN okS_mk] at c18; done) | (simp [eqL, mkN_length, eqL, mkN_length, held_mkN okI_mk, held_mkN okEnt_mk, held_mkN okS_mk] at c5; done) | (simp [eqL, mkN_length, eqL, mkN_length, held_mkN okI_mk, held_mkN okEnt_mk, held_mkN okS_mk] at c67; omega) | (simp [eqL, mkN_length, eqL, mkN_length, held_mkN okI_mk, held_mkN okEnt_mk, held_mkN okS_mk] at c62; omega) | (simp [eqL, mkN_length, eqL, mkN_length, held_mkN okI_mk, held_mkN okEnt_mk, held_mkN okS_mk] at c18; omega)))
      ·
        rw [decide_eq_false c62] at ha61
        refine wl_skip ha61 rfl rfl rfl ?_
        intro a86 ha86; clear ha61 a61
        refine wl_skip ha86 rfl rfl rfl ?_
        intro a87 ha87; clear ha86 a86
        refine wl_skip ha87 rfl rfl rfl ?_
        intro a88 ha88; clear ha87 a87
        refine wl_val ha88 rfl rfl rfl (op_pick_t ha88 rfl rfl rfl) ?_
        intro a89 ha89; clear ha88 a88
        refine wpList_nil ?_
        refine then_n ?_
        refine cond_t ha89 rfl ?_
        refine wp_seq ?_
        refine wp_region_lit ?_
        refine wl_val ha89 rfl rfl rfl (op_assign ha89 rfl rfl) ?_
        intro a90 ha90; clear ha89 a89
        refine wpList_nil ?_
        refine then_n ?_
        refine wp_ret ?_
        refine then_r ?_
        refine ret1 ha90 rfl rfl ?_
        clear ha90 a90
        exact ret_mk hx52 (congrArg Value.bool (by first | rfl | omega | (simp [eqL, mkN_length, eqL, mkN_length, held_mkN okI_mk, held_mkN okEnt_mk, held_mkN okS_mk] at c62; done) | (simp [eqL, mkN_length, eqL, mkN_length, held_mkN okI_mk, held_mkN okEnt_mk, held_mkN okS_mk] at c18; done) | (simp [eqL, mkN_length, eqL, mkN_length, held_mkN okI_mk, held_mkN okEnt_mk, held_mkN okS_mk] at c5; done) | (simp [eqL, mkN_length, eqL, mkN_length, held_mkN okI_mk, held_mkN okEnt_mk, held_mkN okS_mk] at c62; omega) | (simp [eqL, mkN_length, eqL, mkN_length, held_mkN okI_mk, held_mkN okEnt_mk, held_mkN okS_mk] at c18; omega) | (simp [eqL, mkN_length, eqL, mkN_length, held_mkN okI_mk, held_mkN okEnt_mk, held_mkN okS_mk] at c5; omega)))

theorem c_laws_FnExactOldestDebt (w0 : World) (v_aList : Value) (aList : List (Int × Int × Str × Int)) {S_aList : Nat → Prop} (aName : Str) (h_aList : Rds shEnt S_aList w0 v_aList aList) :
    Calls Try.prog 5 #[v_aList, St aName] w0 (Ret w0 (fun v _ => v = .bool (true))) := by
  refine enter (N := 47) Try.func5 rfl rfl rfl ?_
  intro a0 ha0
  have hx0 := Ext.rfl' w0
  have hl_aList := h_aList.length_le
  have hcl := costL_len costEnt aList
  refine wp_seq ?_
  refine wp_region_lit ?_
  refine wl_val ha0 rfl rfl rfl (op_assign ha0 rfl rfl) ?_
  intro a1 ha1; clear ha0 a0
  refine wpList_nil ?_
  refine then_n ?_
  refine wp_seq ?_
  refine wp_seq ?_
  refine wp_region_lit ?_
  refine wl_val ha1 rfl rfl rfl (op_move ha1 rfl rfl) ?_
  intro a2 ha2; clear ha1 a1
  refine wl_val ha2 rfl rfl rfl (op_len_str ha2 rfl Try.underlying9 rfl) ?_
  intro a3 ha3; clear ha2 a2
  refine wl_val ha3 rfl rfl rfl (op_gtr ha3 rfl rfl rfl) ?_
  intro a4 ha4; clear ha3 a3
  refine wpList_nil ?_
  refine then_n ?_
  by_cases c5 : (1048576 : Int) < ((aName.length : Nat) : Int)
  ·
    rw [decide_eq_true c5] at ha4
    refine cond_t ha4 rfl ?_
    refine wp_seq ?_
    refine wp_region_lit ?_
    refine wl_val ha4 rfl rfl rfl (op_assign ha4 rfl rfl) ?_
    intro a6 ha6; clear ha4 a4
    refine wpList_nil ?_
    refine then_n ?_
    refine wp_ret ?_
    refine then_r ?_
    refine ret1 ha6 rfl rfl ?_
    clear ha6 a6
    exact ret_mk hx0 (congrArg Value.bool (by first | rfl | omega | (simp [eqL, mkN_length, eqL, mkN_length, held_mkN okI_mk, held_mkN okEnt_mk, held_mkN okS_mk] at c5; done) | (simp [eqL, mkN_length, eqL, mkN_length, held_mkN okI_mk, held_mkN okEnt_mk, held_mkN okS_mk] at c5; omega)))
  ·
    rw [decide_eq_false c5] at ha4
    refine cond_f ha4 rfl ?_
    refine wp_skip ?_
    refine then_n ?_
    refine wp_seq ?_
    refine wp_region_lit ?_
    refine wl_val ha4 rfl rfl rfl (op_assign ha4 rfl rfl) ?_
    intro a7 ha7; clear ha4 a4
    refine wpList_nil ?_
    refine then_n ?_
    refine wp_seq ?_
    refine wp_region_lit ?_
    refine wl_val ha7 rfl rfl rfl (op_move ha7 rfl rfl) ?_
    intro a8 ha8; clear ha7 a7
    refine wl_val ha8 rfl rfl rfl (op_move ha8 rfl rfl) ?_
    intro a9 ha9; clear ha8 a8
    refine wl_callR ha9 rfl rfl rfl (op_call ha9 rfl cb15 rfl) (c_laws_szEntryS _ v_aList aList (1048576 : Int) (h_aList.ext pos_shEnt hx0) (by first | assumption | omega | (simp; omega) | (simp [mkN_length, held_mkN okI_mk, held_mkN okEnt_mk, held_mkN okS_mk]; omega)) (by first | assumption | omega | (simp; omega) | (simp [mkN_length, held_mkN okI_mk, held_mkN okEnt_mk, held_mkN okS_mk]; omega))) ?_
    rintro v10 w11 he12 rfl a13 ha13; clear ha9 a9
    have hx14 := hx0.trans' he12
    have hzhx14 := he12.size
    refine wl_val ha13 rfl rfl rfl (op_assign ha13 rfl rfl) ?_
    intro a15 ha15; clear ha13 a13
    refine wpList_nil ?_
    refine then_n ?_
    refine wp_seq ?_
    refine wp_seq ?_
    refine wp_region_lit ?_
    refine wl_val ha15 rfl rfl rfl (op_move ha15 rfl rfl) ?_
    intro a16 ha16; clear ha15 a15
    refine wl_val ha16 rfl rfl rfl (op_lss ha16 rfl rfl rfl) ?_
    intro a17 ha17; clear ha16 a16
    refine wpList_nil ?_
    refine then_n ?_
    by_cases c18 : (szR (1048576 : Int) (costL costEnt aList) : Int) < (0 : Int)
    ·
      rw [decide_eq_true c18] at ha17
      refine cond_t ha17 rfl ?_
      refine wp_seq ?_
      refine wp_region_lit ?_
      refine wl_val ha17 rfl rfl rfl (op_assign ha17 rfl rfl) ?_
      intro a19 ha19; clear ha17 a17
      refine wpList_nil ?_
      refine then_n ?_
      refine wp_ret ?_
      refine then_r ?_
      refine ret1 ha19 rfl rfl ?_
      clear ha19 a19
      exact ret_mk hx14 (congrArg Value.bool (by first | rfl | omega | (simp [eqL, mkN_length, eqL, mkN_length, held_mkN okI_mk, held_mkN okEnt_mk, held_mkN okS_mk] at c18; done) | (simp [eqL, mkN_length, eqL, mkN_length, held_mkN okI_mk, held_mkN okEnt_mk, held_mkN okS_mk] at c5; done) | (simp [eqL, mkN_length, eqL, mkN_length, held_mkN okI_mk, held_mkN okEnt_mk, held_mkN okS_mk] at c18; omega) | (simp [eqL, mkN_length, eqL, mkN_length, held_mkN okI_mk, held_mkN okEnt_mk, held_mkN okS_mk] at c5; omega)))
    ·
      rw [decide_eq_false c18] at ha17
      have hzc18 := szR_ok c18
      refine cond_f ha17 rfl ?_
      refine wp_skip ?_
      refine then_n ?_
      refine wp_seq ?_
      refine wp_region_lit ?_
      refine wl_val ha17 rfl rfl rfl (op_move ha17 rfl rfl) ?_
      intro a20 ha20; clear ha17 a17
      refine wl_callR ha20 rfl rfl rfl (op_call ha20 rfl cb17 rfl) (c_laws_toEntryS _ v_aList aList (h_aList.ext pos_shEnt hx14) (by first | assumption | omega | (simp; omega) | (simp [mkN_length, held_mkN okI_mk, held_mkN okEnt_mk, held_mkN okS_mk]; omega))) ?_
      rintro v21 w22 he23 ho24 a25 ha25; clear ha20 a20
      have hx26 := hx14.trans' he23
      have hzhx26 := he23.size
      refine wl_val ha25 rfl rfl rfl (op_move ha25 rfl rfl) ?_
      intro a27 ha27; clear ha25 a25
      refine wl_callR ha27 rfl rfl rfl (op_call ha27 rfl cb22 rfl) (c_spec_OldestDebt _ v21 ((aList)) aName (ho24.rds pos_shEnt) (by first | assumption | omega | (simp; omega) | (simp [mkN_length, held_mkN okI_mk, held_mkN okEnt_mk, held_mkN okS_mk]; omega)) (by first | assumption | omega | (simp; omega) | (simp [mkN_length, held_mkN okI_mk, held_mkN okEnt_mk, held_mkN okS_mk]; omega))) ?_
      rintro v28 w29 he30 rfl a31 ha31; clear ha27 a27
      have hx32 := hx26.trans' he30
      have hzhx32 := he30.size
      replace ho24 := ho24.ext he30
      refine wl_val ha31 rfl rfl rfl (op_move ha31 rfl rfl) ?_
      intro a33 ha33; clear ha31 a31
      refine wl_val ha33 rfl rfl rfl (op_extract ha33 rfl rfl rfl) ?_
      intro a34 ha34; clear ha33 a33
      refine wl_val ha34 rfl rfl rfl (op_extract ha34 rfl rfl rfl) ?_
      intro a35 ha35; clear ha34 a34
      refine wl_val ha35 rfl rfl rfl (op_assign ha35 rfl rfl) ?_
      intro a36 ha36; clear ha35 a35
      refine wl_val ha36 rfl rfl rfl (op_assign ha36 rfl rfl) ?_
      intro a37 ha37; clear ha36 a36
      refine wpList_nil ?_
      refine then_n ?_
      refine wp_seq ?_
      refine wp_region_lit ?_
      refine wl_val ha37 rfl rfl rfl (op_move ha37 rfl rfl) ?_
      intro a38 ha38; clear ha37 a37
      refine wl_callR ha38 rfl rfl rfl (op_call ha38 rfl cb17 rfl) (c_laws_toEntryS _ v_aList aList (h_aList.ext pos_shEnt hx32) (by first | assumption | omega | (simp; omega) | (simp [mkN_length, held_mkN okI_mk, held_mkN okEnt_mk, held_mkN okS_mk]; omega))) ?_
      rintro v39 w40 he41 ho42 a43 ha43; clear ha38 a38
      have hx44 := hx32.trans' he41
      have hzhx44 := he41.size
      replace ho24 := ho24.ext he41
      refine wl_val ha43 rfl rfl rfl (op_assign ha43 rfl rfl) ?_
      intro a45 ha45; clear ha43 a43
      refine wpList_nil ?_
      refine then_n ?_
      refine wp_seq ?_
      refine wp_region_lit ?_
      refine wl_val ha45 rfl rfl rfl (op_move ha45 rfl rfl) ?_
      intro a46 ha46; clear ha45 a45
      refine wl_val ha46 rfl rfl rfl (op_move ha46 rfl rfl) ?_
      intro a47 ha47; clear ha46 a46
      refine wl_callR ha47 rfl rfl rfl (op_call ha47 rfl cb23 rfl) (c_impl_OldestDebt _ v39 ((aList)) aName (ho42.rds pos_shEnt) (by first | assumption | omega | (simp; omega) | (simp [mkN_length, held_mkN okI_mk, held_mkN okEnt_mk, held_mkN okS_mk]; omega)) (by first | assumption | omega | (simp; omega) | (simp [mkN_length, held_mkN okI_mk, held_mkN okEnt_mk, held_mkN okS_mk]; omega))) ?_
      rintro v48 w49 he50 rfl a51 ha51; clear ha47 a47
      have hx52 := hx44.trans' he50
      have hzhx52 := he50.size
      replace ho24 := ho24.ext he50
      replace ho42 := ho42.ext he50
      refine wl_val ha51 rfl rfl rfl (op_move ha51 rfl rfl) ?_
      intro a53 ha53; clear ha51 a51
      refine wl_val ha53 rfl rfl rfl (op_extract ha53 rfl rfl rfl) ?_
      intro a54 ha54; clear ha53 a53
      refine wl_val ha54 rfl rfl rfl (op_extract ha54 rfl rfl rfl) ?_
      intro a55 ha55; clear ha54 a54
      refine wl_val ha55 rfl rfl rfl (op_assign ha55 rfl rfl) ?_
      intro a56 ha56; clear ha55 a55
      refine wl_val ha56 rfl rfl rfl (op_assign ha56 rfl rfl) ?_
      intro a57 ha57; clear ha56 a56
      refine wpList_nil ?_
      refine then_n ?_
      refine wp_seq ?_
      refine wp_seq ?_
      refine wp_region_lit ?_
      refine wl_val ha57 rfl rfl rfl (op_move ha57 rfl rfl) ?_
      intro a58 ha58; clear ha57 a57
      refine wl_val ha58 rfl rfl rfl (op_move ha58 rfl rfl) ?_
      intro a59 ha59; clear ha58 a58
      refine wl_val ha59 rfl rfl rfl ((op_neq ha59 rfl rfl rfl).to (congrArg Value.bool decide_not)) ?_
      intro a60 ha60; clear ha59 a59
      refine wl_val ha60 rfl rfl rfl (op_move ha60 rfl rfl) ?_
      intro a61 ha61; clear ha60 a60
      by_cases c62 : (odA ((aList)) aName : Int) = (odA ((aList)) aName : Int)
      ·
        rw [decide_eq_true c62] at ha61
        refine wl_val ha61 rfl rfl rfl (op_move ha61 rfl rfl) ?_
        intro a63 ha63; clear ha61 a61
        refine wl_val ha63 rfl rfl rfl (op_move ha63 rfl rfl) ?_
        intro a64 ha64; clear ha63 a63
        refine wl_val ha64 rfl rfl rfl ((op_neq ha64 rfl rfl rfl).to (congrArg Value.bool decide_not)) ?_
        intro a65 ha65; clear ha64 a64
        refine wl_val ha65 rfl rfl rfl (op_pick_f ha65 rfl rfl rfl) ?_
        intro a66 ha66; clear ha65 a65
        refine wpList_nil ?_
        refine then_n ?_
        by_cases c67 : (odB ((aList)) aName : Int) = (odB ((aList)) aName : Int)
        ·
          rw [decide_eq_true c67] at ha66
          refine cond_f ha66 rfl ?_
          refine wp_skip ?_
          refine then_n ?_
          refine wp_seq ?_
          refine wp_seq ?_
          refine wp_region_lit ?_
          refine wl_val ha66 rfl rfl rfl (op_move ha66 rfl rfl) ?_
          intro a68 ha68; clear ha66 a66
          refine wl_val ha68 rfl rfl rfl (op_move ha68 rfl rfl) ?_
          intro a69 ha69; clear ha68 a68
          refine wl_callR ha69 rfl rfl rfl (op_call ha69 rfl cb17 rfl) (c_laws_toEntryS _ v_aList aList (h_aList.ext pos_shEnt hx52) (by first | assumption | omega | (simp; omega) | (simp [mkN_length, held_mkN okI_mk, held_mkN okEnt_mk, held_mkN okS_mk]; omega))) ?_
          rintro v70 w71 he72 ho73 a74 ha74; clear ha69 a69
          have hx75 := hx52.trans' he72
          have hzhx75 := he72.size
          replace ho24 := ho24.ext he72
          replace ho42 := ho42.ext he72
          refine wl_callR ha74 rfl rfl rfl (op_call ha74 rfl cb19 rfl) (c_laws_eqEntryS _ v39 ((aList)) v70 ((aList)) (ho42.rds pos_shEnt) (ho73.rds pos_shEnt)) ?_
          rintro v76 w77 he78 rfl a79 ha79; clear ha74 a74
          have hx80 := hx75.trans' he78
          have hzhx80 := he78.size
          replace ho24 := ho24.ext he78
          replace ho42 := ho42.ext he78
          replace ho73 := ho73.ext he78
          refine wl_val ha79 rfl rfl rfl (op_not ha79 rfl rfl) ?_
          intro a81 ha81; clear ha79 a79
          refine wpList_nil ?_
          refine then_n ?_
          rcases Bool.eq_false_or_eq_true (eqL ((aList)) ((aList))) with c82 | c82
          ·
            rw [c82] at ha81
            refine cond_f ha81 rfl ?_
            refine wp_skip ?_
            refine then_n ?_
            refine wp_seq ?_
            refine wp_region_lit ?_
            refine wl_val ha81 rfl rfl rfl (op_assign ha81 rfl rfl) ?_
            intro a83 ha83; clear ha81 a81
            refine wpList_nil ?_
            refine then_n ?_
            refine wp_ret ?_
            refine ret1 ha83 rfl rfl ?_
            clear ha83 a83
            exact ret_mk hx80 (congrArg Value.bool (by first | rfl | omega | (simp [eqL, mkN_length, eqL, mkN_length, held_mkN okI_mk, held_mkN okEnt_mk, held_mkN okS_mk] at c82; done) | (simp [eqL, mkN_length, eqL, mkN_length, held_mkN okI_mk, held_mkN okEnt_mk, held_mkN okS_mk] at c67; done) | (simp [eqL, mkN_length, eqL, mkN_length, held_mkN okI_mk, held_mkN okEnt_mk, held_mkN okS_mk] at c62; done) | (simp [eqL, mkN_length, eqL, mkN_length, held_mkN okI_mk, held_mkN okEnt_mk, held_mkN okS_mk] at c18; done) | (simp [eqL, mkN_length, eqL, mkN_length, held_mkN okI_mk, held_mkN okEnt_mk, held_mkN okS_mk] at c5; done) | (simp [eqL, mkN_length, eqL, mkN_length, held_mkN okI_mk, held_mkN okEnt_mk, held_mkN okS_mk] at c82; omega) | (simp [eqL, mkN_length, eqL, mkN_length, held_mkN okI_mk, held_mkN okEnt_mk, held_mkN okS_mk] at c67; omega) | (simp [eqL, mkN_length, eqL, mkN_length, held_mkN okI_mk, held_mkN okEnt_mk, held_mkN okS_mk] at c62; omega)))
          ·
            rw [c82] at ha81
            refine cond_t ha81 rfl ?_
            refine wp_seq ?_
            refine wp_region_lit ?_
            refine wl_val ha81 rfl rfl rfl (op_assign ha81 rfl rfl) ?_
            intro a84 ha84; clear ha81 a81
            refine wpList_nil ?_
            refine then_n ?_
            refine wp_ret ?_
            refine then_r ?_
            refine ret1 ha84 rfl rfl ?_
            clear ha84 a84
            exact ret_mk hx80 (congrArg Value.bool (by first | rfl | omega | (simp [eqL, mkN_length, eqL, mkN_length, held_mkN okI_mk, held_mkN okEnt_mk, held_mkN okS_mk] at c82; done) | (simp [eqL, mkN_length, eqL, mkN_length, held_mkN okI_mk, held_mkN okEnt_mk, held_mkN okS_mk] at c67; done) | (simp [eqL, mkN_length, eqL, mkN_length, held_mkN okI_mk, held_mkN okEnt_mk, held_mkN okS_mk] at c62; done) | (simp [eqL, mkN_length, eqL, mkN_length, held_mkN okI_mk, held_mkN okEnt_mk, held_mkN okS_mk] at c18; done) | (simp [eqL, mkN_length, eqL, mkN_length, held_mkN okI_mk, held_mkN okEnt_mk, held_mkN okS_mk] at c5; done) | (simp [eqL, mkN_length, eqL, mkN_length, held_mkN okI_mk, held_mkN okEnt_mk, held_mkN okS_mk] at c82; omega) | (simp [eqL, mkN_length, eqL, mkN_length, held_mkN okI_mk, held_mkN okEnt_mk, held_mkN okS_mk] at c67; omega) | (simp [eqL, mkN_length, eqL, mkN_length, held_mkN okI_mk, held_mkN okEnt_mk, held_mkN okS_mk] at c62; omega)))
        ·
          rw [decide_eq_false c67] at ha66
          refine cond_t ha66 rfl ?_
          refine wp_seq ?_
          refine wp_region_lit ?_
          refine wl_val ha66 rfl rfl rfl (op_assign ha66 rfl rfl) ?_
          intro a85 ha85; clear ha66 a66
          refine wpList_nil ?_
          refine then_n ?_
          refine wp_ret ?_
          refine then_r ?_
          refine ret1 ha85 rfl rfl ?_
          clear ha85 a85
          exact ret_mk hx52 (congrArg Value.bool (by first | rfl | omega | (simp [eqL, mkN_length, eqL, mkN_length, held_mkN okI_mk, held_mkN okEnt_mk, held_mkN okS_mk] at c67; done) | (simp [eqL, mkN_length, eqL, mkN_length, held_mkN okI_mk, held_mkN okEnt_mk, held_mkN okS_mk] at c62; done) | (simp [eqL, mkN_length, eqL, mkN_length, held_mkN okI_mk, held_mkN okEnt_mk, held_mkN okS_mk] at c18; done) | (simp [eqL, mkN_length, eqL, mkN_length, held_mkN okI_mk, held_mkN okEnt_mk, held_mkN okS_mk] at c5; done) | (simp [eqL, mkN_length, eqL, mkN_length, held_mkN okI_mk, held_mkN okEnt_mk, held_mkN okS_mk] at c67; omega) | (simp [eqL, mkN_length, eqL, mkN_length, held_mkN okI_mk, held_mkN okEnt_mk, held_mkN okS_mk] at c62; omega) | (simp [eqL, mkN_length, eqL, mkN_length, held_mkN okI_mk, held_mkN okEnt_mk, held_mkN okS_mk] at c18; omega)))
      ·
        rw [decide_eq_false c62] at ha61
        refine wl_skip ha61 rfl rfl rfl ?_
        intro a86 ha86; clear ha61 a61
        refine wl_skip ha86 rfl rfl rfl ?_
        intro a87 ha87; clear ha86 a86
        refine wl_skip ha87 rfl rfl rfl ?_
        intro a88 ha88; clear ha87 a87
        refine wl_val ha88 rfl rfl rfl (op_pick_t ha88 rfl rfl rfl) ?_
        intro a89 ha89; clear ha88 a88
        refine wpList_nil ?_
        refine then_n ?_
        refine cond_t ha89 rfl ?_
        refine wp_seq ?_
        refine wp_region_lit ?_
        refine wl_val ha89 rfl rfl rfl (op_assign ha89 rfl rfl) ?_
        intro a90 ha90; clear ha89 a89
        refine wpList_nil ?_
        refine then_n ?_
        refine wp_ret ?_
        refine then_r ?_
        refine ret1 ha90 rfl rfl ?_
        clear ha90 a90
        exact ret_mk hx52 (congrArg Value.bool (by first | rfl | omega | (simp [eqL, mkN_length, eqL, mkN_length, held_mkN okI_mk, held_mkN okEnt_mk, held_mkN okS_mk] at c62; done) | (simp [eqL, mkN_length, eqL, mkN_length, held_mkN okI_mk, held_mkN okEnt_mk, held_mkN okS_mk] at c18; done) | (simp [eqL, mkN_length, eqL, mkN_length, held_mkN okI_mk, held_mkN okEnt_mk, held_mkN okS_mk] at c5; done) | (simp [eqL, mkN_length, eqL, mkN_length, held_mkN okI_mk, held_mkN okEnt_mk, held_mkN okS_mk] at c62; omega) | (simp [eqL, mkN_length, eqL, mkN_length, held_mkN okI_mk, held_mkN okEnt_mk, held_mkN okS_mk] at c18; omega) | (simp [eqL, mkN_length, eqL, mkN_length, held_mkN okI_mk, held_mkN okEnt_mk, held_mkN okS_mk] at c5; omega)))

theorem c_laws_FnExactLowestCash (w0 : World) (v_aList : Value) (aList : List (Int × Int × Str × Int)) {S_aList : Nat → Prop} (h_aList : Rds shEnt S_aList w0 v_aList aList) :
    Calls Try.prog 6 #[v_aList] w0 (Ret w0 (fun v _ => v = .bool (true))) := by
  refine enter (N := 49) Try.func6 rfl rfl rfl ?_
  intro a0 ha0
  have hx0 := Ext.rfl' w0
  have hl_aList := h_aList.length_le
  have hcl := costL_len costEnt aList
  refine wp_seq ?_
  refine wp_region_lit ?_
  refine wl_val ha0 rfl rfl rfl (op_assign ha0 rfl rfl) ?_
  intro a1 ha1; clear ha0 a0
  refine wpList_nil ?_
  refine then_n ?_
  refine wp_seq ?_
  refine wp_region_lit ?_
  refine wl_val ha1 rfl rfl rfl (op_assign ha1 rfl rfl) ?_
  intro a2 ha2; clear ha1 a1
  refine wpList_nil ?_
  refine then_n ?_
  refine wp_seq ?_
  refine wp_region_lit ?_
  refine wl_val ha2 rfl rfl rfl (op_move ha2 rfl rfl) ?_
  intro a3 ha3; clear ha2 a2
  refine wl_val ha3 rfl rfl rfl (op_move ha3 rfl rfl) ?_
  intro a4 ha4; clear ha3 a3
  refine wl_callR ha4 rfl rfl rfl (op_call ha4 rfl cb15 rfl) (c_laws_szEntryS _ v_aList aList (1048576 : Int) (h_aList.ext pos_shEnt hx0) (by first | assumption | omega | (simp; omega) | (simp [mkN_length, held_mkN okI_mk, held_mkN okEnt_mk, held_mkN okS_mk]; omega)) (by first | assumption | omega | (simp; omega) | (simp [mkN_length, held_mkN okI_mk, held_mkN okEnt_mk, held_mkN okS_mk]; omega))) ?_
  rintro v5 w6 he7 rfl a8 ha8; clear ha4 a4
  have hx9 := hx0.trans' he7
  have hzhx9 := he7.size
  refine wl_val ha8 rfl rfl rfl (op_assign ha8 rfl rfl) ?_
  intro a10 ha10; clear ha8 a8
  refine wpList_nil ?_
  refine then_n ?_
  refine wp_seq ?_
  refine wp_seq ?_
  refine wp_region_lit ?_
  refine wl_val ha10 rfl rfl rfl (op_move ha10 rfl rfl) ?_
  intro a11 ha11; clear ha10 a10
  refine wl_val ha11 rfl rfl rfl (op_lss ha11 rfl rfl rfl) ?_
  intro a12 ha12; clear ha11 a11
  refine wpList_nil ?_
  refine then_n ?_
  by_cases c13 : (szR (1048576 : Int) (costL costEnt aList) : Int) < (0 : Int)
  ·
    rw [decide_eq_true c13] at ha12
    refine cond_t ha12 rfl ?_
    refine wp_seq ?_
    refine wp_region_lit ?_
    refine wl_val ha12 rfl rfl rfl (op_assign ha12 rfl rfl) ?_
    intro a14 ha14; clear ha12 a12
    refine wpList_nil ?_
    refine then_n ?_
    refine wp_ret ?_
    refine then_r ?_
    refine ret1 ha14 rfl rfl ?_
    clear ha14 a14
    exact ret_mk hx9 (congrArg Value.bool (by first | rfl | omega | (simp [eqL, mkN_length, eqL, mkN_length, held_mkN okI_mk, held_mkN okEnt_mk, held_mkN okS_mk] at c13; done) | (simp [eqL, mkN_length, eqL, mkN_length, held_mkN okI_mk, held_mkN okEnt_mk, held_mkN okS_mk] at c13; omega)))
  ·
    rw [decide_eq_false c13] at ha12
    have hzc13 := szR_ok c13
    refine cond_f ha12 rfl ?_
    refine wp_skip ?_
    refine then_n ?_
    refine wp_seq ?_
    refine wp_region_lit ?_
    refine wl_val ha12 rfl rfl rfl (op_move ha12 rfl rfl) ?_
    intro a15 ha15; clear ha12 a12
    refine wl_callR ha15 rfl rfl rfl (op_call ha15 rfl cb17 rfl) (c_laws_toEntryS _ v_aList aList (h_aList.ext pos_shEnt hx9) (by first | assumption | omega | (simp; omega) | (simp [mkN_length, held_mkN okI_mk, held_mkN okEnt_mk, held_mkN okS_mk]; omega))) ?_
    rintro v16 w17 he18 ho19 a20 ha20; clear ha15 a15
    have hx21 := hx9.trans' he18
    have hzhx21 := he18.size
    refine wl_callR ha20 rfl rfl rfl (op_call ha20 rfl cb24 rfl) (c_spec_LowestCash _ v16 ((aList)) (ho19.rds pos_shEnt) (by first | assumption | omega | (simp; omega) | (simp [mkN_length, held_mkN okI_mk, held_mkN okEnt_mk, held_mkN okS_mk]; omega))) ?_
    rintro v22 w23 he24 rfl a25 ha25; clear ha20 a20
    have hx26 := hx21.trans' he24
    have hzhx26 := he24.size
    replace ho19 := ho19.ext he24
    refine wl_val ha25 rfl rfl rfl (op_move ha25 rfl rfl) ?_
    intro a27 ha27; clear ha25 a25
    refine wl_val ha27 rfl rfl rfl (op_extract ha27 rfl rfl rfl) ?_
    intro a28 ha28; clear ha27 a27
    refine wl_val ha28 rfl rfl rfl (op_extract ha28 rfl rfl rfl) ?_
    intro a29 ha29; clear ha28 a28
    refine wl_val ha29 rfl rfl rfl (op_extract ha29 rfl rfl rfl) ?_
    intro a30 ha30; clear ha29 a29
    refine wl_val ha30 rfl rfl rfl (op_assign ha30 rfl rfl) ?_
    intro a31 ha31; clear ha30 a30
    refine wl_val ha31 rfl rfl rfl (op_assign ha31 rfl rfl) ?_
    intro a32 ha32; clear ha31 a31
    refine wl_val ha32 rfl rfl rfl (op_assign ha32 rfl rfl) ?_
    intro a33 ha33; clear ha32 a32
    refine wpList_nil ?_
    refine then_n ?_
    refine wp_seq ?_
    refine wp_region_lit ?_
    refine wl_val ha33 rfl rfl rfl (op_move ha33 rfl rfl) ?_
    intro a34 ha34; clear ha33 a33
    refine wl_callR ha34 rfl rfl rfl (op_call ha34 rfl cb17 rfl) (c_laws_toEntryS _ v_aList aList (h_aList.ext pos_shEnt hx26) (by first | assumption | omega | (simp; omega) | (simp [mkN_length, held_mkN okI_mk, held_mkN okEnt_mk, held_mkN okS_mk]; omega))) ?_
    rintro v35 w36 he37 ho38 a39 ha39; clear ha34 a34
    have hx40 := hx26.trans' he37
    have hzhx40 := he37.size
    replace ho19 := ho19.ext he37
    refine wl_val ha39 rfl rfl rfl (op_assign ha39 rfl rfl) ?_
    intro a41 ha41; clear ha39 a39
    refine wpList_nil ?_
    refine then_n ?_
    refine wp_seq ?_
    refine wp_region_lit ?_
    refine wl_val ha41 rfl rfl rfl (op_move ha41 rfl rfl) ?_
    intro a42 ha42; clear ha41 a41
    refine wl_callR ha42 rfl rfl rfl (op_call ha42 rfl cb25 rfl) (c_impl_LowestCash _ v35 ((aList)) (ho38.rds pos_shEnt) (by first | assumption | omega | (simp; omega) | (simp [mkN_length, held_mkN okI_mk, held_mkN okEnt_mk, held_mkN okS_mk]; omega))) ?_
    rintro v43 w44 he45 rfl a46 ha46; clear ha42 a42
    have hx47 := hx40.trans' he45
    have hzhx47 := he45.size
    replace ho19 := ho19.ext he45
    replace ho38 := ho38.ext he45
    refine wl_val ha46 rfl rfl rfl (op_move ha46 rfl rfl) ?_
    intro a48 ha48; clear ha46 a46
    refine wl_val ha48 rfl rfl rfl (op_extract ha48 rfl rfl rfl) ?_
    intro a49 ha49; clear ha48 a48
    refine wl_val ha49 rfl rfl rfl (op_extract ha49 rfl rfl rfl) ?_
    intro a50 ha50; clear ha49 a49
    refine wl_val ha50 rfl rfl rfl (op_extract ha50 rfl rfl rfl) ?_
    intro a51 ha51; clear ha50 a50
    refine wl_val ha51 rfl rfl rfl (op_assign ha51 rfl rfl) ?_
    intro a52 ha52; clear ha51 a51
    refine wl_val ha52 rfl rfl rfl (op_assign ha52 rfl rfl) ?_
    intro a53 ha53; clear ha52 a52
    refine wl_val ha53 rfl rfl rfl (op_assign ha53 rfl rfl) ?_
    intro a54 ha54; clear ha53 a53
    refine wpList_nil ?_
    refine then_n ?_
    refine wp_seq ?_
    refine wp_seq ?_
    refine wp_region_lit ?_
    refine wl_val ha54 rfl rfl rfl (op_move ha54 rfl rfl) ?_
    intro a55 ha55; clear ha54 a54
    refine wl_val ha55 rfl rfl rfl (op_move ha55 rfl rfl) ?_
    intro a56 ha56; clear ha55 a55
    refine wl_val ha56 rfl rfl rfl ((op_neq ha56 rfl rfl rfl).to (congrArg Value.bool decide_not)) ?_
    intro a57 ha57; clear ha56 a56
    refine wl_val ha57 rfl rfl rfl (op_move ha57 rfl rfl) ?_
    intro a58 ha58; clear ha57 a57
    by_cases c59 : (if dbB ((aList)) then (lwS ((aList))).1 else 0 : Int) = (if dbB ((aList)) then (lwS ((aList))).1 else 0 : Int)
    ·
      rw [decide_eq_true c59] at ha58
      refine wl_val ha58 rfl rfl rfl (op_move ha58 rfl rfl) ?_
      intro a60 ha60; clear ha58 a58
      refine wl_val ha60 rfl rfl rfl (op_move ha60 rfl rfl) ?_
      intro a61 ha61; clear ha60 a60
      refine wl_val ha61 rfl rfl rfl ((op_neq ha61 rfl rfl rfl).to (congrArg Value.bool decide_not)) ?_
      intro a62 ha62; clear ha61 a61
      refine wl_val ha62 rfl rfl rfl (op_pick_f ha62 rfl rfl rfl) ?_
      intro a63 ha63; clear ha62 a62
      refine wl_val ha63 rfl rfl rfl (op_move ha63 rfl rfl) ?_
      intro a64 ha64; clear ha63 a63
      by_cases c65 : (if dbB ((aList)) then (lwS ((aList))).2 else 0 : Int) = (if dbB ((aList)) then (lwS ((aList))).2 else 0 : Int)
      ·
        rw [decide_eq_true c65] at ha64
        refine wl_val ha64 rfl rfl rfl (op_move ha64 rfl rfl) ?_
        intro a66 ha66; clear ha64 a64
        refine wl_val ha66 rfl rfl rfl (op_move ha66 rfl rfl) ?_
        intro a67 ha67; clear ha66 a66
        refine wl_val ha67 rfl rfl rfl ((op_neq ha67 rfl rfl rfl).to (congrArg Value.bool decide_not)) ?_
        intro a68 ha68; clear ha67 a67
        refine wl_val ha68 rfl rfl rfl (op_pick_f ha68 rfl rfl rfl) ?_
        intro a69 ha69; clear ha68 a68
        refine wpList_nil ?_
        refine then_n ?_
        by_cases c70 : (if dbB ((aList)) then 0 else 1 : Int) = (if dbB ((aList)) then 0 else 1 : Int)
        ·
          rw [decide_eq_true c70] at ha69
          refine cond_f ha69 rfl ?_
          refine wp_skip ?_
          refine then_n ?_
          refine wp_seq ?_
          refine wp_seq ?_
          refine wp_region_lit ?_
          refine wl_val ha69 rfl rfl rfl (op_move ha69 rfl rfl) ?_
          intro a71 ha71; clear ha69 a69
          refine wl_val ha71 rfl rfl rfl (op_move ha71 rfl rfl) ?_
          intro a72 ha72; clear ha71 a71
          refine wl_callR ha72 rfl rfl rfl (op_call ha72 rfl cb17 rfl) (c_laws_toEntryS _ v_aList aList (h_aList.ext pos_shEnt hx47) (by first | assumption | omega | (simp; omega) | (simp [mkN_length, held_mkN okI_mk, held_mkN okEnt_mk, held_mkN okS_mk]; omega))) ?_
          rintro v73 w74 he75 ho76 a77 ha77; clear ha72 a72
          have hx78 := hx47.trans' he75
          have hzhx78 := he75.size
          replace ho19 := ho19.ext he75
          replace ho38 := ho38.ext he75
          refine wl_callR ha77 rfl rfl rfl (op_call ha77 rfl cb19 rfl) (c_laws_eqEntryS _ v35 ((aList)) v73 ((aList)) (ho38.rds pos_shEnt) (ho76.rds pos_shEnt)) ?_
          rintro v79 w80 he81 rfl a82 ha82; clear ha77 a77
          have hx83 := hx78.trans' he81
          have hzhx83 := he81.size
          replace ho19 := ho19.ext he81
          replace ho38 := ho38.ext he81
          replace ho76 := ho76.ext he81
          refine wl_val ha82 rfl rfl rfl (op_not ha82 rfl rfl) ?_
          intro a84 ha84; clear ha82 a82
          refine wpList_nil ?_
          refine then_n ?_
          rcases Bool.eq_false_or_eq_true (eqL ((aList)) ((aList))) with c85 | c85
          ·
            rw [c85] at ha84
            refine cond_f ha84 rfl ?_
            refine wp_skip ?_
            refine then_n ?_
            refine wp_seq ?_
            refine wp_region_lit ?_
            refine wl_val ha84 rfl rfl rfl (op_assign ha84 rfl rfl) ?_
            intro a86 ha86; clear ha84 a84
            refine wpList_nil ?_
            refine then_n ?_
            refine wp_ret ?_
            refine ret1 ha86 rfl rfl ?_
            clear ha86 a86
            exact ret_mk hx83 (congrArg Value.bool (by first | rfl | omega | (simp [eqL, mkN_length, eqL, mkN_length, held_mkN okI_mk, held_mkN okEnt_mk, held_mkN okS_mk] at c85; done) | (simp [eqL, mkN_length, eqL, mkN_length, held_mkN okI_mk, held_mkN okEnt_mk, held_mkN okS_mk] at c70; done) | (simp [eqL, mkN_length, eqL, mkN_length, held_mkN okI_mk, held_mkN okEnt_mk, held_mkN okS_mk] at c65; done) | (simp [eqL, mkN_length, eqL, mkN_length, held_mkN okI_mk, held_mkN okEnt_mk, held_mkN okS_mk] at c59; done) | (simp [eqL, mkN_length, eqL, mkN_length, held_mkN okI_mk, held_mkN okEnt_mk, held_mkN okS_mk] at c13; done) | (simp [eqL, mkN_length, eqL, mkN_length, held_mkN okI_mk, held_mkN okEnt_mk, held_mkN okS_mk] at c85; omega) | (simp [eqL, mkN_length, eqL, mkN_length, held_mkN okI_mk, held_mkN okEnt_mk, held_mkN okS_mk] at c70; omega) | (simp [eqL, mkN_length, eqL, mkN_length, held_mkN okI_mk, held_mkN okEnt_mk, held_mkN okS_mk] at c65; omega)))
          ·
            rw [c85] at ha84
            refine cond_t ha84 rfl ?_
            refine wp_seq ?_
            refine wp_region_lit ?_
            refine wl_val ha84 rfl rfl rfl (op_assign ha84 rfl rfl) ?_
            intro a87 ha87; clear ha84 a84
            refine wpList_nil ?_
            refine then_n ?_
            refine wp_ret ?_
            refine then_r ?_
            refine ret1 ha87 rfl rfl ?_
            clear ha87 a87
            exact ret_mk hx83 (congrArg Value.bool (by first | rfl | omega | (simp [eqL, mkN_length, eqL, mkN_length, held_mkN okI_mk, held_mkN okEnt_mk, held_mkN okS_mk] at c85; done) | (simp [eqL, mkN_length, eqL, mkN_length, held_mkN okI_mk, held_mkN okEnt_mk, held_mkN okS_mk] at c70; done) | (simp [eqL, mkN_length, eqL, mkN_length, held_mkN okI_mk, held_mkN okEnt_mk, held_mkN okS_mk] at c65; done) | (simp [eqL, mkN_length, eqL, mkN_length, held_mkN okI_mk, held_mkN okEnt_mk, held_mkN okS_mk] at c59; done) | (simp [eqL, mkN_length, eqL, mkN_length, held_mkN okI_mk, held_mkN okEnt_mk, held_mkN okS_mk] at c13; done) | (simp [eqL, mkN_length, eqL, mkN_length, held_mkN okI_mk, held_mkN okEnt_mk, held_mkN okS_mk] at c85; omega) | (simp [eqL, mkN_length, eqL, mkN_length, held_mkN okI_mk, held_mkN okEnt_mk, held_mkN okS_mk] at c70; omega) | (simp [eqL, mkN_length, eqL, mkN_length, held_mkN okI_mk, held_mkN okEnt_mk, held_mkN okS_mk] at c65; omega)))
        ·
          rw [decide_eq_false c70] at ha69
          refine cond_t ha69 rfl ?_
          refine wp_seq ?_
          refine wp_region_lit ?_
          refine wl_val ha69 rfl rfl rfl (op_assign ha69 rfl rfl) ?_
          intro a88 ha88; clear ha69 a69
          refine wpList_nil ?_
          refine then_n ?_
          refine wp_ret ?_
          refine then_r ?_
          refine ret1 ha88 rfl rfl ?_
          clear ha88 a88
          exact ret_mk hx47 (congrArg Value.bool (by first | rfl | omega | (simp [eqL, mkN_length, eqL, mkN_length, held_mkN okI_mk, held_mkN okEnt_mk, held_mkN okS_mk] at c70; done) | (simp [eqL, mkN_length, eqL, mkN_length, held_mkN okI_mk, held_mkN okEnt_mk, held_mkN okS_mk] at c65; done) | (simp [eqL, mkN_length, eqL, mkN_length, held_mkN okI_mk, held_mkN okEnt_mk, held_mkN okS_mk] at c59; done) | (simp [eqL, mkN_length, eqL, mkN_length, held_mkN okI_mk, held_mkN okEnt_mk, held_mkN okS_mk] at c13; done) | (simp [eqL, mkN_length, eqL, mkN_length, held_mkN okI_mk, held_mkN okEnt_mk, held_mkN okS_mk] at c70; omega) | (simp [eqL, mkN_length, eqL, mkN_length, held_mkN okI_mk, held_mkN okEnt_mk, held_mkN okS_mk] at c65; omega) | (simp [eqL, mkN_length, eqL, mkN_length, held_mkN okI_mk, held_mkN okEnt_mk, held_mkN okS_mk] at c59; omega)))
      ·
        rw [decide_eq_false c65] at ha64
        refine wl_skip ha64 rfl rfl rfl ?_
        intro a89 ha89; clear ha64 a64
        refine wl_skip ha89 rfl rfl rfl ?_
        intro a90 ha90; clear ha89 a89
        refine wl_skip ha90 rfl rfl rfl ?_
        intro a91 ha91; clear ha90 a90
        refine wl_val ha91 rfl rfl rfl (op_pick_t ha91 rfl rfl rfl) ?_
        intro a92 ha92; clear ha91 a91
        refine wpList_nil ?_
        refine then_n ?_
        refine cond_t ha92 rfl ?_
        refine wp_seq ?_
        refine wp_region_lit ?_
        refine wl_val ha92 rfl rfl rfl (op_assign ha92 rfl rfl) ?_
        intro a93 ha93; clear ha92 a92
        refine wpList_nil ?_
        refine then_n ?_
        refine wp_ret ?_
        refine then_r ?_
        refine ret1 ha93 rfl rfl ?_
        clear ha93 a93
        exact ret_mk hx47 (congrArg Value.bool (by first | rfl | omega | (simp [eqL, mkN_length, eqL, mkN_length, held_mkN okI_mk, held_mkN okEnt_mk, held_mkN okS_mk] at c65; done) | (simp [eqL, mkN_length, eqL, mkN_length, held_mkN okI_mk, held_mkN okEnt_mk, held_mkN okS_mk] at c59; done) | (simp [eqL, mkN_length, eqL, mkN_length, held_mkN okI_mk, held_mkN okEnt_mk, held_mkN okS_mk] at c13; done) | (simp [eqL, mkN_length, eqL, mkN_length, held_mkN okI_mk, held_mkN okEnt_mk, held_mkN okS_mk] at c65; omega) | (simp [eqL, mkN_length, eqL, mkN_length, held_mkN okI_mk, held_mkN okEnt_mk, held_mkN okS_mk] at c59; omega) | (simp [eqL, mkN_length, eqL, mkN_length, held_mkN okI_mk, held_mkN okEnt_mk, held_mkN okS_mk] at c13; omega)))
    ·
      rw [decide_eq_false c59] at ha58
      refine wl_skip ha58 rfl rfl rfl ?_
      intro a94 ha94; clear ha58 a58
      refine wl_skip ha94 rfl rfl rfl ?_
      intro a95 ha95; clear ha94 a94
      refine wl_skip ha95 rfl rfl rfl ?_
      intro a96 ha96; clear ha95 a95
      refine wl_val ha96 rfl rfl rfl (op_pick_t ha96 rfl rfl rfl) ?_
      intro a97 ha97; clear ha96 a96
      refine wl_val ha97 rfl rfl rfl (op_move ha97 rfl rfl) ?_
      intro a98 ha98; clear ha97 a97
      refine wl_skip ha98 rfl rfl rfl ?_
      intro a99 ha99; clear ha98 a98
      refine wl_skip ha99 rfl rfl rfl ?_
      intro a100 ha100; clear ha99 a99
      refine wl_skip ha100 rfl rfl rfl ?_
      intro a101 ha101; clear ha100 a100
      refine wl_val ha101 rfl rfl rfl (op_pick_t ha101 rfl rfl rfl) ?_
      intro a102 ha102; clear ha101 a101
      refine wpList_nil ?_
      refine then_n ?_
      refine cond_t ha102 rfl ?_
      refine wp_seq ?_
      refine wp_region_lit ?_
      refine wl_val ha102 rfl rfl rfl (op_assign ha102 rfl rfl) ?_
      intro a103 ha103; clear ha102 a102
      refine wpList_nil ?_
      refine then_n ?_
      refine wp_ret ?_
      refine then_r ?_
      refine ret1 ha103 rfl rfl ?_
      clear ha103 a103
      exact ret_mk hx47 (congrArg Value.bool (by first | rfl | omega | (simp [eqL, mkN_length, eqL, mkN_length, held_mkN okI_mk, held_mkN okEnt_mk, held_mkN okS_mk] at c59; done) | (simp [eqL, mkN_length, eqL, mkN_length, held_mkN okI_mk, held_mkN okEnt_mk, held_mkN okS_mk] at c13; done) | (simp [eqL, mkN_length, eqL, mkN_length, held_mkN okI_mk, held_mkN okEnt_mk, held_mkN okS_mk] at c59; omega) | (simp [eqL, mkN_length, eqL, mkN_length, held_mkN okI_mk, held_mkN okEnt_mk, held_mkN okS_mk] at c13; omega)))

theorem c_laws_FnExactCashOf (w0 : World) (v_aList : Value) (aList : List (Int × Int × Str × Int)) {S_aList : Nat → Prop} (aDay : Int) (h_aList : Rds shEnt S_aList w0 v_aList aList) (g0 : I64 aDay) :
    Calls Try.prog 7 #[v_aList, .int .i64 aDay] w0 (Ret w0 (fun v _ => v = .bool (true))) := by
  refine enter (N := 44) Try.func7 rfl rfl rfl ?_
  intro a0 ha0
  have hx0 := Ext.rfl' w0
  have hl_aList := h_aList.length_le
  have hcl := costL_len costEnt aList
  refine wp_seq ?_
  refine wp_region_lit ?_
  refine wl_val ha0 rfl rfl rfl (op_assign ha0 rfl rfl) ?_
  intro a1 ha1; clear ha0 a0
  refine wpList_nil ?_
  refine then_n ?_
  refine wp_seq ?_
  refine wp_region_lit ?_
  refine wl_val ha1 rfl rfl rfl (op_assign ha1 rfl rfl) ?_
  intro a2 ha2; clear ha1 a1
  refine wpList_nil ?_
  refine then_n ?_
  refine wp_seq ?_
  refine wp_region_lit ?_
  refine wl_val ha2 rfl rfl rfl (op_move ha2 rfl rfl) ?_
  intro a3 ha3; clear ha2 a2
  refine wl_val ha3 rfl rfl rfl (op_move ha3 rfl rfl) ?_
  intro a4 ha4; clear ha3 a3
  refine wl_callR ha4 rfl rfl rfl (op_call ha4 rfl cb15 rfl) (c_laws_szEntryS _ v_aList aList (1048576 : Int) (h_aList.ext pos_shEnt hx0) (by first | assumption | omega | (simp; omega) | (simp [mkN_length, held_mkN okI_mk, held_mkN okEnt_mk, held_mkN okS_mk]; omega)) (by first | assumption | omega | (simp; omega) | (simp [mkN_length, held_mkN okI_mk, held_mkN okEnt_mk, held_mkN okS_mk]; omega))) ?_
  rintro v5 w6 he7 rfl a8 ha8; clear ha4 a4
  have hx9 := hx0.trans' he7
  have hzhx9 := he7.size
  refine wl_val ha8 rfl rfl rfl (op_assign ha8 rfl rfl) ?_
  intro a10 ha10; clear ha8 a8
  refine wpList_nil ?_
  refine then_n ?_
  refine wp_seq ?_
  refine wp_seq ?_
  refine wp_region_lit ?_
  refine wl_val ha10 rfl rfl rfl (op_move ha10 rfl rfl) ?_
  intro a11 ha11; clear ha10 a10
  refine wl_val ha11 rfl rfl rfl (op_lss ha11 rfl rfl rfl) ?_
  intro a12 ha12; clear ha11 a11
  refine wpList_nil ?_
  refine then_n ?_
  by_cases c13 : (szR (1048576 : Int) (costL costEnt aList) : Int) < (0 : Int)
  ·
    rw [decide_eq_true c13] at ha12
    refine cond_t ha12 rfl ?_
    refine wp_seq ?_
    refine wp_region_lit ?_
    refine wl_val ha12 rfl rfl rfl (op_assign ha12 rfl rfl) ?_
    intro a14 ha14; clear ha12 a12
    refine wpList_nil ?_
    refine then_n ?_
    refine wp_ret ?_
    refine then_r ?_
    refine ret1 ha14 rfl rfl ?_
    clear ha14 a14
    exact ret_mk hx9 (congrArg Value.bool (by first | rfl | omega | (simp [eqL, mkN_length, eqL, mkN_length, held_mkN okI_mk, held_mkN okEnt_mk, held_mkN okS_mk] at c13; done) | (simp [eqL, mkN_length, eqL, mkN_length, held_mkN okI_mk, held_mkN okEnt_mk, held_mkN okS_mk] at c13; omega)))
  ·
    rw [decide_eq_false c13] at ha12
    have hzc13 := szR_ok c13
    refine cond_f ha12 rfl ?_
    refine wp_skip ?_
    refine then_n ?_
    refine wp_seq ?_
    refine wp_region_lit ?_
    refine wl_val ha12 rfl rfl rfl (op_move ha12 rfl rfl) ?_
    intro a15 ha15; clear ha12 a12
    refine wl_callR ha15 rfl rfl rfl (op_call ha15 rfl cb17 rfl) (c_laws_toEntryS _ v_aList aList (h_aList.ext pos_shEnt hx9) (by first | assumption | omega | (simp; omega) | (simp [mkN_length, held_mkN okI_mk, held_mkN okEnt_mk, held_mkN okS_mk]; omega))) ?_
    rintro v16 w17 he18 ho19 a20 ha20; clear ha15 a15
    have hx21 := hx9.trans' he18
    have hzhx21 := he18.size
    refine wl_val ha20 rfl rfl rfl (op_move ha20 rfl rfl) ?_
    intro a22 ha22; clear ha20 a20
    refine wl_callR ha22 rfl rfl rfl (op_call ha22 rfl cb26 rfl) (c_spec_CashOf _ v16 ((aList)) aDay (ho19.rds pos_shEnt) (by first | assumption | omega | (simp; omega) | (simp [mkN_length, held_mkN okI_mk, held_mkN okEnt_mk, held_mkN okS_mk]; omega))) ?_
    rintro v23 w24 he25 rfl a26 ha26; clear ha22 a22
    have hx27 := hx21.trans' he25
    have hzhx27 := he25.size
    replace ho19 := ho19.ext he25
    refine wl_val ha26 rfl rfl rfl (op_move ha26 rfl rfl) ?_
    intro a28 ha28; clear ha26 a26
    refine wl_val ha28 rfl rfl rfl (op_extract ha28 rfl rfl rfl) ?_
    intro a29 ha29; clear ha28 a28
    refine wl_val ha29 rfl rfl rfl (op_extract ha29 rfl rfl rfl) ?_
    intro a30 ha30; clear ha29 a29
    refine wl_val ha30 rfl rfl rfl (op_assign ha30 rfl rfl) ?_
    intro a31 ha31; clear ha30 a30
    refine wl_val ha31 rfl rfl rfl (op_assign ha31 rfl rfl) ?_
    intro a32 ha32; clear ha31 a31
    refine wpList_nil ?_
    refine then_n ?_
    refine wp_seq ?_
    refine wp_region_lit ?_
    refine wl_val ha32 rfl rfl rfl (op_move ha32 rfl rfl) ?_
    intro a33 ha33; clear ha32 a32
    refine wl_callR ha33 rfl rfl rfl (op_call ha33 rfl cb17 rfl) (c_laws_toEntryS _ v_aList aList (h_aList.ext pos_shEnt hx27) (by first | assumption | omega | (simp; omega) | (simp [mkN_length, held_mkN okI_mk, held_mkN okEnt_mk, held_mkN okS_mk]; omega))) ?_
    rintro v34 w35 he36 ho37 a38 ha38; clear ha33 a33
    have hx39 := hx27.trans' he36
    have hzhx39 := he36.size
    replace ho19 := ho19.ext he36
    refine wl_val ha38 rfl rfl rfl (op_assign ha38 rfl rfl) ?_
    intro a40 ha40; clear ha38 a38
    refine wpList_nil ?_
    refine then_n ?_
    refine wp_seq ?_
    refine wp_region_lit ?_
    refine wl_val ha40 rfl rfl rfl (op_move ha40 rfl rfl) ?_
    intro a41 ha41; clear ha40 a40
    refine wl_val ha41 rfl rfl rfl (op_move ha41 rfl rfl) ?_
    intro a42 ha42; clear ha41 a41
    refine wl_callR ha42 rfl rfl rfl (op_call ha42 rfl cb27 rfl) (c_impl_CashOf _ v34 ((aList)) aDay (ho37.rds pos_shEnt) (by first | assumption | omega | (simp; omega) | (simp [mkN_length, held_mkN okI_mk, held_mkN okEnt_mk, held_mkN okS_mk]; omega))) ?_
    rintro v43 w44 he45 rfl a46 ha46; clear ha42 a42
    have hx47 := hx39.trans' he45
    have hzhx47 := he45.size
    replace ho19 := ho19.ext he45
    replace ho37 := ho37.ext he45
    refine wl_val ha46 rfl rfl rfl (op_move ha46 rfl rfl) ?_
    intro a48 ha48; clear ha46 a46
    refine wl_val ha48 rfl rfl rfl (op_extract ha48 rfl rfl rfl) ?_
    intro a49 ha49; clear ha48 a48
    refine wl_val ha49 rfl rfl rfl (op_extract ha49 rfl rfl rfl) ?_
    intro a50 ha50; clear ha49 a49
    refine wl_val ha50 rfl rfl rfl (op_assign ha50 rfl rfl) ?_
    intro a51 ha51; clear ha50 a50
    refine wl_val ha51 rfl rfl rfl (op_assign ha51 rfl rfl) ?_
    intro a52 ha52; clear ha51 a51
    refine wpList_nil ?_
    refine then_n ?_
    refine wp_seq ?_
    refine wp_seq ?_
    refine wp_region_lit ?_
    refine wl_val ha52 rfl rfl rfl (op_move ha52 rfl rfl) ?_
    intro a53 ha53; clear ha52 a52
    refine wl_val ha53 rfl rfl rfl (op_move ha53 rfl rfl) ?_
    intro a54 ha54; clear ha53 a53
    refine wl_val ha54 rfl rfl rfl ((op_neq ha54 rfl rfl rfl).to (congrArg Value.bool decide_not)) ?_
    intro a55 ha55; clear ha54 a54
    refine wl_val ha55 rfl rfl rfl (op_move ha55 rfl rfl) ?_
    intro a56 ha56; clear ha55 a55
    by_cases c57 : (if codeD ((aList)) aDay = 0 then sumI (csE aDay) ((aList)) else 0 : Int) = (if codeD ((aList)) aDay = 0 then sumI (csE aDay) ((aList)) else 0 : Int)
    ·
      rw [decide_eq_true c57] at ha56
      refine wl_val ha56 rfl rfl rfl (op_move ha56 rfl rfl) ?_
      intro a58 ha58; clear ha56 a56
      refine wl_val ha58 rfl rfl rfl (op_move ha58 rfl rfl) ?_
      intro a59 ha59; clear ha58 a58
      refine wl_val ha59 rfl rfl rfl ((op_neq ha59 rfl rfl rfl).to (congrArg Value.bool decide_not)) ?_
      intro a60 ha60; clear ha59 a59
      refine wl_val ha60 rfl rfl rfl (op_pick_f ha60 rfl rfl rfl) ?_
      intro a61 ha61; clear ha60 a60
      refine wpList_nil ?_
      refine then_n ?_
      by_cases c62 : (codeD ((aList)) aDay : Int) = (codeD ((aList)) aDay : Int)
      ·
        rw [decide_eq_true c62] at ha61
        refine cond_f ha61 rfl ?_
        refine wp_skip ?_
        refine then_n ?_
        refine wp_seq ?_
        refine wp_seq ?_
        refine wp_region_lit ?_
        refine wl_val ha61 rfl rfl rfl (op_move ha61 rfl rfl) ?_
        intro a63 ha63; clear ha61 a61
        refine wl_val ha63 rfl rfl rfl (op_move ha63 rfl rfl) ?_
        intro a64 ha64; clear ha63 a63
        refine wl_callR ha64 rfl rfl rfl (op_call ha64 rfl cb17 rfl) (c_laws_toEntryS _ v_aList aList (h_aList.ext pos_shEnt hx47) (by first | assumption | omega | (simp; omega) | (simp [mkN_length, held_mkN okI_mk, held_mkN okEnt_mk, held_mkN okS_mk]; omega))) ?_
        rintro v65 w66 he67 ho68 a69 ha69; clear ha64 a64
        have hx70 := hx47.trans' he67
        have hzhx70 := he67.size
        replace ho19 := ho19.ext he67
        replace ho37 := ho37.ext he67
        refine wl_callR ha69 rfl rfl rfl (op_call ha69 rfl cb19 rfl) (c_laws_eqEntryS _ v34 ((aList)) v65 ((aList)) (ho37.rds pos_shEnt) (ho68.rds pos_shEnt)) ?_
        rintro v71 w72 he73 rfl a74 ha74; clear ha69 a69
        have hx75 := hx70.trans' he73
        have hzhx75 := he73.size
        replace ho19 := ho19.ext he73
        replace ho37 := ho37.ext he73
        replace ho68 := ho68.ext he73
        refine wl_val ha74 rfl rfl rfl (op_not ha74 rfl rfl) ?_
        intro a76 ha76; clear ha74 a74
        refine wpList_nil ?_
        refine then_n ?_
        rcases Bool.eq_false_or_eq_true (eqL ((aList)) ((aList))) with c77 | c77
        ·
          rw [c77] at ha76
          refine cond_f ha76 rfl ?_
          refine wp_skip ?_
          refine then_n ?_
          refine wp_seq ?_
          refine wp_region_lit ?_
          refine wl_val ha76 rfl rfl rfl (op_assign ha76 rfl rfl) ?_
          intro a78 ha78; clear ha76 a76
          refine wpList_nil ?_
          refine then_n ?_
          refine wp_ret ?_
          refine ret1 ha78 rfl rfl ?_
          clear ha78 a78
          exact ret_mk hx75 (congrArg Value.bool (by first | rfl | omega | (simp [eqL, mkN_length, eqL, mkN_length, held_mkN okI_mk, held_mkN okEnt_mk, held_mkN okS_mk] at c77; done) | (simp [eqL, mkN_length, eqL, mkN_length, held_mkN okI_mk, held_mkN okEnt_mk, held_mkN okS_mk] at c62; done) | (simp [eqL, mkN_length, eqL, mkN_length, held_mkN okI_mk, held_mkN okEnt_mk, held_mkN okS_mk] at c57; done) | (simp [eqL, mkN_length, eqL, mkN_length, held_mkN okI_mk, held_mkN okEnt_mk, held_mkN okS_mk] at c13; done) | (simp [eqL, mkN_length, eqL, mkN_length, held_mkN okI_mk, held_mkN okEnt_mk, held_mkN okS_mk] at c77; omega) | (simp [eqL, mkN_length, eqL, mkN_length, held_mkN okI_mk, held_mkN okEnt_mk, held_mkN okS_mk] at c62; omega) | (simp [eqL, mkN_length, eqL, mkN_length, held_mkN okI_mk, held_mkN okEnt_mk, held_mkN okS_mk] at c57; omega)))
        ·
          rw [c77] at ha76
          refine cond_t ha76 rfl ?_
          refine wp_seq ?_
          refine wp_region_lit ?_
          refine wl_val ha76 rfl rfl rfl (op_assign ha76 rfl rfl) ?_
          intro a79 ha79; clear ha76 a76
          refine wpList_nil ?_
          refine then_n ?_
          refine wp_ret ?_
          refine then_r ?_
          refine ret1 ha79 rfl rfl ?_
          clear ha79 a79
          exact ret_mk hx75 (congrArg Value.bool (by first | rfl | omega | (simp [eqL, mkN_length, eqL, mkN_length, held_mkN okI_mk, held_mkN okEnt_mk, held_mkN okS_mk] at c77; done) | (simp [eqL, mkN_length, eqL, mkN_length, held_mkN okI_mk, held_mkN okEnt_mk, held_mkN okS_mk] at c62; done) | (simp [eqL, mkN_length, eqL, mkN_length, held_mkN okI_mk, held_mkN okEnt_mk, held_mkN okS_mk] at c57; done) | (simp [eqL, mkN_length, eqL, mkN_length, held_mkN okI_mk, held_mkN okEnt_mk, held_mkN okS_mk] at c13; done) | (simp [eqL, mkN_length, eqL, mkN_length, held_mkN okI_mk, held_mkN okEnt_mk, held_mkN okS_mk] at c77; omega) | (simp [eqL, mkN_length, eqL, mkN_length, held_mkN okI_mk, held_mkN okEnt_mk, held_mkN okS_mk] at c62; omega) | (simp [eqL, mkN_length, eqL, mkN_length, held_mkN okI_mk, held_mkN okEnt_mk, held_mkN okS_mk] at c57; omega)))
      ·
        rw [decide_eq_false c62] at ha61
        refine cond_t ha61 rfl ?_
        refine wp_seq ?_
        refine wp_region_lit ?_
        refine wl_val ha61 rfl rfl rfl (op_assign ha61 rfl rfl) ?_
        intro a80 ha80; clear ha61 a61
        refine wpList_nil ?_
        refine then_n ?_
        refine wp_ret ?_
        refine then_r ?_
        refine ret1 ha80 rfl rfl ?_
        clear ha80 a80
        exact ret_mk hx47 (congrArg Value.bool (by first | rfl | omega | (simp [eqL, mkN_length, eqL, mkN_length, held_mkN okI_mk, held_mkN okEnt_mk, held_mkN okS_mk] at c62; done) | (simp [eqL, mkN_length, eqL, mkN_length, held_mkN okI_mk, held_mkN okEnt_mk, held_mkN okS_mk] at c57; done) | (simp [eqL, mkN_length, eqL, mkN_length, held_mkN okI_mk, held_mkN okEnt_mk, held_mkN okS_mk] at c13; done) | (simp [eqL, mkN_length, eqL, mkN_length, held_mkN okI_mk, held_mkN okEnt_mk, held_mkN okS_mk] at c62; omega) | (simp [eqL, mkN_length, eqL, mkN_length, held_mkN okI_mk, held_mkN okEnt_mk, held_mkN okS_mk] at c57; omega) | (simp [eqL, mkN_length, eqL, mkN_length, held_mkN okI_mk, held_mkN okEnt_mk, held_mkN okS_mk] at c13; omega)))
    ·
      rw [decide_eq_false c57] at ha56
      refine wl_skip ha56 rfl rfl rfl ?_
      intro a81 ha81; clear ha56 a56
      refine wl_skip ha81 rfl rfl rfl ?_
      intro a82 ha82; clear ha81 a81
      refine wl_skip ha82 rfl rfl rfl ?_
      intro a83 ha83; clear ha82 a82
      refine wl_val ha83 rfl rfl rfl (op_pick_t ha83 rfl rfl rfl) ?_
      intro a84 ha84; clear ha83 a83
      refine wpList_nil ?_
      refine then_n ?_
      refine cond_t ha84 rfl ?_
      refine wp_seq ?_
      refine wp_region_lit ?_
      refine wl_val ha84 rfl rfl rfl (op_assign ha84 rfl rfl) ?_
      intro a85 ha85; clear ha84 a84
      refine wpList_nil ?_
      refine then_n ?_
      refine wp_ret ?_
      refine then_r ?_
      refine ret1 ha85 rfl rfl ?_
      clear ha85 a85
      exact ret_mk hx47 (congrArg Value.bool (by first | rfl | omega | (simp [eqL, mkN_length, eqL, mkN_length, held_mkN okI_mk, held_mkN okEnt_mk, held_mkN okS_mk] at c57; done) | (simp [eqL, mkN_length, eqL, mkN_length, held_mkN okI_mk, held_mkN okEnt_mk, held_mkN okS_mk] at c13; done) | (simp [eqL, mkN_length, eqL, mkN_length, held_mkN okI_mk, held_mkN okEnt_mk, held_mkN okS_mk] at c57; omega) | (simp [eqL, mkN_length, eqL, mkN_length, held_mkN okI_mk, held_mkN okEnt_mk, held_mkN okS_mk] at c13; omega)))


end Go.Proofs.Ytocedhbefdaefaa
