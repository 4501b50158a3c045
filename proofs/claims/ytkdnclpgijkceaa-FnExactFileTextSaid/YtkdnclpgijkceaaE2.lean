/- The law FileText, walked. -/
import Derived.Test.YtkdnclpgijkceaaW3
import Derived.Test.YtkdnclpgijkceaaL2
namespace Go.Proofs.Ytkdnclpgijkceaa
open Go Go.RowKit

theorem c_laws_FnExactFileText (w0 : World) (v_aList : Value) (aList : List (Int × Str)) {S_aList : Nat → Prop} (h_aList : Rds shRec S_aList w0 v_aList aList) :
    Calls Try.prog 4 #[v_aList] w0 (Ret w0 (fun v _ => v = .bool (true))) := by
  refine enter (N := 40) Try.func4 rfl rfl rfl ?_
  intro a0 ha0
  have hx0 := Ext.rfl' w0
  have hl_aList := h_aList.length_le
  refine wp_seq ?_
  refine wp_region_lit ?_
  refine wl_val ha0 rfl rfl rfl (op_assign ha0 rfl rfl) ?_
  intro a1 ha1; clear ha0 a0
  refine wpList_nil ?_
  refine then_n ?_
  refine wp_seq ?_
  refine wp_region_lit ?_
  refine wl_val ha1 rfl rfl rfl (op_assign ha1 rfl rfl) ?_
  intro a2 ha2; clear ha1 a1
  refine wpList_nil ?_
  refine then_n ?_
  refine wp_seq ?_
  refine wp_region_lit ?_
  refine wl_val ha2 rfl rfl rfl (op_move ha2 rfl rfl) ?_
  intro a3 ha3; clear ha2 a2
  refine wl_val ha3 rfl rfl rfl (op_move ha3 rfl rfl) ?_
  intro a4 ha4; clear ha3 a3
  refine wl_callR ha4 rfl rfl rfl (op_call ha4 rfl cb13 rfl) (c_laws_szRecordS _ v_aList aList (1048576 : Int) (h_aList.ext pos_shRec hx0) (by first | assumption | omega | (simp; omega)) (by first | assumption | omega | (simp; omega))) ?_
  rintro v5 w6 he7 rfl a8 ha8; clear ha4 a4
  have hx9 := hx0.trans' he7
  have hzhx9 := he7.size
  refine wl_val ha8 rfl rfl rfl (op_assign ha8 rfl rfl) ?_
  intro a10 ha10; clear ha8 a8
  refine wpList_nil ?_
  refine then_n ?_
  refine wp_seq ?_
  refine wp_seq ?_
  refine wp_region_lit ?_
  refine wl_val ha10 rfl rfl rfl (op_move ha10 rfl rfl) ?_
  intro a11 ha11; clear ha10 a10
  refine wl_val ha11 rfl rfl rfl (op_lss ha11 rfl rfl rfl) ?_
  intro a12 ha12; clear ha11 a11
  refine wpList_nil ?_
  refine then_n ?_
  by_cases c13 : (szL aList (1048576 : Int) : Int) < (0 : Int)
  ·
    rw [decide_eq_true c13] at ha12
    refine cond_t ha12 rfl ?_
    refine wp_seq ?_
    refine wp_region_lit ?_
    refine wl_val ha12 rfl rfl rfl (op_assign ha12 rfl rfl) ?_
    intro a14 ha14; clear ha12 a12
    refine wpList_nil ?_
    refine then_n ?_
    refine wp_ret ?_
    refine then_r ?_
    refine ret1 ha14 rfl rfl ?_
    clear ha14 a14
    exact ret_mk hx9 (congrArg Value.bool (by first | rfl | (simp [eqL] at c13; done)))
  ·
    rw [decide_eq_false c13] at ha12
    refine cond_f ha12 rfl ?_
    refine wp_skip ?_
    refine then_n ?_
    refine wp_seq ?_
    have hlen := szL_len ‹¬ szL aList 1048576 < 0›
    refine wp_region_lit ?_
    refine wl_val ha12 rfl rfl rfl (op_move ha12 rfl rfl) ?_
    intro a15 ha15; clear ha12 a12
    refine wl_callR ha15 rfl rfl rfl (op_call ha15 rfl cb15 rfl) (c_laws_toRecordS _ v_aList aList (h_aList.ext pos_shRec hx9) (by first | assumption | omega | (simp; omega))) ?_
    rintro v16 w17 he18 ho19 a20 ha20; clear ha15 a15
    have hx21 := hx9.trans' he18
    have hzhx21 := he18.size
    refine wl_callR ha20 rfl rfl rfl (op_call ha20 rfl cb18 rfl) (c_spec_FileText _ v16 ((aList)) (ho19.rds pos_shRec) (by first | assumption | omega | (simp; omega))) ?_
    rintro v22 w23 he24 rfl a25 ha25; clear ha20 a20
    have hx26 := hx21.trans' he24
    have hzhx26 := he24.size
    replace ho19 := ho19.ext he24
    refine wl_val ha25 rfl rfl rfl (op_move ha25 rfl rfl) ?_
    intro a27 ha27; clear ha25 a25
    refine wl_val ha27 rfl rfl rfl (op_extract ha27 rfl rfl rfl) ?_
    intro a28 ha28; clear ha27 a27
    refine wl_val ha28 rfl rfl rfl (op_extract ha28 rfl rfl rfl) ?_
    intro a29 ha29; clear ha28 a28
    refine wl_val ha29 rfl rfl rfl (op_assign ha29 rfl rfl) ?_
    intro a30 ha30; clear ha29 a29
    refine wl_val ha30 rfl rfl rfl (op_assign ha30 rfl rfl) ?_
    intro a31 ha31; clear ha30 a30
    refine wpList_nil ?_
    refine then_n ?_
    refine wp_seq ?_
    refine wp_region_lit ?_
    refine wl_val ha31 rfl rfl rfl (op_move ha31 rfl rfl) ?_
    intro a32 ha32; clear ha31 a31
    refine wl_callR ha32 rfl rfl rfl (op_call ha32 rfl cb15 rfl) (c_laws_toRecordS _ v_aList aList (h_aList.ext pos_shRec hx26) (by first | assumption | omega | (simp; omega))) ?_
    rintro v33 w34 he35 ho36 a37 ha37; clear ha32 a32
    have hx38 := hx26.trans' he35
    have hzhx38 := he35.size
    replace ho19 := ho19.ext he35
    refine wl_val ha37 rfl rfl rfl (op_assign ha37 rfl rfl) ?_
    intro a39 ha39; clear ha37 a37
    refine wpList_nil ?_
    refine then_n ?_
    refine wp_seq ?_
    refine wp_region_lit ?_
    refine wl_val ha39 rfl rfl rfl (op_move ha39 rfl rfl) ?_
    intro a40 ha40; clear ha39 a39
    refine wl_callR ha40 rfl rfl rfl (op_call ha40 rfl cb19 rfl) (c_impl_FileText _ v33 ((aList)) (ho36.rds pos_shRec) (by first | assumption | omega | (simp; omega))) ?_
    rintro v41 w42 he43 rfl a44 ha44; clear ha40 a40
    have hx45 := hx38.trans' he43
    have hzhx45 := he43.size
    replace ho19 := ho19.ext he43
    replace ho36 := ho36.ext he43
    refine wl_val ha44 rfl rfl rfl (op_move ha44 rfl rfl) ?_
    intro a46 ha46; clear ha44 a44
    refine wl_val ha46 rfl rfl rfl (op_extract ha46 rfl rfl rfl) ?_
    intro a47 ha47; clear ha46 a46
    refine wl_val ha47 rfl rfl rfl (op_extract ha47 rfl rfl rfl) ?_
    intro a48 ha48; clear ha47 a47
    refine wl_val ha48 rfl rfl rfl (op_assign ha48 rfl rfl) ?_
    intro a49 ha49; clear ha48 a48
    refine wl_val ha49 rfl rfl rfl (op_assign ha49 rfl rfl) ?_
    intro a50 ha50; clear ha49 a49
    refine wpList_nil ?_
    refine then_n ?_
    refine wp_seq ?_
    refine wp_seq ?_
    refine wp_region_lit ?_
    refine wl_val ha50 rfl rfl rfl (op_move ha50 rfl rfl) ?_
    intro a51 ha51; clear ha50 a50
    refine wl_val ha51 rfl rfl rfl (op_move ha51 rfl rfl) ?_
    intro a52 ha52; clear ha51 a51
    refine wl_val ha52 rfl rfl rfl ((op_sneq ha52 rfl rfl rfl).to (congrArg Value.bool decide_not)) ?_
    intro a53 ha53; clear ha52 a52
    refine wl_val ha53 rfl rfl rfl (op_move ha53 rfl rfl) ?_
    intro a54 ha54; clear ha53 a53
    by_cases c55 : (if areB ((aList)) then fileS ((aList)) else []) = (if areB ((aList)) then fileS ((aList)) else [])
    ·
      rw [decide_eq_true c55] at ha54
      refine wl_val ha54 rfl rfl rfl (op_move ha54 rfl rfl) ?_
      intro a56 ha56; clear ha54 a54
      refine wl_val ha56 rfl rfl rfl (op_move ha56 rfl rfl) ?_
      intro a57 ha57; clear ha56 a56
      refine wl_val ha57 rfl rfl rfl ((op_neq ha57 rfl rfl rfl).to (congrArg Value.bool decide_not)) ?_
      intro a58 ha58; clear ha57 a57
      refine wl_val ha58 rfl rfl rfl (op_pick_f ha58 rfl rfl rfl) ?_
      intro a59 ha59; clear ha58 a58
      refine wpList_nil ?_
      refine then_n ?_
      by_cases c60 : (if areB ((aList)) then 0 else 1 : Int) = (if areB ((aList)) then 0 else 1 : Int)
      ·
        rw [decide_eq_true c60] at ha59
        refine cond_f ha59 rfl ?_
        refine wp_skip ?_
        refine then_n ?_
        refine wp_seq ?_
        refine wp_seq ?_
        refine wp_region_lit ?_
        refine wl_val ha59 rfl rfl rfl (op_move ha59 rfl rfl) ?_
        intro a61 ha61; clear ha59 a59
        refine wl_val ha61 rfl rfl rfl (op_move ha61 rfl rfl) ?_
        intro a62 ha62; clear ha61 a61
        refine wl_callR ha62 rfl rfl rfl (op_call ha62 rfl cb15 rfl) (c_laws_toRecordS _ v_aList aList (h_aList.ext pos_shRec hx45) (by first | assumption | omega | (simp; omega))) ?_
        rintro v63 w64 he65 ho66 a67 ha67; clear ha62 a62
        have hx68 := hx45.trans' he65
        have hzhx68 := he65.size
        replace ho19 := ho19.ext he65
        replace ho36 := ho36.ext he65
        refine wl_callR ha67 rfl rfl rfl (op_call ha67 rfl cb17 rfl) (c_laws_eqRecordS _ v33 ((aList)) v63 ((aList)) (ho36.rds pos_shRec) (ho66.rds pos_shRec)) ?_
        rintro v69 w70 he71 rfl a72 ha72; clear ha67 a67
        have hx73 := hx68.trans' he71
        have hzhx73 := he71.size
        replace ho19 := ho19.ext he71
        replace ho36 := ho36.ext he71
        replace ho66 := ho66.ext he71
        refine wl_val ha72 rfl rfl rfl (op_not ha72 rfl rfl) ?_
        intro a74 ha74; clear ha72 a72
        refine wpList_nil ?_
        refine then_n ?_
        rcases Bool.eq_false_or_eq_true (eqL ((aList)) ((aList))) with c75 | c75
        ·
          rw [c75] at ha74
          refine cond_f ha74 rfl ?_
          refine wp_skip ?_
          refine then_n ?_
          refine wp_seq ?_
          refine wp_region_lit ?_
          refine wl_val ha74 rfl rfl rfl (op_assign ha74 rfl rfl) ?_
          intro a76 ha76; clear ha74 a74
          refine wpList_nil ?_
          refine then_n ?_
          refine wp_ret ?_
          refine ret1 ha76 rfl rfl ?_
          clear ha76 a76
          exact ret_mk hx73 (congrArg Value.bool (by first | rfl | (simp [eqL] at c75; done) | (simp [eqL] at c60; done) | (simp [eqL] at c55; done) | (simp [eqL] at c13; done)))
        ·
          rw [c75] at ha74
          refine cond_t ha74 rfl ?_
          refine wp_seq ?_
          refine wp_region_lit ?_
          refine wl_val ha74 rfl rfl rfl (op_assign ha74 rfl rfl) ?_
          intro a77 ha77; clear ha74 a74
          refine wpList_nil ?_
          refine then_n ?_
          refine wp_ret ?_
          refine then_r ?_
          refine ret1 ha77 rfl rfl ?_
          clear ha77 a77
          exact ret_mk hx73 (congrArg Value.bool (by first | rfl | (simp [eqL] at c75; done) | (simp [eqL] at c60; done) | (simp [eqL] at c55; done) | (simp [eqL] at c13; done)))
      ·
        rw [decide_eq_false c60] at ha59
        refine cond_t ha59 rfl ?_
        refine wp_seq ?_
        refine wp_region_lit ?_
        refine wl_val ha59 rfl rfl rfl (op_assign ha59 rfl rfl) ?_
        intro a78 ha78; clear ha59 a59
        refine wpList_nil ?_
        refine then_n ?_
        refine wp_ret ?_
        refine then_r ?_
        refine ret1 ha78 rfl rfl ?_
        clear ha78 a78
        exact ret_mk hx45 (congrArg Value.bool (by first | rfl | (simp [eqL] at c60; done) | (simp [eqL] at c55; done) | (simp [eqL] at c13; done)))
    ·
      rw [decide_eq_false c55] at ha54
      refine wl_skip ha54 rfl rfl rfl ?_
      intro a79 ha79; clear ha54 a54
      refine wl_skip ha79 rfl rfl rfl ?_
      intro a80 ha80; clear ha79 a79
      refine wl_skip ha80 rfl rfl rfl ?_
      intro a81 ha81; clear ha80 a80
      refine wl_val ha81 rfl rfl rfl (op_pick_t ha81 rfl rfl rfl) ?_
      intro a82 ha82; clear ha81 a81
      refine wpList_nil ?_
      refine then_n ?_
      refine cond_t ha82 rfl ?_
      refine wp_seq ?_
      refine wp_region_lit ?_
      refine wl_val ha82 rfl rfl rfl (op_assign ha82 rfl rfl) ?_
      intro a83 ha83; clear ha82 a82
      refine wpList_nil ?_
      refine then_n ?_
      refine wp_ret ?_
      refine then_r ?_
      refine ret1 ha83 rfl rfl ?_
      clear ha83 a83
      exact ret_mk hx45 (congrArg Value.bool (by first | rfl | (simp [eqL] at c55; done) | (simp [eqL] at c13; done)))


end Go.Proofs.Ytkdnclpgijkceaa
