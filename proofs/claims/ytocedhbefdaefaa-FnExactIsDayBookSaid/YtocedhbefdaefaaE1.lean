/- The law IsDayBook, walked. -/
import Derived.Test.YtocedhbefdaefaaW2
import Derived.Test.YtocedhbefdaefaaL1
namespace Go.Proofs.Ytocedhbefdaefaa
open Go Go.RowKit

theorem c_laws_FnExactIsDayBook (w0 : World) (v_aList : Value) (aList : List (Int × Int × Str × Int)) {S_aList : Nat → Prop} (h_aList : Rds shEnt S_aList w0 v_aList aList) :
    Calls Try.prog 3 #[v_aList] w0 (Ret w0 (fun v _ => v = .bool (true))) := by
  refine enter (N := 27) Try.func3 rfl rfl rfl ?_
  intro a0 ha0
  have hx0 := Ext.rfl' w0
  have hl_aList := h_aList.length_le
  have hcl := costL_len costEnt aList
  refine wp_seq ?_
  refine wp_region_lit ?_
  refine wl_val ha0 rfl rfl rfl (op_assign ha0 rfl rfl) ?_
  intro a1 ha1; clear ha0 a0
  refine wpList_nil ?_
  refine then_n ?_
  refine wp_seq ?_
  refine wp_region_lit ?_
  refine wl_val ha1 rfl rfl rfl (op_assign ha1 rfl rfl) ?_
  intro a2 ha2; clear ha1 a1
  refine wpList_nil ?_
  refine then_n ?_
  refine wp_seq ?_
  refine wp_region_lit ?_
  refine wl_val ha2 rfl rfl rfl (op_move ha2 rfl rfl) ?_
  intro a3 ha3; clear ha2 a2
  refine wl_val ha3 rfl rfl rfl (op_move ha3 rfl rfl) ?_
  intro a4 ha4; clear ha3 a3
  refine wl_callR ha4 rfl rfl rfl (op_call ha4 rfl cb15 rfl) (c_laws_szEntryS _ v_aList aList (1048576 : Int) (h_aList.ext pos_shEnt hx0) (by first | assumption | omega | (simp; omega) | (simp [mkN_length]; omega)) (by first | assumption | omega | (simp; omega) | (simp [mkN_length]; omega))) ?_
  rintro v5 w6 he7 rfl a8 ha8; clear ha4 a4
  have hx9 := hx0.trans' he7
  have hzhx9 := he7.size
  refine wl_val ha8 rfl rfl rfl (op_assign ha8 rfl rfl) ?_
  intro a10 ha10; clear ha8 a8
  refine wpList_nil ?_
  refine then_n ?_
  refine wp_seq ?_
  refine wp_seq ?_
  refine wp_region_lit ?_
  refine wl_val ha10 rfl rfl rfl (op_move ha10 rfl rfl) ?_
  intro a11 ha11; clear ha10 a10
  refine wl_val ha11 rfl rfl rfl (op_lss ha11 rfl rfl rfl) ?_
  intro a12 ha12; clear ha11 a11
  refine wpList_nil ?_
  refine then_n ?_
  by_cases c13 : (szR (1048576 : Int) (costL costEnt aList) : Int) < (0 : Int)
  ·
    rw [decide_eq_true c13] at ha12
    refine cond_t ha12 rfl ?_
    refine wp_seq ?_
    refine wp_region_lit ?_
    refine wl_val ha12 rfl rfl rfl (op_assign ha12 rfl rfl) ?_
    intro a14 ha14; clear ha12 a12
    refine wpList_nil ?_
    refine then_n ?_
    refine wp_ret ?_
    refine then_r ?_
    refine ret1 ha14 rfl rfl ?_
    clear ha14 a14
    exact ret_mk hx9 (congrArg Value.bool (by first | rfl | omega | (simp [eqL, mkN_length, eqL, mkN_length, held_mkN okI_mk, held_mkN okEnt_mk, held_mkN okS_mk] at c13; done) | (simp [eqL, mkN_length, eqL, mkN_length, held_mkN okI_mk, held_mkN okEnt_mk, held_mkN okS_mk] at c13; omega)))
  ·
    rw [decide_eq_false c13] at ha12
    have hzc13 := szR_ok c13
    refine cond_f ha12 rfl ?_
    refine wp_skip ?_
    refine then_n ?_
    refine wp_seq ?_
    refine wp_region_lit ?_
    refine wl_val ha12 rfl rfl rfl (op_move ha12 rfl rfl) ?_
    intro a15 ha15; clear ha12 a12
    refine wl_callR ha15 rfl rfl rfl (op_call ha15 rfl cb17 rfl) (c_laws_toEntryS _ v_aList aList (h_aList.ext pos_shEnt hx9) (by first | assumption | omega | (simp; omega) | (simp [mkN_length]; omega))) ?_
    rintro v16 w17 he18 ho19 a20 ha20; clear ha15 a15
    have hx21 := hx9.trans' he18
    have hzhx21 := he18.size
    refine wl_callR ha20 rfl rfl rfl (op_call ha20 rfl cb16 rfl) (c_spec_IsDayBook _ v16 ((aList)) (ho19.rds pos_shEnt) (by first | assumption | omega | (simp; omega) | (simp [mkN_length]; omega))) ?_
    rintro v22 w23 he24 rfl a25 ha25; clear ha20 a20
    have hx26 := hx21.trans' he24
    have hzhx26 := he24.size
    replace ho19 := ho19.ext he24
    refine wl_val ha25 rfl rfl rfl (op_assign ha25 rfl rfl) ?_
    intro a27 ha27; clear ha25 a25
    refine wpList_nil ?_
    refine then_n ?_
    refine wp_seq ?_
    refine wp_region_lit ?_
    refine wl_val ha27 rfl rfl rfl (op_move ha27 rfl rfl) ?_
    intro a28 ha28; clear ha27 a27
    refine wl_callR ha28 rfl rfl rfl (op_call ha28 rfl cb17 rfl) (c_laws_toEntryS _ v_aList aList (h_aList.ext pos_shEnt hx26) (by first | assumption | omega | (simp; omega) | (simp [mkN_length]; omega))) ?_
    rintro v29 w30 he31 ho32 a33 ha33; clear ha28 a28
    have hx34 := hx26.trans' he31
    have hzhx34 := he31.size
    replace ho19 := ho19.ext he31
    refine wl_val ha33 rfl rfl rfl (op_assign ha33 rfl rfl) ?_
    intro a35 ha35; clear ha33 a33
    refine wpList_nil ?_
    refine then_n ?_
    refine wp_seq ?_
    refine wp_region_lit ?_
    refine wl_val ha35 rfl rfl rfl (op_move ha35 rfl rfl) ?_
    intro a36 ha36; clear ha35 a35
    refine wl_callR ha36 rfl rfl rfl (op_call ha36 rfl cb18 rfl) (c_impl_IsDayBook _ v29 ((aList)) (ho32.rds pos_shEnt) (by first | assumption | omega | (simp; omega) | (simp [mkN_length]; omega))) ?_
    rintro v37 w38 he39 rfl a40 ha40; clear ha36 a36
    have hx41 := hx34.trans' he39
    have hzhx41 := he39.size
    replace ho19 := ho19.ext he39
    replace ho32 := ho32.ext he39
    refine wl_val ha40 rfl rfl rfl (op_assign ha40 rfl rfl) ?_
    intro a42 ha42; clear ha40 a40
    refine wpList_nil ?_
    refine then_n ?_
    refine wp_seq ?_
    refine wp_seq ?_
    refine wp_region_lit ?_
    refine wl_val ha42 rfl rfl rfl (op_move ha42 rfl rfl) ?_
    intro a43 ha43; clear ha42 a42
    refine wl_val ha43 rfl rfl rfl (op_move ha43 rfl rfl) ?_
    intro a44 ha44; clear ha43 a43
    refine wl_val ha44 rfl rfl rfl (op_bneq ha44 rfl Try.underlying4 rfl rfl) ?_
    intro a45 ha45; clear ha44 a44
    refine wpList_nil ?_
    refine then_n ?_
    rcases Bool.eq_false_or_eq_true ((dbB ((aList)) == dbB ((aList)))) with c46 | c46
    ·
      rw [c46] at ha45
      refine cond_f ha45 rfl ?_
      refine wp_skip ?_
      refine then_n ?_
      refine wp_seq ?_
      refine wp_seq ?_
      refine wp_region_lit ?_
      refine wl_val ha45 rfl rfl rfl (op_move ha45 rfl rfl) ?_
      intro a47 ha47; clear ha45 a45
      refine wl_val ha47 rfl rfl rfl (op_move ha47 rfl rfl) ?_
      intro a48 ha48; clear ha47 a47
      refine wl_callR ha48 rfl rfl rfl (op_call ha48 rfl cb17 rfl) (c_laws_toEntryS _ v_aList aList (h_aList.ext pos_shEnt hx41) (by first | assumption | omega | (simp; omega) | (simp [mkN_length]; omega))) ?_
      rintro v49 w50 he51 ho52 a53 ha53; clear ha48 a48
      have hx54 := hx41.trans' he51
      have hzhx54 := he51.size
      replace ho19 := ho19.ext he51
      replace ho32 := ho32.ext he51
      refine wl_callR ha53 rfl rfl rfl (op_call ha53 rfl cb19 rfl) (c_laws_eqEntryS _ v29 ((aList)) v49 ((aList)) (ho32.rds pos_shEnt) (ho52.rds pos_shEnt)) ?_
      rintro v55 w56 he57 rfl a58 ha58; clear ha53 a53
      have hx59 := hx54.trans' he57
      have hzhx59 := he57.size
      replace ho19 := ho19.ext he57
      replace ho32 := ho32.ext he57
      replace ho52 := ho52.ext he57
      refine wl_val ha58 rfl rfl rfl (op_not ha58 rfl rfl) ?_
      intro a60 ha60; clear ha58 a58
      refine wpList_nil ?_
      refine then_n ?_
      rcases Bool.eq_false_or_eq_true (eqL ((aList)) ((aList))) with c61 | c61
      ·
        rw [c61] at ha60
        refine cond_f ha60 rfl ?_
        refine wp_skip ?_
        refine then_n ?_
        refine wp_seq ?_
        refine wp_region_lit ?_
        refine wl_val ha60 rfl rfl rfl (op_assign ha60 rfl rfl) ?_
        intro a62 ha62; clear ha60 a60
        refine wpList_nil ?_
        refine then_n ?_
        refine wp_ret ?_
        refine ret1 ha62 rfl rfl ?_
        clear ha62 a62
        exact ret_mk hx59 (congrArg Value.bool (by first | rfl | omega | (simp [eqL, mkN_length, eqL, mkN_length, held_mkN okI_mk, held_mkN okEnt_mk, held_mkN okS_mk] at c61; done) | (simp [eqL, mkN_length, eqL, mkN_length, held_mkN okI_mk, held_mkN okEnt_mk, held_mkN okS_mk] at c46; done) | (simp [eqL, mkN_length, eqL, mkN_length, held_mkN okI_mk, held_mkN okEnt_mk, held_mkN okS_mk] at c13; done) | (simp [eqL, mkN_length, eqL, mkN_length, held_mkN okI_mk, held_mkN okEnt_mk, held_mkN okS_mk] at c61; omega) | (simp [eqL, mkN_length, eqL, mkN_length, held_mkN okI_mk, held_mkN okEnt_mk, held_mkN okS_mk] at c46; omega) | (simp [eqL, mkN_length, eqL, mkN_length, held_mkN okI_mk, held_mkN okEnt_mk, held_mkN okS_mk] at c13; omega)))
      ·
        rw [c61] at ha60
        refine cond_t ha60 rfl ?_
        refine wp_seq ?_
        refine wp_region_lit ?_
        refine wl_val ha60 rfl rfl rfl (op_assign ha60 rfl rfl) ?_
        intro a63 ha63; clear ha60 a60
        refine wpList_nil ?_
        refine then_n ?_
        refine wp_ret ?_
        refine then_r ?_
        refine ret1 ha63 rfl rfl ?_
        clear ha63 a63
        exact ret_mk hx59 (congrArg Value.bool (by first | rfl | omega | (simp [eqL, mkN_length, eqL, mkN_length, held_mkN okI_mk, held_mkN okEnt_mk, held_mkN okS_mk] at c61; done) | (simp [eqL, mkN_length, eqL, mkN_length, held_mkN okI_mk, held_mkN okEnt_mk, held_mkN okS_mk] at c46; done) | (simp [eqL, mkN_length, eqL, mkN_length, held_mkN okI_mk, held_mkN okEnt_mk, held_mkN okS_mk] at c13; done) | (simp [eqL, mkN_length, eqL, mkN_length, held_mkN okI_mk, held_mkN okEnt_mk, held_mkN okS_mk] at c61; omega) | (simp [eqL, mkN_length, eqL, mkN_length, held_mkN okI_mk, held_mkN okEnt_mk, held_mkN okS_mk] at c46; omega) | (simp [eqL, mkN_length, eqL, mkN_length, held_mkN okI_mk, held_mkN okEnt_mk, held_mkN okS_mk] at c13; omega)))
    ·
      rw [c46] at ha45
      refine cond_t ha45 rfl ?_
      refine wp_seq ?_
      refine wp_region_lit ?_
      refine wl_val ha45 rfl rfl rfl (op_assign ha45 rfl rfl) ?_
      intro a64 ha64; clear ha45 a45
      refine wpList_nil ?_
      refine then_n ?_
      refine wp_ret ?_
      refine then_r ?_
      refine ret1 ha64 rfl rfl ?_
      clear ha64 a64
      exact ret_mk hx41 (congrArg Value.bool (by first | rfl | omega | (simp [eqL, mkN_length, eqL, mkN_length, held_mkN okI_mk, held_mkN okEnt_mk, held_mkN okS_mk] at c46; done) | (simp [eqL, mkN_length, eqL, mkN_length, held_mkN okI_mk, held_mkN okEnt_mk, held_mkN okS_mk] at c13; done) | (simp [eqL, mkN_length, eqL, mkN_length, held_mkN okI_mk, held_mkN okEnt_mk, held_mkN okS_mk] at c46; omega) | (simp [eqL, mkN_length, eqL, mkN_length, held_mkN okI_mk, held_mkN okEnt_mk, held_mkN okS_mk] at c13; omega)))


end Go.Proofs.Ytocedhbefdaefaa
