/- The law AreCustomers, walked. -/
import Derived.Test.YthbkedflhmeohaaW2
import Derived.Test.YthbkedflhmeohaaL2
namespace Go.Proofs.Ythbkedflhmeohaa
open Go Go.RowKit

theorem c_laws_FnExactAreCustomers (w0 : World) (v_aList : Value) (aList : List (Str × Int × List Str)) {S_aList : Nat → Prop} (h_aList : Rds shCust S_aList w0 v_aList aList) :
    Calls Try.prog 3 #[v_aList] w0 (Ret w0 (fun v _ => v = .bool (true))) := by
  refine enter (N := 27) Try.func3 rfl rfl rfl ?_
  intro a0 ha0
  have hx0 := Ext.rfl' w0
  have hl_aList := h_aList.length_le
  have hcl := costL_len costCu aList
  have hkk := kkCu_le aList 1
  have hkg := kkCu_ge aList 1
  refine wp_seq ?_
  refine wp_region_lit ?_
  refine wl_val ha0 rfl rfl rfl (op_assign ha0 rfl rfl) ?_
  intro a1 ha1; clear ha0 a0
  refine wpList_nil ?_
  refine then_n ?_
  refine wp_seq ?_
  refine wp_region_lit ?_
  refine wl_val ha1 rfl rfl rfl (op_assign ha1 rfl rfl) ?_
  intro a2 ha2; clear ha1 a1
  refine wpList_nil ?_
  refine then_n ?_
  refine wp_seq ?_
  refine wp_region_lit ?_
  refine wl_val ha2 rfl rfl rfl (op_move ha2 rfl rfl) ?_
  intro a3 ha3; clear ha2 a2
  refine wl_val ha3 rfl rfl rfl (op_move ha3 rfl rfl) ?_
  intro a4 ha4; clear ha3 a3
  refine wl_callR ha4 rfl rfl rfl (op_call ha4 rfl cb14 rfl) (c_laws_szCustomerS _ v_aList aList (1048576 : Int) (h_aList.ext pos_shCust hx0) (by first | assumption | omega | (simp; omega)) (by first | assumption | omega | (simp; omega))) ?_
  rintro v5 w6 he7 rfl a8 ha8; clear ha4 a4
  have hx9 := hx0.trans' he7
  have hzhx9 := he7.size
  refine wl_val ha8 rfl rfl rfl (op_assign ha8 rfl rfl) ?_
  intro a10 ha10; clear ha8 a8
  refine wpList_nil ?_
  refine then_n ?_
  refine wp_seq ?_
  refine wp_seq ?_
  refine wp_region_lit ?_
  refine wl_val ha10 rfl rfl rfl (op_move ha10 rfl rfl) ?_
  intro a11 ha11; clear ha10 a10
  refine wl_val ha11 rfl rfl rfl (op_lss ha11 rfl rfl rfl) ?_
  intro a12 ha12; clear ha11 a11
  refine wpList_nil ?_
  refine then_n ?_
  by_cases c13 : (szR (1048576 : Int) (costL costCu aList) : Int) < (0 : Int)
  ·
    rw [decide_eq_true c13] at ha12
    refine cond_t ha12 rfl ?_
    refine wp_seq ?_
    refine wp_region_lit ?_
    refine wl_val ha12 rfl rfl rfl (op_assign ha12 rfl rfl) ?_
    intro a14 ha14; clear ha12 a12
    refine wpList_nil ?_
    refine then_n ?_
    refine wp_ret ?_
    refine then_r ?_
    refine ret1 ha14 rfl rfl ?_
    clear ha14 a14
    exact ret_mk hx9 (congrArg Value.bool (by first | rfl | omega))
  ·
    rw [decide_eq_false c13] at ha12
    have hzc13 := szR_ok c13
    refine cond_f ha12 rfl ?_
    refine wp_skip ?_
    refine then_n ?_
    refine wp_seq ?_
    refine wp_region_lit ?_
    refine wl_val ha12 rfl rfl rfl (op_move ha12 rfl rfl) ?_
    intro a15 ha15; clear ha12 a12
    refine wl_callR ha15 rfl rfl rfl (op_call ha15 rfl cb16 rfl) (c_laws_toCustomerS _ v_aList aList (h_aList.ext pos_shCust hx9) (by first | assumption | omega | (simp; omega))) ?_
    rintro v16 w17 he18 ⟨z20, ho19, hN21, hE22⟩ a23 ha23; clear ha15 a15
    have hx24 := hx9.trans' he18
    have hzhx24 := he18.size
    have hlhE22 := absLen hE22
    refine wl_callR ha23 rfl rfl rfl (op_call ha23 rfl cb15 rfl) (c_spec_AreCustomers _ v16 ((aList)) ((rds_shCustN (ho19.fin (by omega) (by omega) (by omega)) hN21).cast hE22) (by first | assumption | omega | (simp; omega))) ?_
    rintro v25 w26 he27 rfl a28 ha28; clear ha23 a23
    have hx29 := hx24.trans' he27
    have hzhx29 := he27.size
    replace ho19 := ho19.ext he27
    replace hN21 := hN21.ext he27
    refine wl_val ha28 rfl rfl rfl (op_assign ha28 rfl rfl) ?_
    intro a30 ha30; clear ha28 a28
    refine wpList_nil ?_
    refine then_n ?_
    refine wp_seq ?_
    refine wp_region_lit ?_
    refine wl_val ha30 rfl rfl rfl (op_move ha30 rfl rfl) ?_
    intro a31 ha31; clear ha30 a30
    refine wl_callR ha31 rfl rfl rfl (op_call ha31 rfl cb16 rfl) (c_laws_toCustomerS _ v_aList aList (h_aList.ext pos_shCust hx29) (by first | assumption | omega | (simp; omega))) ?_
    rintro v32 w33 he34 ⟨z36, ho35, hN37, hE38⟩ a39 ha39; clear ha31 a31
    have hx40 := hx29.trans' he34
    have hzhx40 := he34.size
    replace ho19 := ho19.ext he34
    replace hN21 := hN21.ext he34
    have hlhE38 := absLen hE38
    refine wl_val ha39 rfl rfl rfl (op_assign ha39 rfl rfl) ?_
    intro a41 ha41; clear ha39 a39
    refine wpList_nil ?_
    refine then_n ?_
    refine wp_seq ?_
    refine wp_region_lit ?_
    refine wl_val ha41 rfl rfl rfl (op_move ha41 rfl rfl) ?_
    intro a42 ha42; clear ha41 a41
    refine wl_callR ha42 rfl rfl rfl (op_call ha42 rfl cb17 rfl) (c_impl_AreCustomers _ v32 ((aList)) ((rds_shCustN (ho35.fin (by omega) (by omega) (by omega)) hN37).cast hE38) (by first | assumption | omega | (simp; omega))) ?_
    rintro v43 w44 he45 rfl a46 ha46; clear ha42 a42
    have hx47 := hx40.trans' he45
    have hzhx47 := he45.size
    replace ho19 := ho19.ext he45
    replace hN21 := hN21.ext he45
    replace ho35 := ho35.ext he45
    replace hN37 := hN37.ext he45
    refine wl_val ha46 rfl rfl rfl (op_assign ha46 rfl rfl) ?_
    intro a48 ha48; clear ha46 a46
    refine wpList_nil ?_
    refine then_n ?_
    refine wp_seq ?_
    refine wp_seq ?_
    refine wp_region_lit ?_
    refine wl_val ha48 rfl rfl rfl (op_move ha48 rfl rfl) ?_
    intro a49 ha49; clear ha48 a48
    refine wl_val ha49 rfl rfl rfl (op_move ha49 rfl rfl) ?_
    intro a50 ha50; clear ha49 a49
    refine wl_val ha50 rfl rfl rfl (op_bneq ha50 rfl Try.underlying4 rfl rfl) ?_
    intro a51 ha51; clear ha50 a50
    refine wpList_nil ?_
    refine then_n ?_
    rcases Bool.eq_false_or_eq_true ((cuB ((aList)) == cuB ((aList)))) with c52 | c52
    ·
      rw [c52] at ha51
      refine cond_f ha51 rfl ?_
      refine wp_skip ?_
      refine then_n ?_
      refine wp_seq ?_
      refine wp_seq ?_
      refine wp_region_lit ?_
      refine wl_val ha51 rfl rfl rfl (op_move ha51 rfl rfl) ?_
      intro a53 ha53; clear ha51 a51
      refine wl_val ha53 rfl rfl rfl (op_move ha53 rfl rfl) ?_
      intro a54 ha54; clear ha53 a53
      refine wl_callR ha54 rfl rfl rfl (op_call ha54 rfl cb16 rfl) (c_laws_toCustomerS _ v_aList aList (h_aList.ext pos_shCust hx47) (by first | assumption | omega | (simp; omega))) ?_
      rintro v55 w56 he57 ⟨z59, ho58, hN60, hE61⟩ a62 ha62; clear ha54 a54
      have hx63 := hx47.trans' he57
      have hzhx63 := he57.size
      replace ho19 := ho19.ext he57
      replace hN21 := hN21.ext he57
      replace ho35 := ho35.ext he57
      replace hN37 := hN37.ext he57
      have hlhE61 := absLen hE61
      refine wl_callR ha62 rfl rfl rfl (op_call ha62 rfl cb18 rfl) (c_laws_eqCustomerS _ v32 ((aList)) v55 ((aList)) ((rds_shCustN (ho35.fin (by omega) (by omega) (by omega)) hN37).cast hE38) ((rds_shCustN (ho58.fin (by omega) (by omega) (by omega)) hN60).cast hE61)) ?_
      rintro v64 w65 he66 rfl a67 ha67; clear ha62 a62
      have hx68 := hx63.trans' he66
      have hzhx68 := he66.size
      replace ho19 := ho19.ext he66
      replace hN21 := hN21.ext he66
      replace ho35 := ho35.ext he66
      replace hN37 := hN37.ext he66
      replace ho58 := ho58.ext he66
      replace hN60 := hN60.ext he66
      refine wl_val ha67 rfl rfl rfl (op_not ha67 rfl rfl) ?_
      intro a69 ha69; clear ha67 a67
      refine wpList_nil ?_
      refine then_n ?_
      rcases Bool.eq_false_or_eq_true (eqL ((aList)) ((aList))) with c70 | c70
      ·
        rw [c70] at ha69
        refine cond_f ha69 rfl ?_
        refine wp_skip ?_
        refine then_n ?_
        refine wp_seq ?_
        refine wp_region_lit ?_
        refine wl_val ha69 rfl rfl rfl (op_assign ha69 rfl rfl) ?_
        intro a71 ha71; clear ha69 a69
        refine wpList_nil ?_
        refine then_n ?_
        refine wp_ret ?_
        refine ret1 ha71 rfl rfl ?_
        clear ha71 a71
        exact ret_mk hx68 (congrArg Value.bool (by first | rfl | omega | (simp at c52; done) | (exact absurd rfl c13)))
      ·
        rw [c70] at ha69
        refine cond_t ha69 rfl ?_
        refine wp_seq ?_
        refine wp_region_lit ?_
        refine wl_val ha69 rfl rfl rfl (op_assign ha69 rfl rfl) ?_
        intro a72 ha72; clear ha69 a69
        refine wpList_nil ?_
        refine then_n ?_
        refine wp_ret ?_
        refine then_r ?_
        refine ret1 ha72 rfl rfl ?_
        clear ha72 a72
        exact ret_mk hx68 (congrArg Value.bool (by first | rfl | omega | (rw [eqL_self] at c70; cases c70) | (exact absurd rfl c70) | (simp at c52; done) | (exact absurd rfl c13)))
    ·
      rw [c52] at ha51
      refine cond_t ha51 rfl ?_
      refine wp_seq ?_
      refine wp_region_lit ?_
      refine wl_val ha51 rfl rfl rfl (op_assign ha51 rfl rfl) ?_
      intro a73 ha73; clear ha51 a51
      refine wpList_nil ?_
      refine then_n ?_
      refine wp_ret ?_
      refine then_r ?_
      refine ret1 ha73 rfl rfl ?_
      clear ha73 a73
      exact ret_mk hx47 (congrArg Value.bool (by first | rfl | omega | (exact absurd rfl c52) | (simp at c52; done) | (exact absurd rfl c13)))


end Go.Proofs.Ythbkedflhmeohaa
