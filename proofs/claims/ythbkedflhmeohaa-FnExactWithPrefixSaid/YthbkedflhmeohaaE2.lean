/- The laws CountBikes, OwnerOf, WithPrefix, walked. -/
import Derived.Test.YthbkedflhmeohaaW3
import Derived.Test.YthbkedflhmeohaaL3
namespace Go.Proofs.Ythbkedflhmeohaa
open Go Go.RowKit

theorem c_laws_FnExactCountBikes (w0 : World) (v_aList : Value) (aList : List (Str × Int × List Str)) {S_aList : Nat → Prop} (h_aList : Rds shCust S_aList w0 v_aList aList) :
    Calls Try.prog 4 #[v_aList] w0 (Ret w0 (fun v _ => v = .bool (true))) := by
  refine enter (N := 40) Try.func4 rfl rfl rfl ?_
  intro a0 ha0
  have hx0 := Ext.rfl' w0
  have hl_aList := h_aList.length_le
  have hcl := costL_len costCu aList
  have hkk := kkCu_le aList 1
  have hkg := kkCu_ge aList 1
  refine wp_seq ?_
  refine wp_region_lit ?_
  refine wl_val ha0 rfl rfl rfl (op_assign ha0 rfl rfl) ?_
  intro a1 ha1; clear ha0 a0
  refine wpList_nil ?_
  refine then_n ?_
  refine wp_seq ?_
  refine wp_region_lit ?_
  refine wl_val ha1 rfl rfl rfl (op_assign ha1 rfl rfl) ?_
  intro a2 ha2; clear ha1 a1
  refine wpList_nil ?_
  refine then_n ?_
  refine wp_seq ?_
  refine wp_region_lit ?_
  refine wl_val ha2 rfl rfl rfl (op_move ha2 rfl rfl) ?_
  intro a3 ha3; clear ha2 a2
  refine wl_val ha3 rfl rfl rfl (op_move ha3 rfl rfl) ?_
  intro a4 ha4; clear ha3 a3
  refine wl_callR ha4 rfl rfl rfl (op_call ha4 rfl cb14 rfl) (c_laws_szCustomerS _ v_aList aList (1048576 : Int) (h_aList.ext pos_shCust hx0) (by first | assumption | omega | (simp; omega)) (by first | assumption | omega | (simp; omega))) ?_
  rintro v5 w6 he7 rfl a8 ha8; clear ha4 a4
  have hx9 := hx0.trans' he7
  have hzhx9 := he7.size
  refine wl_val ha8 rfl rfl rfl (op_assign ha8 rfl rfl) ?_
  intro a10 ha10; clear ha8 a8
  refine wpList_nil ?_
  refine then_n ?_
  refine wp_seq ?_
  refine wp_seq ?_
  refine wp_region_lit ?_
  refine wl_val ha10 rfl rfl rfl (op_move ha10 rfl rfl) ?_
  intro a11 ha11; clear ha10 a10
  refine wl_val ha11 rfl rfl rfl (op_lss ha11 rfl rfl rfl) ?_
  intro a12 ha12; clear ha11 a11
  refine wpList_nil ?_
  refine then_n ?_
  by_cases c13 : (szR (1048576 : Int) (costL costCu aList) : Int) < (0 : Int)
  ·
    rw [decide_eq_true c13] at ha12
    refine cond_t ha12 rfl ?_
    refine wp_seq ?_
    refine wp_region_lit ?_
    refine wl_val ha12 rfl rfl rfl (op_assign ha12 rfl rfl) ?_
    intro a14 ha14; clear ha12 a12
    refine wpList_nil ?_
    refine then_n ?_
    refine wp_ret ?_
    refine then_r ?_
    refine ret1 ha14 rfl rfl ?_
    clear ha14 a14
    exact ret_mk hx9 (congrArg Value.bool (by first | rfl | omega))
  ·
    rw [decide_eq_false c13] at ha12
    have hzc13 := szR_ok c13
    refine cond_f ha12 rfl ?_
    refine wp_skip ?_
    refine then_n ?_
    refine wp_seq ?_
    refine wp_region_lit ?_
    refine wl_val ha12 rfl rfl rfl (op_move ha12 rfl rfl) ?_
    intro a15 ha15; clear ha12 a12
    refine wl_callR ha15 rfl rfl rfl (op_call ha15 rfl cb16 rfl) (c_laws_toCustomerS _ v_aList aList (h_aList.ext pos_shCust hx9) (by first | assumption | omega | (simp; omega))) ?_
    rintro v16 w17 he18 ⟨z20, ho19, hN21, hE22⟩ a23 ha23; clear ha15 a15
    have hx24 := hx9.trans' he18
    have hzhx24 := he18.size
    have hlhE22 := absLen hE22
    refine wl_callR ha23 rfl rfl rfl (op_call ha23 rfl cb19 rfl) (c_spec_CountBikes _ v16 ((aList)) ((rds_shCustN (ho19.fin (by omega) (by omega) (by omega)) hN21).cast hE22) (by first | assumption | omega | (simp; omega))) ?_
    rintro v25 w26 he27 rfl a28 ha28; clear ha23 a23
    have hx29 := hx24.trans' he27
    have hzhx29 := he27.size
    replace ho19 := ho19.ext he27
    replace hN21 := hN21.ext he27
    refine wl_val ha28 rfl rfl rfl (op_move ha28 rfl rfl) ?_
    intro a30 ha30; clear ha28 a28
    refine wl_val ha30 rfl rfl rfl (op_extract ha30 rfl rfl rfl) ?_
    intro a31 ha31; clear ha30 a30
    refine wl_val ha31 rfl rfl rfl (op_extract ha31 rfl rfl rfl) ?_
    intro a32 ha32; clear ha31 a31
    refine wl_val ha32 rfl rfl rfl (op_assign ha32 rfl rfl) ?_
    intro a33 ha33; clear ha32 a32
    refine wl_val ha33 rfl rfl rfl (op_assign ha33 rfl rfl) ?_
    intro a34 ha34; clear ha33 a33
    refine wpList_nil ?_
    refine then_n ?_
    refine wp_seq ?_
    refine wp_region_lit ?_
    refine wl_val ha34 rfl rfl rfl (op_move ha34 rfl rfl) ?_
    intro a35 ha35; clear ha34 a34
    refine wl_callR ha35 rfl rfl rfl (op_call ha35 rfl cb16 rfl) (c_laws_toCustomerS _ v_aList aList (h_aList.ext pos_shCust hx29) (by first | assumption | omega | (simp; omega))) ?_
    rintro v36 w37 he38 ⟨z40, ho39, hN41, hE42⟩ a43 ha43; clear ha35 a35
    have hx44 := hx29.trans' he38
    have hzhx44 := he38.size
    replace ho19 := ho19.ext he38
    replace hN21 := hN21.ext he38
    have hlhE42 := absLen hE42
    refine wl_val ha43 rfl rfl rfl (op_assign ha43 rfl rfl) ?_
    intro a45 ha45; clear ha43 a43
    refine wpList_nil ?_
    refine then_n ?_
    refine wp_seq ?_
    refine wp_region_lit ?_
    refine wl_val ha45 rfl rfl rfl (op_move ha45 rfl rfl) ?_
    intro a46 ha46; clear ha45 a45
    refine wl_callR ha46 rfl rfl rfl (op_call ha46 rfl cb20 rfl) (c_impl_CountBikes _ v36 ((aList)) ((rds_shCustN (ho39.fin (by omega) (by omega) (by omega)) hN41).cast hE42) (by first | assumption | omega | (simp; omega))) ?_
    rintro v47 w48 he49 rfl a50 ha50; clear ha46 a46
    have hx51 := hx44.trans' he49
    have hzhx51 := he49.size
    replace ho19 := ho19.ext he49
    replace hN21 := hN21.ext he49
    replace ho39 := ho39.ext he49
    replace hN41 := hN41.ext he49
    refine wl_val ha50 rfl rfl rfl (op_move ha50 rfl rfl) ?_
    intro a52 ha52; clear ha50 a50
    refine wl_val ha52 rfl rfl rfl (op_extract ha52 rfl rfl rfl) ?_
    intro a53 ha53; clear ha52 a52
    refine wl_val ha53 rfl rfl rfl (op_extract ha53 rfl rfl rfl) ?_
    intro a54 ha54; clear ha53 a53
    refine wl_val ha54 rfl rfl rfl (op_assign ha54 rfl rfl) ?_
    intro a55 ha55; clear ha54 a54
    refine wl_val ha55 rfl rfl rfl (op_assign ha55 rfl rfl) ?_
    intro a56 ha56; clear ha55 a55
    refine wpList_nil ?_
    refine then_n ?_
    refine wp_seq ?_
    refine wp_seq ?_
    refine wp_region_lit ?_
    refine wl_val ha56 rfl rfl rfl (op_move ha56 rfl rfl) ?_
    intro a57 ha57; clear ha56 a56
    refine wl_val ha57 rfl rfl rfl (op_move ha57 rfl rfl) ?_
    intro a58 ha58; clear ha57 a57
    refine wl_val ha58 rfl rfl rfl ((op_neq ha58 rfl rfl rfl).to (congrArg Value.bool decide_not)) ?_
    intro a59 ha59; clear ha58 a58
    refine wl_val ha59 rfl rfl rfl (op_move ha59 rfl rfl) ?_
    intro a60 ha60; clear ha59 a59
    by_cases c61 : (if cuB ((aList)) then sumI nbC ((aList)) else 0 : Int) = (if cuB ((aList)) then sumI nbC ((aList)) else 0 : Int)
    ·
      rw [decide_eq_true c61] at ha60
      refine wl_val ha60 rfl rfl rfl (op_move ha60 rfl rfl) ?_
      intro a62 ha62; clear ha60 a60
      refine wl_val ha62 rfl rfl rfl (op_move ha62 rfl rfl) ?_
      intro a63 ha63; clear ha62 a62
      refine wl_val ha63 rfl rfl rfl ((op_neq ha63 rfl rfl rfl).to (congrArg Value.bool decide_not)) ?_
      intro a64 ha64; clear ha63 a63
      refine wl_val ha64 rfl rfl rfl (op_pick_f ha64 rfl rfl rfl) ?_
      intro a65 ha65; clear ha64 a64
      refine wpList_nil ?_
      refine then_n ?_
      by_cases c66 : (if cuB ((aList)) then 0 else 1 : Int) = (if cuB ((aList)) then 0 else 1 : Int)
      ·
        rw [decide_eq_true c66] at ha65
        refine cond_f ha65 rfl ?_
        refine wp_skip ?_
        refine then_n ?_
        refine wp_seq ?_
        refine wp_seq ?_
        refine wp_region_lit ?_
        refine wl_val ha65 rfl rfl rfl (op_move ha65 rfl rfl) ?_
        intro a67 ha67; clear ha65 a65
        refine wl_val ha67 rfl rfl rfl (op_move ha67 rfl rfl) ?_
        intro a68 ha68; clear ha67 a67
        refine wl_callR ha68 rfl rfl rfl (op_call ha68 rfl cb16 rfl) (c_laws_toCustomerS _ v_aList aList (h_aList.ext pos_shCust hx51) (by first | assumption | omega | (simp; omega))) ?_
        rintro v69 w70 he71 ⟨z73, ho72, hN74, hE75⟩ a76 ha76; clear ha68 a68
        have hx77 := hx51.trans' he71
        have hzhx77 := he71.size
        replace ho19 := ho19.ext he71
        replace hN21 := hN21.ext he71
        replace ho39 := ho39.ext he71
        replace hN41 := hN41.ext he71
        have hlhE75 := absLen hE75
        refine wl_callR ha76 rfl rfl rfl (op_call ha76 rfl cb18 rfl) (c_laws_eqCustomerS _ v36 ((aList)) v69 ((aList)) ((rds_shCustN (ho39.fin (by omega) (by omega) (by omega)) hN41).cast hE42) ((rds_shCustN (ho72.fin (by omega) (by omega) (by omega)) hN74).cast hE75)) ?_
        rintro v78 w79 he80 rfl a81 ha81; clear ha76 a76
        have hx82 := hx77.trans' he80
        have hzhx82 := he80.size
        replace ho19 := ho19.ext he80
        replace hN21 := hN21.ext he80
        replace ho39 := ho39.ext he80
        replace hN41 := hN41.ext he80
        replace ho72 := ho72.ext he80
        replace hN74 := hN74.ext he80
        refine wl_val ha81 rfl rfl rfl (op_not ha81 rfl rfl) ?_
        intro a83 ha83; clear ha81 a81
        refine wpList_nil ?_
        refine then_n ?_
        rcases Bool.eq_false_or_eq_true (eqL ((aList)) ((aList))) with c84 | c84
        ·
          rw [c84] at ha83
          refine cond_f ha83 rfl ?_
          refine wp_skip ?_
          refine then_n ?_
          refine wp_seq ?_
          refine wp_region_lit ?_
          refine wl_val ha83 rfl rfl rfl (op_assign ha83 rfl rfl) ?_
          intro a85 ha85; clear ha83 a83
          refine wpList_nil ?_
          refine then_n ?_
          refine wp_ret ?_
          refine ret1 ha85 rfl rfl ?_
          clear ha85 a85
          exact ret_mk hx82 (congrArg Value.bool (by first | rfl | omega | (exact absurd rfl c13)))
        ·
          rw [c84] at ha83
          refine cond_t ha83 rfl ?_
          refine wp_seq ?_
          refine wp_region_lit ?_
          refine wl_val ha83 rfl rfl rfl (op_assign ha83 rfl rfl) ?_
          intro a86 ha86; clear ha83 a83
          refine wpList_nil ?_
          refine then_n ?_
          refine wp_ret ?_
          refine then_r ?_
          refine ret1 ha86 rfl rfl ?_
          clear ha86 a86
          exact ret_mk hx82 (congrArg Value.bool (by first | rfl | omega | (rw [eqL_self] at c84; cases c84) | (exact absurd rfl c84) | (exact absurd rfl c13)))
      ·
        rw [decide_eq_false c66] at ha65
        refine cond_t ha65 rfl ?_
        refine wp_seq ?_
        refine wp_region_lit ?_
        refine wl_val ha65 rfl rfl rfl (op_assign ha65 rfl rfl) ?_
        intro a87 ha87; clear ha65 a65
        refine wpList_nil ?_
        refine then_n ?_
        refine wp_ret ?_
        refine then_r ?_
        refine ret1 ha87 rfl rfl ?_
        clear ha87 a87
        exact ret_mk hx51 (congrArg Value.bool (by first | rfl | omega | (exact absurd rfl c66) | (exact absurd rfl c13)))
    ·
      rw [decide_eq_false c61] at ha60
      refine wl_skip ha60 rfl rfl rfl ?_
      intro a88 ha88; clear ha60 a60
      refine wl_skip ha88 rfl rfl rfl ?_
      intro a89 ha89; clear ha88 a88
      refine wl_skip ha89 rfl rfl rfl ?_
      intro a90 ha90; clear ha89 a89
      refine wl_val ha90 rfl rfl rfl (op_pick_t ha90 rfl rfl rfl) ?_
      intro a91 ha91; clear ha90 a90
      refine wpList_nil ?_
      refine then_n ?_
      refine cond_t ha91 rfl ?_
      refine wp_seq ?_
      refine wp_region_lit ?_
      refine wl_val ha91 rfl rfl rfl (op_assign ha91 rfl rfl) ?_
      intro a92 ha92; clear ha91 a91
      refine wpList_nil ?_
      refine then_n ?_
      refine wp_ret ?_
      refine then_r ?_
      refine ret1 ha92 rfl rfl ?_
      clear ha92 a92
      exact ret_mk hx51 (congrArg Value.bool (by first | rfl | omega | (exact absurd rfl c61) | (exact absurd rfl c13)))

theorem c_laws_FnExactOwnerOf (w0 : World) (v_aList : Value) (aList : List (Str × Int × List Str)) {S_aList : Nat → Prop} (aBike : Str) (h_aList : Rds shCust S_aList w0 v_aList aList) :
    Calls Try.prog 5 #[v_aList, St aBike] w0 (Ret w0 (fun v _ => v = .bool (true))) := by
  refine enter (N := 47) Try.func5 rfl rfl rfl ?_
  intro a0 ha0
  have hx0 := Ext.rfl' w0
  have hl_aList := h_aList.length_le
  have hcl := costL_len costCu aList
  have hkk := kkCu_le aList 1
  have hkg := kkCu_ge aList 1
  refine wp_seq ?_
  refine wp_region_lit ?_
  refine wl_val ha0 rfl rfl rfl (op_assign ha0 rfl rfl) ?_
  intro a1 ha1; clear ha0 a0
  refine wpList_nil ?_
  refine then_n ?_
  refine wp_seq ?_
  refine wp_seq ?_
  refine wp_region_lit ?_
  refine wl_val ha1 rfl rfl rfl (op_move ha1 rfl rfl) ?_
  intro a2 ha2; clear ha1 a1
  refine wl_val ha2 rfl rfl rfl (op_len_str ha2 rfl Try.underlying9 rfl) ?_
  intro a3 ha3; clear ha2 a2
  refine wl_val ha3 rfl rfl rfl (op_gtr ha3 rfl rfl rfl) ?_
  intro a4 ha4; clear ha3 a3
  refine wpList_nil ?_
  refine then_n ?_
  by_cases c5 : (1048576 : Int) < ((aBike.length : Nat) : Int)
  ·
    rw [decide_eq_true c5] at ha4
    refine cond_t ha4 rfl ?_
    refine wp_seq ?_
    refine wp_region_lit ?_
    refine wl_val ha4 rfl rfl rfl (op_assign ha4 rfl rfl) ?_
    intro a6 ha6; clear ha4 a4
    refine wpList_nil ?_
    refine then_n ?_
    refine wp_ret ?_
    refine then_r ?_
    refine ret1 ha6 rfl rfl ?_
    clear ha6 a6
    exact ret_mk hx0 (congrArg Value.bool (by first | rfl | omega))
  ·
    rw [decide_eq_false c5] at ha4
    refine cond_f ha4 rfl ?_
    refine wp_skip ?_
    refine then_n ?_
    refine wp_seq ?_
    refine wp_region_lit ?_
    refine wl_val ha4 rfl rfl rfl (op_assign ha4 rfl rfl) ?_
    intro a7 ha7; clear ha4 a4
    refine wpList_nil ?_
    refine then_n ?_
    refine wp_seq ?_
    refine wp_region_lit ?_
    refine wl_val ha7 rfl rfl rfl (op_move ha7 rfl rfl) ?_
    intro a8 ha8; clear ha7 a7
    refine wl_val ha8 rfl rfl rfl (op_move ha8 rfl rfl) ?_
    intro a9 ha9; clear ha8 a8
    refine wl_callR ha9 rfl rfl rfl (op_call ha9 rfl cb14 rfl) (c_laws_szCustomerS _ v_aList aList (1048576 : Int) (h_aList.ext pos_shCust hx0) (by first | assumption | omega | (simp; omega)) (by first | assumption | omega | (simp; omega))) ?_
    rintro v10 w11 he12 rfl a13 ha13; clear ha9 a9
    have hx14 := hx0.trans' he12
    have hzhx14 := he12.size
    refine wl_val ha13 rfl rfl rfl (op_assign ha13 rfl rfl) ?_
    intro a15 ha15; clear ha13 a13
    refine wpList_nil ?_
    refine then_n ?_
    refine wp_seq ?_
    refine wp_seq ?_
    refine wp_region_lit ?_
    refine wl_val ha15 rfl rfl rfl (op_move ha15 rfl rfl) ?_
    intro a16 ha16; clear ha15 a15
    refine wl_val ha16 rfl rfl rfl (op_lss ha16 rfl rfl rfl) ?_
    intro a17 ha17; clear ha16 a16
    refine wpList_nil ?_
    refine then_n ?_
    by_cases c18 : (szR (1048576 : Int) (costL costCu aList) : Int) < (0 : Int)
    ·
      rw [decide_eq_true c18] at ha17
      refine cond_t ha17 rfl ?_
      refine wp_seq ?_
      refine wp_region_lit ?_
      refine wl_val ha17 rfl rfl rfl (op_assign ha17 rfl rfl) ?_
      intro a19 ha19; clear ha17 a17
      refine wpList_nil ?_
      refine then_n ?_
      refine wp_ret ?_
      refine then_r ?_
      refine ret1 ha19 rfl rfl ?_
      clear ha19 a19
      exact ret_mk hx14 (congrArg Value.bool (by first | rfl | omega | (exact absurd rfl c5)))
    ·
      rw [decide_eq_false c18] at ha17
      have hzc18 := szR_ok c18
      refine cond_f ha17 rfl ?_
      refine wp_skip ?_
      refine then_n ?_
      refine wp_seq ?_
      refine wp_region_lit ?_
      refine wl_val ha17 rfl rfl rfl (op_move ha17 rfl rfl) ?_
      intro a20 ha20; clear ha17 a17
      refine wl_callR ha20 rfl rfl rfl (op_call ha20 rfl cb16 rfl) (c_laws_toCustomerS _ v_aList aList (h_aList.ext pos_shCust hx14) (by first | assumption | omega | (simp; omega))) ?_
      rintro v21 w22 he23 ⟨z25, ho24, hN26, hE27⟩ a28 ha28; clear ha20 a20
      have hx29 := hx14.trans' he23
      have hzhx29 := he23.size
      have hlhE27 := absLen hE27
      refine wl_val ha28 rfl rfl rfl (op_move ha28 rfl rfl) ?_
      intro a30 ha30; clear ha28 a28
      refine wl_callR ha30 rfl rfl rfl (op_call ha30 rfl cb21 rfl) (c_spec_OwnerOf _ v21 ((aList)) aBike ((rds_shCustN (ho24.fin (by omega) (by omega) (by omega)) hN26).cast hE27) (by first | assumption | omega | (simp; omega)) (by first | assumption | omega | (simp; omega))) ?_
      rintro v31 w32 he33 rfl a34 ha34; clear ha30 a30
      have hx35 := hx29.trans' he33
      have hzhx35 := he33.size
      replace ho24 := ho24.ext he33
      replace hN26 := hN26.ext he33
      refine wl_val ha34 rfl rfl rfl (op_move ha34 rfl rfl) ?_
      intro a36 ha36; clear ha34 a34
      refine wl_val ha36 rfl rfl rfl (op_extract ha36 rfl rfl rfl) ?_
      intro a37 ha37; clear ha36 a36
      refine wl_val ha37 rfl rfl rfl (op_extract ha37 rfl rfl rfl) ?_
      intro a38 ha38; clear ha37 a37
      refine wl_val ha38 rfl rfl rfl (op_assign ha38 rfl rfl) ?_
      intro a39 ha39; clear ha38 a38
      refine wl_val ha39 rfl rfl rfl (op_assign ha39 rfl rfl) ?_
      intro a40 ha40; clear ha39 a39
      refine wpList_nil ?_
      refine then_n ?_
      refine wp_seq ?_
      refine wp_region_lit ?_
      refine wl_val ha40 rfl rfl rfl (op_move ha40 rfl rfl) ?_
      intro a41 ha41; clear ha40 a40
      refine wl_callR ha41 rfl rfl rfl (op_call ha41 rfl cb16 rfl) (c_laws_toCustomerS _ v_aList aList (h_aList.ext pos_shCust hx35) (by first | assumption | omega | (simp; omega))) ?_
      rintro v42 w43 he44 ⟨z46, ho45, hN47, hE48⟩ a49 ha49; clear ha41 a41
      have hx50 := hx35.trans' he44
      have hzhx50 := he44.size
      replace ho24 := ho24.ext he44
      replace hN26 := hN26.ext he44
      have hlhE48 := absLen hE48
      refine wl_val ha49 rfl rfl rfl (op_assign ha49 rfl rfl) ?_
      intro a51 ha51; clear ha49 a49
      refine wpList_nil ?_
      refine then_n ?_
      refine wp_seq ?_
      refine wp_region_lit ?_
      refine wl_val ha51 rfl rfl rfl (op_move ha51 rfl rfl) ?_
      intro a52 ha52; clear ha51 a51
      refine wl_val ha52 rfl rfl rfl (op_move ha52 rfl rfl) ?_
      intro a53 ha53; clear ha52 a52
      refine wl_callR ha53 rfl rfl rfl (op_call ha53 rfl cb22 rfl) (c_impl_OwnerOf _ v42 ((aList)) aBike ((rds_shCustN (ho45.fin (by omega) (by omega) (by omega)) hN47).cast hE48) (by first | assumption | omega | (simp; omega)) (by first | assumption | omega | (simp; omega))) ?_
      rintro v54 w55 he56 rfl a57 ha57; clear ha53 a53
      have hx58 := hx50.trans' he56
      have hzhx58 := he56.size
      replace ho24 := ho24.ext he56
      replace hN26 := hN26.ext he56
      replace ho45 := ho45.ext he56
      replace hN47 := hN47.ext he56
      refine wl_val ha57 rfl rfl rfl (op_move ha57 rfl rfl) ?_
      intro a59 ha59; clear ha57 a57
      refine wl_val ha59 rfl rfl rfl (op_extract ha59 rfl rfl rfl) ?_
      intro a60 ha60; clear ha59 a59
      refine wl_val ha60 rfl rfl rfl (op_extract ha60 rfl rfl rfl) ?_
      intro a61 ha61; clear ha60 a60
      refine wl_val ha61 rfl rfl rfl (op_assign ha61 rfl rfl) ?_
      intro a62 ha62; clear ha61 a61
      refine wl_val ha62 rfl rfl rfl (op_assign ha62 rfl rfl) ?_
      intro a63 ha63; clear ha62 a62
      refine wpList_nil ?_
      refine then_n ?_
      refine wp_seq ?_
      refine wp_seq ?_
      refine wp_region_lit ?_
      refine wl_val ha63 rfl rfl rfl (op_move ha63 rfl rfl) ?_
      intro a64 ha64; clear ha63 a63
      refine wl_val ha64 rfl rfl rfl (op_move ha64 rfl rfl) ?_
      intro a65 ha65; clear ha64 a64
      refine wl_val ha65 rfl rfl rfl ((op_sneq ha65 rfl rfl rfl).to (congrArg Value.bool decide_not)) ?_
      intro a66 ha66; clear ha65 a65
      refine wl_val ha66 rfl rfl rfl (op_move ha66 rfl rfl) ?_
      intro a67 ha67; clear ha66 a66
      by_cases c68 : (ownN ((aList)) aBike) = (ownN ((aList)) aBike)
      ·
        rw [decide_eq_true c68] at ha67
        refine wl_val ha67 rfl rfl rfl (op_move ha67 rfl rfl) ?_
        intro a69 ha69; clear ha67 a67
        refine wl_val ha69 rfl rfl rfl (op_move ha69 rfl rfl) ?_
        intro a70 ha70; clear ha69 a69
        refine wl_val ha70 rfl rfl rfl ((op_neq ha70 rfl rfl rfl).to (congrArg Value.bool decide_not)) ?_
        intro a71 ha71; clear ha70 a70
        refine wl_val ha71 rfl rfl rfl (op_pick_f ha71 rfl rfl rfl) ?_
        intro a72 ha72; clear ha71 a71
        refine wpList_nil ?_
        refine then_n ?_
        by_cases c73 : (ownC ((aList)) aBike : Int) = (ownC ((aList)) aBike : Int)
        ·
          rw [decide_eq_true c73] at ha72
          refine cond_f ha72 rfl ?_
          refine wp_skip ?_
          refine then_n ?_
          refine wp_seq ?_
          refine wp_seq ?_
          refine wp_region_lit ?_
          refine wl_val ha72 rfl rfl rfl (op_move ha72 rfl rfl) ?_
          intro a74 ha74; clear ha72 a72
          refine wl_val ha74 rfl rfl rfl (op_move ha74 rfl rfl) ?_
          intro a75 ha75; clear ha74 a74
          refine wl_callR ha75 rfl rfl rfl (op_call ha75 rfl cb16 rfl) (c_laws_toCustomerS _ v_aList aList (h_aList.ext pos_shCust hx58) (by first | assumption | omega | (simp; omega))) ?_
          rintro v76 w77 he78 ⟨z80, ho79, hN81, hE82⟩ a83 ha83; clear ha75 a75
          have hx84 := hx58.trans' he78
          have hzhx84 := he78.size
          replace ho24 := ho24.ext he78
          replace hN26 := hN26.ext he78
          replace ho45 := ho45.ext he78
          replace hN47 := hN47.ext he78
          have hlhE82 := absLen hE82
          refine wl_callR ha83 rfl rfl rfl (op_call ha83 rfl cb18 rfl) (c_laws_eqCustomerS _ v42 ((aList)) v76 ((aList)) ((rds_shCustN (ho45.fin (by omega) (by omega) (by omega)) hN47).cast hE48) ((rds_shCustN (ho79.fin (by omega) (by omega) (by omega)) hN81).cast hE82)) ?_
          rintro v85 w86 he87 rfl a88 ha88; clear ha83 a83
          have hx89 := hx84.trans' he87
          have hzhx89 := he87.size
          replace ho24 := ho24.ext he87
          replace hN26 := hN26.ext he87
          replace ho45 := ho45.ext he87
          replace hN47 := hN47.ext he87
          replace ho79 := ho79.ext he87
          replace hN81 := hN81.ext he87
          refine wl_val ha88 rfl rfl rfl (op_not ha88 rfl rfl) ?_
          intro a90 ha90; clear ha88 a88
          refine wpList_nil ?_
          refine then_n ?_
          rcases Bool.eq_false_or_eq_true (eqL ((aList)) ((aList))) with c91 | c91
          ·
            rw [c91] at ha90
            refine cond_f ha90 rfl ?_
            refine wp_skip ?_
            refine then_n ?_
            refine wp_seq ?_
            refine wp_region_lit ?_
            refine wl_val ha90 rfl rfl rfl (op_assign ha90 rfl rfl) ?_
            intro a92 ha92; clear ha90 a90
            refine wpList_nil ?_
            refine then_n ?_
            refine wp_ret ?_
            refine ret1 ha92 rfl rfl ?_
            clear ha92 a92
            exact ret_mk hx89 (congrArg Value.bool (by first | rfl | omega | (exact absurd rfl c18) | (exact absurd rfl c5)))
          ·
            rw [c91] at ha90
            refine cond_t ha90 rfl ?_
            refine wp_seq ?_
            refine wp_region_lit ?_
            refine wl_val ha90 rfl rfl rfl (op_assign ha90 rfl rfl) ?_
            intro a93 ha93; clear ha90 a90
            refine wpList_nil ?_
            refine then_n ?_
            refine wp_ret ?_
            refine then_r ?_
            refine ret1 ha93 rfl rfl ?_
            clear ha93 a93
            exact ret_mk hx89 (congrArg Value.bool (by first | rfl | omega | (rw [eqL_self] at c91; cases c91) | (exact absurd rfl c91) | (exact absurd rfl c18) | (exact absurd rfl c5)))
        ·
          rw [decide_eq_false c73] at ha72
          refine cond_t ha72 rfl ?_
          refine wp_seq ?_
          refine wp_region_lit ?_
          refine wl_val ha72 rfl rfl rfl (op_assign ha72 rfl rfl) ?_
          intro a94 ha94; clear ha72 a72
          refine wpList_nil ?_
          refine then_n ?_
          refine wp_ret ?_
          refine then_r ?_
          refine ret1 ha94 rfl rfl ?_
          clear ha94 a94
          exact ret_mk hx58 (congrArg Value.bool (by first | rfl | omega | (exact absurd rfl c73) | (exact absurd rfl c18) | (exact absurd rfl c5)))
      ·
        rw [decide_eq_false c68] at ha67
        refine wl_skip ha67 rfl rfl rfl ?_
        intro a95 ha95; clear ha67 a67
        refine wl_skip ha95 rfl rfl rfl ?_
        intro a96 ha96; clear ha95 a95
        refine wl_skip ha96 rfl rfl rfl ?_
        intro a97 ha97; clear ha96 a96
        refine wl_val ha97 rfl rfl rfl (op_pick_t ha97 rfl rfl rfl) ?_
        intro a98 ha98; clear ha97 a97
        refine wpList_nil ?_
        refine then_n ?_
        refine cond_t ha98 rfl ?_
        refine wp_seq ?_
        refine wp_region_lit ?_
        refine wl_val ha98 rfl rfl rfl (op_assign ha98 rfl rfl) ?_
        intro a99 ha99; clear ha98 a98
        refine wpList_nil ?_
        refine then_n ?_
        refine wp_ret ?_
        refine then_r ?_
        refine ret1 ha99 rfl rfl ?_
        clear ha99 a99
        exact ret_mk hx58 (congrArg Value.bool (by first | rfl | omega | (exact absurd rfl c68) | (exact absurd rfl c18) | (exact absurd rfl c5)))

theorem c_laws_FnExactWithPrefix (w0 : World) (v_aList : Value) (aList : List (Str × Int × List Str)) {S_aList : Nat → Prop} (aPrefix : Str) (h_aList : Rds shCust S_aList w0 v_aList aList) :
    Calls Try.prog 6 #[v_aList, St aPrefix] w0 (Ret w0 (fun v _ => v = .bool (true))) := by
  refine enter (N := 104) Try.func6 rfl rfl rfl ?_
  intro a0 ha0
  have hx0 := Ext.rfl' w0
  have hl_aList := h_aList.length_le
  have hcl := costL_len costCu aList
  have hkk := kkCu_le aList 1
  have hkg := kkCu_ge aList 1
  have hrl := pfL_len aPrefix aList
  have hr1 : (if cuB aList then pfL aPrefix aList else []).length ≤ aList.length := by split <;> first | omega | simp | (simp; omega)
  refine wp_seq ?_
  refine wp_region_lit ?_
  refine wl_val ha0 rfl rfl rfl (op_assign ha0 rfl rfl) ?_
  intro a1 ha1; clear ha0 a0
  refine wpList_nil ?_
  refine then_n ?_
  refine wp_seq ?_
  refine wp_seq ?_
  refine wp_region_lit ?_
  refine wl_val ha1 rfl rfl rfl (op_move ha1 rfl rfl) ?_
  intro a2 ha2; clear ha1 a1
  refine wl_val ha2 rfl rfl rfl (op_len_str ha2 rfl Try.underlying9 rfl) ?_
  intro a3 ha3; clear ha2 a2
  refine wl_val ha3 rfl rfl rfl (op_gtr ha3 rfl rfl rfl) ?_
  intro a4 ha4; clear ha3 a3
  refine wpList_nil ?_
  refine then_n ?_
  by_cases c5 : (1048576 : Int) < ((aPrefix.length : Nat) : Int)
  ·
    rw [decide_eq_true c5] at ha4
    refine cond_t ha4 rfl ?_
    refine wp_seq ?_
    refine wp_region_lit ?_
    refine wl_val ha4 rfl rfl rfl (op_assign ha4 rfl rfl) ?_
    intro a6 ha6; clear ha4 a4
    refine wpList_nil ?_
    refine then_n ?_
    refine wp_ret ?_
    refine then_r ?_
    refine ret1 ha6 rfl rfl ?_
    clear ha6 a6
    exact ret_mk hx0 (congrArg Value.bool (by first | rfl | omega))
  ·
    rw [decide_eq_false c5] at ha4
    refine cond_f ha4 rfl ?_
    refine wp_skip ?_
    refine then_n ?_
    refine wp_seq ?_
    refine wp_region_lit ?_
    refine wl_val ha4 rfl rfl rfl (op_assign ha4 rfl rfl) ?_
    intro a7 ha7; clear ha4 a4
    refine wpList_nil ?_
    refine then_n ?_
    refine wp_seq ?_
    refine wp_region_lit ?_
    refine wl_val ha7 rfl rfl rfl (op_move ha7 rfl rfl) ?_
    intro a8 ha8; clear ha7 a7
    refine wl_val ha8 rfl rfl rfl (op_move ha8 rfl rfl) ?_
    intro a9 ha9; clear ha8 a8
    refine wl_callR ha9 rfl rfl rfl (op_call ha9 rfl cb14 rfl) (c_laws_szCustomerS _ v_aList aList (1048576 : Int) (h_aList.ext pos_shCust hx0) (by first | assumption | omega | (simp; omega)) (by first | assumption | omega | (simp; omega))) ?_
    rintro v10 w11 he12 rfl a13 ha13; clear ha9 a9
    have hx14 := hx0.trans' he12
    have hzhx14 := he12.size
    refine wl_val ha13 rfl rfl rfl (op_assign ha13 rfl rfl) ?_
    intro a15 ha15; clear ha13 a13
    refine wpList_nil ?_
    refine then_n ?_
    refine wp_seq ?_
    refine wp_seq ?_
    refine wp_region_lit ?_
    refine wl_val ha15 rfl rfl rfl (op_move ha15 rfl rfl) ?_
    intro a16 ha16; clear ha15 a15
    refine wl_val ha16 rfl rfl rfl (op_lss ha16 rfl rfl rfl) ?_
    intro a17 ha17; clear ha16 a16
    refine wpList_nil ?_
    refine then_n ?_
    by_cases c18 : (szR (1048576 : Int) (costL costCu aList) : Int) < (0 : Int)
    ·
      rw [decide_eq_true c18] at ha17
      refine cond_t ha17 rfl ?_
      refine wp_seq ?_
      refine wp_region_lit ?_
      refine wl_val ha17 rfl rfl rfl (op_assign ha17 rfl rfl) ?_
      intro a19 ha19; clear ha17 a17
      refine wpList_nil ?_
      refine then_n ?_
      refine wp_ret ?_
      refine then_r ?_
      refine ret1 ha19 rfl rfl ?_
      clear ha19 a19
      exact ret_mk hx14 (congrArg Value.bool (by first | rfl | omega | (exact absurd rfl c5)))
    ·
      rw [decide_eq_false c18] at ha17
      have hzc18 := szR_ok c18
      refine cond_f ha17 rfl ?_
      refine wp_skip ?_
      refine then_n ?_
      refine wp_seq ?_
      refine wp_region_lit ?_
      refine wl_val ha17 rfl rfl rfl (op_move ha17 rfl rfl) ?_
      intro a20 ha20; clear ha17 a17
      refine wl_callR ha20 rfl rfl rfl (op_call ha20 rfl cb16 rfl) (c_laws_toCustomerS _ v_aList aList (h_aList.ext pos_shCust hx14) (by first | assumption | omega | (simp; omega))) ?_
      rintro v21 w22 he23 ⟨z25, ho24, hN26, hE27⟩ a28 ha28; clear ha20 a20
      have hx29 := hx14.trans' he23
      have hzhx29 := he23.size
      have hlhE27 := absLen hE27
      refine wl_val ha28 rfl rfl rfl (op_move ha28 rfl rfl) ?_
      intro a30 ha30; clear ha28 a28
      refine wl_callR ha30 rfl rfl rfl (op_call ha30 rfl cb23 rfl) (c_spec_WithPrefix _ v21 ((aList)) aPrefix ((rds_shCustN (ho24.fin (by omega) (by omega) (by omega)) hN26).cast hE27) (by first | assumption | omega | (simp; omega)) (by first | assumption | omega | (simp; omega))) ?_
      rintro v31 w32 he33 ⟨v34, rfl, ho35⟩ a36 ha36; clear ha30 a30
      have hx37 := hx29.trans' he33
      have hzhx37 := he33.size
      replace ho24 := ho24.ext he33
      replace hN26 := hN26.ext he33
      refine wl_val ha36 rfl rfl rfl (op_move ha36 rfl rfl) ?_
      intro a38 ha38; clear ha36 a36
      refine wl_val ha38 rfl rfl rfl (op_extract ha38 rfl rfl rfl) ?_
      intro a39 ha39; clear ha38 a38
      refine wl_val ha39 rfl rfl rfl (op_extract ha39 rfl rfl rfl) ?_
      intro a40 ha40; clear ha39 a39
      refine wl_val ha40 rfl rfl rfl (op_assign ha40 rfl rfl) ?_
      intro a41 ha41; clear ha40 a40
      refine wl_val ha41 rfl rfl rfl (op_assign ha41 rfl rfl) ?_
      intro a42 ha42; clear ha41 a41
      refine wpList_nil ?_
      refine then_n ?_
      refine wp_seq ?_
      refine wp_region_lit ?_
      refine wl_val ha42 rfl rfl rfl (op_move ha42 rfl rfl) ?_
      intro a43 ha43; clear ha42 a42
      refine wl_callR ha43 rfl rfl rfl (op_call ha43 rfl cb16 rfl) (c_laws_toCustomerS _ v_aList aList (h_aList.ext pos_shCust hx37) (by first | assumption | omega | (simp; omega))) ?_
      rintro v44 w45 he46 ⟨z48, ho47, hN49, hE50⟩ a51 ha51; clear ha43 a43
      have hx52 := hx37.trans' he46
      have hzhx52 := he46.size
      replace ho24 := ho24.ext he46
      replace hN26 := hN26.ext he46
      replace ho35 := ho35.ext he46
      have hlhE50 := absLen hE50
      refine wl_val ha51 rfl rfl rfl (op_assign ha51 rfl rfl) ?_
      intro a53 ha53; clear ha51 a51
      refine wpList_nil ?_
      refine then_n ?_
      refine wp_seq ?_
      refine wp_region_lit ?_
      refine wl_val ha53 rfl rfl rfl (op_move ha53 rfl rfl) ?_
      intro a54 ha54; clear ha53 a53
      refine wl_val ha54 rfl rfl rfl (op_move ha54 rfl rfl) ?_
      intro a55 ha55; clear ha54 a54
      refine wl_callR ha55 rfl rfl rfl (op_call ha55 rfl cb24 rfl) (c_impl_WithPrefix _ v44 ((aList)) aPrefix ((rds_shCustN (ho47.fin (by omega) (by omega) (by omega)) hN49).cast hE50) (by first | assumption | omega | (simp; omega)) (by first | assumption | omega | (simp; omega))) ?_
      rintro v56 w57 he58 ⟨v59, rfl, ho60⟩ a61 ha61; clear ha55 a55
      have hx62 := hx52.trans' he58
      have hzhx62 := he58.size
      replace ho24 := ho24.ext he58
      replace hN26 := hN26.ext he58
      replace ho35 := ho35.ext he58
      replace ho47 := ho47.ext he58
      replace hN49 := hN49.ext he58
      refine wl_val ha61 rfl rfl rfl (op_move ha61 rfl rfl) ?_
      intro a63 ha63; clear ha61 a61
      refine wl_val ha63 rfl rfl rfl (op_extract ha63 rfl rfl rfl) ?_
      intro a64 ha64; clear ha63 a63
      refine wl_val ha64 rfl rfl rfl (op_extract ha64 rfl rfl rfl) ?_
      intro a65 ha65; clear ha64 a64
      refine wl_val ha65 rfl rfl rfl (op_assign ha65 rfl rfl) ?_
      intro a66 ha66; clear ha65 a65
      refine wl_val ha66 rfl rfl rfl (op_assign ha66 rfl rfl) ?_
      intro a67 ha67; clear ha66 a66
      refine wpList_nil ?_
      refine then_n ?_
      refine wp_seq ?_
      refine wp_seq ?_
      refine wp_region_lit ?_
      refine wl_val ha67 rfl rfl rfl (op_move ha67 rfl rfl) ?_
      intro a68 ha68; clear ha67 a67
      refine wl_val ha68 rfl rfl rfl (op_move ha68 rfl rfl) ?_
      intro a69 ha69; clear ha68 a68
      refine wl_callR ha69 rfl rfl rfl (op_call ha69 rfl cb25 rfl) (c_laws_eqStringS _ v59 ((if cuB ((aList)) then pfL aPrefix ((aList)) else [])) v34 ((if cuB ((aList)) then pfL aPrefix ((aList)) else [])) (ho60.rds pos_shStr) (ho35.rds pos_shStr)) ?_
      rintro v70 w71 he72 rfl a73 ha73; clear ha69 a69
      have hx74 := hx62.trans' he72
      have hzhx74 := he72.size
      replace ho24 := ho24.ext he72
      replace hN26 := hN26.ext he72
      replace ho35 := ho35.ext he72
      replace ho47 := ho47.ext he72
      replace hN49 := hN49.ext he72
      replace ho60 := ho60.ext he72
      refine wl_val ha73 rfl rfl rfl (op_not ha73 rfl rfl) ?_
      intro a75 ha75; clear ha73 a73
      refine wl_val ha75 rfl rfl rfl (op_move ha75 rfl rfl) ?_
      intro a76 ha76; clear ha75 a75
      rcases Bool.eq_false_or_eq_true (eqL ((if cuB ((aList)) then pfL aPrefix ((aList)) else [])) ((if cuB ((aList)) then pfL aPrefix ((aList)) else []))) with c77 | c77
      ·
        rw [c77] at ha76
        refine wl_val ha76 rfl rfl rfl (op_move ha76 rfl rfl) ?_
        intro a78 ha78; clear ha76 a76
        refine wl_val ha78 rfl rfl rfl (op_move ha78 rfl rfl) ?_
        intro a79 ha79; clear ha78 a78
        refine wl_val ha79 rfl rfl rfl ((op_neq ha79 rfl rfl rfl).to (congrArg Value.bool decide_not)) ?_
        intro a80 ha80; clear ha79 a79
        refine wl_val ha80 rfl rfl rfl (op_pick_f ha80 rfl rfl rfl) ?_
        intro a81 ha81; clear ha80 a80
        refine wpList_nil ?_
        refine then_n ?_
        by_cases c82 : (if cuB ((aList)) then 0 else 1 : Int) = (if cuB ((aList)) then 0 else 1 : Int)
        ·
          rw [decide_eq_true c82] at ha81
          refine cond_f ha81 rfl ?_
          refine wp_skip ?_
          refine then_n ?_
          refine wp_seq ?_
          refine wp_seq ?_
          refine wp_region_lit ?_
          refine wl_val ha81 rfl rfl rfl (op_move ha81 rfl rfl) ?_
          intro a83 ha83; clear ha81 a81
          refine wl_val ha83 rfl rfl rfl (op_move ha83 rfl rfl) ?_
          intro a84 ha84; clear ha83 a83
          refine wl_callR ha84 rfl rfl rfl (op_call ha84 rfl cb16 rfl) (c_laws_toCustomerS _ v_aList aList (h_aList.ext pos_shCust hx74) (by first | assumption | omega | (simp; omega))) ?_
          rintro v85 w86 he87 ⟨z89, ho88, hN90, hE91⟩ a92 ha92; clear ha84 a84
          have hx93 := hx74.trans' he87
          have hzhx93 := he87.size
          replace ho24 := ho24.ext he87
          replace hN26 := hN26.ext he87
          replace ho35 := ho35.ext he87
          replace ho47 := ho47.ext he87
          replace hN49 := hN49.ext he87
          replace ho60 := ho60.ext he87
          have hlhE91 := absLen hE91
          refine wl_callR ha92 rfl rfl rfl (op_call ha92 rfl cb18 rfl) (c_laws_eqCustomerS _ v44 ((aList)) v85 ((aList)) ((rds_shCustN (ho47.fin (by omega) (by omega) (by omega)) hN49).cast hE50) ((rds_shCustN (ho88.fin (by omega) (by omega) (by omega)) hN90).cast hE91)) ?_
          rintro v94 w95 he96 rfl a97 ha97; clear ha92 a92
          have hx98 := hx93.trans' he96
          have hzhx98 := he96.size
          replace ho24 := ho24.ext he96
          replace hN26 := hN26.ext he96
          replace ho35 := ho35.ext he96
          replace ho47 := ho47.ext he96
          replace hN49 := hN49.ext he96
          replace ho60 := ho60.ext he96
          replace ho88 := ho88.ext he96
          replace hN90 := hN90.ext he96
          refine wl_val ha97 rfl rfl rfl (op_not ha97 rfl rfl) ?_
          intro a99 ha99; clear ha97 a97
          refine wpList_nil ?_
          refine then_n ?_
          rcases Bool.eq_false_or_eq_true (eqL ((aList)) ((aList))) with c100 | c100
          ·
            rw [c100] at ha99
            refine cond_f ha99 rfl ?_
            refine wp_skip ?_
            refine then_n ?_
            refine wp_seq ?_
            refine wp_region_lit ?_
            refine wl_val ha99 rfl rfl rfl (op_assign ha99 rfl rfl) ?_
            intro a101 ha101; clear ha99 a99
            refine wpList_nil ?_
            refine then_n ?_
            refine wp_seq ?_
            refine wp_region_lit ?_
            refine wl_val ha101 rfl rfl rfl (op_move ha101 rfl rfl) ?_
            intro a102 ha102; clear ha101 a101
            refine wl_val ha102 rfl rfl rfl (op_move ha102 rfl rfl) ?_
            intro a103 ha103; clear ha102 a102
            have hm111 := c_laws_markCustomerS _ v44 z48 (1 : Int) (ho47.fin (by omega) (by omega) (by omega)) hN49 (by omega) (by (try rw [hE50]); first | assumption | omega | (simp; omega)) (by (try rw [hE50]); first | assumption | omega | (simp; omega) | (simp [kk_mkCu]; omega)) (by (try rw [hE50]); first | assumption | omega | (simp; omega))
            rw [hE50] at hm111
            refine wl_callI ha103 rfl rfl rfl (op_call ha103 rfl cb26 rfl) (hm111) ?_
            rintro v104 w105 he106 ⟨z108, rfl, ho107, hN109, hE110⟩ a112 ha112; clear ha103 a103
            have hx113 := hx98.stpI he106 (by omega)
            have hzhx113 := he106.size
            replace ho24 := ho24.stpI he106 (by omega)
            replace hN26 := hN26.stpI he106 (by omega)
            replace ho35 := ho35.stpI he106 (by omega)
            replace ho60 := ho60.stpI he106 (by omega)
            replace ho88 := ho88.stpI he106 (by omega)
            replace hN90 := hN90.stpI he106 (by omega)
            clear ho47 hN49
            refine wl_val ha112 rfl rfl rfl (op_assign ha112 rfl rfl) ?_
            intro a114 ha114; clear ha112 a112
            refine wpList_nil ?_
            refine then_n ?_
            refine wp_seq ?_
            refine wp_seq ?_
            refine wp_region_lit ?_
            refine wl_val ha114 rfl rfl rfl (op_move ha114 rfl rfl) ?_
            intro a115 ha115; clear ha114 a114
            refine wl_val ha115 rfl rfl rfl (op_lss ha115 rfl rfl rfl) ?_
            intro a116 ha116; clear ha115 a115
            refine wl_val ha116 rfl rfl rfl (op_move ha116 rfl rfl) ?_
            intro a117 ha117; clear ha116 a116
            by_cases c118 : (kkCu ((aList)) ((1 : Int)) : Int) < (0 : Int)
            ·
              rw [decide_eq_true c118] at ha117
              refine wl_skip ha117 rfl rfl rfl ?_
              intro a119 ha119; clear ha117 a117
              refine wl_skip ha119 rfl rfl rfl ?_
              intro a120 ha120; clear ha119 a119
              refine wl_skip ha120 rfl rfl rfl ?_
              intro a121 ha121; clear ha120 a120
              refine wl_skip ha121 rfl rfl rfl ?_
              intro a122 ha122; clear ha121 a121
              refine wl_val ha122 rfl rfl rfl (op_pick_t ha122 rfl rfl rfl) ?_
              intro a123 ha123; clear ha122 a122
              refine wl_val ha123 rfl rfl rfl (op_move ha123 rfl rfl) ?_
              intro a124 ha124; clear ha123 a123
              refine wl_skip ha124 rfl rfl rfl ?_
              intro a125 ha125; clear ha124 a124
              refine wl_skip ha125 rfl rfl rfl ?_
              intro a126 ha126; clear ha125 a125
              refine wl_skip ha126 rfl rfl rfl ?_
              intro a127 ha127; clear ha126 a126
              refine wl_val ha127 rfl rfl rfl (op_pick_t ha127 rfl rfl rfl) ?_
              intro a128 ha128; clear ha127 a127
              refine wpList_nil ?_
              refine then_n ?_
              refine cond_t ha128 rfl ?_
              refine wp_seq ?_
              refine wp_region_lit ?_
              refine wl_val ha128 rfl rfl rfl (op_assign ha128 rfl rfl) ?_
              intro a129 ha129; clear ha128 a128
              refine wpList_nil ?_
              refine then_n ?_
              refine wp_ret ?_
              refine then_r ?_
              refine ret1 ha129 rfl rfl ?_
              clear ha129 a129
              exact ret_mk hx113 (congrArg Value.bool (by first | rfl | omega | (simp [kk_mkCu] at c118; done) | (simp [kk_mkCu] at c118; omega) | (exact absurd rfl c18) | (exact absurd rfl c5)))
            ·
              rw [decide_eq_false c118] at ha117
              refine wl_val ha117 rfl rfl rfl (op_move ha117 rfl rfl) ?_
              intro a130 ha130; clear ha117 a117
              refine wl_val ha130 rfl rfl rfl (op_move ha130 rfl rfl) ?_
              intro a131 ha131; clear ha130 a130
              refine wl_callR ha131 rfl rfl rfl (op_call ha131 rfl cb25 rfl) (c_laws_eqStringS _ v59 ((if cuB ((aList)) then pfL aPrefix ((aList)) else [])) v34 ((if cuB ((aList)) then pfL aPrefix ((aList)) else [])) (ho60.rds pos_shStr) (ho35.rds pos_shStr)) ?_
              rintro v132 w133 he134 rfl a135 ha135; clear ha131 a131
              have hx136 := hx113.trans' he134
              have hzhx136 := he134.size
              replace ho24 := ho24.ext he134
              replace hN26 := hN26.ext he134
              replace ho35 := ho35.ext he134
              replace ho60 := ho60.ext he134
              replace ho88 := ho88.ext he134
              replace hN90 := hN90.ext he134
              replace ho107 := ho107.ext he134
              replace hN109 := hN109.ext he134
              refine wl_val ha135 rfl rfl rfl (op_not ha135 rfl rfl) ?_
              intro a137 ha137; clear ha135 a135
              refine wl_val ha137 rfl rfl rfl (op_pick_f ha137 rfl rfl rfl) ?_
              intro a138 ha138; clear ha137 a137
              refine wl_val ha138 rfl rfl rfl (op_move ha138 rfl rfl) ?_
              intro a139 ha139; clear ha138 a138
              rw [c77] at ha139
              refine wl_val ha139 rfl rfl rfl (op_move ha139 rfl rfl) ?_
              intro a140 ha140; clear ha139 a139
              refine wl_val ha140 rfl rfl rfl (op_move ha140 rfl rfl) ?_
              intro a141 ha141; clear ha140 a140
              refine wl_val ha141 rfl rfl rfl ((op_neq ha141 rfl rfl rfl).to (congrArg Value.bool decide_not)) ?_
              intro a142 ha142; clear ha141 a141
              refine wl_val ha142 rfl rfl rfl (op_pick_f ha142 rfl rfl rfl) ?_
              intro a143 ha143; clear ha142 a142
              refine wpList_nil ?_
              refine then_n ?_
              rw [decide_eq_true c82] at ha143
              refine cond_f ha143 rfl ?_
              refine wp_skip ?_
              refine then_n ?_
              refine wp_seq ?_
              refine wp_region_lit ?_
              refine wl_val ha143 rfl rfl rfl (op_assign ha143 rfl rfl) ?_
              intro a144 ha144; clear ha143 a143
              refine wpList_nil ?_
              refine then_n ?_
              refine wp_seq ?_
              refine wp_region_lit ?_
              refine wl_val ha144 rfl rfl rfl (op_move ha144 rfl rfl) ?_
              intro a145 ha145; clear ha144 a144
              refine wl_val ha145 rfl rfl rfl (op_move ha145 rfl rfl) ?_
              intro a146 ha146; clear ha145 a145
              refine wl_callS ha146 rfl rfl rfl (op_call ha146 rfl cb27 rfl) (c_laws_markStringS _ v59 ((if cuB ((aList)) then pfL aPrefix ((aList)) else [])) (1 : Int) ho60 (by first | assumption | omega | (simp; omega)) (by first | assumption | omega | (simp; omega)) (by first | assumption | omega | (simp; omega))) ?_
              rintro v147 w148 he149 ⟨rfl, ho150⟩ a151 ha151; clear ha146 a146
              have hx152 := hx136.stp he149 (by intro q hq; have hq0 := ho60.lt q hq; omega)
              have hzhx152 := he149.size
              replace ho24 : Own shCustN 55 w11.heap.size w11.heap.size w22.heap.size w148 v21 z25 := by first | exact ho24.stp he149 (by intro q hq; have hq0 := ho60.lt q hq; omega) | exact ho24.stpF flat_shCustN he149 (ho24.ne ho60 rfl)
              replace hN26 : Nst shStr 9 (fun x : Str × Int × List Str => x.2.2) w11.heap.size w22.heap.size w148 z25 := by first | exact hN26.stp he149 (by intro q hq; have hq0 := ho60.lt q hq; omega)
              replace ho35 : Own shStr 9 w22.heap.size w22.heap.size w32.heap.size w148 v34 ((if cuB ((aList)) then pfL aPrefix ((aList)) else [])) := by first | exact ho35.stp he149 (by intro q hq; have hq0 := ho60.lt q hq; omega)
              replace ho88 : Own shCustN 55 w71.heap.size w71.heap.size w86.heap.size w148 v85 z89 := by first | exact ho88.stp he149 (by intro q hq; have hq0 := ho60.lt q hq; omega) | exact ho88.stpF flat_shCustN he149 (ho88.ne ho60 rfl)
              replace hN90 : Nst shStr 9 (fun x : Str × Int × List Str => x.2.2) w71.heap.size w86.heap.size w148 z89 := by first | exact hN90.stp he149 (by intro q hq; have hq0 := ho60.lt q hq; omega)
              replace ho107 : Own shCustN 55 w32.heap.size w32.heap.size w45.heap.size w148 v44 z108 := by first | exact ho107.stp he149 (by intro q hq; have hq0 := ho60.lt q hq; omega) | exact ho107.stpF flat_shCustN he149 (ho107.ne ho60 rfl)
              replace hN109 : Nst shStr 9 (fun x : Str × Int × List Str => x.2.2) w32.heap.size w45.heap.size w148 z108 := by first | exact hN109.stp he149 (by intro q hq; have hq0 := ho60.lt q hq; omega)
              clear ho60
              refine wl_val ha151 rfl rfl rfl (op_assign ha151 rfl rfl) ?_
              intro a153 ha153; clear ha151 a151
              refine wpList_nil ?_
              refine then_n ?_
              refine wp_seq ?_
              refine wp_region_lit ?_
              refine wl_val ha153 rfl rfl rfl (op_assign ha153 rfl rfl) ?_
              intro a154 ha154; clear ha153 a153
              refine wpList_nil ?_
              refine then_n ?_
              refine wp_seq ?_
              refine wp_region_lit ?_
              refine wl_val ha154 rfl rfl rfl (op_move ha154 rfl rfl) ?_
              intro a155 ha155; clear ha154 a154
              refine wl_val ha155 rfl rfl rfl (op_move ha155 rfl rfl) ?_
              intro a156 ha156; clear ha155 a155
              refine wl_callR ha156 rfl rfl rfl (op_call ha156 rfl cb28 rfl) (c_laws_heldStringS _ v59 ((mkN mkS 1 ((if cuB ((aList)) then pfL aPrefix ((aList)) else [])).length ((1 : Int)))) (1 : Int) (ho150.rds pos_shStr) (by first | assumption | omega | (simp; omega)) (by first | assumption | omega | (simp; omega)) (by first | assumption | omega | (simp; omega) | (simp [mkN_length]; omega))) ?_
              rintro v157 w158 he159 rfl a160 ha160; clear ha156 a156
              have hx161 := hx152.trans' he159
              have hzhx161 := he159.size
              replace ho24 := ho24.ext he159
              replace hN26 := hN26.ext he159
              replace ho35 := ho35.ext he159
              replace ho88 := ho88.ext he159
              replace hN90 := hN90.ext he159
              replace ho107 := ho107.ext he159
              replace hN109 := hN109.ext he159
              replace ho150 := ho150.ext he159
              refine wl_val ha160 rfl rfl rfl (op_assign ha160 rfl rfl) ?_
              intro a162 ha162; clear ha160 a160
              refine wpList_nil ?_
              refine then_n ?_
              refine wp_seq ?_
              refine wp_seq ?_
              refine wp_region_lit ?_
              refine wl_val ha162 rfl rfl rfl (op_move ha162 rfl rfl) ?_
              intro a163 ha163; clear ha162 a162
              refine wl_val ha163 rfl rfl rfl (op_lss ha163 rfl rfl rfl) ?_
              intro a164 ha164; clear ha163 a163
              refine wpList_nil ?_
              refine then_n ?_
              by_cases c165 : (heldG okS 1 ((mkN mkS 1 ((if cuB ((aList)) then pfL aPrefix ((aList)) else [])).length ((1 : Int)))) (1 : Int) : Int) < (0 : Int)
              ·
                rw [decide_eq_true c165] at ha164
                refine cond_t ha164 rfl ?_
                refine wp_seq ?_
                refine wp_region_lit ?_
                refine wl_val ha164 rfl rfl rfl (op_assign ha164 rfl rfl) ?_
                intro a166 ha166; clear ha164 a164
                refine wpList_nil ?_
                refine then_n ?_
                refine wp_ret ?_
                refine then_r ?_
                refine ret1 ha166 rfl rfl ?_
                clear ha166 a166
                exact ret_mk hx161 (congrArg Value.bool (by first | rfl | omega | (simp [held_mkN okS_mk] at c165; done) | (simp [held_mkN okS_mk] at c165; omega) | (simp [held_mkN okS_mk, mkN_length] at c165; done) | (simp [held_mkN okS_mk, mkN_length] at c165; omega) | (simp [kk_mkCu] at c118; done) | (simp [kk_mkCu] at c118; omega) | (exact absurd rfl c118) | (exact absurd rfl c18) | (exact absurd rfl c5)))
              ·
                rw [decide_eq_false c165] at ha164
                refine cond_f ha164 rfl ?_
                refine wp_skip ?_
                refine then_n ?_
                refine wp_seq ?_
                refine wp_seq ?_
                refine wp_region_lit ?_
                refine wl_val ha164 rfl rfl rfl (op_move ha164 rfl rfl) ?_
                intro a167 ha167; clear ha164 a164
                refine wl_val ha167 rfl rfl rfl (op_move ha167 rfl rfl) ?_
                intro a168 ha168; clear ha167 a167
                refine wl_val ha168 rfl rfl rfl ((op_neq ha168 rfl rfl rfl).to (congrArg Value.bool decide_not)) ?_
                intro a169 ha169; clear ha168 a168
                refine wpList_nil ?_
                refine then_n ?_
                by_cases c170 : (heldG okS 1 ((mkN mkS 1 ((if cuB ((aList)) then pfL aPrefix ((aList)) else [])).length ((1 : Int)))) (1 : Int) : Int) = (((1 : Int)) + 1 * (((if cuB ((aList)) then pfL aPrefix ((aList)) else [])).length : Nat) : Int)
                ·
                  rw [decide_eq_true c170] at ha169
                  refine cond_f ha169 rfl ?_
                  refine wp_skip ?_
                  refine then_n ?_
                  refine wp_seq ?_
                  refine wp_region_lit ?_
                  refine wl_val ha169 rfl rfl rfl (op_move ha169 rfl rfl) ?_
                  intro a171 ha171; clear ha169 a169
                  refine wl_callR ha171 rfl rfl rfl (op_call ha171 rfl cb16 rfl) (c_laws_toCustomerS _ v_aList aList (h_aList.ext pos_shCust hx161) (by first | assumption | omega | (simp; omega))) ?_
                  rintro v172 w173 he174 ⟨z176, ho175, hN177, hE178⟩ a179 ha179; clear ha171 a171
                  have hx180 := hx161.trans' he174
                  have hzhx180 := he174.size
                  replace ho24 := ho24.ext he174
                  replace hN26 := hN26.ext he174
                  replace ho35 := ho35.ext he174
                  replace ho88 := ho88.ext he174
                  replace hN90 := hN90.ext he174
                  replace ho107 := ho107.ext he174
                  replace hN109 := hN109.ext he174
                  replace ho150 := ho150.ext he174
                  have hlhE178 := absLen hE178
                  refine wl_val ha179 rfl rfl rfl (op_move ha179 rfl rfl) ?_
                  intro a181 ha181; clear ha179 a179
                  refine wl_callR ha181 rfl rfl rfl (op_call ha181 rfl cb24 rfl) (c_impl_WithPrefix _ v172 ((aList)) aPrefix ((rds_shCustN (ho175.fin (by omega) (by omega) (by omega)) hN177).cast hE178) (by first | assumption | omega | (simp; omega)) (by first | assumption | omega | (simp; omega))) ?_
                  rintro v182 w183 he184 ⟨v185, rfl, ho186⟩ a187 ha187; clear ha181 a181
                  have hx188 := hx180.trans' he184
                  have hzhx188 := he184.size
                  replace ho24 := ho24.ext he184
                  replace hN26 := hN26.ext he184
                  replace ho35 := ho35.ext he184
                  replace ho88 := ho88.ext he184
                  replace hN90 := hN90.ext he184
                  replace ho107 := ho107.ext he184
                  replace hN109 := hN109.ext he184
                  replace ho150 := ho150.ext he184
                  replace ho175 := ho175.ext he184
                  replace hN177 := hN177.ext he184
                  refine wl_val ha187 rfl rfl rfl (op_move ha187 rfl rfl) ?_
                  intro a189 ha189; clear ha187 a187
                  refine wl_val ha189 rfl rfl rfl (op_extract ha189 rfl rfl rfl) ?_
                  intro a190 ha190; clear ha189 a189
                  refine wl_val ha190 rfl rfl rfl (op_extract ha190 rfl rfl rfl) ?_
                  intro a191 ha191; clear ha190 a190
                  refine wl_val ha191 rfl rfl rfl (op_assign ha191 rfl rfl) ?_
                  intro a192 ha192; clear ha191 a191
                  refine wl_val ha192 rfl rfl rfl (op_assign ha192 rfl rfl) ?_
                  intro a193 ha193; clear ha192 a192
                  refine wpList_nil ?_
                  refine then_n ?_
                  refine wp_seq ?_
                  refine wp_seq ?_
                  refine wp_region_lit ?_
                  refine wl_val ha193 rfl rfl rfl (op_move ha193 rfl rfl) ?_
                  intro a194 ha194; clear ha193 a193
                  refine wl_val ha194 rfl rfl rfl (op_move ha194 rfl rfl) ?_
                  intro a195 ha195; clear ha194 a194
                  refine wl_callR ha195 rfl rfl rfl (op_call ha195 rfl cb25 rfl) (c_laws_eqStringS _ v185 ((if cuB ((aList)) then pfL aPrefix ((aList)) else [])) v34 ((if cuB ((aList)) then pfL aPrefix ((aList)) else [])) (ho186.rds pos_shStr) (ho35.rds pos_shStr)) ?_
                  rintro v196 w197 he198 rfl a199 ha199; clear ha195 a195
                  have hx200 := hx188.trans' he198
                  have hzhx200 := he198.size
                  replace ho24 := ho24.ext he198
                  replace hN26 := hN26.ext he198
                  replace ho35 := ho35.ext he198
                  replace ho88 := ho88.ext he198
                  replace hN90 := hN90.ext he198
                  replace ho107 := ho107.ext he198
                  replace hN109 := hN109.ext he198
                  replace ho150 := ho150.ext he198
                  replace ho175 := ho175.ext he198
                  replace hN177 := hN177.ext he198
                  replace ho186 := ho186.ext he198
                  refine wl_val ha199 rfl rfl rfl (op_not ha199 rfl rfl) ?_
                  intro a201 ha201; clear ha199 a199
                  refine wl_val ha201 rfl rfl rfl (op_move ha201 rfl rfl) ?_
                  intro a202 ha202; clear ha201 a201
                  rw [c77] at ha202
                  refine wl_val ha202 rfl rfl rfl (op_move ha202 rfl rfl) ?_
                  intro a203 ha203; clear ha202 a202
                  refine wl_val ha203 rfl rfl rfl (op_move ha203 rfl rfl) ?_
                  intro a204 ha204; clear ha203 a203
                  refine wl_val ha204 rfl rfl rfl ((op_neq ha204 rfl rfl rfl).to (congrArg Value.bool decide_not)) ?_
                  intro a205 ha205; clear ha204 a204
                  refine wl_val ha205 rfl rfl rfl (op_pick_f ha205 rfl rfl rfl) ?_
                  intro a206 ha206; clear ha205 a205
                  refine wpList_nil ?_
                  refine then_n ?_
                  rw [decide_eq_true c82] at ha206
                  refine cond_f ha206 rfl ?_
                  refine wp_skip ?_
                  refine then_n ?_
                  refine wp_seq ?_
                  refine wp_region_lit ?_
                  refine wl_val ha206 rfl rfl rfl (op_assign ha206 rfl rfl) ?_
                  intro a207 ha207; clear ha206 a206
                  refine wpList_nil ?_
                  refine then_n ?_
                  refine wp_seq ?_
                  refine wp_region_lit ?_
                  refine wl_val ha207 rfl rfl rfl (op_move ha207 rfl rfl) ?_
                  intro a208 ha208; clear ha207 a207
                  refine wl_val ha208 rfl rfl rfl (op_move ha208 rfl rfl) ?_
                  intro a209 ha209; clear ha208 a208
                  refine wl_callR ha209 rfl rfl rfl (op_call ha209 rfl cb28 rfl) (c_laws_heldStringS _ v59 ((mkN mkS 1 ((if cuB ((aList)) then pfL aPrefix ((aList)) else [])).length ((1 : Int)))) (1 : Int) (ho150.rds pos_shStr) (by first | assumption | omega | (simp; omega)) (by first | assumption | omega | (simp; omega)) (by first | assumption | omega | (simp; omega) | (simp [mkN_length]; omega))) ?_
                  rintro v210 w211 he212 rfl a213 ha213; clear ha209 a209
                  have hx214 := hx200.trans' he212
                  have hzhx214 := he212.size
                  replace ho24 := ho24.ext he212
                  replace hN26 := hN26.ext he212
                  replace ho35 := ho35.ext he212
                  replace ho88 := ho88.ext he212
                  replace hN90 := hN90.ext he212
                  replace ho107 := ho107.ext he212
                  replace hN109 := hN109.ext he212
                  replace ho150 := ho150.ext he212
                  replace ho175 := ho175.ext he212
                  replace hN177 := hN177.ext he212
                  replace ho186 := ho186.ext he212
                  refine wl_val ha213 rfl rfl rfl (op_assign ha213 rfl rfl) ?_
                  intro a215 ha215; clear ha213 a213
                  refine wpList_nil ?_
                  refine then_n ?_
                  refine wp_seq ?_
                  refine wp_seq ?_
                  refine wp_region_lit ?_
                  refine wl_val ha215 rfl rfl rfl (op_move ha215 rfl rfl) ?_
                  intro a216 ha216; clear ha215 a215
                  refine wl_val ha216 rfl rfl rfl (op_lss ha216 rfl rfl rfl) ?_
                  intro a217 ha217; clear ha216 a216
                  refine wpList_nil ?_
                  refine then_n ?_
                  rw [decide_eq_false c165] at ha217
                  refine cond_f ha217 rfl ?_
                  refine wp_skip ?_
                  refine then_n ?_
                  refine wp_seq ?_
                  refine wp_seq ?_
                  refine wp_region_lit ?_
                  refine wl_val ha217 rfl rfl rfl (op_move ha217 rfl rfl) ?_
                  intro a218 ha218; clear ha217 a217
                  refine wl_val ha218 rfl rfl rfl (op_move ha218 rfl rfl) ?_
                  intro a219 ha219; clear ha218 a218
                  refine wl_val ha219 rfl rfl rfl ((op_neq ha219 rfl rfl rfl).to (congrArg Value.bool decide_not)) ?_
                  intro a220 ha220; clear ha219 a219
                  refine wpList_nil ?_
                  refine then_n ?_
                  rw [decide_eq_true c170] at ha220
                  refine cond_f ha220 rfl ?_
                  refine wp_skip ?_
                  refine then_n ?_
                  refine wp_seq ?_
                  refine wp_region_lit ?_
                  refine wl_val ha220 rfl rfl rfl (op_assign ha220 rfl rfl) ?_
                  intro a221 ha221; clear ha220 a220
                  refine wpList_nil ?_
                  refine then_n ?_
                  refine wp_ret ?_
                  refine ret1 ha221 rfl rfl ?_
                  clear ha221 a221
                  exact ret_mk hx214 (congrArg Value.bool (by first | rfl | omega | (simp [held_mkN okS_mk] at c170; done) | (simp [held_mkN okS_mk] at c170; omega) | (simp [held_mkN okS_mk, mkN_length] at c170; done) | (simp [held_mkN okS_mk, mkN_length] at c170; omega) | (simp [held_mkN okS_mk] at c165; done) | (simp [held_mkN okS_mk] at c165; omega) | (simp [held_mkN okS_mk, mkN_length] at c165; done) | (simp [held_mkN okS_mk, mkN_length] at c165; omega) | (simp [kk_mkCu] at c118; done) | (simp [kk_mkCu] at c118; omega) | (exact absurd rfl c165) | (exact absurd rfl c118) | (exact absurd rfl c18) | (exact absurd rfl c5)))
                ·
                  rw [decide_eq_false c170] at ha169
                  refine cond_t ha169 rfl ?_
                  refine wp_seq ?_
                  refine wp_region_lit ?_
                  refine wl_val ha169 rfl rfl rfl (op_assign ha169 rfl rfl) ?_
                  intro a222 ha222; clear ha169 a169
                  refine wpList_nil ?_
                  refine then_n ?_
                  refine wp_ret ?_
                  refine then_r ?_
                  refine ret1 ha222 rfl rfl ?_
                  clear ha222 a222
                  exact ret_mk hx161 (congrArg Value.bool (by first | rfl | omega | (simp [held_mkN okS_mk] at c170; done) | (simp [held_mkN okS_mk] at c170; omega) | (simp [held_mkN okS_mk, mkN_length] at c170; done) | (simp [held_mkN okS_mk, mkN_length] at c170; omega) | (simp [held_mkN okS_mk] at c165; done) | (simp [held_mkN okS_mk] at c165; omega) | (simp [held_mkN okS_mk, mkN_length] at c165; done) | (simp [held_mkN okS_mk, mkN_length] at c165; omega) | (simp [kk_mkCu] at c118; done) | (simp [kk_mkCu] at c118; omega) | (exact absurd rfl c170) | (exact absurd rfl c165) | (exact absurd rfl c118) | (exact absurd rfl c18) | (exact absurd rfl c5)))
          ·
            rw [c100] at ha99
            refine cond_t ha99 rfl ?_
            refine wp_seq ?_
            refine wp_region_lit ?_
            refine wl_val ha99 rfl rfl rfl (op_assign ha99 rfl rfl) ?_
            intro a223 ha223; clear ha99 a99
            refine wpList_nil ?_
            refine then_n ?_
            refine wp_ret ?_
            refine then_r ?_
            refine ret1 ha223 rfl rfl ?_
            clear ha223 a223
            exact ret_mk hx98 (congrArg Value.bool (by first | rfl | omega | (rw [eqL_self] at c100; cases c100) | (exact absurd rfl c100) | (exact absurd rfl c18) | (exact absurd rfl c5)))
        ·
          rw [decide_eq_false c82] at ha81
          refine cond_t ha81 rfl ?_
          refine wp_seq ?_
          refine wp_region_lit ?_
          refine wl_val ha81 rfl rfl rfl (op_assign ha81 rfl rfl) ?_
          intro a224 ha224; clear ha81 a81
          refine wpList_nil ?_
          refine then_n ?_
          refine wp_ret ?_
          refine then_r ?_
          refine ret1 ha224 rfl rfl ?_
          clear ha224 a224
          exact ret_mk hx74 (congrArg Value.bool (by first | rfl | omega | (exact absurd rfl c82) | (exact absurd rfl c18) | (exact absurd rfl c5)))
      ·
        rw [c77] at ha76
        refine wl_skip ha76 rfl rfl rfl ?_
        intro a225 ha225; clear ha76 a76
        refine wl_skip ha225 rfl rfl rfl ?_
        intro a226 ha226; clear ha225 a225
        refine wl_skip ha226 rfl rfl rfl ?_
        intro a227 ha227; clear ha226 a226
        refine wl_val ha227 rfl rfl rfl (op_pick_t ha227 rfl rfl rfl) ?_
        intro a228 ha228; clear ha227 a227
        refine wpList_nil ?_
        refine then_n ?_
        refine cond_t ha228 rfl ?_
        refine wp_seq ?_
        refine wp_region_lit ?_
        refine wl_val ha228 rfl rfl rfl (op_assign ha228 rfl rfl) ?_
        intro a229 ha229; clear ha228 a228
        refine wpList_nil ?_
        refine then_n ?_
        refine wp_ret ?_
        refine then_r ?_
        refine ret1 ha229 rfl rfl ?_
        clear ha229 a229
        exact ret_mk hx74 (congrArg Value.bool (by first | rfl | omega | (rw [eqL_self] at c77; cases c77) | (exact absurd rfl c77) | (exact absurd rfl c18) | (exact absurd rfl c5)))


end Go.Proofs.Ythbkedflhmeohaa
