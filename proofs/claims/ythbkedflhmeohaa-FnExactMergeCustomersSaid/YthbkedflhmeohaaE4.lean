/- The laws SellBike, MergeCustomers, walked. -/
import Derived.Test.YthbkedflhmeohaaB1
namespace Go.Proofs.Ythbkedflhmeohaa
open Go Go.RowKit

theorem c_laws_FnExactSellBike (w0 : World) (v_aList : Value) (aList : List (Str × Int × List Str)) {S_aList : Nat → Prop} (aBike : Str) (aTo : Str) (h_aList : Rds shCust S_aList w0 v_aList aList) :
    Calls Try.prog 11 #[v_aList, St aBike, St aTo] w0 (Ret w0 (fun v _ => v = .bool (true))) := by
  refine enter (N := 112) Try.func11 rfl rfl rfl ?_
  intro a0 ha0
  have hx0 := Ext.rfl' w0
  have hl_aList := h_aList.length_le
  have hcl := costL_len costCu aList
  have hkk := kkCu_le aList 1
  have hkg := kkCu_ge aList 1
  have hTb := kkCu_bd (seL aList aBike aTo) 1 (seL_bk aList aBike aTo)
  have hTl := seL_len aList aBike aTo
  have hTg := kkCu_ge (seL aList aBike aTo) 1
  refine wp_seq ?_
  refine wp_region_lit ?_
  refine wl_val ha0 rfl rfl rfl (op_assign ha0 rfl rfl) ?_
  intro a1 ha1; clear ha0 a0
  refine wpList_nil ?_
  refine then_n ?_
  refine wp_seq ?_
  refine wp_seq ?_
  refine wp_region_lit ?_
  refine wl_val ha1 rfl rfl rfl (op_move ha1 rfl rfl) ?_
  intro a2 ha2; clear ha1 a1
  refine wl_val ha2 rfl rfl rfl (op_len_str ha2 rfl Try.underlying9 rfl) ?_
  intro a3 ha3; clear ha2 a2
  refine wl_val ha3 rfl rfl rfl (op_gtr ha3 rfl rfl rfl) ?_
  intro a4 ha4; clear ha3 a3
  refine wpList_nil ?_
  refine then_n ?_
  by_cases c5 : (1048576 : Int) < ((aBike.length : Nat) : Int)
  ·
    rw [decide_eq_true c5] at ha4
    refine cond_t ha4 rfl ?_
    refine wp_seq ?_
    refine wp_region_lit ?_
    refine wl_val ha4 rfl rfl rfl (op_assign ha4 rfl rfl) ?_
    intro a6 ha6; clear ha4 a4
    refine wpList_nil ?_
    refine then_n ?_
    refine wp_ret ?_
    refine then_r ?_
    refine ret1 ha6 rfl rfl ?_
    clear ha6 a6
    exact ret_mk hx0 (congrArg Value.bool (by first | rfl | omega))
  ·
    rw [decide_eq_false c5] at ha4
    refine cond_f ha4 rfl ?_
    refine wp_skip ?_
    refine then_n ?_
    refine wp_seq ?_
    refine wp_seq ?_
    refine wp_region_lit ?_
    refine wl_val ha4 rfl rfl rfl (op_move ha4 rfl rfl) ?_
    intro a7 ha7; clear ha4 a4
    refine wl_val ha7 rfl rfl rfl (op_len_str ha7 rfl Try.underlying9 rfl) ?_
    intro a8 ha8; clear ha7 a7
    refine wl_val ha8 rfl rfl rfl (op_gtr ha8 rfl rfl rfl) ?_
    intro a9 ha9; clear ha8 a8
    refine wpList_nil ?_
    refine then_n ?_
    by_cases c10 : (1048576 : Int) < ((aTo.length : Nat) : Int)
    ·
      rw [decide_eq_true c10] at ha9
      refine cond_t ha9 rfl ?_
      refine wp_seq ?_
      refine wp_region_lit ?_
      refine wl_val ha9 rfl rfl rfl (op_assign ha9 rfl rfl) ?_
      intro a11 ha11; clear ha9 a9
      refine wpList_nil ?_
      refine then_n ?_
      refine wp_ret ?_
      refine then_r ?_
      refine ret1 ha11 rfl rfl ?_
      clear ha11 a11
      exact ret_mk hx0 (congrArg Value.bool (by first | rfl | omega | (exact absurd rfl c5)))
    ·
      rw [decide_eq_false c10] at ha9
      refine cond_f ha9 rfl ?_
      refine wp_skip ?_
      refine then_n ?_
      refine wp_seq ?_
      refine wp_region_lit ?_
      refine wl_val ha9 rfl rfl rfl (op_assign ha9 rfl rfl) ?_
      intro a12 ha12; clear ha9 a9
      refine wpList_nil ?_
      refine then_n ?_
      refine wp_seq ?_
      refine wp_region_lit ?_
      refine wl_val ha12 rfl rfl rfl (op_move ha12 rfl rfl) ?_
      intro a13 ha13; clear ha12 a12
      refine wl_val ha13 rfl rfl rfl (op_move ha13 rfl rfl) ?_
      intro a14 ha14; clear ha13 a13
      refine wl_callR ha14 rfl rfl rfl (op_call ha14 rfl cb14 rfl) (c_laws_szCustomerS _ v_aList aList (1048576 : Int) (h_aList.ext pos_shCust hx0) (by first | assumption | omega | (simp; omega)) (by first | assumption | omega | (simp; omega))) ?_
      rintro v15 w16 he17 rfl a18 ha18; clear ha14 a14
      have hx19 := hx0.trans' he17
      have hzhx19 := he17.size
      refine wl_val ha18 rfl rfl rfl (op_assign ha18 rfl rfl) ?_
      intro a20 ha20; clear ha18 a18
      refine wpList_nil ?_
      refine then_n ?_
      refine wp_seq ?_
      refine wp_seq ?_
      refine wp_region_lit ?_
      refine wl_val ha20 rfl rfl rfl (op_move ha20 rfl rfl) ?_
      intro a21 ha21; clear ha20 a20
      refine wl_val ha21 rfl rfl rfl (op_lss ha21 rfl rfl rfl) ?_
      intro a22 ha22; clear ha21 a21
      refine wpList_nil ?_
      refine then_n ?_
      by_cases c23 : (szR (1048576 : Int) (costL costCu aList) : Int) < (0 : Int)
      ·
        rw [decide_eq_true c23] at ha22
        refine cond_t ha22 rfl ?_
        refine wp_seq ?_
        refine wp_region_lit ?_
        refine wl_val ha22 rfl rfl rfl (op_assign ha22 rfl rfl) ?_
        intro a24 ha24; clear ha22 a22
        refine wpList_nil ?_
        refine then_n ?_
        refine wp_ret ?_
        refine then_r ?_
        refine ret1 ha24 rfl rfl ?_
        clear ha24 a24
        exact ret_mk hx19 (congrArg Value.bool (by first | rfl | omega | (exact absurd rfl c10) | (exact absurd rfl c5)))
      ·
        rw [decide_eq_false c23] at ha22
        have hzc23 := szR_ok c23
        refine cond_f ha22 rfl ?_
        refine wp_skip ?_
        refine then_n ?_
        refine wp_seq ?_
        refine wp_region_lit ?_
        refine wl_val ha22 rfl rfl rfl (op_move ha22 rfl rfl) ?_
        intro a25 ha25; clear ha22 a22
        refine wl_callR ha25 rfl rfl rfl (op_call ha25 rfl cb16 rfl) (c_laws_toCustomerS _ v_aList aList (h_aList.ext pos_shCust hx19) (by first | assumption | omega | (simp; omega))) ?_
        rintro v26 w27 he28 ⟨z30, ho29, hN31, hE32⟩ a33 ha33; clear ha25 a25
        have hx34 := hx19.trans' he28
        have hzhx34 := he28.size
        have hlhE32 := absLen hE32
        refine wl_val ha33 rfl rfl rfl (op_move ha33 rfl rfl) ?_
        intro a35 ha35; clear ha33 a33
        refine wl_val ha35 rfl rfl rfl (op_move ha35 rfl rfl) ?_
        intro a36 ha36; clear ha35 a35
        refine wl_callR ha36 rfl rfl rfl (op_call ha36 rfl cb38 rfl) (c_spec_SellBike _ v26 ((aList)) aBike aTo ((rds_shCustN (ho29.fin (by omega) (by omega) (by omega)) hN31).cast hE32) (by first | assumption | omega | (simp; omega)) (by first | assumption | omega | (simp; omega)) (by first | assumption | omega | (simp; omega))) ?_
        rintro v37 w38 he39 ⟨u40, z42, rfl, ho41, hN43, hE44⟩ a45 ha45; clear ha36 a36
        have hx46 := hx34.trans' he39
        have hzhx46 := he39.size
        replace ho29 := ho29.ext he39
        replace hN31 := hN31.ext he39
        have hlhE44 := absLen hE44
        refine wl_val ha45 rfl rfl rfl (op_move ha45 rfl rfl) ?_
        intro a47 ha47; clear ha45 a45
        refine wl_val ha47 rfl rfl rfl (op_extract ha47 rfl rfl rfl) ?_
        intro a48 ha48; clear ha47 a47
        refine wl_val ha48 rfl rfl rfl (op_extract ha48 rfl rfl rfl) ?_
        intro a49 ha49; clear ha48 a48
        refine wl_val ha49 rfl rfl rfl (op_assign ha49 rfl rfl) ?_
        intro a50 ha50; clear ha49 a49
        refine wl_val ha50 rfl rfl rfl (op_assign ha50 rfl rfl) ?_
        intro a51 ha51; clear ha50 a50
        refine wpList_nil ?_
        refine then_n ?_
        refine wp_seq ?_
        refine wp_region_lit ?_
        refine wl_val ha51 rfl rfl rfl (op_move ha51 rfl rfl) ?_
        intro a52 ha52; clear ha51 a51
        refine wl_callR ha52 rfl rfl rfl (op_call ha52 rfl cb16 rfl) (c_laws_toCustomerS _ v_aList aList (h_aList.ext pos_shCust hx46) (by first | assumption | omega | (simp; omega))) ?_
        rintro v53 w54 he55 ⟨z57, ho56, hN58, hE59⟩ a60 ha60; clear ha52 a52
        have hx61 := hx46.trans' he55
        have hzhx61 := he55.size
        replace ho29 := ho29.ext he55
        replace hN31 := hN31.ext he55
        replace ho41 := ho41.ext he55
        replace hN43 := hN43.ext he55
        have hlhE59 := absLen hE59
        refine wl_val ha60 rfl rfl rfl (op_assign ha60 rfl rfl) ?_
        intro a62 ha62; clear ha60 a60
        refine wpList_nil ?_
        refine then_n ?_
        refine wp_seq ?_
        refine wp_region_lit ?_
        refine wl_val ha62 rfl rfl rfl (op_move ha62 rfl rfl) ?_
        intro a63 ha63; clear ha62 a62
        refine wl_val ha63 rfl rfl rfl (op_move ha63 rfl rfl) ?_
        intro a64 ha64; clear ha63 a63
        refine wl_val ha64 rfl rfl rfl (op_move ha64 rfl rfl) ?_
        intro a65 ha65; clear ha64 a64
        refine wl_callR ha65 rfl rfl rfl (op_call ha65 rfl cb39 rfl) (c_impl_SellBike _ v53 ((aList)) aBike aTo ((rds_shCustN (ho56.fin (by omega) (by omega) (by omega)) hN58).cast hE59) (by first | assumption | omega | (simp; omega)) (by first | assumption | omega | (simp; omega)) (by first | assumption | omega | (simp; omega))) ?_
        rintro v66 w67 he68 ⟨u69, z71, rfl, ho70, hN72, hE73⟩ a74 ha74; clear ha65 a65
        have hx75 := hx61.trans' he68
        have hzhx75 := he68.size
        replace ho29 := ho29.ext he68
        replace hN31 := hN31.ext he68
        replace ho41 := ho41.ext he68
        replace hN43 := hN43.ext he68
        replace ho56 := ho56.ext he68
        replace hN58 := hN58.ext he68
        have hlhE73 := absLen hE73
        refine wl_val ha74 rfl rfl rfl (op_move ha74 rfl rfl) ?_
        intro a76 ha76; clear ha74 a74
        refine wl_val ha76 rfl rfl rfl (op_extract ha76 rfl rfl rfl) ?_
        intro a77 ha77; clear ha76 a76
        refine wl_val ha77 rfl rfl rfl (op_extract ha77 rfl rfl rfl) ?_
        intro a78 ha78; clear ha77 a77
        refine wl_val ha78 rfl rfl rfl (op_assign ha78 rfl rfl) ?_
        intro a79 ha79; clear ha78 a78
        refine wl_val ha79 rfl rfl rfl (op_assign ha79 rfl rfl) ?_
        intro a80 ha80; clear ha79 a79
        refine wpList_nil ?_
        refine then_n ?_
        refine wp_seq ?_
        refine wp_seq ?_
        refine wp_region_lit ?_
        refine wl_val ha80 rfl rfl rfl (op_move ha80 rfl rfl) ?_
        intro a81 ha81; clear ha80 a80
        refine wl_val ha81 rfl rfl rfl (op_move ha81 rfl rfl) ?_
        intro a82 ha82; clear ha81 a81
        refine wl_callR ha82 rfl rfl rfl (op_call ha82 rfl cb18 rfl) (c_laws_eqCustomerS _ u69 ((seL ((aList)) aBike aTo)) u40 ((seL ((aList)) aBike aTo)) ((rds_shCustN (ho70.fin (by omega) (by omega) (by omega)) hN72).cast hE73) ((rds_shCustN (ho41.fin (by omega) (by omega) (by omega)) hN43).cast hE44)) ?_
        rintro v83 w84 he85 rfl a86 ha86; clear ha82 a82
        have hx87 := hx75.trans' he85
        have hzhx87 := he85.size
        replace ho29 := ho29.ext he85
        replace hN31 := hN31.ext he85
        replace ho41 := ho41.ext he85
        replace hN43 := hN43.ext he85
        replace ho56 := ho56.ext he85
        replace hN58 := hN58.ext he85
        replace ho70 := ho70.ext he85
        replace hN72 := hN72.ext he85
        refine wl_val ha86 rfl rfl rfl (op_not ha86 rfl rfl) ?_
        intro a88 ha88; clear ha86 a86
        refine wl_val ha88 rfl rfl rfl (op_move ha88 rfl rfl) ?_
        intro a89 ha89; clear ha88 a88
        rcases Bool.eq_false_or_eq_true (eqL ((seL ((aList)) aBike aTo)) ((seL ((aList)) aBike aTo))) with c90 | c90
        ·
          rw [c90] at ha89
          refine wl_val ha89 rfl rfl rfl (op_move ha89 rfl rfl) ?_
          intro a91 ha91; clear ha89 a89
          refine wl_val ha91 rfl rfl rfl (op_move ha91 rfl rfl) ?_
          intro a92 ha92; clear ha91 a91
          refine wl_val ha92 rfl rfl rfl ((op_neq ha92 rfl rfl rfl).to (congrArg Value.bool decide_not)) ?_
          intro a93 ha93; clear ha92 a92
          refine wl_val ha93 rfl rfl rfl (op_pick_f ha93 rfl rfl rfl) ?_
          intro a94 ha94; clear ha93 a93
          refine wpList_nil ?_
          refine then_n ?_
          by_cases c95 : (seC ((aList)) aBike aTo : Int) = (seC ((aList)) aBike aTo : Int)
          ·
            rw [decide_eq_true c95] at ha94
            refine cond_f ha94 rfl ?_
            refine wp_skip ?_
            refine then_n ?_
            refine wp_seq ?_
            refine wp_seq ?_
            refine wp_region_lit ?_
            refine wl_val ha94 rfl rfl rfl (op_move ha94 rfl rfl) ?_
            intro a96 ha96; clear ha94 a94
            refine wl_val ha96 rfl rfl rfl (op_move ha96 rfl rfl) ?_
            intro a97 ha97; clear ha96 a96
            refine wl_callR ha97 rfl rfl rfl (op_call ha97 rfl cb16 rfl) (c_laws_toCustomerS _ v_aList aList (h_aList.ext pos_shCust hx87) (by first | assumption | omega | (simp; omega))) ?_
            rintro v98 w99 he100 ⟨z102, ho101, hN103, hE104⟩ a105 ha105; clear ha97 a97
            have hx106 := hx87.trans' he100
            have hzhx106 := he100.size
            replace ho29 := ho29.ext he100
            replace hN31 := hN31.ext he100
            replace ho41 := ho41.ext he100
            replace hN43 := hN43.ext he100
            replace ho56 := ho56.ext he100
            replace hN58 := hN58.ext he100
            replace ho70 := ho70.ext he100
            replace hN72 := hN72.ext he100
            have hlhE104 := absLen hE104
            refine wl_callR ha105 rfl rfl rfl (op_call ha105 rfl cb18 rfl) (c_laws_eqCustomerS _ v53 ((aList)) v98 ((aList)) ((rds_shCustN (ho56.fin (by omega) (by omega) (by omega)) hN58).cast hE59) ((rds_shCustN (ho101.fin (by omega) (by omega) (by omega)) hN103).cast hE104)) ?_
            rintro v107 w108 he109 rfl a110 ha110; clear ha105 a105
            have hx111 := hx106.trans' he109
            have hzhx111 := he109.size
            replace ho29 := ho29.ext he109
            replace hN31 := hN31.ext he109
            replace ho41 := ho41.ext he109
            replace hN43 := hN43.ext he109
            replace ho56 := ho56.ext he109
            replace hN58 := hN58.ext he109
            replace ho70 := ho70.ext he109
            replace hN72 := hN72.ext he109
            replace ho101 := ho101.ext he109
            replace hN103 := hN103.ext he109
            refine wl_val ha110 rfl rfl rfl (op_not ha110 rfl rfl) ?_
            intro a112 ha112; clear ha110 a110
            refine wpList_nil ?_
            refine then_n ?_
            rcases Bool.eq_false_or_eq_true (eqL ((aList)) ((aList))) with c113 | c113
            ·
              rw [c113] at ha112
              refine cond_f ha112 rfl ?_
              refine wp_skip ?_
              refine then_n ?_
              refine wp_seq ?_
              refine wp_region_lit ?_
              refine wl_val ha112 rfl rfl rfl (op_assign ha112 rfl rfl) ?_
              intro a114 ha114; clear ha112 a112
              refine wpList_nil ?_
              refine then_n ?_
              refine wp_seq ?_
              refine wp_region_lit ?_
              refine wl_val ha114 rfl rfl rfl (op_move ha114 rfl rfl) ?_
              intro a115 ha115; clear ha114 a114
              refine wl_val ha115 rfl rfl rfl (op_move ha115 rfl rfl) ?_
              intro a116 ha116; clear ha115 a115
              have hm124 := c_laws_markCustomerS _ v53 z57 (1 : Int) (ho56.fin (by omega) (by omega) (by omega)) hN58 (by omega) (by (try rw [hE59]); first | assumption | omega | (simp; omega)) (by (try rw [hE59]); first | assumption | omega | (simp; omega) | (simp [kk_mkCu]; omega)) (by (try rw [hE59]); first | assumption | omega | (simp; omega))
              rw [hE59] at hm124
              refine wl_callI ha116 rfl rfl rfl (op_call ha116 rfl cb26 rfl) (hm124) ?_
              rintro v117 w118 he119 ⟨z121, rfl, ho120, hN122, hE123⟩ a125 ha125; clear ha116 a116
              have hx126 := hx111.stpI he119 (by omega)
              have hzhx126 := he119.size
              replace ho29 := ho29.stpI he119 (by omega)
              replace hN31 := hN31.stpI he119 (by omega)
              replace ho41 := ho41.stpI he119 (by omega)
              replace hN43 := hN43.stpI he119 (by omega)
              replace ho70 := ho70.stpI he119 (by omega)
              replace hN72 := hN72.stpI he119 (by omega)
              replace ho101 := ho101.stpI he119 (by omega)
              replace hN103 := hN103.stpI he119 (by omega)
              clear ho56 hN58
              refine wl_val ha125 rfl rfl rfl (op_assign ha125 rfl rfl) ?_
              intro a127 ha127; clear ha125 a125
              refine wpList_nil ?_
              refine then_n ?_
              refine wp_seq ?_
              refine wp_seq ?_
              refine wp_region_lit ?_
              refine wl_val ha127 rfl rfl rfl (op_move ha127 rfl rfl) ?_
              intro a128 ha128; clear ha127 a127
              refine wl_val ha128 rfl rfl rfl (op_lss ha128 rfl rfl rfl) ?_
              intro a129 ha129; clear ha128 a128
              refine wl_val ha129 rfl rfl rfl (op_move ha129 rfl rfl) ?_
              intro a130 ha130; clear ha129 a129
              by_cases c131 : (kkCu ((aList)) ((1 : Int)) : Int) < (0 : Int)
              ·
                rw [decide_eq_true c131] at ha130
                refine wl_skip ha130 rfl rfl rfl ?_
                intro a132 ha132; clear ha130 a130
                refine wl_skip ha132 rfl rfl rfl ?_
                intro a133 ha133; clear ha132 a132
                refine wl_skip ha133 rfl rfl rfl ?_
                intro a134 ha134; clear ha133 a133
                refine wl_skip ha134 rfl rfl rfl ?_
                intro a135 ha135; clear ha134 a134
                refine wl_val ha135 rfl rfl rfl (op_pick_t ha135 rfl rfl rfl) ?_
                intro a136 ha136; clear ha135 a135
                refine wl_val ha136 rfl rfl rfl (op_move ha136 rfl rfl) ?_
                intro a137 ha137; clear ha136 a136
                refine wl_skip ha137 rfl rfl rfl ?_
                intro a138 ha138; clear ha137 a137
                refine wl_skip ha138 rfl rfl rfl ?_
                intro a139 ha139; clear ha138 a138
                refine wl_skip ha139 rfl rfl rfl ?_
                intro a140 ha140; clear ha139 a139
                refine wl_val ha140 rfl rfl rfl (op_pick_t ha140 rfl rfl rfl) ?_
                intro a141 ha141; clear ha140 a140
                refine wpList_nil ?_
                refine then_n ?_
                refine cond_t ha141 rfl ?_
                refine wp_seq ?_
                refine wp_region_lit ?_
                refine wl_val ha141 rfl rfl rfl (op_assign ha141 rfl rfl) ?_
                intro a142 ha142; clear ha141 a141
                refine wpList_nil ?_
                refine then_n ?_
                refine wp_ret ?_
                refine then_r ?_
                refine ret1 ha142 rfl rfl ?_
                clear ha142 a142
                exact ret_mk hx126 (congrArg Value.bool (by first | rfl | omega | (simp [kk_mkCu] at c131; done) | (simp [kk_mkCu] at c131; omega) | (exact absurd rfl c23) | (exact absurd rfl c10) | (exact absurd rfl c5)))
              ·
                rw [decide_eq_false c131] at ha130
                refine wl_val ha130 rfl rfl rfl (op_move ha130 rfl rfl) ?_
                intro a143 ha143; clear ha130 a130
                refine wl_val ha143 rfl rfl rfl (op_move ha143 rfl rfl) ?_
                intro a144 ha144; clear ha143 a143
                refine wl_callR ha144 rfl rfl rfl (op_call ha144 rfl cb18 rfl) (c_laws_eqCustomerS _ u69 ((seL ((aList)) aBike aTo)) u40 ((seL ((aList)) aBike aTo)) ((rds_shCustN (ho70.fin (by omega) (by omega) (by omega)) hN72).cast hE73) ((rds_shCustN (ho41.fin (by omega) (by omega) (by omega)) hN43).cast hE44)) ?_
                rintro v145 w146 he147 rfl a148 ha148; clear ha144 a144
                have hx149 := hx126.trans' he147
                have hzhx149 := he147.size
                replace ho29 := ho29.ext he147
                replace hN31 := hN31.ext he147
                replace ho41 := ho41.ext he147
                replace hN43 := hN43.ext he147
                replace ho70 := ho70.ext he147
                replace hN72 := hN72.ext he147
                replace ho101 := ho101.ext he147
                replace hN103 := hN103.ext he147
                replace ho120 := ho120.ext he147
                replace hN122 := hN122.ext he147
                refine wl_val ha148 rfl rfl rfl (op_not ha148 rfl rfl) ?_
                intro a150 ha150; clear ha148 a148
                refine wl_val ha150 rfl rfl rfl (op_pick_f ha150 rfl rfl rfl) ?_
                intro a151 ha151; clear ha150 a150
                refine wl_val ha151 rfl rfl rfl (op_move ha151 rfl rfl) ?_
                intro a152 ha152; clear ha151 a151
                rw [c90] at ha152
                refine wl_val ha152 rfl rfl rfl (op_move ha152 rfl rfl) ?_
                intro a153 ha153; clear ha152 a152
                refine wl_val ha153 rfl rfl rfl (op_move ha153 rfl rfl) ?_
                intro a154 ha154; clear ha153 a153
                refine wl_val ha154 rfl rfl rfl ((op_neq ha154 rfl rfl rfl).to (congrArg Value.bool decide_not)) ?_
                intro a155 ha155; clear ha154 a154
                refine wl_val ha155 rfl rfl rfl (op_pick_f ha155 rfl rfl rfl) ?_
                intro a156 ha156; clear ha155 a155
                refine wpList_nil ?_
                refine then_n ?_
                rw [decide_eq_true c95] at ha156
                refine cond_f ha156 rfl ?_
                refine wp_skip ?_
                refine then_n ?_
                refine wp_seq ?_
                refine wp_region_lit ?_
                refine wl_val ha156 rfl rfl rfl (op_assign ha156 rfl rfl) ?_
                intro a157 ha157; clear ha156 a156
                refine wpList_nil ?_
                refine then_n ?_
                refine wp_seq ?_
                refine wp_region_lit ?_
                refine wl_val ha157 rfl rfl rfl (op_move ha157 rfl rfl) ?_
                intro a158 ha158; clear ha157 a157
                refine wl_val ha158 rfl rfl rfl (op_move ha158 rfl rfl) ?_
                intro a159 ha159; clear ha158 a158
                have hm167 := c_laws_markCustomerS _ u69 z71 (1 : Int) (ho70.fin (by omega) (by omega) (by omega)) hN72 (by omega) (by (try rw [hE73]); first | assumption | omega | (simp; omega)) (by (try rw [hE73]); first | assumption | omega | (simp; omega) | (simp [kk_mkCu]; omega)) (by (try rw [hE73]); first | assumption | omega | (simp; omega))
                rw [hE73] at hm167
                refine wl_callI ha159 rfl rfl rfl (op_call ha159 rfl cb26 rfl) (hm167) ?_
                rintro v160 w161 he162 ⟨z164, rfl, ho163, hN165, hE166⟩ a168 ha168; clear ha159 a159
                have hx169 := hx149.stpI he162 (by omega)
                have hzhx169 := he162.size
                replace ho29 := ho29.stpI he162 (by omega)
                replace hN31 := hN31.stpI he162 (by omega)
                replace ho41 := ho41.stpI he162 (by omega)
                replace hN43 := hN43.stpI he162 (by omega)
                replace ho101 := ho101.stpI he162 (by omega)
                replace hN103 := hN103.stpI he162 (by omega)
                replace ho120 := ho120.stpI he162 (by omega)
                replace hN122 := hN122.stpI he162 (by omega)
                clear ho70 hN72
                refine wl_val ha168 rfl rfl rfl (op_assign ha168 rfl rfl) ?_
                intro a170 ha170; clear ha168 a168
                refine wpList_nil ?_
                refine then_n ?_
                refine wp_seq ?_
                refine wp_region_lit ?_
                refine wl_val ha170 rfl rfl rfl (op_assign ha170 rfl rfl) ?_
                intro a171 ha171; clear ha170 a170
                refine wpList_nil ?_
                refine then_n ?_
                refine wp_seq ?_
                refine wp_region_lit ?_
                refine wl_val ha171 rfl rfl rfl (op_move ha171 rfl rfl) ?_
                intro a172 ha172; clear ha171 a171
                refine wl_val ha172 rfl rfl rfl (op_move ha172 rfl rfl) ?_
                intro a173 ha173; clear ha172 a172
                refine wl_callR ha173 rfl rfl rfl (op_call ha173 rfl cb33 rfl) (c_laws_heldCustomerS _ u69 ((mkCu ((seL ((aList)) aBike aTo)) ((1 : Int)))) (1 : Int) ((rds_shCustN (ho163.fin (by omega) (by omega) (by omega)) hN165).cast hE166) (by first | assumption | omega | (simp; omega)) (by first | assumption | omega | (simp; omega) | (simp [mkCu_length, kk_mkCu]; omega))) ?_
                rintro v174 w175 he176 rfl a177 ha177; clear ha173 a173
                have hx178 := hx169.trans' he176
                have hzhx178 := he176.size
                replace ho29 := ho29.ext he176
                replace hN31 := hN31.ext he176
                replace ho41 := ho41.ext he176
                replace hN43 := hN43.ext he176
                replace ho101 := ho101.ext he176
                replace hN103 := hN103.ext he176
                replace ho120 := ho120.ext he176
                replace hN122 := hN122.ext he176
                replace ho163 := ho163.ext he176
                replace hN165 := hN165.ext he176
                refine wl_val ha177 rfl rfl rfl (op_assign ha177 rfl rfl) ?_
                intro a179 ha179; clear ha177 a177
                refine wpList_nil ?_
                refine then_n ?_
                refine wp_seq ?_
                refine wp_seq ?_
                refine wp_region_lit ?_
                refine wl_val ha179 rfl rfl rfl (op_move ha179 rfl rfl) ?_
                intro a180 ha180; clear ha179 a179
                refine wl_val ha180 rfl rfl rfl (op_lss ha180 rfl rfl rfl) ?_
                intro a181 ha181; clear ha180 a180
                refine wpList_nil ?_
                refine then_n ?_
                by_cases c182 : (heldCu ((mkCu ((seL ((aList)) aBike aTo)) ((1 : Int)))) (1 : Int) : Int) < (0 : Int)
                ·
                  rw [decide_eq_true c182] at ha181
                  refine cond_t ha181 rfl ?_
                  refine wp_seq ?_
                  refine wp_region_lit ?_
                  refine wl_val ha181 rfl rfl rfl (op_assign ha181 rfl rfl) ?_
                  intro a183 ha183; clear ha181 a181
                  refine wpList_nil ?_
                  refine then_n ?_
                  refine wp_ret ?_
                  refine then_r ?_
                  refine ret1 ha183 rfl rfl ?_
                  clear ha183 a183
                  exact ret_mk hx178 (congrArg Value.bool (by first | rfl | omega | (simp [held_mkCu, mkCu_length] at c182; done) | (simp [held_mkCu, mkCu_length] at c182; omega) | (simp [kk_mkCu] at c131; done) | (simp [kk_mkCu] at c131; omega) | (exact absurd rfl c131) | (exact absurd rfl c23) | (exact absurd rfl c10) | (exact absurd rfl c5)))
                ·
                  rw [decide_eq_false c182] at ha181
                  refine cond_f ha181 rfl ?_
                  refine wp_skip ?_
                  refine then_n ?_
                  refine wp_seq ?_
                  refine wp_seq ?_
                  refine wp_region_lit ?_
                  refine wl_val ha181 rfl rfl rfl (op_move ha181 rfl rfl) ?_
                  intro a184 ha184; clear ha181 a181
                  refine wl_val ha184 rfl rfl rfl (op_move ha184 rfl rfl) ?_
                  intro a185 ha185; clear ha184 a184
                  refine wl_val ha185 rfl rfl rfl ((op_neq ha185 rfl rfl rfl).to (congrArg Value.bool decide_not)) ?_
                  intro a186 ha186; clear ha185 a185
                  refine wpList_nil ?_
                  refine then_n ?_
                  by_cases c187 : (heldCu ((mkCu ((seL ((aList)) aBike aTo)) ((1 : Int)))) (1 : Int) : Int) = (kkCu ((seL ((aList)) aBike aTo)) ((1 : Int)) : Int)
                  ·
                    rw [decide_eq_true c187] at ha186
                    refine cond_f ha186 rfl ?_
                    refine wp_skip ?_
                    refine then_n ?_
                    refine wp_seq ?_
                    refine wp_region_lit ?_
                    refine wl_val ha186 rfl rfl rfl (op_move ha186 rfl rfl) ?_
                    intro a188 ha188; clear ha186 a186
                    refine wl_callR ha188 rfl rfl rfl (op_call ha188 rfl cb16 rfl) (c_laws_toCustomerS _ v_aList aList (h_aList.ext pos_shCust hx178) (by first | assumption | omega | (simp; omega))) ?_
                    rintro v189 w190 he191 ⟨z193, ho192, hN194, hE195⟩ a196 ha196; clear ha188 a188
                    have hx197 := hx178.trans' he191
                    have hzhx197 := he191.size
                    replace ho29 := ho29.ext he191
                    replace hN31 := hN31.ext he191
                    replace ho41 := ho41.ext he191
                    replace hN43 := hN43.ext he191
                    replace ho101 := ho101.ext he191
                    replace hN103 := hN103.ext he191
                    replace ho120 := ho120.ext he191
                    replace hN122 := hN122.ext he191
                    replace ho163 := ho163.ext he191
                    replace hN165 := hN165.ext he191
                    have hlhE195 := absLen hE195
                    refine wl_val ha196 rfl rfl rfl (op_move ha196 rfl rfl) ?_
                    intro a198 ha198; clear ha196 a196
                    refine wl_val ha198 rfl rfl rfl (op_move ha198 rfl rfl) ?_
                    intro a199 ha199; clear ha198 a198
                    refine wl_callR ha199 rfl rfl rfl (op_call ha199 rfl cb39 rfl) (c_impl_SellBike _ v189 ((aList)) aBike aTo ((rds_shCustN (ho192.fin (by omega) (by omega) (by omega)) hN194).cast hE195) (by first | assumption | omega | (simp; omega)) (by first | assumption | omega | (simp; omega)) (by first | assumption | omega | (simp; omega))) ?_
                    rintro v200 w201 he202 ⟨u203, z205, rfl, ho204, hN206, hE207⟩ a208 ha208; clear ha199 a199
                    have hx209 := hx197.trans' he202
                    have hzhx209 := he202.size
                    replace ho29 := ho29.ext he202
                    replace hN31 := hN31.ext he202
                    replace ho41 := ho41.ext he202
                    replace hN43 := hN43.ext he202
                    replace ho101 := ho101.ext he202
                    replace hN103 := hN103.ext he202
                    replace ho120 := ho120.ext he202
                    replace hN122 := hN122.ext he202
                    replace ho163 := ho163.ext he202
                    replace hN165 := hN165.ext he202
                    replace ho192 := ho192.ext he202
                    replace hN194 := hN194.ext he202
                    have hlhE207 := absLen hE207
                    refine wl_val ha208 rfl rfl rfl (op_move ha208 rfl rfl) ?_
                    intro a210 ha210; clear ha208 a208
                    refine wl_val ha210 rfl rfl rfl (op_extract ha210 rfl rfl rfl) ?_
                    intro a211 ha211; clear ha210 a210
                    refine wl_val ha211 rfl rfl rfl (op_extract ha211 rfl rfl rfl) ?_
                    intro a212 ha212; clear ha211 a211
                    refine wl_val ha212 rfl rfl rfl (op_assign ha212 rfl rfl) ?_
                    intro a213 ha213; clear ha212 a212
                    refine wl_val ha213 rfl rfl rfl (op_assign ha213 rfl rfl) ?_
                    intro a214 ha214; clear ha213 a213
                    refine wpList_nil ?_
                    refine then_n ?_
                    refine wp_seq ?_
                    refine wp_seq ?_
                    refine wp_region_lit ?_
                    refine wl_val ha214 rfl rfl rfl (op_move ha214 rfl rfl) ?_
                    intro a215 ha215; clear ha214 a214
                    refine wl_val ha215 rfl rfl rfl (op_move ha215 rfl rfl) ?_
                    intro a216 ha216; clear ha215 a215
                    refine wl_callR ha216 rfl rfl rfl (op_call ha216 rfl cb18 rfl) (c_laws_eqCustomerS _ u203 ((seL ((aList)) aBike aTo)) u40 ((seL ((aList)) aBike aTo)) ((rds_shCustN (ho204.fin (by omega) (by omega) (by omega)) hN206).cast hE207) ((rds_shCustN (ho41.fin (by omega) (by omega) (by omega)) hN43).cast hE44)) ?_
                    rintro v217 w218 he219 rfl a220 ha220; clear ha216 a216
                    have hx221 := hx209.trans' he219
                    have hzhx221 := he219.size
                    replace ho29 := ho29.ext he219
                    replace hN31 := hN31.ext he219
                    replace ho41 := ho41.ext he219
                    replace hN43 := hN43.ext he219
                    replace ho101 := ho101.ext he219
                    replace hN103 := hN103.ext he219
                    replace ho120 := ho120.ext he219
                    replace hN122 := hN122.ext he219
                    replace ho163 := ho163.ext he219
                    replace hN165 := hN165.ext he219
                    replace ho192 := ho192.ext he219
                    replace hN194 := hN194.ext he219
                    replace ho204 := ho204.ext he219
                    replace hN206 := hN206.ext he219
                    refine wl_val ha220 rfl rfl rfl (op_not ha220 rfl rfl) ?_
                    intro a222 ha222; clear ha220 a220
                    refine wl_val ha222 rfl rfl rfl (op_move ha222 rfl rfl) ?_
                    intro a223 ha223; clear ha222 a222
                    rw [c90] at ha223
                    refine wl_val ha223 rfl rfl rfl (op_move ha223 rfl rfl) ?_
                    intro a224 ha224; clear ha223 a223
                    refine wl_val ha224 rfl rfl rfl (op_move ha224 rfl rfl) ?_
                    intro a225 ha225; clear ha224 a224
                    refine wl_val ha225 rfl rfl rfl ((op_neq ha225 rfl rfl rfl).to (congrArg Value.bool decide_not)) ?_
                    intro a226 ha226; clear ha225 a225
                    refine wl_val ha226 rfl rfl rfl (op_pick_f ha226 rfl rfl rfl) ?_
                    intro a227 ha227; clear ha226 a226
                    refine wpList_nil ?_
                    refine then_n ?_
                    rw [decide_eq_true c95] at ha227
                    refine cond_f ha227 rfl ?_
                    refine wp_skip ?_
                    refine then_n ?_
                    refine wp_seq ?_
                    refine wp_region_lit ?_
                    refine wl_val ha227 rfl rfl rfl (op_assign ha227 rfl rfl) ?_
                    intro a228 ha228; clear ha227 a227
                    refine wpList_nil ?_
                    refine then_n ?_
                    refine wp_seq ?_
                    refine wp_region_lit ?_
                    refine wl_val ha228 rfl rfl rfl (op_move ha228 rfl rfl) ?_
                    intro a229 ha229; clear ha228 a228
                    refine wl_val ha229 rfl rfl rfl (op_move ha229 rfl rfl) ?_
                    intro a230 ha230; clear ha229 a229
                    refine wl_callR ha230 rfl rfl rfl (op_call ha230 rfl cb33 rfl) (c_laws_heldCustomerS _ u69 ((mkCu ((seL ((aList)) aBike aTo)) ((1 : Int)))) (1 : Int) ((rds_shCustN (ho163.fin (by omega) (by omega) (by omega)) hN165).cast hE166) (by first | assumption | omega | (simp; omega)) (by first | assumption | omega | (simp; omega) | (simp [mkCu_length, kk_mkCu]; omega))) ?_
                    rintro v231 w232 he233 rfl a234 ha234; clear ha230 a230
                    have hx235 := hx221.trans' he233
                    have hzhx235 := he233.size
                    replace ho29 := ho29.ext he233
                    replace hN31 := hN31.ext he233
                    replace ho41 := ho41.ext he233
                    replace hN43 := hN43.ext he233
                    replace ho101 := ho101.ext he233
                    replace hN103 := hN103.ext he233
                    replace ho120 := ho120.ext he233
                    replace hN122 := hN122.ext he233
                    replace ho163 := ho163.ext he233
                    replace hN165 := hN165.ext he233
                    replace ho192 := ho192.ext he233
                    replace hN194 := hN194.ext he233
                    replace ho204 := ho204.ext he233
                    replace hN206 := hN206.ext he233
                    refine wl_val ha234 rfl rfl rfl (op_assign ha234 rfl rfl) ?_
                    intro a236 ha236; clear ha234 a234
                    refine wpList_nil ?_
                    refine then_n ?_
                    refine wp_seq ?_
                    refine wp_seq ?_
                    refine wp_region_lit ?_
                    refine wl_val ha236 rfl rfl rfl (op_move ha236 rfl rfl) ?_
                    intro a237 ha237; clear ha236 a236
                    refine wl_val ha237 rfl rfl rfl (op_lss ha237 rfl rfl rfl) ?_
                    intro a238 ha238; clear ha237 a237
                    refine wpList_nil ?_
                    refine then_n ?_
                    rw [decide_eq_false c182] at ha238
                    refine cond_f ha238 rfl ?_
                    refine wp_skip ?_
                    refine then_n ?_
                    refine wp_seq ?_
                    refine wp_seq ?_
                    refine wp_region_lit ?_
                    refine wl_val ha238 rfl rfl rfl (op_move ha238 rfl rfl) ?_
                    intro a239 ha239; clear ha238 a238
                    refine wl_val ha239 rfl rfl rfl (op_move ha239 rfl rfl) ?_
                    intro a240 ha240; clear ha239 a239
                    refine wl_val ha240 rfl rfl rfl ((op_neq ha240 rfl rfl rfl).to (congrArg Value.bool decide_not)) ?_
                    intro a241 ha241; clear ha240 a240
                    refine wpList_nil ?_
                    refine then_n ?_
                    rw [decide_eq_true c187] at ha241
                    refine cond_f ha241 rfl ?_
                    refine wp_skip ?_
                    refine then_n ?_
                    refine wp_seq ?_
                    refine wp_region_lit ?_
                    refine wl_val ha241 rfl rfl rfl (op_assign ha241 rfl rfl) ?_
                    intro a242 ha242; clear ha241 a241
                    refine wpList_nil ?_
                    refine then_n ?_
                    refine wp_ret ?_
                    refine ret1 ha242 rfl rfl ?_
                    clear ha242 a242
                    exact ret_mk hx235 (congrArg Value.bool (by first | rfl | omega | (simp [held_mkCu, mkCu_length, kk_mkCu] at c187; done) | (simp [held_mkCu, mkCu_length, kk_mkCu] at c187; omega) | (simp [held_mkCu, mkCu_length] at c182; done) | (simp [held_mkCu, mkCu_length] at c182; omega) | (simp [kk_mkCu] at c131; done) | (simp [kk_mkCu] at c131; omega) | (exact absurd rfl c182) | (exact absurd rfl c131) | (exact absurd rfl c23) | (exact absurd rfl c10) | (exact absurd rfl c5)))
                  ·
                    rw [decide_eq_false c187] at ha186
                    refine cond_t ha186 rfl ?_
                    refine wp_seq ?_
                    refine wp_region_lit ?_
                    refine wl_val ha186 rfl rfl rfl (op_assign ha186 rfl rfl) ?_
                    intro a243 ha243; clear ha186 a186
                    refine wpList_nil ?_
                    refine then_n ?_
                    refine wp_ret ?_
                    refine then_r ?_
                    refine ret1 ha243 rfl rfl ?_
                    clear ha243 a243
                    exact ret_mk hx178 (congrArg Value.bool (by first | rfl | omega | (simp [held_mkCu, mkCu_length, kk_mkCu] at c187; done) | (simp [held_mkCu, mkCu_length, kk_mkCu] at c187; omega) | (simp [held_mkCu, mkCu_length] at c182; done) | (simp [held_mkCu, mkCu_length] at c182; omega) | (simp [kk_mkCu] at c131; done) | (simp [kk_mkCu] at c131; omega) | (exact absurd rfl c187) | (exact absurd rfl c182) | (exact absurd rfl c131) | (exact absurd rfl c23) | (exact absurd rfl c10) | (exact absurd rfl c5)))
            ·
              rw [c113] at ha112
              refine cond_t ha112 rfl ?_
              refine wp_seq ?_
              refine wp_region_lit ?_
              refine wl_val ha112 rfl rfl rfl (op_assign ha112 rfl rfl) ?_
              intro a244 ha244; clear ha112 a112
              refine wpList_nil ?_
              refine then_n ?_
              refine wp_ret ?_
              refine then_r ?_
              refine ret1 ha244 rfl rfl ?_
              clear ha244 a244
              exact ret_mk hx111 (congrArg Value.bool (by first | rfl | omega | (rw [eqL_self] at c113; cases c113) | (exact absurd rfl c113) | (exact absurd rfl c23) | (exact absurd rfl c10) | (exact absurd rfl c5)))
          ·
            rw [decide_eq_false c95] at ha94
            refine cond_t ha94 rfl ?_
            refine wp_seq ?_
            refine wp_region_lit ?_
            refine wl_val ha94 rfl rfl rfl (op_assign ha94 rfl rfl) ?_
            intro a245 ha245; clear ha94 a94
            refine wpList_nil ?_
            refine then_n ?_
            refine wp_ret ?_
            refine then_r ?_
            refine ret1 ha245 rfl rfl ?_
            clear ha245 a245
            exact ret_mk hx87 (congrArg Value.bool (by first | rfl | omega | (exact absurd rfl c95) | (exact absurd rfl c23) | (exact absurd rfl c10) | (exact absurd rfl c5)))
        ·
          rw [c90] at ha89
          refine wl_skip ha89 rfl rfl rfl ?_
          intro a246 ha246; clear ha89 a89
          refine wl_skip ha246 rfl rfl rfl ?_
          intro a247 ha247; clear ha246 a246
          refine wl_skip ha247 rfl rfl rfl ?_
          intro a248 ha248; clear ha247 a247
          refine wl_val ha248 rfl rfl rfl (op_pick_t ha248 rfl rfl rfl) ?_
          intro a249 ha249; clear ha248 a248
          refine wpList_nil ?_
          refine then_n ?_
          refine cond_t ha249 rfl ?_
          refine wp_seq ?_
          refine wp_region_lit ?_
          refine wl_val ha249 rfl rfl rfl (op_assign ha249 rfl rfl) ?_
          intro a250 ha250; clear ha249 a249
          refine wpList_nil ?_
          refine then_n ?_
          refine wp_ret ?_
          refine then_r ?_
          refine ret1 ha250 rfl rfl ?_
          clear ha250 a250
          exact ret_mk hx87 (congrArg Value.bool (by first | rfl | omega | (rw [eqL_self] at c90; cases c90) | (exact absurd rfl c90) | (exact absurd rfl c23) | (exact absurd rfl c10) | (exact absurd rfl c5)))

theorem c_laws_FnExactMergeCustomers (w0 : World) (v_aList : Value) (aList : List (Str × Int × List Str)) {S_aList : Nat → Prop} (aKeep : Str) (aDrop : Str) (h_aList : Rds shCust S_aList w0 v_aList aList) :
    Calls Try.prog 9 #[v_aList, St aKeep, St aDrop] w0 (Ret w0 (fun v _ => v = .bool (true))) := by
  refine enter (N := 112) Try.func9 rfl rfl rfl ?_
  intro a0 ha0
  have hx0 := Ext.rfl' w0
  have hl_aList := h_aList.length_le
  have hcl := costL_len costCu aList
  have hkk := kkCu_le aList 1
  have hkg := kkCu_ge aList 1
  have hTb := kkCu_bd (mcL aList aKeep aDrop) 1 (mcL_bk aList aKeep aDrop)
  have hTl := mcL_len aList aKeep aDrop
  have hTg := kkCu_ge (mcL aList aKeep aDrop) 1
  refine wp_seq ?_
  refine wp_region_lit ?_
  refine wl_val ha0 rfl rfl rfl (op_assign ha0 rfl rfl) ?_
  intro a1 ha1; clear ha0 a0
  refine wpList_nil ?_
  refine then_n ?_
  refine wp_seq ?_
  refine wp_seq ?_
  refine wp_region_lit ?_
  refine wl_val ha1 rfl rfl rfl (op_move ha1 rfl rfl) ?_
  intro a2 ha2; clear ha1 a1
  refine wl_val ha2 rfl rfl rfl (op_len_str ha2 rfl Try.underlying9 rfl) ?_
  intro a3 ha3; clear ha2 a2
  refine wl_val ha3 rfl rfl rfl (op_gtr ha3 rfl rfl rfl) ?_
  intro a4 ha4; clear ha3 a3
  refine wpList_nil ?_
  refine then_n ?_
  by_cases c5 : (1048576 : Int) < ((aKeep.length : Nat) : Int)
  ·
    rw [decide_eq_true c5] at ha4
    refine cond_t ha4 rfl ?_
    refine wp_seq ?_
    refine wp_region_lit ?_
    refine wl_val ha4 rfl rfl rfl (op_assign ha4 rfl rfl) ?_
    intro a6 ha6; clear ha4 a4
    refine wpList_nil ?_
    refine then_n ?_
    refine wp_ret ?_
    refine then_r ?_
    refine ret1 ha6 rfl rfl ?_
    clear ha6 a6
    exact ret_mk hx0 (congrArg Value.bool (by first | rfl | omega))
  ·
    rw [decide_eq_false c5] at ha4
    refine cond_f ha4 rfl ?_
    refine wp_skip ?_
    refine then_n ?_
    refine wp_seq ?_
    refine wp_seq ?_
    refine wp_region_lit ?_
    refine wl_val ha4 rfl rfl rfl (op_move ha4 rfl rfl) ?_
    intro a7 ha7; clear ha4 a4
    refine wl_val ha7 rfl rfl rfl (op_len_str ha7 rfl Try.underlying9 rfl) ?_
    intro a8 ha8; clear ha7 a7
    refine wl_val ha8 rfl rfl rfl (op_gtr ha8 rfl rfl rfl) ?_
    intro a9 ha9; clear ha8 a8
    refine wpList_nil ?_
    refine then_n ?_
    by_cases c10 : (1048576 : Int) < ((aDrop.length : Nat) : Int)
    ·
      rw [decide_eq_true c10] at ha9
      refine cond_t ha9 rfl ?_
      refine wp_seq ?_
      refine wp_region_lit ?_
      refine wl_val ha9 rfl rfl rfl (op_assign ha9 rfl rfl) ?_
      intro a11 ha11; clear ha9 a9
      refine wpList_nil ?_
      refine then_n ?_
      refine wp_ret ?_
      refine then_r ?_
      refine ret1 ha11 rfl rfl ?_
      clear ha11 a11
      exact ret_mk hx0 (congrArg Value.bool (by first | rfl | omega | (exact absurd rfl c5)))
    ·
      rw [decide_eq_false c10] at ha9
      refine cond_f ha9 rfl ?_
      refine wp_skip ?_
      refine then_n ?_
      refine wp_seq ?_
      refine wp_region_lit ?_
      refine wl_val ha9 rfl rfl rfl (op_assign ha9 rfl rfl) ?_
      intro a12 ha12; clear ha9 a9
      refine wpList_nil ?_
      refine then_n ?_
      refine wp_seq ?_
      refine wp_region_lit ?_
      refine wl_val ha12 rfl rfl rfl (op_move ha12 rfl rfl) ?_
      intro a13 ha13; clear ha12 a12
      refine wl_val ha13 rfl rfl rfl (op_move ha13 rfl rfl) ?_
      intro a14 ha14; clear ha13 a13
      refine wl_callR ha14 rfl rfl rfl (op_call ha14 rfl cb14 rfl) (c_laws_szCustomerS _ v_aList aList (1048576 : Int) (h_aList.ext pos_shCust hx0) (by first | assumption | omega | (simp; omega)) (by first | assumption | omega | (simp; omega))) ?_
      rintro v15 w16 he17 rfl a18 ha18; clear ha14 a14
      have hx19 := hx0.trans' he17
      have hzhx19 := he17.size
      refine wl_val ha18 rfl rfl rfl (op_assign ha18 rfl rfl) ?_
      intro a20 ha20; clear ha18 a18
      refine wpList_nil ?_
      refine then_n ?_
      refine wp_seq ?_
      refine wp_seq ?_
      refine wp_region_lit ?_
      refine wl_val ha20 rfl rfl rfl (op_move ha20 rfl rfl) ?_
      intro a21 ha21; clear ha20 a20
      refine wl_val ha21 rfl rfl rfl (op_lss ha21 rfl rfl rfl) ?_
      intro a22 ha22; clear ha21 a21
      refine wpList_nil ?_
      refine then_n ?_
      by_cases c23 : (szR (1048576 : Int) (costL costCu aList) : Int) < (0 : Int)
      ·
        rw [decide_eq_true c23] at ha22
        refine cond_t ha22 rfl ?_
        refine wp_seq ?_
        refine wp_region_lit ?_
        refine wl_val ha22 rfl rfl rfl (op_assign ha22 rfl rfl) ?_
        intro a24 ha24; clear ha22 a22
        refine wpList_nil ?_
        refine then_n ?_
        refine wp_ret ?_
        refine then_r ?_
        refine ret1 ha24 rfl rfl ?_
        clear ha24 a24
        exact ret_mk hx19 (congrArg Value.bool (by first | rfl | omega | (exact absurd rfl c10) | (exact absurd rfl c5)))
      ·
        rw [decide_eq_false c23] at ha22
        have hzc23 := szR_ok c23
        refine cond_f ha22 rfl ?_
        refine wp_skip ?_
        refine then_n ?_
        refine wp_seq ?_
        refine wp_region_lit ?_
        refine wl_val ha22 rfl rfl rfl (op_move ha22 rfl rfl) ?_
        intro a25 ha25; clear ha22 a22
        refine wl_callR ha25 rfl rfl rfl (op_call ha25 rfl cb16 rfl) (c_laws_toCustomerS _ v_aList aList (h_aList.ext pos_shCust hx19) (by first | assumption | omega | (simp; omega))) ?_
        rintro v26 w27 he28 ⟨z30, ho29, hN31, hE32⟩ a33 ha33; clear ha25 a25
        have hx34 := hx19.trans' he28
        have hzhx34 := he28.size
        have hlhE32 := absLen hE32
        refine wl_val ha33 rfl rfl rfl (op_move ha33 rfl rfl) ?_
        intro a35 ha35; clear ha33 a33
        refine wl_val ha35 rfl rfl rfl (op_move ha35 rfl rfl) ?_
        intro a36 ha36; clear ha35 a35
        refine wl_callR ha36 rfl rfl rfl (op_call ha36 rfl cb34 rfl) (c_spec_MergeCustomers _ v26 ((aList)) aKeep aDrop ((rds_shCustN (ho29.fin (by omega) (by omega) (by omega)) hN31).cast hE32) (by first | assumption | omega | (simp; omega)) (by first | assumption | omega | (simp; omega)) (by first | assumption | omega | (simp; omega))) ?_
        rintro v37 w38 he39 ⟨u40, z42, rfl, ho41, hN43, hE44⟩ a45 ha45; clear ha36 a36
        have hx46 := hx34.trans' he39
        have hzhx46 := he39.size
        replace ho29 := ho29.ext he39
        replace hN31 := hN31.ext he39
        have hlhE44 := absLen hE44
        refine wl_val ha45 rfl rfl rfl (op_move ha45 rfl rfl) ?_
        intro a47 ha47; clear ha45 a45
        refine wl_val ha47 rfl rfl rfl (op_extract ha47 rfl rfl rfl) ?_
        intro a48 ha48; clear ha47 a47
        refine wl_val ha48 rfl rfl rfl (op_extract ha48 rfl rfl rfl) ?_
        intro a49 ha49; clear ha48 a48
        refine wl_val ha49 rfl rfl rfl (op_assign ha49 rfl rfl) ?_
        intro a50 ha50; clear ha49 a49
        refine wl_val ha50 rfl rfl rfl (op_assign ha50 rfl rfl) ?_
        intro a51 ha51; clear ha50 a50
        refine wpList_nil ?_
        refine then_n ?_
        refine wp_seq ?_
        refine wp_region_lit ?_
        refine wl_val ha51 rfl rfl rfl (op_move ha51 rfl rfl) ?_
        intro a52 ha52; clear ha51 a51
        refine wl_callR ha52 rfl rfl rfl (op_call ha52 rfl cb16 rfl) (c_laws_toCustomerS _ v_aList aList (h_aList.ext pos_shCust hx46) (by first | assumption | omega | (simp; omega))) ?_
        rintro v53 w54 he55 ⟨z57, ho56, hN58, hE59⟩ a60 ha60; clear ha52 a52
        have hx61 := hx46.trans' he55
        have hzhx61 := he55.size
        replace ho29 := ho29.ext he55
        replace hN31 := hN31.ext he55
        replace ho41 := ho41.ext he55
        replace hN43 := hN43.ext he55
        have hlhE59 := absLen hE59
        refine wl_val ha60 rfl rfl rfl (op_assign ha60 rfl rfl) ?_
        intro a62 ha62; clear ha60 a60
        refine wpList_nil ?_
        refine then_n ?_
        refine wp_seq ?_
        refine wp_region_lit ?_
        refine wl_val ha62 rfl rfl rfl (op_move ha62 rfl rfl) ?_
        intro a63 ha63; clear ha62 a62
        refine wl_val ha63 rfl rfl rfl (op_move ha63 rfl rfl) ?_
        intro a64 ha64; clear ha63 a63
        refine wl_val ha64 rfl rfl rfl (op_move ha64 rfl rfl) ?_
        intro a65 ha65; clear ha64 a64
        refine wl_callR ha65 rfl rfl rfl (op_call ha65 rfl cb35 rfl) (c_impl_MergeCustomers _ v53 ((aList)) aKeep aDrop ((rds_shCustN (ho56.fin (by omega) (by omega) (by omega)) hN58).cast hE59) (by first | assumption | omega | (simp; omega)) (by first | assumption | omega | (simp; omega)) (by first | assumption | omega | (simp; omega))) ?_
        rintro v66 w67 he68 ⟨u69, z71, rfl, ho70, hN72, hE73⟩ a74 ha74; clear ha65 a65
        have hx75 := hx61.trans' he68
        have hzhx75 := he68.size
        replace ho29 := ho29.ext he68
        replace hN31 := hN31.ext he68
        replace ho41 := ho41.ext he68
        replace hN43 := hN43.ext he68
        replace ho56 := ho56.ext he68
        replace hN58 := hN58.ext he68
        have hlhE73 := absLen hE73
        refine wl_val ha74 rfl rfl rfl (op_move ha74 rfl rfl) ?_
        intro a76 ha76; clear ha74 a74
        refine wl_val ha76 rfl rfl rfl (op_extract ha76 rfl rfl rfl) ?_
        intro a77 ha77; clear ha76 a76
        refine wl_val ha77 rfl rfl rfl (op_extract ha77 rfl rfl rfl) ?_
        intro a78 ha78; clear ha77 a77
        refine wl_val ha78 rfl rfl rfl (op_assign ha78 rfl rfl) ?_
        intro a79 ha79; clear ha78 a78
        refine wl_val ha79 rfl rfl rfl (op_assign ha79 rfl rfl) ?_
        intro a80 ha80; clear ha79 a79
        refine wpList_nil ?_
        refine then_n ?_
        refine wp_seq ?_
        refine wp_seq ?_
        refine wp_region_lit ?_
        refine wl_val ha80 rfl rfl rfl (op_move ha80 rfl rfl) ?_
        intro a81 ha81; clear ha80 a80
        refine wl_val ha81 rfl rfl rfl (op_move ha81 rfl rfl) ?_
        intro a82 ha82; clear ha81 a81
        refine wl_callR ha82 rfl rfl rfl (op_call ha82 rfl cb18 rfl) (c_laws_eqCustomerS _ u69 ((mcL ((aList)) aKeep aDrop)) u40 ((mcL ((aList)) aKeep aDrop)) ((rds_shCustN (ho70.fin (by omega) (by omega) (by omega)) hN72).cast hE73) ((rds_shCustN (ho41.fin (by omega) (by omega) (by omega)) hN43).cast hE44)) ?_
        rintro v83 w84 he85 rfl a86 ha86; clear ha82 a82
        have hx87 := hx75.trans' he85
        have hzhx87 := he85.size
        replace ho29 := ho29.ext he85
        replace hN31 := hN31.ext he85
        replace ho41 := ho41.ext he85
        replace hN43 := hN43.ext he85
        replace ho56 := ho56.ext he85
        replace hN58 := hN58.ext he85
        replace ho70 := ho70.ext he85
        replace hN72 := hN72.ext he85
        refine wl_val ha86 rfl rfl rfl (op_not ha86 rfl rfl) ?_
        intro a88 ha88; clear ha86 a86
        refine wl_val ha88 rfl rfl rfl (op_move ha88 rfl rfl) ?_
        intro a89 ha89; clear ha88 a88
        rcases Bool.eq_false_or_eq_true (eqL ((mcL ((aList)) aKeep aDrop)) ((mcL ((aList)) aKeep aDrop))) with c90 | c90
        ·
          rw [c90] at ha89
          refine wl_val ha89 rfl rfl rfl (op_move ha89 rfl rfl) ?_
          intro a91 ha91; clear ha89 a89
          refine wl_val ha91 rfl rfl rfl (op_move ha91 rfl rfl) ?_
          intro a92 ha92; clear ha91 a91
          refine wl_val ha92 rfl rfl rfl ((op_neq ha92 rfl rfl rfl).to (congrArg Value.bool decide_not)) ?_
          intro a93 ha93; clear ha92 a92
          refine wl_val ha93 rfl rfl rfl (op_pick_f ha93 rfl rfl rfl) ?_
          intro a94 ha94; clear ha93 a93
          refine wpList_nil ?_
          refine then_n ?_
          by_cases c95 : (mcC ((aList)) aKeep aDrop : Int) = (mcC ((aList)) aKeep aDrop : Int)
          ·
            rw [decide_eq_true c95] at ha94
            refine cond_f ha94 rfl ?_
            refine wp_skip ?_
            refine then_n ?_
            refine wp_seq ?_
            refine wp_seq ?_
            refine wp_region_lit ?_
            refine wl_val ha94 rfl rfl rfl (op_move ha94 rfl rfl) ?_
            intro a96 ha96; clear ha94 a94
            refine wl_val ha96 rfl rfl rfl (op_move ha96 rfl rfl) ?_
            intro a97 ha97; clear ha96 a96
            refine wl_callR ha97 rfl rfl rfl (op_call ha97 rfl cb16 rfl) (c_laws_toCustomerS _ v_aList aList (h_aList.ext pos_shCust hx87) (by first | assumption | omega | (simp; omega))) ?_
            rintro v98 w99 he100 ⟨z102, ho101, hN103, hE104⟩ a105 ha105; clear ha97 a97
            have hx106 := hx87.trans' he100
            have hzhx106 := he100.size
            replace ho29 := ho29.ext he100
            replace hN31 := hN31.ext he100
            replace ho41 := ho41.ext he100
            replace hN43 := hN43.ext he100
            replace ho56 := ho56.ext he100
            replace hN58 := hN58.ext he100
            replace ho70 := ho70.ext he100
            replace hN72 := hN72.ext he100
            have hlhE104 := absLen hE104
            refine wl_callR ha105 rfl rfl rfl (op_call ha105 rfl cb18 rfl) (c_laws_eqCustomerS _ v53 ((aList)) v98 ((aList)) ((rds_shCustN (ho56.fin (by omega) (by omega) (by omega)) hN58).cast hE59) ((rds_shCustN (ho101.fin (by omega) (by omega) (by omega)) hN103).cast hE104)) ?_
            rintro v107 w108 he109 rfl a110 ha110; clear ha105 a105
            have hx111 := hx106.trans' he109
            have hzhx111 := he109.size
            replace ho29 := ho29.ext he109
            replace hN31 := hN31.ext he109
            replace ho41 := ho41.ext he109
            replace hN43 := hN43.ext he109
            replace ho56 := ho56.ext he109
            replace hN58 := hN58.ext he109
            replace ho70 := ho70.ext he109
            replace hN72 := hN72.ext he109
            replace ho101 := ho101.ext he109
            replace hN103 := hN103.ext he109
            refine wl_val ha110 rfl rfl rfl (op_not ha110 rfl rfl) ?_
            intro a112 ha112; clear ha110 a110
            refine wpList_nil ?_
            refine then_n ?_
            rcases Bool.eq_false_or_eq_true (eqL ((aList)) ((aList))) with c113 | c113
            ·
              rw [c113] at ha112
              refine cond_f ha112 rfl ?_
              refine wp_skip ?_
              refine then_n ?_
              refine wp_seq ?_
              refine wp_region_lit ?_
              refine wl_val ha112 rfl rfl rfl (op_assign ha112 rfl rfl) ?_
              intro a114 ha114; clear ha112 a112
              refine wpList_nil ?_
              refine then_n ?_
              refine wp_seq ?_
              refine wp_region_lit ?_
              refine wl_val ha114 rfl rfl rfl (op_move ha114 rfl rfl) ?_
              intro a115 ha115; clear ha114 a114
              refine wl_val ha115 rfl rfl rfl (op_move ha115 rfl rfl) ?_
              intro a116 ha116; clear ha115 a115
              have hm124 := c_laws_markCustomerS _ v53 z57 (1 : Int) (ho56.fin (by omega) (by omega) (by omega)) hN58 (by omega) (by (try rw [hE59]); first | assumption | omega | (simp; omega)) (by (try rw [hE59]); first | assumption | omega | (simp; omega) | (simp [kk_mkCu]; omega)) (by (try rw [hE59]); first | assumption | omega | (simp; omega))
              rw [hE59] at hm124
              refine wl_callI ha116 rfl rfl rfl (op_call ha116 rfl cb26 rfl) (hm124) ?_
              rintro v117 w118 he119 ⟨z121, rfl, ho120, hN122, hE123⟩ a125 ha125; clear ha116 a116
              have hx126 := hx111.stpI he119 (by omega)
              have hzhx126 := he119.size
              replace ho29 := ho29.stpI he119 (by omega)
              replace hN31 := hN31.stpI he119 (by omega)
              replace ho41 := ho41.stpI he119 (by omega)
              replace hN43 := hN43.stpI he119 (by omega)
              replace ho70 := ho70.stpI he119 (by omega)
              replace hN72 := hN72.stpI he119 (by omega)
              replace ho101 := ho101.stpI he119 (by omega)
              replace hN103 := hN103.stpI he119 (by omega)
              clear ho56 hN58
              refine wl_val ha125 rfl rfl rfl (op_assign ha125 rfl rfl) ?_
              intro a127 ha127; clear ha125 a125
              refine wpList_nil ?_
              refine then_n ?_
              refine wp_seq ?_
              refine wp_seq ?_
              refine wp_region_lit ?_
              refine wl_val ha127 rfl rfl rfl (op_move ha127 rfl rfl) ?_
              intro a128 ha128; clear ha127 a127
              refine wl_val ha128 rfl rfl rfl (op_lss ha128 rfl rfl rfl) ?_
              intro a129 ha129; clear ha128 a128
              refine wl_val ha129 rfl rfl rfl (op_move ha129 rfl rfl) ?_
              intro a130 ha130; clear ha129 a129
              by_cases c131 : (kkCu ((aList)) ((1 : Int)) : Int) < (0 : Int)
              ·
                rw [decide_eq_true c131] at ha130
                refine wl_skip ha130 rfl rfl rfl ?_
                intro a132 ha132; clear ha130 a130
                refine wl_skip ha132 rfl rfl rfl ?_
                intro a133 ha133; clear ha132 a132
                refine wl_skip ha133 rfl rfl rfl ?_
                intro a134 ha134; clear ha133 a133
                refine wl_skip ha134 rfl rfl rfl ?_
                intro a135 ha135; clear ha134 a134
                refine wl_val ha135 rfl rfl rfl (op_pick_t ha135 rfl rfl rfl) ?_
                intro a136 ha136; clear ha135 a135
                refine wl_val ha136 rfl rfl rfl (op_move ha136 rfl rfl) ?_
                intro a137 ha137; clear ha136 a136
                refine wl_skip ha137 rfl rfl rfl ?_
                intro a138 ha138; clear ha137 a137
                refine wl_skip ha138 rfl rfl rfl ?_
                intro a139 ha139; clear ha138 a138
                refine wl_skip ha139 rfl rfl rfl ?_
                intro a140 ha140; clear ha139 a139
                refine wl_val ha140 rfl rfl rfl (op_pick_t ha140 rfl rfl rfl) ?_
                intro a141 ha141; clear ha140 a140
                refine wpList_nil ?_
                refine then_n ?_
                refine cond_t ha141 rfl ?_
                refine wp_seq ?_
                refine wp_region_lit ?_
                refine wl_val ha141 rfl rfl rfl (op_assign ha141 rfl rfl) ?_
                intro a142 ha142; clear ha141 a141
                refine wpList_nil ?_
                refine then_n ?_
                refine wp_ret ?_
                refine then_r ?_
                refine ret1 ha142 rfl rfl ?_
                clear ha142 a142
                exact ret_mk hx126 (congrArg Value.bool (by first | rfl | omega | (simp [kk_mkCu] at c131; done) | (simp [kk_mkCu] at c131; omega) | (exact absurd rfl c23) | (exact absurd rfl c10) | (exact absurd rfl c5)))
              ·
                rw [decide_eq_false c131] at ha130
                refine wl_val ha130 rfl rfl rfl (op_move ha130 rfl rfl) ?_
                intro a143 ha143; clear ha130 a130
                refine wl_val ha143 rfl rfl rfl (op_move ha143 rfl rfl) ?_
                intro a144 ha144; clear ha143 a143
                refine wl_callR ha144 rfl rfl rfl (op_call ha144 rfl cb18 rfl) (c_laws_eqCustomerS _ u69 ((mcL ((aList)) aKeep aDrop)) u40 ((mcL ((aList)) aKeep aDrop)) ((rds_shCustN (ho70.fin (by omega) (by omega) (by omega)) hN72).cast hE73) ((rds_shCustN (ho41.fin (by omega) (by omega) (by omega)) hN43).cast hE44)) ?_
                rintro v145 w146 he147 rfl a148 ha148; clear ha144 a144
                have hx149 := hx126.trans' he147
                have hzhx149 := he147.size
                replace ho29 := ho29.ext he147
                replace hN31 := hN31.ext he147
                replace ho41 := ho41.ext he147
                replace hN43 := hN43.ext he147
                replace ho70 := ho70.ext he147
                replace hN72 := hN72.ext he147
                replace ho101 := ho101.ext he147
                replace hN103 := hN103.ext he147
                replace ho120 := ho120.ext he147
                replace hN122 := hN122.ext he147
                refine wl_val ha148 rfl rfl rfl (op_not ha148 rfl rfl) ?_
                intro a150 ha150; clear ha148 a148
                refine wl_val ha150 rfl rfl rfl (op_pick_f ha150 rfl rfl rfl) ?_
                intro a151 ha151; clear ha150 a150
                refine wl_val ha151 rfl rfl rfl (op_move ha151 rfl rfl) ?_
                intro a152 ha152; clear ha151 a151
                rw [c90] at ha152
                refine wl_val ha152 rfl rfl rfl (op_move ha152 rfl rfl) ?_
                intro a153 ha153; clear ha152 a152
                refine wl_val ha153 rfl rfl rfl (op_move ha153 rfl rfl) ?_
                intro a154 ha154; clear ha153 a153
                refine wl_val ha154 rfl rfl rfl ((op_neq ha154 rfl rfl rfl).to (congrArg Value.bool decide_not)) ?_
                intro a155 ha155; clear ha154 a154
                refine wl_val ha155 rfl rfl rfl (op_pick_f ha155 rfl rfl rfl) ?_
                intro a156 ha156; clear ha155 a155
                refine wpList_nil ?_
                refine then_n ?_
                rw [decide_eq_true c95] at ha156
                refine cond_f ha156 rfl ?_
                refine wp_skip ?_
                refine then_n ?_
                refine wp_seq ?_
                refine wp_region_lit ?_
                refine wl_val ha156 rfl rfl rfl (op_assign ha156 rfl rfl) ?_
                intro a157 ha157; clear ha156 a156
                refine wpList_nil ?_
                refine then_n ?_
                refine wp_seq ?_
                refine wp_region_lit ?_
                refine wl_val ha157 rfl rfl rfl (op_move ha157 rfl rfl) ?_
                intro a158 ha158; clear ha157 a157
                refine wl_val ha158 rfl rfl rfl (op_move ha158 rfl rfl) ?_
                intro a159 ha159; clear ha158 a158
                have hm167 := c_laws_markCustomerS _ u69 z71 (1 : Int) (ho70.fin (by omega) (by omega) (by omega)) hN72 (by omega) (by (try rw [hE73]); first | assumption | omega | (simp; omega)) (by (try rw [hE73]); first | assumption | omega | (simp; omega) | (simp [kk_mkCu]; omega)) (by (try rw [hE73]); first | assumption | omega | (simp; omega))
                rw [hE73] at hm167
                refine wl_callI ha159 rfl rfl rfl (op_call ha159 rfl cb26 rfl) (hm167) ?_
                rintro v160 w161 he162 ⟨z164, rfl, ho163, hN165, hE166⟩ a168 ha168; clear ha159 a159
                have hx169 := hx149.stpI he162 (by omega)
                have hzhx169 := he162.size
                replace ho29 := ho29.stpI he162 (by omega)
                replace hN31 := hN31.stpI he162 (by omega)
                replace ho41 := ho41.stpI he162 (by omega)
                replace hN43 := hN43.stpI he162 (by omega)
                replace ho101 := ho101.stpI he162 (by omega)
                replace hN103 := hN103.stpI he162 (by omega)
                replace ho120 := ho120.stpI he162 (by omega)
                replace hN122 := hN122.stpI he162 (by omega)
                clear ho70 hN72
                refine wl_val ha168 rfl rfl rfl (op_assign ha168 rfl rfl) ?_
                intro a170 ha170; clear ha168 a168
                refine wpList_nil ?_
                refine then_n ?_
                refine wp_seq ?_
                refine wp_region_lit ?_
                refine wl_val ha170 rfl rfl rfl (op_assign ha170 rfl rfl) ?_
                intro a171 ha171; clear ha170 a170
                refine wpList_nil ?_
                refine then_n ?_
                refine wp_seq ?_
                refine wp_region_lit ?_
                refine wl_val ha171 rfl rfl rfl (op_move ha171 rfl rfl) ?_
                intro a172 ha172; clear ha171 a171
                refine wl_val ha172 rfl rfl rfl (op_move ha172 rfl rfl) ?_
                intro a173 ha173; clear ha172 a172
                refine wl_callR ha173 rfl rfl rfl (op_call ha173 rfl cb33 rfl) (c_laws_heldCustomerS _ u69 ((mkCu ((mcL ((aList)) aKeep aDrop)) ((1 : Int)))) (1 : Int) ((rds_shCustN (ho163.fin (by omega) (by omega) (by omega)) hN165).cast hE166) (by first | assumption | omega | (simp; omega)) (by first | assumption | omega | (simp; omega) | (simp [mkCu_length, kk_mkCu]; omega))) ?_
                rintro v174 w175 he176 rfl a177 ha177; clear ha173 a173
                have hx178 := hx169.trans' he176
                have hzhx178 := he176.size
                replace ho29 := ho29.ext he176
                replace hN31 := hN31.ext he176
                replace ho41 := ho41.ext he176
                replace hN43 := hN43.ext he176
                replace ho101 := ho101.ext he176
                replace hN103 := hN103.ext he176
                replace ho120 := ho120.ext he176
                replace hN122 := hN122.ext he176
                replace ho163 := ho163.ext he176
                replace hN165 := hN165.ext he176
                refine wl_val ha177 rfl rfl rfl (op_assign ha177 rfl rfl) ?_
                intro a179 ha179; clear ha177 a177
                refine wpList_nil ?_
                refine then_n ?_
                refine wp_seq ?_
                refine wp_seq ?_
                refine wp_region_lit ?_
                refine wl_val ha179 rfl rfl rfl (op_move ha179 rfl rfl) ?_
                intro a180 ha180; clear ha179 a179
                refine wl_val ha180 rfl rfl rfl (op_lss ha180 rfl rfl rfl) ?_
                intro a181 ha181; clear ha180 a180
                refine wpList_nil ?_
                refine then_n ?_
                by_cases c182 : (heldCu ((mkCu ((mcL ((aList)) aKeep aDrop)) ((1 : Int)))) (1 : Int) : Int) < (0 : Int)
                ·
                  rw [decide_eq_true c182] at ha181
                  refine cond_t ha181 rfl ?_
                  refine wp_seq ?_
                  refine wp_region_lit ?_
                  refine wl_val ha181 rfl rfl rfl (op_assign ha181 rfl rfl) ?_
                  intro a183 ha183; clear ha181 a181
                  refine wpList_nil ?_
                  refine then_n ?_
                  refine wp_ret ?_
                  refine then_r ?_
                  refine ret1 ha183 rfl rfl ?_
                  clear ha183 a183
                  exact ret_mk hx178 (congrArg Value.bool (by first | rfl | omega | (simp [held_mkCu, mkCu_length] at c182; done) | (simp [held_mkCu, mkCu_length] at c182; omega) | (simp [kk_mkCu] at c131; done) | (simp [kk_mkCu] at c131; omega) | (exact absurd rfl c131) | (exact absurd rfl c23) | (exact absurd rfl c10) | (exact absurd rfl c5)))
                ·
                  rw [decide_eq_false c182] at ha181
                  refine cond_f ha181 rfl ?_
                  refine wp_skip ?_
                  refine then_n ?_
                  refine wp_seq ?_
                  refine wp_seq ?_
                  refine wp_region_lit ?_
                  refine wl_val ha181 rfl rfl rfl (op_move ha181 rfl rfl) ?_
                  intro a184 ha184; clear ha181 a181
                  refine wl_val ha184 rfl rfl rfl (op_move ha184 rfl rfl) ?_
                  intro a185 ha185; clear ha184 a184
                  refine wl_val ha185 rfl rfl rfl ((op_neq ha185 rfl rfl rfl).to (congrArg Value.bool decide_not)) ?_
                  intro a186 ha186; clear ha185 a185
                  refine wpList_nil ?_
                  refine then_n ?_
                  by_cases c187 : (heldCu ((mkCu ((mcL ((aList)) aKeep aDrop)) ((1 : Int)))) (1 : Int) : Int) = (kkCu ((mcL ((aList)) aKeep aDrop)) ((1 : Int)) : Int)
                  ·
                    rw [decide_eq_true c187] at ha186
                    refine cond_f ha186 rfl ?_
                    refine wp_skip ?_
                    refine then_n ?_
                    refine wp_seq ?_
                    refine wp_region_lit ?_
                    refine wl_val ha186 rfl rfl rfl (op_move ha186 rfl rfl) ?_
                    intro a188 ha188; clear ha186 a186
                    refine wl_callR ha188 rfl rfl rfl (op_call ha188 rfl cb16 rfl) (c_laws_toCustomerS _ v_aList aList (h_aList.ext pos_shCust hx178) (by first | assumption | omega | (simp; omega))) ?_
                    rintro v189 w190 he191 ⟨z193, ho192, hN194, hE195⟩ a196 ha196; clear ha188 a188
                    have hx197 := hx178.trans' he191
                    have hzhx197 := he191.size
                    replace ho29 := ho29.ext he191
                    replace hN31 := hN31.ext he191
                    replace ho41 := ho41.ext he191
                    replace hN43 := hN43.ext he191
                    replace ho101 := ho101.ext he191
                    replace hN103 := hN103.ext he191
                    replace ho120 := ho120.ext he191
                    replace hN122 := hN122.ext he191
                    replace ho163 := ho163.ext he191
                    replace hN165 := hN165.ext he191
                    have hlhE195 := absLen hE195
                    refine wl_val ha196 rfl rfl rfl (op_move ha196 rfl rfl) ?_
                    intro a198 ha198; clear ha196 a196
                    refine wl_val ha198 rfl rfl rfl (op_move ha198 rfl rfl) ?_
                    intro a199 ha199; clear ha198 a198
                    refine wl_callR ha199 rfl rfl rfl (op_call ha199 rfl cb35 rfl) (c_impl_MergeCustomers _ v189 ((aList)) aKeep aDrop ((rds_shCustN (ho192.fin (by omega) (by omega) (by omega)) hN194).cast hE195) (by first | assumption | omega | (simp; omega)) (by first | assumption | omega | (simp; omega)) (by first | assumption | omega | (simp; omega))) ?_
                    rintro v200 w201 he202 ⟨u203, z205, rfl, ho204, hN206, hE207⟩ a208 ha208; clear ha199 a199
                    have hx209 := hx197.trans' he202
                    have hzhx209 := he202.size
                    replace ho29 := ho29.ext he202
                    replace hN31 := hN31.ext he202
                    replace ho41 := ho41.ext he202
                    replace hN43 := hN43.ext he202
                    replace ho101 := ho101.ext he202
                    replace hN103 := hN103.ext he202
                    replace ho120 := ho120.ext he202
                    replace hN122 := hN122.ext he202
                    replace ho163 := ho163.ext he202
                    replace hN165 := hN165.ext he202
                    replace ho192 := ho192.ext he202
                    replace hN194 := hN194.ext he202
                    have hlhE207 := absLen hE207
                    refine wl_val ha208 rfl rfl rfl (op_move ha208 rfl rfl) ?_
                    intro a210 ha210; clear ha208 a208
                    refine wl_val ha210 rfl rfl rfl (op_extract ha210 rfl rfl rfl) ?_
                    intro a211 ha211; clear ha210 a210
                    refine wl_val ha211 rfl rfl rfl (op_extract ha211 rfl rfl rfl) ?_
                    intro a212 ha212; clear ha211 a211
                    refine wl_val ha212 rfl rfl rfl (op_assign ha212 rfl rfl) ?_
                    intro a213 ha213; clear ha212 a212
                    refine wl_val ha213 rfl rfl rfl (op_assign ha213 rfl rfl) ?_
                    intro a214 ha214; clear ha213 a213
                    refine wpList_nil ?_
                    refine then_n ?_
                    refine wp_seq ?_
                    refine wp_seq ?_
                    refine wp_region_lit ?_
                    refine wl_val ha214 rfl rfl rfl (op_move ha214 rfl rfl) ?_
                    intro a215 ha215; clear ha214 a214
                    refine wl_val ha215 rfl rfl rfl (op_move ha215 rfl rfl) ?_
                    intro a216 ha216; clear ha215 a215
                    refine wl_callR ha216 rfl rfl rfl (op_call ha216 rfl cb18 rfl) (c_laws_eqCustomerS _ u203 ((mcL ((aList)) aKeep aDrop)) u40 ((mcL ((aList)) aKeep aDrop)) ((rds_shCustN (ho204.fin (by omega) (by omega) (by omega)) hN206).cast hE207) ((rds_shCustN (ho41.fin (by omega) (by omega) (by omega)) hN43).cast hE44)) ?_
                    rintro v217 w218 he219 rfl a220 ha220; clear ha216 a216
                    have hx221 := hx209.trans' he219
                    have hzhx221 := he219.size
                    replace ho29 := ho29.ext he219
                    replace hN31 := hN31.ext he219
                    replace ho41 := ho41.ext he219
                    replace hN43 := hN43.ext he219
                    replace ho101 := ho101.ext he219
                    replace hN103 := hN103.ext he219
                    replace ho120 := ho120.ext he219
                    replace hN122 := hN122.ext he219
                    replace ho163 := ho163.ext he219
                    replace hN165 := hN165.ext he219
                    replace ho192 := ho192.ext he219
                    replace hN194 := hN194.ext he219
                    replace ho204 := ho204.ext he219
                    replace hN206 := hN206.ext he219
                    refine wl_val ha220 rfl rfl rfl (op_not ha220 rfl rfl) ?_
                    intro a222 ha222; clear ha220 a220
                    refine wl_val ha222 rfl rfl rfl (op_move ha222 rfl rfl) ?_
                    intro a223 ha223; clear ha222 a222
                    rw [c90] at ha223
                    refine wl_val ha223 rfl rfl rfl (op_move ha223 rfl rfl) ?_
                    intro a224 ha224; clear ha223 a223
                    refine wl_val ha224 rfl rfl rfl (op_move ha224 rfl rfl) ?_
                    intro a225 ha225; clear ha224 a224
                    refine wl_val ha225 rfl rfl rfl ((op_neq ha225 rfl rfl rfl).to (congrArg Value.bool decide_not)) ?_
                    intro a226 ha226; clear ha225 a225
                    refine wl_val ha226 rfl rfl rfl (op_pick_f ha226 rfl rfl rfl) ?_
                    intro a227 ha227; clear ha226 a226
                    refine wpList_nil ?_
                    refine then_n ?_
                    rw [decide_eq_true c95] at ha227
                    refine cond_f ha227 rfl ?_
                    refine wp_skip ?_
                    refine then_n ?_
                    refine wp_seq ?_
                    refine wp_region_lit ?_
                    refine wl_val ha227 rfl rfl rfl (op_assign ha227 rfl rfl) ?_
                    intro a228 ha228; clear ha227 a227
                    refine wpList_nil ?_
                    refine then_n ?_
                    refine wp_seq ?_
                    refine wp_region_lit ?_
                    refine wl_val ha228 rfl rfl rfl (op_move ha228 rfl rfl) ?_
                    intro a229 ha229; clear ha228 a228
                    refine wl_val ha229 rfl rfl rfl (op_move ha229 rfl rfl) ?_
                    intro a230 ha230; clear ha229 a229
                    refine wl_callR ha230 rfl rfl rfl (op_call ha230 rfl cb33 rfl) (c_laws_heldCustomerS _ u69 ((mkCu ((mcL ((aList)) aKeep aDrop)) ((1 : Int)))) (1 : Int) ((rds_shCustN (ho163.fin (by omega) (by omega) (by omega)) hN165).cast hE166) (by first | assumption | omega | (simp; omega)) (by first | assumption | omega | (simp; omega) | (simp [mkCu_length, kk_mkCu]; omega))) ?_
                    rintro v231 w232 he233 rfl a234 ha234; clear ha230 a230
                    have hx235 := hx221.trans' he233
                    have hzhx235 := he233.size
                    replace ho29 := ho29.ext he233
                    replace hN31 := hN31.ext he233
                    replace ho41 := ho41.ext he233
                    replace hN43 := hN43.ext he233
                    replace ho101 := ho101.ext he233
                    replace hN103 := hN103.ext he233
                    replace ho120 := ho120.ext he233
                    replace hN122 := hN122.ext he233
                    replace ho163 := ho163.ext he233
                    replace hN165 := hN165.ext he233
                    replace ho192 := ho192.ext he233
                    replace hN194 := hN194.ext he233
                    replace ho204 := ho204.ext he233
                    replace hN206 := hN206.ext he233
                    refine wl_val ha234 rfl rfl rfl (op_assign ha234 rfl rfl) ?_
                    intro a236 ha236; clear ha234 a234
                    refine wpList_nil ?_
                    refine then_n ?_
                    refine wp_seq ?_
                    refine wp_seq ?_
                    refine wp_region_lit ?_
                    refine wl_val ha236 rfl rfl rfl (op_move ha236 rfl rfl) ?_
                    intro a237 ha237; clear ha236 a236
                    refine wl_val ha237 rfl rfl rfl (op_lss ha237 rfl rfl rfl) ?_
                    intro a238 ha238; clear ha237 a237
                    refine wpList_nil ?_
                    refine then_n ?_
                    rw [decide_eq_false c182] at ha238
                    refine cond_f ha238 rfl ?_
                    refine wp_skip ?_
                    refine then_n ?_
                    refine wp_seq ?_
                    refine wp_seq ?_
                    refine wp_region_lit ?_
                    refine wl_val ha238 rfl rfl rfl (op_move ha238 rfl rfl) ?_
                    intro a239 ha239; clear ha238 a238
                    refine wl_val ha239 rfl rfl rfl (op_move ha239 rfl rfl) ?_
                    intro a240 ha240; clear ha239 a239
                    refine wl_val ha240 rfl rfl rfl ((op_neq ha240 rfl rfl rfl).to (congrArg Value.bool decide_not)) ?_
                    intro a241 ha241; clear ha240 a240
                    refine wpList_nil ?_
                    refine then_n ?_
                    rw [decide_eq_true c187] at ha241
                    refine cond_f ha241 rfl ?_
                    refine wp_skip ?_
                    refine then_n ?_
                    refine wp_seq ?_
                    refine wp_region_lit ?_
                    refine wl_val ha241 rfl rfl rfl (op_assign ha241 rfl rfl) ?_
                    intro a242 ha242; clear ha241 a241
                    refine wpList_nil ?_
                    refine then_n ?_
                    refine wp_ret ?_
                    refine ret1 ha242 rfl rfl ?_
                    clear ha242 a242
                    exact ret_mk hx235 (congrArg Value.bool (by first | rfl | omega | (simp [held_mkCu, mkCu_length, kk_mkCu] at c187; done) | (simp [held_mkCu, mkCu_length, kk_mkCu] at c187; omega) | (simp [held_mkCu, mkCu_length] at c182; done) | (simp [held_mkCu, mkCu_length] at c182; omega) | (simp [kk_mkCu] at c131; done) | (simp [kk_mkCu] at c131; omega) | (exact absurd rfl c182) | (exact absurd rfl c131) | (exact absurd rfl c23) | (exact absurd rfl c10) | (exact absurd rfl c5)))
                  ·
                    rw [decide_eq_false c187] at ha186
                    refine cond_t ha186 rfl ?_
                    refine wp_seq ?_
                    refine wp_region_lit ?_
                    refine wl_val ha186 rfl rfl rfl (op_assign ha186 rfl rfl) ?_
                    intro a243 ha243; clear ha186 a186
                    refine wpList_nil ?_
                    refine then_n ?_
                    refine wp_ret ?_
                    refine then_r ?_
                    refine ret1 ha243 rfl rfl ?_
                    clear ha243 a243
                    exact ret_mk hx178 (congrArg Value.bool (by first | rfl | omega | (simp [held_mkCu, mkCu_length, kk_mkCu] at c187; done) | (simp [held_mkCu, mkCu_length, kk_mkCu] at c187; omega) | (simp [held_mkCu, mkCu_length] at c182; done) | (simp [held_mkCu, mkCu_length] at c182; omega) | (simp [kk_mkCu] at c131; done) | (simp [kk_mkCu] at c131; omega) | (exact absurd rfl c187) | (exact absurd rfl c182) | (exact absurd rfl c131) | (exact absurd rfl c23) | (exact absurd rfl c10) | (exact absurd rfl c5)))
            ·
              rw [c113] at ha112
              refine cond_t ha112 rfl ?_
              refine wp_seq ?_
              refine wp_region_lit ?_
              refine wl_val ha112 rfl rfl rfl (op_assign ha112 rfl rfl) ?_
              intro a244 ha244; clear ha112 a112
              refine wpList_nil ?_
              refine then_n ?_
              refine wp_ret ?_
              refine then_r ?_
              refine ret1 ha244 rfl rfl ?_
              clear ha244 a244
              exact ret_mk hx111 (congrArg Value.bool (by first | rfl | omega | (rw [eqL_self] at c113; cases c113) | (exact absurd rfl c113) | (exact absurd rfl c23) | (exact absurd rfl c10) | (exact absurd rfl c5)))
          ·
            rw [decide_eq_false c95] at ha94
            refine cond_t ha94 rfl ?_
            refine wp_seq ?_
            refine wp_region_lit ?_
            refine wl_val ha94 rfl rfl rfl (op_assign ha94 rfl rfl) ?_
            intro a245 ha245; clear ha94 a94
            refine wpList_nil ?_
            refine then_n ?_
            refine wp_ret ?_
            refine then_r ?_
            refine ret1 ha245 rfl rfl ?_
            clear ha245 a245
            exact ret_mk hx87 (congrArg Value.bool (by first | rfl | omega | (exact absurd rfl c95) | (exact absurd rfl c23) | (exact absurd rfl c10) | (exact absurd rfl c5)))
        ·
          rw [c90] at ha89
          refine wl_skip ha89 rfl rfl rfl ?_
          intro a246 ha246; clear ha89 a89
          refine wl_skip ha246 rfl rfl rfl ?_
          intro a247 ha247; clear ha246 a246
          refine wl_skip ha247 rfl rfl rfl ?_
          intro a248 ha248; clear ha247 a247
          refine wl_val ha248 rfl rfl rfl (op_pick_t ha248 rfl rfl rfl) ?_
          intro a249 ha249; clear ha248 a248
          refine wpList_nil ?_
          refine then_n ?_
          refine cond_t ha249 rfl ?_
          refine wp_seq ?_
          refine wp_region_lit ?_
          refine wl_val ha249 rfl rfl rfl (op_assign ha249 rfl rfl) ?_
          intro a250 ha250; clear ha249 a249
          refine wpList_nil ?_
          refine then_n ?_
          refine wp_ret ?_
          refine then_r ?_
          refine ret1 ha250 rfl rfl ?_
          clear ha250 a250
          exact ret_mk hx87 (congrArg Value.bool (by first | rfl | omega | (rw [eqL_self] at c90; cases c90) | (exact absurd rfl c90) | (exact absurd rfl c23) | (exact absurd rfl c10) | (exact absurd rfl c5)))


end Go.Proofs.Ythbkedflhmeohaa
