/- The law LongestSince, walked. -/
import Derived.Test.YthbkedflhmeohaaW9
import Derived.Test.YthbkedflhmeohaaL3
namespace Go.Proofs.Ythbkedflhmeohaa
open Go Go.RowKit

theorem c_laws_FnExactLongestSince (w0 : World) (v_aList : Value) (aList : List (Str × Int × List Str)) {S_aList : Nat → Prop} (aMost : Int) (h_aList : Rds shCust S_aList w0 v_aList aList) (g0 : I64 aMost) :
    Calls Try.prog 7 #[v_aList, .int .i64 aMost] w0 (Ret w0 (fun v _ => v = .bool (true))) := by
  refine enter (N := 101) Try.func7 rfl rfl rfl ?_
  intro a0 ha0
  have hx0 := Ext.rfl' w0
  have hl_aList := h_aList.length_le
  have hcl := costL_len costCu aList
  have hkk := kkCu_le aList 1
  have hkg := kkCu_ge aList 1
  have hrl := lsL_len aList aMost
  have hr1 : (if codeL aList aMost = 0 then lsL aList aMost else []).length ≤ aList.length := by split <;> first | omega | simp | (simp; omega)
  refine wp_seq ?_
  refine wp_region_lit ?_
  refine wl_val ha0 rfl rfl rfl (op_assign ha0 rfl rfl) ?_
  intro a1 ha1; clear ha0 a0
  refine wpList_nil ?_
  refine then_n ?_
  refine wp_seq ?_
  refine wp_region_lit ?_
  refine wl_val ha1 rfl rfl rfl (op_assign ha1 rfl rfl) ?_
  intro a2 ha2; clear ha1 a1
  refine wpList_nil ?_
  refine then_n ?_
  refine wp_seq ?_
  refine wp_region_lit ?_
  refine wl_val ha2 rfl rfl rfl (op_move ha2 rfl rfl) ?_
  intro a3 ha3; clear ha2 a2
  refine wl_val ha3 rfl rfl rfl (op_move ha3 rfl rfl) ?_
  intro a4 ha4; clear ha3 a3
  refine wl_callR ha4 rfl rfl rfl (op_call ha4 rfl cb14 rfl) (c_laws_szCustomerS _ v_aList aList (1048576 : Int) (h_aList.ext pos_shCust hx0) (by first | assumption | omega | (simp; omega)) (by first | assumption | omega | (simp; omega))) ?_
  rintro v5 w6 he7 rfl a8 ha8; clear ha4 a4
  have hx9 := hx0.trans' he7
  have hzhx9 := he7.size
  refine wl_val ha8 rfl rfl rfl (op_assign ha8 rfl rfl) ?_
  intro a10 ha10; clear ha8 a8
  refine wpList_nil ?_
  refine then_n ?_
  refine wp_seq ?_
  refine wp_seq ?_
  refine wp_region_lit ?_
  refine wl_val ha10 rfl rfl rfl (op_move ha10 rfl rfl) ?_
  intro a11 ha11; clear ha10 a10
  refine wl_val ha11 rfl rfl rfl (op_lss ha11 rfl rfl rfl) ?_
  intro a12 ha12; clear ha11 a11
  refine wpList_nil ?_
  refine then_n ?_
  by_cases c13 : (szR (1048576 : Int) (costL costCu aList) : Int) < (0 : Int)
  ·
    rw [decide_eq_true c13] at ha12
    refine cond_t ha12 rfl ?_
    refine wp_seq ?_
    refine wp_region_lit ?_
    refine wl_val ha12 rfl rfl rfl (op_assign ha12 rfl rfl) ?_
    intro a14 ha14; clear ha12 a12
    refine wpList_nil ?_
    refine then_n ?_
    refine wp_ret ?_
    refine then_r ?_
    refine ret1 ha14 rfl rfl ?_
    clear ha14 a14
    exact ret_mk hx9 (congrArg Value.bool (by first | rfl | omega))
  ·
    rw [decide_eq_false c13] at ha12
    have hzc13 := szR_ok c13
    refine cond_f ha12 rfl ?_
    refine wp_skip ?_
    refine then_n ?_
    refine wp_seq ?_
    refine wp_region_lit ?_
    refine wl_val ha12 rfl rfl rfl (op_move ha12 rfl rfl) ?_
    intro a15 ha15; clear ha12 a12
    refine wl_callR ha15 rfl rfl rfl (op_call ha15 rfl cb16 rfl) (c_laws_toCustomerS _ v_aList aList (h_aList.ext pos_shCust hx9) (by first | assumption | omega | (simp; omega))) ?_
    rintro v16 w17 he18 ⟨z20, ho19, hN21, hE22⟩ a23 ha23; clear ha15 a15
    have hx24 := hx9.trans' he18
    have hzhx24 := he18.size
    have hlhE22 := absLen hE22
    refine wl_val ha23 rfl rfl rfl (op_move ha23 rfl rfl) ?_
    intro a25 ha25; clear ha23 a23
    refine wl_callR ha25 rfl rfl rfl (op_call ha25 rfl cb29 rfl) (c_spec_LongestSince _ v16 ((aList)) aMost ((rds_shCustN (ho19.fin (by omega) (by omega) (by omega)) hN21).cast hE22) (by first | assumption | omega | (simp; omega)) (by first | assumption | omega | (simp; omega))) ?_
    rintro v26 w27 he28 ⟨v29, rfl, ho30⟩ a31 ha31; clear ha25 a25
    have hx32 := hx24.trans' he28
    have hzhx32 := he28.size
    replace ho19 := ho19.ext he28
    replace hN21 := hN21.ext he28
    refine wl_val ha31 rfl rfl rfl (op_move ha31 rfl rfl) ?_
    intro a33 ha33; clear ha31 a31
    refine wl_val ha33 rfl rfl rfl (op_extract ha33 rfl rfl rfl) ?_
    intro a34 ha34; clear ha33 a33
    refine wl_val ha34 rfl rfl rfl (op_extract ha34 rfl rfl rfl) ?_
    intro a35 ha35; clear ha34 a34
    refine wl_val ha35 rfl rfl rfl (op_assign ha35 rfl rfl) ?_
    intro a36 ha36; clear ha35 a35
    refine wl_val ha36 rfl rfl rfl (op_assign ha36 rfl rfl) ?_
    intro a37 ha37; clear ha36 a36
    refine wpList_nil ?_
    refine then_n ?_
    refine wp_seq ?_
    refine wp_region_lit ?_
    refine wl_val ha37 rfl rfl rfl (op_move ha37 rfl rfl) ?_
    intro a38 ha38; clear ha37 a37
    refine wl_callR ha38 rfl rfl rfl (op_call ha38 rfl cb16 rfl) (c_laws_toCustomerS _ v_aList aList (h_aList.ext pos_shCust hx32) (by first | assumption | omega | (simp; omega))) ?_
    rintro v39 w40 he41 ⟨z43, ho42, hN44, hE45⟩ a46 ha46; clear ha38 a38
    have hx47 := hx32.trans' he41
    have hzhx47 := he41.size
    replace ho19 := ho19.ext he41
    replace hN21 := hN21.ext he41
    replace ho30 := ho30.ext he41
    have hlhE45 := absLen hE45
    refine wl_val ha46 rfl rfl rfl (op_assign ha46 rfl rfl) ?_
    intro a48 ha48; clear ha46 a46
    refine wpList_nil ?_
    refine then_n ?_
    refine wp_seq ?_
    refine wp_region_lit ?_
    refine wl_val ha48 rfl rfl rfl (op_move ha48 rfl rfl) ?_
    intro a49 ha49; clear ha48 a48
    refine wl_val ha49 rfl rfl rfl (op_move ha49 rfl rfl) ?_
    intro a50 ha50; clear ha49 a49
    refine wl_callR ha50 rfl rfl rfl (op_call ha50 rfl cb30 rfl) (c_impl_LongestSince _ v39 ((aList)) aMost ((rds_shCustN (ho42.fin (by omega) (by omega) (by omega)) hN44).cast hE45) (by first | assumption | omega | (simp; omega)) (by first | assumption | omega | (simp; omega))) ?_
    rintro v51 w52 he53 ⟨v54, rfl, ho55⟩ a56 ha56; clear ha50 a50
    have hx57 := hx47.trans' he53
    have hzhx57 := he53.size
    replace ho19 := ho19.ext he53
    replace hN21 := hN21.ext he53
    replace ho30 := ho30.ext he53
    replace ho42 := ho42.ext he53
    replace hN44 := hN44.ext he53
    refine wl_val ha56 rfl rfl rfl (op_move ha56 rfl rfl) ?_
    intro a58 ha58; clear ha56 a56
    refine wl_val ha58 rfl rfl rfl (op_extract ha58 rfl rfl rfl) ?_
    intro a59 ha59; clear ha58 a58
    refine wl_val ha59 rfl rfl rfl (op_extract ha59 rfl rfl rfl) ?_
    intro a60 ha60; clear ha59 a59
    refine wl_val ha60 rfl rfl rfl (op_assign ha60 rfl rfl) ?_
    intro a61 ha61; clear ha60 a60
    refine wl_val ha61 rfl rfl rfl (op_assign ha61 rfl rfl) ?_
    intro a62 ha62; clear ha61 a61
    refine wpList_nil ?_
    refine then_n ?_
    refine wp_seq ?_
    refine wp_seq ?_
    refine wp_region_lit ?_
    refine wl_val ha62 rfl rfl rfl (op_move ha62 rfl rfl) ?_
    intro a63 ha63; clear ha62 a62
    refine wl_val ha63 rfl rfl rfl (op_move ha63 rfl rfl) ?_
    intro a64 ha64; clear ha63 a63
    refine wl_callR ha64 rfl rfl rfl (op_call ha64 rfl cb25 rfl) (c_laws_eqStringS _ v54 ((if codeL ((aList)) aMost = 0 then lsL ((aList)) aMost else [])) v29 ((if codeL ((aList)) aMost = 0 then lsL ((aList)) aMost else [])) (ho55.rds pos_shStr) (ho30.rds pos_shStr)) ?_
    rintro v65 w66 he67 rfl a68 ha68; clear ha64 a64
    have hx69 := hx57.trans' he67
    have hzhx69 := he67.size
    replace ho19 := ho19.ext he67
    replace hN21 := hN21.ext he67
    replace ho30 := ho30.ext he67
    replace ho42 := ho42.ext he67
    replace hN44 := hN44.ext he67
    replace ho55 := ho55.ext he67
    refine wl_val ha68 rfl rfl rfl (op_not ha68 rfl rfl) ?_
    intro a70 ha70; clear ha68 a68
    refine wl_val ha70 rfl rfl rfl (op_move ha70 rfl rfl) ?_
    intro a71 ha71; clear ha70 a70
    rcases Bool.eq_false_or_eq_true (eqL ((if codeL ((aList)) aMost = 0 then lsL ((aList)) aMost else [])) ((if codeL ((aList)) aMost = 0 then lsL ((aList)) aMost else []))) with c72 | c72
    ·
      rw [c72] at ha71
      refine wl_val ha71 rfl rfl rfl (op_move ha71 rfl rfl) ?_
      intro a73 ha73; clear ha71 a71
      refine wl_val ha73 rfl rfl rfl (op_move ha73 rfl rfl) ?_
      intro a74 ha74; clear ha73 a73
      refine wl_val ha74 rfl rfl rfl ((op_neq ha74 rfl rfl rfl).to (congrArg Value.bool decide_not)) ?_
      intro a75 ha75; clear ha74 a74
      refine wl_val ha75 rfl rfl rfl (op_pick_f ha75 rfl rfl rfl) ?_
      intro a76 ha76; clear ha75 a75
      refine wpList_nil ?_
      refine then_n ?_
      by_cases c77 : (codeL ((aList)) aMost : Int) = (codeL ((aList)) aMost : Int)
      ·
        rw [decide_eq_true c77] at ha76
        refine cond_f ha76 rfl ?_
        refine wp_skip ?_
        refine then_n ?_
        refine wp_seq ?_
        refine wp_seq ?_
        refine wp_region_lit ?_
        refine wl_val ha76 rfl rfl rfl (op_move ha76 rfl rfl) ?_
        intro a78 ha78; clear ha76 a76
        refine wl_val ha78 rfl rfl rfl (op_move ha78 rfl rfl) ?_
        intro a79 ha79; clear ha78 a78
        refine wl_callR ha79 rfl rfl rfl (op_call ha79 rfl cb16 rfl) (c_laws_toCustomerS _ v_aList aList (h_aList.ext pos_shCust hx69) (by first | assumption | omega | (simp; omega))) ?_
        rintro v80 w81 he82 ⟨z84, ho83, hN85, hE86⟩ a87 ha87; clear ha79 a79
        have hx88 := hx69.trans' he82
        have hzhx88 := he82.size
        replace ho19 := ho19.ext he82
        replace hN21 := hN21.ext he82
        replace ho30 := ho30.ext he82
        replace ho42 := ho42.ext he82
        replace hN44 := hN44.ext he82
        replace ho55 := ho55.ext he82
        have hlhE86 := absLen hE86
        refine wl_callR ha87 rfl rfl rfl (op_call ha87 rfl cb18 rfl) (c_laws_eqCustomerS _ v39 ((aList)) v80 ((aList)) ((rds_shCustN (ho42.fin (by omega) (by omega) (by omega)) hN44).cast hE45) ((rds_shCustN (ho83.fin (by omega) (by omega) (by omega)) hN85).cast hE86)) ?_
        rintro v89 w90 he91 rfl a92 ha92; clear ha87 a87
        have hx93 := hx88.trans' he91
        have hzhx93 := he91.size
        replace ho19 := ho19.ext he91
        replace hN21 := hN21.ext he91
        replace ho30 := ho30.ext he91
        replace ho42 := ho42.ext he91
        replace hN44 := hN44.ext he91
        replace ho55 := ho55.ext he91
        replace ho83 := ho83.ext he91
        replace hN85 := hN85.ext he91
        refine wl_val ha92 rfl rfl rfl (op_not ha92 rfl rfl) ?_
        intro a94 ha94; clear ha92 a92
        refine wpList_nil ?_
        refine then_n ?_
        rcases Bool.eq_false_or_eq_true (eqL ((aList)) ((aList))) with c95 | c95
        ·
          rw [c95] at ha94
          refine cond_f ha94 rfl ?_
          refine wp_skip ?_
          refine then_n ?_
          refine wp_seq ?_
          refine wp_region_lit ?_
          refine wl_val ha94 rfl rfl rfl (op_assign ha94 rfl rfl) ?_
          intro a96 ha96; clear ha94 a94
          refine wpList_nil ?_
          refine then_n ?_
          refine wp_seq ?_
          refine wp_region_lit ?_
          refine wl_val ha96 rfl rfl rfl (op_move ha96 rfl rfl) ?_
          intro a97 ha97; clear ha96 a96
          refine wl_val ha97 rfl rfl rfl (op_move ha97 rfl rfl) ?_
          intro a98 ha98; clear ha97 a97
          have hm106 := c_laws_markCustomerS _ v39 z43 (1 : Int) (ho42.fin (by omega) (by omega) (by omega)) hN44 (by omega) (by (try rw [hE45]); first | assumption | omega | (simp; omega)) (by (try rw [hE45]); first | assumption | omega | (simp; omega) | (simp [kk_mkCu]; omega)) (by (try rw [hE45]); first | assumption | omega | (simp; omega))
          rw [hE45] at hm106
          refine wl_callI ha98 rfl rfl rfl (op_call ha98 rfl cb26 rfl) (hm106) ?_
          rintro v99 w100 he101 ⟨z103, rfl, ho102, hN104, hE105⟩ a107 ha107; clear ha98 a98
          have hx108 := hx93.stpI he101 (by omega)
          have hzhx108 := he101.size
          replace ho19 := ho19.stpI he101 (by omega)
          replace hN21 := hN21.stpI he101 (by omega)
          replace ho30 := ho30.stpI he101 (by omega)
          replace ho55 := ho55.stpI he101 (by omega)
          replace ho83 := ho83.stpI he101 (by omega)
          replace hN85 := hN85.stpI he101 (by omega)
          clear ho42 hN44
          refine wl_val ha107 rfl rfl rfl (op_assign ha107 rfl rfl) ?_
          intro a109 ha109; clear ha107 a107
          refine wpList_nil ?_
          refine then_n ?_
          refine wp_seq ?_
          refine wp_seq ?_
          refine wp_region_lit ?_
          refine wl_val ha109 rfl rfl rfl (op_move ha109 rfl rfl) ?_
          intro a110 ha110; clear ha109 a109
          refine wl_val ha110 rfl rfl rfl (op_lss ha110 rfl rfl rfl) ?_
          intro a111 ha111; clear ha110 a110
          refine wl_val ha111 rfl rfl rfl (op_move ha111 rfl rfl) ?_
          intro a112 ha112; clear ha111 a111
          by_cases c113 : (kkCu ((aList)) ((1 : Int)) : Int) < (0 : Int)
          ·
            rw [decide_eq_true c113] at ha112
            refine wl_skip ha112 rfl rfl rfl ?_
            intro a114 ha114; clear ha112 a112
            refine wl_skip ha114 rfl rfl rfl ?_
            intro a115 ha115; clear ha114 a114
            refine wl_skip ha115 rfl rfl rfl ?_
            intro a116 ha116; clear ha115 a115
            refine wl_skip ha116 rfl rfl rfl ?_
            intro a117 ha117; clear ha116 a116
            refine wl_val ha117 rfl rfl rfl (op_pick_t ha117 rfl rfl rfl) ?_
            intro a118 ha118; clear ha117 a117
            refine wl_val ha118 rfl rfl rfl (op_move ha118 rfl rfl) ?_
            intro a119 ha119; clear ha118 a118
            refine wl_skip ha119 rfl rfl rfl ?_
            intro a120 ha120; clear ha119 a119
            refine wl_skip ha120 rfl rfl rfl ?_
            intro a121 ha121; clear ha120 a120
            refine wl_skip ha121 rfl rfl rfl ?_
            intro a122 ha122; clear ha121 a121
            refine wl_val ha122 rfl rfl rfl (op_pick_t ha122 rfl rfl rfl) ?_
            intro a123 ha123; clear ha122 a122
            refine wpList_nil ?_
            refine then_n ?_
            refine cond_t ha123 rfl ?_
            refine wp_seq ?_
            refine wp_region_lit ?_
            refine wl_val ha123 rfl rfl rfl (op_assign ha123 rfl rfl) ?_
            intro a124 ha124; clear ha123 a123
            refine wpList_nil ?_
            refine then_n ?_
            refine wp_ret ?_
            refine then_r ?_
            refine ret1 ha124 rfl rfl ?_
            clear ha124 a124
            exact ret_mk hx108 (congrArg Value.bool (by first | rfl | omega | (simp [kk_mkCu] at c113; done) | (simp [kk_mkCu] at c113; omega) | (exact absurd rfl c13)))
          ·
            rw [decide_eq_false c113] at ha112
            refine wl_val ha112 rfl rfl rfl (op_move ha112 rfl rfl) ?_
            intro a125 ha125; clear ha112 a112
            refine wl_val ha125 rfl rfl rfl (op_move ha125 rfl rfl) ?_
            intro a126 ha126; clear ha125 a125
            refine wl_callR ha126 rfl rfl rfl (op_call ha126 rfl cb25 rfl) (c_laws_eqStringS _ v54 ((if codeL ((aList)) aMost = 0 then lsL ((aList)) aMost else [])) v29 ((if codeL ((aList)) aMost = 0 then lsL ((aList)) aMost else [])) (ho55.rds pos_shStr) (ho30.rds pos_shStr)) ?_
            rintro v127 w128 he129 rfl a130 ha130; clear ha126 a126
            have hx131 := hx108.trans' he129
            have hzhx131 := he129.size
            replace ho19 := ho19.ext he129
            replace hN21 := hN21.ext he129
            replace ho30 := ho30.ext he129
            replace ho55 := ho55.ext he129
            replace ho83 := ho83.ext he129
            replace hN85 := hN85.ext he129
            replace ho102 := ho102.ext he129
            replace hN104 := hN104.ext he129
            refine wl_val ha130 rfl rfl rfl (op_not ha130 rfl rfl) ?_
            intro a132 ha132; clear ha130 a130
            refine wl_val ha132 rfl rfl rfl (op_pick_f ha132 rfl rfl rfl) ?_
            intro a133 ha133; clear ha132 a132
            refine wl_val ha133 rfl rfl rfl (op_move ha133 rfl rfl) ?_
            intro a134 ha134; clear ha133 a133
            rw [c72] at ha134
            refine wl_val ha134 rfl rfl rfl (op_move ha134 rfl rfl) ?_
            intro a135 ha135; clear ha134 a134
            refine wl_val ha135 rfl rfl rfl (op_move ha135 rfl rfl) ?_
            intro a136 ha136; clear ha135 a135
            refine wl_val ha136 rfl rfl rfl ((op_neq ha136 rfl rfl rfl).to (congrArg Value.bool decide_not)) ?_
            intro a137 ha137; clear ha136 a136
            refine wl_val ha137 rfl rfl rfl (op_pick_f ha137 rfl rfl rfl) ?_
            intro a138 ha138; clear ha137 a137
            refine wpList_nil ?_
            refine then_n ?_
            rw [decide_eq_true c77] at ha138
            refine cond_f ha138 rfl ?_
            refine wp_skip ?_
            refine then_n ?_
            refine wp_seq ?_
            refine wp_region_lit ?_
            refine wl_val ha138 rfl rfl rfl (op_assign ha138 rfl rfl) ?_
            intro a139 ha139; clear ha138 a138
            refine wpList_nil ?_
            refine then_n ?_
            refine wp_seq ?_
            refine wp_region_lit ?_
            refine wl_val ha139 rfl rfl rfl (op_move ha139 rfl rfl) ?_
            intro a140 ha140; clear ha139 a139
            refine wl_val ha140 rfl rfl rfl (op_move ha140 rfl rfl) ?_
            intro a141 ha141; clear ha140 a140
            refine wl_callS ha141 rfl rfl rfl (op_call ha141 rfl cb27 rfl) (c_laws_markStringS _ v54 ((if codeL ((aList)) aMost = 0 then lsL ((aList)) aMost else [])) (1 : Int) ho55 (by first | assumption | omega | (simp; omega)) (by first | assumption | omega | (simp; omega)) (by first | assumption | omega | (simp; omega))) ?_
            rintro v142 w143 he144 ⟨rfl, ho145⟩ a146 ha146; clear ha141 a141
            have hx147 := hx131.stp he144 (by intro q hq; have hq0 := ho55.lt q hq; omega)
            have hzhx147 := he144.size
            replace ho19 : Own shCustN 55 w6.heap.size w6.heap.size w17.heap.size w143 v16 z20 := by first | exact ho19.stp he144 (by intro q hq; have hq0 := ho55.lt q hq; omega) | exact ho19.stpF flat_shCustN he144 (ho19.ne ho55 rfl)
            replace hN21 : Nst shStr 9 (fun x : Str × Int × List Str => x.2.2) w6.heap.size w17.heap.size w143 z20 := by first | exact hN21.stp he144 (by intro q hq; have hq0 := ho55.lt q hq; omega)
            replace ho30 : Own shStr 9 w17.heap.size w17.heap.size w27.heap.size w143 v29 ((if codeL ((aList)) aMost = 0 then lsL ((aList)) aMost else [])) := by first | exact ho30.stp he144 (by intro q hq; have hq0 := ho55.lt q hq; omega)
            replace ho83 : Own shCustN 55 w66.heap.size w66.heap.size w81.heap.size w143 v80 z84 := by first | exact ho83.stp he144 (by intro q hq; have hq0 := ho55.lt q hq; omega) | exact ho83.stpF flat_shCustN he144 (ho83.ne ho55 rfl)
            replace hN85 : Nst shStr 9 (fun x : Str × Int × List Str => x.2.2) w66.heap.size w81.heap.size w143 z84 := by first | exact hN85.stp he144 (by intro q hq; have hq0 := ho55.lt q hq; omega)
            replace ho102 : Own shCustN 55 w27.heap.size w27.heap.size w40.heap.size w143 v39 z103 := by first | exact ho102.stp he144 (by intro q hq; have hq0 := ho55.lt q hq; omega) | exact ho102.stpF flat_shCustN he144 (ho102.ne ho55 rfl)
            replace hN104 : Nst shStr 9 (fun x : Str × Int × List Str => x.2.2) w27.heap.size w40.heap.size w143 z103 := by first | exact hN104.stp he144 (by intro q hq; have hq0 := ho55.lt q hq; omega)
            clear ho55
            refine wl_val ha146 rfl rfl rfl (op_assign ha146 rfl rfl) ?_
            intro a148 ha148; clear ha146 a146
            refine wpList_nil ?_
            refine then_n ?_
            refine wp_seq ?_
            refine wp_region_lit ?_
            refine wl_val ha148 rfl rfl rfl (op_assign ha148 rfl rfl) ?_
            intro a149 ha149; clear ha148 a148
            refine wpList_nil ?_
            refine then_n ?_
            refine wp_seq ?_
            refine wp_region_lit ?_
            refine wl_val ha149 rfl rfl rfl (op_move ha149 rfl rfl) ?_
            intro a150 ha150; clear ha149 a149
            refine wl_val ha150 rfl rfl rfl (op_move ha150 rfl rfl) ?_
            intro a151 ha151; clear ha150 a150
            refine wl_callR ha151 rfl rfl rfl (op_call ha151 rfl cb28 rfl) (c_laws_heldStringS _ v54 ((mkN mkS 1 ((if codeL ((aList)) aMost = 0 then lsL ((aList)) aMost else [])).length ((1 : Int)))) (1 : Int) (ho145.rds pos_shStr) (by first | assumption | omega | (simp; omega)) (by first | assumption | omega | (simp; omega)) (by first | assumption | omega | (simp; omega) | (simp [mkN_length]; omega))) ?_
            rintro v152 w153 he154 rfl a155 ha155; clear ha151 a151
            have hx156 := hx147.trans' he154
            have hzhx156 := he154.size
            replace ho19 := ho19.ext he154
            replace hN21 := hN21.ext he154
            replace ho30 := ho30.ext he154
            replace ho83 := ho83.ext he154
            replace hN85 := hN85.ext he154
            replace ho102 := ho102.ext he154
            replace hN104 := hN104.ext he154
            replace ho145 := ho145.ext he154
            refine wl_val ha155 rfl rfl rfl (op_assign ha155 rfl rfl) ?_
            intro a157 ha157; clear ha155 a155
            refine wpList_nil ?_
            refine then_n ?_
            refine wp_seq ?_
            refine wp_seq ?_
            refine wp_region_lit ?_
            refine wl_val ha157 rfl rfl rfl (op_move ha157 rfl rfl) ?_
            intro a158 ha158; clear ha157 a157
            refine wl_val ha158 rfl rfl rfl (op_lss ha158 rfl rfl rfl) ?_
            intro a159 ha159; clear ha158 a158
            refine wpList_nil ?_
            refine then_n ?_
            by_cases c160 : (heldG okS 1 ((mkN mkS 1 ((if codeL ((aList)) aMost = 0 then lsL ((aList)) aMost else [])).length ((1 : Int)))) (1 : Int) : Int) < (0 : Int)
            ·
              rw [decide_eq_true c160] at ha159
              refine cond_t ha159 rfl ?_
              refine wp_seq ?_
              refine wp_region_lit ?_
              refine wl_val ha159 rfl rfl rfl (op_assign ha159 rfl rfl) ?_
              intro a161 ha161; clear ha159 a159
              refine wpList_nil ?_
              refine then_n ?_
              refine wp_ret ?_
              refine then_r ?_
              refine ret1 ha161 rfl rfl ?_
              clear ha161 a161
              exact ret_mk hx156 (congrArg Value.bool (by first | rfl | omega | (simp [held_mkN okS_mk] at c160; done) | (simp [held_mkN okS_mk] at c160; omega) | (simp [held_mkN okS_mk, mkN_length] at c160; done) | (simp [held_mkN okS_mk, mkN_length] at c160; omega) | (simp [kk_mkCu] at c113; done) | (simp [kk_mkCu] at c113; omega) | (exact absurd rfl c113) | (exact absurd rfl c13)))
            ·
              rw [decide_eq_false c160] at ha159
              refine cond_f ha159 rfl ?_
              refine wp_skip ?_
              refine then_n ?_
              refine wp_seq ?_
              refine wp_seq ?_
              refine wp_region_lit ?_
              refine wl_val ha159 rfl rfl rfl (op_move ha159 rfl rfl) ?_
              intro a162 ha162; clear ha159 a159
              refine wl_val ha162 rfl rfl rfl (op_move ha162 rfl rfl) ?_
              intro a163 ha163; clear ha162 a162
              refine wl_val ha163 rfl rfl rfl ((op_neq ha163 rfl rfl rfl).to (congrArg Value.bool decide_not)) ?_
              intro a164 ha164; clear ha163 a163
              refine wpList_nil ?_
              refine then_n ?_
              by_cases c165 : (heldG okS 1 ((mkN mkS 1 ((if codeL ((aList)) aMost = 0 then lsL ((aList)) aMost else [])).length ((1 : Int)))) (1 : Int) : Int) = (((1 : Int)) + 1 * (((if codeL ((aList)) aMost = 0 then lsL ((aList)) aMost else [])).length : Nat) : Int)
              ·
                rw [decide_eq_true c165] at ha164
                refine cond_f ha164 rfl ?_
                refine wp_skip ?_
                refine then_n ?_
                refine wp_seq ?_
                refine wp_region_lit ?_
                refine wl_val ha164 rfl rfl rfl (op_move ha164 rfl rfl) ?_
                intro a166 ha166; clear ha164 a164
                refine wl_callR ha166 rfl rfl rfl (op_call ha166 rfl cb16 rfl) (c_laws_toCustomerS _ v_aList aList (h_aList.ext pos_shCust hx156) (by first | assumption | omega | (simp; omega))) ?_
                rintro v167 w168 he169 ⟨z171, ho170, hN172, hE173⟩ a174 ha174; clear ha166 a166
                have hx175 := hx156.trans' he169
                have hzhx175 := he169.size
                replace ho19 := ho19.ext he169
                replace hN21 := hN21.ext he169
                replace ho30 := ho30.ext he169
                replace ho83 := ho83.ext he169
                replace hN85 := hN85.ext he169
                replace ho102 := ho102.ext he169
                replace hN104 := hN104.ext he169
                replace ho145 := ho145.ext he169
                have hlhE173 := absLen hE173
                refine wl_val ha174 rfl rfl rfl (op_move ha174 rfl rfl) ?_
                intro a176 ha176; clear ha174 a174
                refine wl_callR ha176 rfl rfl rfl (op_call ha176 rfl cb30 rfl) (c_impl_LongestSince _ v167 ((aList)) aMost ((rds_shCustN (ho170.fin (by omega) (by omega) (by omega)) hN172).cast hE173) (by first | assumption | omega | (simp; omega)) (by first | assumption | omega | (simp; omega))) ?_
                rintro v177 w178 he179 ⟨v180, rfl, ho181⟩ a182 ha182; clear ha176 a176
                have hx183 := hx175.trans' he179
                have hzhx183 := he179.size
                replace ho19 := ho19.ext he179
                replace hN21 := hN21.ext he179
                replace ho30 := ho30.ext he179
                replace ho83 := ho83.ext he179
                replace hN85 := hN85.ext he179
                replace ho102 := ho102.ext he179
                replace hN104 := hN104.ext he179
                replace ho145 := ho145.ext he179
                replace ho170 := ho170.ext he179
                replace hN172 := hN172.ext he179
                refine wl_val ha182 rfl rfl rfl (op_move ha182 rfl rfl) ?_
                intro a184 ha184; clear ha182 a182
                refine wl_val ha184 rfl rfl rfl (op_extract ha184 rfl rfl rfl) ?_
                intro a185 ha185; clear ha184 a184
                refine wl_val ha185 rfl rfl rfl (op_extract ha185 rfl rfl rfl) ?_
                intro a186 ha186; clear ha185 a185
                refine wl_val ha186 rfl rfl rfl (op_assign ha186 rfl rfl) ?_
                intro a187 ha187; clear ha186 a186
                refine wl_val ha187 rfl rfl rfl (op_assign ha187 rfl rfl) ?_
                intro a188 ha188; clear ha187 a187
                refine wpList_nil ?_
                refine then_n ?_
                refine wp_seq ?_
                refine wp_seq ?_
                refine wp_region_lit ?_
                refine wl_val ha188 rfl rfl rfl (op_move ha188 rfl rfl) ?_
                intro a189 ha189; clear ha188 a188
                refine wl_val ha189 rfl rfl rfl (op_move ha189 rfl rfl) ?_
                intro a190 ha190; clear ha189 a189
                refine wl_callR ha190 rfl rfl rfl (op_call ha190 rfl cb25 rfl) (c_laws_eqStringS _ v180 ((if codeL ((aList)) aMost = 0 then lsL ((aList)) aMost else [])) v29 ((if codeL ((aList)) aMost = 0 then lsL ((aList)) aMost else [])) (ho181.rds pos_shStr) (ho30.rds pos_shStr)) ?_
                rintro v191 w192 he193 rfl a194 ha194; clear ha190 a190
                have hx195 := hx183.trans' he193
                have hzhx195 := he193.size
                replace ho19 := ho19.ext he193
                replace hN21 := hN21.ext he193
                replace ho30 := ho30.ext he193
                replace ho83 := ho83.ext he193
                replace hN85 := hN85.ext he193
                replace ho102 := ho102.ext he193
                replace hN104 := hN104.ext he193
                replace ho145 := ho145.ext he193
                replace ho170 := ho170.ext he193
                replace hN172 := hN172.ext he193
                replace ho181 := ho181.ext he193
                refine wl_val ha194 rfl rfl rfl (op_not ha194 rfl rfl) ?_
                intro a196 ha196; clear ha194 a194
                refine wl_val ha196 rfl rfl rfl (op_move ha196 rfl rfl) ?_
                intro a197 ha197; clear ha196 a196
                rw [c72] at ha197
                refine wl_val ha197 rfl rfl rfl (op_move ha197 rfl rfl) ?_
                intro a198 ha198; clear ha197 a197
                refine wl_val ha198 rfl rfl rfl (op_move ha198 rfl rfl) ?_
                intro a199 ha199; clear ha198 a198
                refine wl_val ha199 rfl rfl rfl ((op_neq ha199 rfl rfl rfl).to (congrArg Value.bool decide_not)) ?_
                intro a200 ha200; clear ha199 a199
                refine wl_val ha200 rfl rfl rfl (op_pick_f ha200 rfl rfl rfl) ?_
                intro a201 ha201; clear ha200 a200
                refine wpList_nil ?_
                refine then_n ?_
                rw [decide_eq_true c77] at ha201
                refine cond_f ha201 rfl ?_
                refine wp_skip ?_
                refine then_n ?_
                refine wp_seq ?_
                refine wp_region_lit ?_
                refine wl_val ha201 rfl rfl rfl (op_assign ha201 rfl rfl) ?_
                intro a202 ha202; clear ha201 a201
                refine wpList_nil ?_
                refine then_n ?_
                refine wp_seq ?_
                refine wp_region_lit ?_
                refine wl_val ha202 rfl rfl rfl (op_move ha202 rfl rfl) ?_
                intro a203 ha203; clear ha202 a202
                refine wl_val ha203 rfl rfl rfl (op_move ha203 rfl rfl) ?_
                intro a204 ha204; clear ha203 a203
                refine wl_callR ha204 rfl rfl rfl (op_call ha204 rfl cb28 rfl) (c_laws_heldStringS _ v54 ((mkN mkS 1 ((if codeL ((aList)) aMost = 0 then lsL ((aList)) aMost else [])).length ((1 : Int)))) (1 : Int) (ho145.rds pos_shStr) (by first | assumption | omega | (simp; omega)) (by first | assumption | omega | (simp; omega)) (by first | assumption | omega | (simp; omega) | (simp [mkN_length]; omega))) ?_
                rintro v205 w206 he207 rfl a208 ha208; clear ha204 a204
                have hx209 := hx195.trans' he207
                have hzhx209 := he207.size
                replace ho19 := ho19.ext he207
                replace hN21 := hN21.ext he207
                replace ho30 := ho30.ext he207
                replace ho83 := ho83.ext he207
                replace hN85 := hN85.ext he207
                replace ho102 := ho102.ext he207
                replace hN104 := hN104.ext he207
                replace ho145 := ho145.ext he207
                replace ho170 := ho170.ext he207
                replace hN172 := hN172.ext he207
                replace ho181 := ho181.ext he207
                refine wl_val ha208 rfl rfl rfl (op_assign ha208 rfl rfl) ?_
                intro a210 ha210; clear ha208 a208
                refine wpList_nil ?_
                refine then_n ?_
                refine wp_seq ?_
                refine wp_seq ?_
                refine wp_region_lit ?_
                refine wl_val ha210 rfl rfl rfl (op_move ha210 rfl rfl) ?_
                intro a211 ha211; clear ha210 a210
                refine wl_val ha211 rfl rfl rfl (op_lss ha211 rfl rfl rfl) ?_
                intro a212 ha212; clear ha211 a211
                refine wpList_nil ?_
                refine then_n ?_
                rw [decide_eq_false c160] at ha212
                refine cond_f ha212 rfl ?_
                refine wp_skip ?_
                refine then_n ?_
                refine wp_seq ?_
                refine wp_seq ?_
                refine wp_region_lit ?_
                refine wl_val ha212 rfl rfl rfl (op_move ha212 rfl rfl) ?_
                intro a213 ha213; clear ha212 a212
                refine wl_val ha213 rfl rfl rfl (op_move ha213 rfl rfl) ?_
                intro a214 ha214; clear ha213 a213
                refine wl_val ha214 rfl rfl rfl ((op_neq ha214 rfl rfl rfl).to (congrArg Value.bool decide_not)) ?_
                intro a215 ha215; clear ha214 a214
                refine wpList_nil ?_
                refine then_n ?_
                rw [decide_eq_true c165] at ha215
                refine cond_f ha215 rfl ?_
                refine wp_skip ?_
                refine then_n ?_
                refine wp_seq ?_
                refine wp_region_lit ?_
                refine wl_val ha215 rfl rfl rfl (op_assign ha215 rfl rfl) ?_
                intro a216 ha216; clear ha215 a215
                refine wpList_nil ?_
                refine then_n ?_
                refine wp_ret ?_
                refine ret1 ha216 rfl rfl ?_
                clear ha216 a216
                exact ret_mk hx209 (congrArg Value.bool (by first | rfl | omega | (simp [held_mkN okS_mk] at c165; done) | (simp [held_mkN okS_mk] at c165; omega) | (simp [held_mkN okS_mk, mkN_length] at c165; done) | (simp [held_mkN okS_mk, mkN_length] at c165; omega) | (simp [held_mkN okS_mk] at c160; done) | (simp [held_mkN okS_mk] at c160; omega) | (simp [held_mkN okS_mk, mkN_length] at c160; done) | (simp [held_mkN okS_mk, mkN_length] at c160; omega) | (simp [kk_mkCu] at c113; done) | (simp [kk_mkCu] at c113; omega) | (exact absurd rfl c160) | (exact absurd rfl c113) | (exact absurd rfl c13)))
              ·
                rw [decide_eq_false c165] at ha164
                refine cond_t ha164 rfl ?_
                refine wp_seq ?_
                refine wp_region_lit ?_
                refine wl_val ha164 rfl rfl rfl (op_assign ha164 rfl rfl) ?_
                intro a217 ha217; clear ha164 a164
                refine wpList_nil ?_
                refine then_n ?_
                refine wp_ret ?_
                refine then_r ?_
                refine ret1 ha217 rfl rfl ?_
                clear ha217 a217
                exact ret_mk hx156 (congrArg Value.bool (by first | rfl | omega | (simp [held_mkN okS_mk] at c165; done) | (simp [held_mkN okS_mk] at c165; omega) | (simp [held_mkN okS_mk, mkN_length] at c165; done) | (simp [held_mkN okS_mk, mkN_length] at c165; omega) | (simp [held_mkN okS_mk] at c160; done) | (simp [held_mkN okS_mk] at c160; omega) | (simp [held_mkN okS_mk, mkN_length] at c160; done) | (simp [held_mkN okS_mk, mkN_length] at c160; omega) | (simp [kk_mkCu] at c113; done) | (simp [kk_mkCu] at c113; omega) | (exact absurd rfl c165) | (exact absurd rfl c160) | (exact absurd rfl c113) | (exact absurd rfl c13)))
        ·
          rw [c95] at ha94
          refine cond_t ha94 rfl ?_
          refine wp_seq ?_
          refine wp_region_lit ?_
          refine wl_val ha94 rfl rfl rfl (op_assign ha94 rfl rfl) ?_
          intro a218 ha218; clear ha94 a94
          refine wpList_nil ?_
          refine then_n ?_
          refine wp_ret ?_
          refine then_r ?_
          refine ret1 ha218 rfl rfl ?_
          clear ha218 a218
          exact ret_mk hx93 (congrArg Value.bool (by first | rfl | omega | (rw [eqL_self] at c95; cases c95) | (exact absurd rfl c95) | (exact absurd rfl c13)))
      ·
        rw [decide_eq_false c77] at ha76
        refine cond_t ha76 rfl ?_
        refine wp_seq ?_
        refine wp_region_lit ?_
        refine wl_val ha76 rfl rfl rfl (op_assign ha76 rfl rfl) ?_
        intro a219 ha219; clear ha76 a76
        refine wpList_nil ?_
        refine then_n ?_
        refine wp_ret ?_
        refine then_r ?_
        refine ret1 ha219 rfl rfl ?_
        clear ha219 a219
        exact ret_mk hx69 (congrArg Value.bool (by first | rfl | omega | (exact absurd rfl c77) | (exact absurd rfl c13)))
    ·
      rw [c72] at ha71
      refine wl_skip ha71 rfl rfl rfl ?_
      intro a220 ha220; clear ha71 a71
      refine wl_skip ha220 rfl rfl rfl ?_
      intro a221 ha221; clear ha220 a220
      refine wl_skip ha221 rfl rfl rfl ?_
      intro a222 ha222; clear ha221 a221
      refine wl_val ha222 rfl rfl rfl (op_pick_t ha222 rfl rfl rfl) ?_
      intro a223 ha223; clear ha222 a222
      refine wpList_nil ?_
      refine then_n ?_
      refine cond_t ha223 rfl ?_
      refine wp_seq ?_
      refine wp_region_lit ?_
      refine wl_val ha223 rfl rfl rfl (op_assign ha223 rfl rfl) ?_
      intro a224 ha224; clear ha223 a223
      refine wpList_nil ?_
      refine then_n ?_
      refine wp_ret ?_
      refine then_r ?_
      refine ret1 ha224 rfl rfl ?_
      clear ha224 a224
      exact ret_mk hx69 (congrArg Value.bool (by first | rfl | omega | (rw [eqL_self] at c72; cases c72) | (exact absurd rfl c72) | (exact absurd rfl c13)))


end Go.Proofs.Ythbkedflhmeohaa
