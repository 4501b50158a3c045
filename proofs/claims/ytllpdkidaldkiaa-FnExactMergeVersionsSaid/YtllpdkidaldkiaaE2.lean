/- The laws ConflictsOf and MergeVersions, walked. -/
import Derived.Test.YtllpdkidaldkiaaW6
import Derived.Test.YtllpdkidaldkiaaL2
namespace Go.Proofs.Ytllpdkidaldkiaa
open Go Go.RowKit

theorem c_laws_FnExactConflictsOf (w0 : World) (v_aList : Value) (aList : List (Int × List (Str × Int))) {S_aList : Nat → Prop} (aA : Int) (aB : Int) (h_aList : Rds shVer S_aList w0 v_aList aList) (g0 : I64 aA) (g1 : I64 aB) :
    Calls Try.prog 5 #[v_aList, .int .i64 aA, .int .i64 aB] w0 (Ret w0 (fun v _ => v = .bool (true))) := by
  refine enter (N := 106) Try.func5 rfl rfl rfl ?_
  intro a0 ha0
  have hx0 := Ext.rfl' w0
  have hl_aList := h_aList.length_le
  have hcl := costL_len costVr aList
  have hkk := kkVr_le aList 1
  have hkg := kkVr_ge aList 1
  have hrl := cfV_len aList aA aB
  refine wp_seq ?_
  refine wp_region_lit ?_
  refine wl_val ha0 rfl rfl rfl (op_assign ha0 rfl rfl) ?_
  intro a1 ha1; clear ha0 a0
  refine wpList_nil ?_
  refine then_n ?_
  refine wp_seq ?_
  refine wp_region_lit ?_
  refine wl_val ha1 rfl rfl rfl (op_assign ha1 rfl rfl) ?_
  intro a2 ha2; clear ha1 a1
  refine wpList_nil ?_
  refine then_n ?_
  refine wp_seq ?_
  refine wp_region_lit ?_
  refine wl_val ha2 rfl rfl rfl (op_move ha2 rfl rfl) ?_
  intro a3 ha3; clear ha2 a2
  refine wl_val ha3 rfl rfl rfl (op_move ha3 rfl rfl) ?_
  intro a4 ha4; clear ha3 a3
  refine wl_callR ha4 rfl rfl rfl (op_call ha4 rfl cb8 rfl) (c_laws_szVersionS _ v_aList aList (1048576 : Int) (h_aList.ext pos_shVer hx0) (by first | assumption | omega | (simp; omega)) (by first | assumption | omega | (simp; omega))) ?_
  rintro v5 w6 he7 rfl a8 ha8; clear ha4 a4
  have hx9 := hx0.trans' he7
  have hzhx9 := he7.size
  refine wl_val ha8 rfl rfl rfl (op_assign ha8 rfl rfl) ?_
  intro a10 ha10; clear ha8 a8
  refine wpList_nil ?_
  refine then_n ?_
  refine wp_seq ?_
  refine wp_seq ?_
  refine wp_region_lit ?_
  refine wl_val ha10 rfl rfl rfl (op_move ha10 rfl rfl) ?_
  intro a11 ha11; clear ha10 a10
  refine wl_val ha11 rfl rfl rfl (op_lss ha11 rfl rfl rfl) ?_
  intro a12 ha12; clear ha11 a11
  refine wpList_nil ?_
  refine then_n ?_
  by_cases c13 : (szR (1048576 : Int) (costL costVr aList) : Int) < (0 : Int)
  ·
    rw [decide_eq_true c13] at ha12
    refine cond_t ha12 rfl ?_
    refine wp_seq ?_
    refine wp_region_lit ?_
    refine wl_val ha12 rfl rfl rfl (op_assign ha12 rfl rfl) ?_
    intro a14 ha14; clear ha12 a12
    refine wpList_nil ?_
    refine then_n ?_
    refine wp_ret ?_
    refine then_r ?_
    refine ret1 ha14 rfl rfl ?_
    clear ha14 a14
    exact ret_mk hx9 (congrArg Value.bool (by first | rfl | omega))
  ·
    rw [decide_eq_false c13] at ha12
    have hzc13 := szR_ok c13
    refine cond_f ha12 rfl ?_
    refine wp_skip ?_
    refine then_n ?_
    refine wp_seq ?_
    refine wp_region_lit ?_
    refine wl_val ha12 rfl rfl rfl (op_move ha12 rfl rfl) ?_
    intro a15 ha15; clear ha12 a12
    refine wl_callR ha15 rfl rfl rfl (op_call ha15 rfl cb10 rfl) (c_laws_toVersionS _ v_aList aList (h_aList.ext pos_shVer hx9) (by first | assumption | omega | (simp; omega))) ?_
    rintro v16 w17 he18 ⟨z20, ho19, hN21, hE22⟩ a23 ha23; clear ha15 a15
    have hx24 := hx9.trans' he18
    have hzhx24 := he18.size
    have hlhE22 := absLen hE22
    refine wl_val ha23 rfl rfl rfl (op_move ha23 rfl rfl) ?_
    intro a25 ha25; clear ha23 a23
    refine wl_val ha25 rfl rfl rfl (op_move ha25 rfl rfl) ?_
    intro a26 ha26; clear ha25 a25
    refine wl_callR ha26 rfl rfl rfl (op_call ha26 rfl cb22 rfl) (c_spec_ConflictsOf _ v16 ((aList)) aA aB ((rds_shVerN (ho19.fin (by omega) (by omega) (by omega)) hN21).cast hE22)) ?_
    rintro v27 w28 he29 ⟨v30, rfl, ho31⟩ a32 ha32; clear ha26 a26
    have hx33 := hx24.trans' he29
    have hzhx33 := he29.size
    replace ho19 := ho19.ext he29
    replace hN21 := hN21.ext he29
    refine wl_val ha32 rfl rfl rfl (op_move ha32 rfl rfl) ?_
    intro a34 ha34; clear ha32 a32
    refine wl_val ha34 rfl rfl rfl (op_extract ha34 rfl rfl rfl) ?_
    intro a35 ha35; clear ha34 a34
    refine wl_val ha35 rfl rfl rfl (op_extract ha35 rfl rfl rfl) ?_
    intro a36 ha36; clear ha35 a35
    refine wl_val ha36 rfl rfl rfl (op_assign ha36 rfl rfl) ?_
    intro a37 ha37; clear ha36 a36
    refine wl_val ha37 rfl rfl rfl (op_assign ha37 rfl rfl) ?_
    intro a38 ha38; clear ha37 a37
    refine wpList_nil ?_
    refine then_n ?_
    refine wp_seq ?_
    refine wp_region_lit ?_
    refine wl_val ha38 rfl rfl rfl (op_move ha38 rfl rfl) ?_
    intro a39 ha39; clear ha38 a38
    refine wl_callR ha39 rfl rfl rfl (op_call ha39 rfl cb10 rfl) (c_laws_toVersionS _ v_aList aList (h_aList.ext pos_shVer hx33) (by first | assumption | omega | (simp; omega))) ?_
    rintro v40 w41 he42 ⟨z44, ho43, hN45, hE46⟩ a47 ha47; clear ha39 a39
    have hx48 := hx33.trans' he42
    have hzhx48 := he42.size
    replace ho19 := ho19.ext he42
    replace hN21 := hN21.ext he42
    replace ho31 := ho31.ext he42
    have hlhE46 := absLen hE46
    refine wl_val ha47 rfl rfl rfl (op_assign ha47 rfl rfl) ?_
    intro a49 ha49; clear ha47 a47
    refine wpList_nil ?_
    refine then_n ?_
    refine wp_seq ?_
    refine wp_region_lit ?_
    refine wl_val ha49 rfl rfl rfl (op_move ha49 rfl rfl) ?_
    intro a50 ha50; clear ha49 a49
    refine wl_val ha50 rfl rfl rfl (op_move ha50 rfl rfl) ?_
    intro a51 ha51; clear ha50 a50
    refine wl_val ha51 rfl rfl rfl (op_move ha51 rfl rfl) ?_
    intro a52 ha52; clear ha51 a51
    refine wl_callR ha52 rfl rfl rfl (op_call ha52 rfl cb23 rfl) (c_impl_ConflictsOf _ v40 ((aList)) aA aB ((rds_shVerN (ho43.fin (by omega) (by omega) (by omega)) hN45).cast hE46)) ?_
    rintro v53 w54 he55 ⟨v56, rfl, ho57⟩ a58 ha58; clear ha52 a52
    have hx59 := hx48.trans' he55
    have hzhx59 := he55.size
    replace ho19 := ho19.ext he55
    replace hN21 := hN21.ext he55
    replace ho31 := ho31.ext he55
    replace ho43 := ho43.ext he55
    replace hN45 := hN45.ext he55
    refine wl_val ha58 rfl rfl rfl (op_move ha58 rfl rfl) ?_
    intro a60 ha60; clear ha58 a58
    refine wl_val ha60 rfl rfl rfl (op_extract ha60 rfl rfl rfl) ?_
    intro a61 ha61; clear ha60 a60
    refine wl_val ha61 rfl rfl rfl (op_extract ha61 rfl rfl rfl) ?_
    intro a62 ha62; clear ha61 a61
    refine wl_val ha62 rfl rfl rfl (op_assign ha62 rfl rfl) ?_
    intro a63 ha63; clear ha62 a62
    refine wl_val ha63 rfl rfl rfl (op_assign ha63 rfl rfl) ?_
    intro a64 ha64; clear ha63 a63
    refine wpList_nil ?_
    refine then_n ?_
    refine wp_seq ?_
    refine wp_seq ?_
    refine wp_region_lit ?_
    refine wl_val ha64 rfl rfl rfl (op_move ha64 rfl rfl) ?_
    intro a65 ha65; clear ha64 a64
    refine wl_val ha65 rfl rfl rfl (op_move ha65 rfl rfl) ?_
    intro a66 ha66; clear ha65 a65
    refine wl_callR ha66 rfl rfl rfl (op_call ha66 rfl cb12 rfl) (c_laws_eqStringS _ v56 ((cfV ((aList)) aA aB)) v30 ((cfV ((aList)) aA aB)) (ho57.rds pos_shStr) (ho31.rds pos_shStr)) ?_
    rintro v67 w68 he69 rfl a70 ha70; clear ha66 a66
    have hx71 := hx59.trans' he69
    have hzhx71 := he69.size
    replace ho19 := ho19.ext he69
    replace hN21 := hN21.ext he69
    replace ho31 := ho31.ext he69
    replace ho43 := ho43.ext he69
    replace hN45 := hN45.ext he69
    replace ho57 := ho57.ext he69
    refine wl_val ha70 rfl rfl rfl (op_not ha70 rfl rfl) ?_
    intro a72 ha72; clear ha70 a70
    refine wl_val ha72 rfl rfl rfl (op_move ha72 rfl rfl) ?_
    intro a73 ha73; clear ha72 a72
    rcases Bool.eq_false_or_eq_true (eqL ((cfV ((aList)) aA aB)) ((cfV ((aList)) aA aB))) with c74 | c74
    ·
      rw [c74] at ha73
      refine wl_val ha73 rfl rfl rfl (op_move ha73 rfl rfl) ?_
      intro a75 ha75; clear ha73 a73
      refine wl_val ha75 rfl rfl rfl (op_move ha75 rfl rfl) ?_
      intro a76 ha76; clear ha75 a75
      refine wl_val ha76 rfl rfl rfl ((op_neq ha76 rfl rfl rfl).to (congrArg Value.bool decide_not)) ?_
      intro a77 ha77; clear ha76 a76
      refine wl_val ha77 rfl rfl rfl (op_pick_f ha77 rfl rfl rfl) ?_
      intro a78 ha78; clear ha77 a77
      refine wpList_nil ?_
      refine then_n ?_
      by_cases c79 : (cdV ((aList)) aA aB : Int) = (cdV ((aList)) aA aB : Int)
      ·
        rw [decide_eq_true c79] at ha78
        refine cond_f ha78 rfl ?_
        refine wp_skip ?_
        refine then_n ?_
        refine wp_seq ?_
        refine wp_seq ?_
        refine wp_region_lit ?_
        refine wl_val ha78 rfl rfl rfl (op_move ha78 rfl rfl) ?_
        intro a80 ha80; clear ha78 a78
        refine wl_val ha80 rfl rfl rfl (op_move ha80 rfl rfl) ?_
        intro a81 ha81; clear ha80 a80
        refine wl_callR ha81 rfl rfl rfl (op_call ha81 rfl cb10 rfl) (c_laws_toVersionS _ v_aList aList (h_aList.ext pos_shVer hx71) (by first | assumption | omega | (simp; omega))) ?_
        rintro v82 w83 he84 ⟨z86, ho85, hN87, hE88⟩ a89 ha89; clear ha81 a81
        have hx90 := hx71.trans' he84
        have hzhx90 := he84.size
        replace ho19 := ho19.ext he84
        replace hN21 := hN21.ext he84
        replace ho31 := ho31.ext he84
        replace ho43 := ho43.ext he84
        replace hN45 := hN45.ext he84
        replace ho57 := ho57.ext he84
        have hlhE88 := absLen hE88
        refine wl_callR ha89 rfl rfl rfl (op_call ha89 rfl cb13 rfl) (c_laws_eqVersionS _ v40 ((aList)) v82 ((aList)) ((rds_shVerN (ho43.fin (by omega) (by omega) (by omega)) hN45).cast hE46) ((rds_shVerN (ho85.fin (by omega) (by omega) (by omega)) hN87).cast hE88)) ?_
        rintro v91 w92 he93 rfl a94 ha94; clear ha89 a89
        have hx95 := hx90.trans' he93
        have hzhx95 := he93.size
        replace ho19 := ho19.ext he93
        replace hN21 := hN21.ext he93
        replace ho31 := ho31.ext he93
        replace ho43 := ho43.ext he93
        replace hN45 := hN45.ext he93
        replace ho57 := ho57.ext he93
        replace ho85 := ho85.ext he93
        replace hN87 := hN87.ext he93
        refine wl_val ha94 rfl rfl rfl (op_not ha94 rfl rfl) ?_
        intro a96 ha96; clear ha94 a94
        refine wpList_nil ?_
        refine then_n ?_
        rcases Bool.eq_false_or_eq_true (eqL ((aList)) ((aList))) with c97 | c97
        ·
          rw [c97] at ha96
          refine cond_f ha96 rfl ?_
          refine wp_skip ?_
          refine then_n ?_
          refine wp_seq ?_
          refine wp_region_lit ?_
          refine wl_val ha96 rfl rfl rfl (op_assign ha96 rfl rfl) ?_
          intro a98 ha98; clear ha96 a96
          refine wpList_nil ?_
          refine then_n ?_
          refine wp_seq ?_
          refine wp_region_lit ?_
          refine wl_val ha98 rfl rfl rfl (op_move ha98 rfl rfl) ?_
          intro a99 ha99; clear ha98 a98
          refine wl_val ha99 rfl rfl rfl (op_move ha99 rfl rfl) ?_
          intro a100 ha100; clear ha99 a99
          have hm108 := c_laws_markVersionS _ v40 z44 (1 : Int) (ho43.fin (by omega) (by omega) (by omega)) hN45 (by omega) (by (try rw [hE46]); first | assumption | omega | (simp; omega)) (by (try rw [hE46]); first | assumption | omega | (simp; omega) | (simp [kk_mkVr]; omega)) (by (try rw [hE46]); first | assumption | omega | (simp; omega))
          rw [hE46] at hm108
          refine wl_callI ha100 rfl rfl rfl (op_call ha100 rfl cb14 rfl) (hm108) ?_
          rintro v101 w102 he103 ⟨z105, rfl, ho104, hN106, hE107⟩ a109 ha109; clear ha100 a100
          have hx110 := hx95.stpI he103 (by omega)
          have hzhx110 := he103.size
          replace ho19 := ho19.stpI he103 (by omega)
          replace hN21 := hN21.stpI he103 (by omega)
          replace ho31 := ho31.stpI he103 (by omega)
          replace ho57 := ho57.stpI he103 (by omega)
          replace ho85 := ho85.stpI he103 (by omega)
          replace hN87 := hN87.stpI he103 (by omega)
          clear ho43 hN45
          refine wl_val ha109 rfl rfl rfl (op_assign ha109 rfl rfl) ?_
          intro a111 ha111; clear ha109 a109
          refine wpList_nil ?_
          refine then_n ?_
          refine wp_seq ?_
          refine wp_seq ?_
          refine wp_region_lit ?_
          refine wl_val ha111 rfl rfl rfl (op_move ha111 rfl rfl) ?_
          intro a112 ha112; clear ha111 a111
          refine wl_val ha112 rfl rfl rfl (op_lss ha112 rfl rfl rfl) ?_
          intro a113 ha113; clear ha112 a112
          refine wl_val ha113 rfl rfl rfl (op_move ha113 rfl rfl) ?_
          intro a114 ha114; clear ha113 a113
          by_cases c115 : (kkVr ((aList)) ((1 : Int)) : Int) < (0 : Int)
          ·
            rw [decide_eq_true c115] at ha114
            refine wl_skip ha114 rfl rfl rfl ?_
            intro a116 ha116; clear ha114 a114
            refine wl_skip ha116 rfl rfl rfl ?_
            intro a117 ha117; clear ha116 a116
            refine wl_skip ha117 rfl rfl rfl ?_
            intro a118 ha118; clear ha117 a117
            refine wl_skip ha118 rfl rfl rfl ?_
            intro a119 ha119; clear ha118 a118
            refine wl_val ha119 rfl rfl rfl (op_pick_t ha119 rfl rfl rfl) ?_
            intro a120 ha120; clear ha119 a119
            refine wl_val ha120 rfl rfl rfl (op_move ha120 rfl rfl) ?_
            intro a121 ha121; clear ha120 a120
            refine wl_skip ha121 rfl rfl rfl ?_
            intro a122 ha122; clear ha121 a121
            refine wl_skip ha122 rfl rfl rfl ?_
            intro a123 ha123; clear ha122 a122
            refine wl_skip ha123 rfl rfl rfl ?_
            intro a124 ha124; clear ha123 a123
            refine wl_val ha124 rfl rfl rfl (op_pick_t ha124 rfl rfl rfl) ?_
            intro a125 ha125; clear ha124 a124
            refine wpList_nil ?_
            refine then_n ?_
            refine cond_t ha125 rfl ?_
            refine wp_seq ?_
            refine wp_region_lit ?_
            refine wl_val ha125 rfl rfl rfl (op_assign ha125 rfl rfl) ?_
            intro a126 ha126; clear ha125 a125
            refine wpList_nil ?_
            refine then_n ?_
            refine wp_ret ?_
            refine then_r ?_
            refine ret1 ha126 rfl rfl ?_
            clear ha126 a126
            exact ret_mk hx110 (congrArg Value.bool (by first | rfl | omega | (simp [kk_mkVr] at c115; done) | (simp [kk_mkVr] at c115; omega) | (exact absurd rfl c13)))
          ·
            rw [decide_eq_false c115] at ha114
            refine wl_val ha114 rfl rfl rfl (op_move ha114 rfl rfl) ?_
            intro a127 ha127; clear ha114 a114
            refine wl_val ha127 rfl rfl rfl (op_move ha127 rfl rfl) ?_
            intro a128 ha128; clear ha127 a127
            refine wl_callR ha128 rfl rfl rfl (op_call ha128 rfl cb12 rfl) (c_laws_eqStringS _ v56 ((cfV ((aList)) aA aB)) v30 ((cfV ((aList)) aA aB)) (ho57.rds pos_shStr) (ho31.rds pos_shStr)) ?_
            rintro v129 w130 he131 rfl a132 ha132; clear ha128 a128
            have hx133 := hx110.trans' he131
            have hzhx133 := he131.size
            replace ho19 := ho19.ext he131
            replace hN21 := hN21.ext he131
            replace ho31 := ho31.ext he131
            replace ho57 := ho57.ext he131
            replace ho85 := ho85.ext he131
            replace hN87 := hN87.ext he131
            replace ho104 := ho104.ext he131
            replace hN106 := hN106.ext he131
            refine wl_val ha132 rfl rfl rfl (op_not ha132 rfl rfl) ?_
            intro a134 ha134; clear ha132 a132
            refine wl_val ha134 rfl rfl rfl (op_pick_f ha134 rfl rfl rfl) ?_
            intro a135 ha135; clear ha134 a134
            refine wl_val ha135 rfl rfl rfl (op_move ha135 rfl rfl) ?_
            intro a136 ha136; clear ha135 a135
            rw [c74] at ha136
            refine wl_val ha136 rfl rfl rfl (op_move ha136 rfl rfl) ?_
            intro a137 ha137; clear ha136 a136
            refine wl_val ha137 rfl rfl rfl (op_move ha137 rfl rfl) ?_
            intro a138 ha138; clear ha137 a137
            refine wl_val ha138 rfl rfl rfl ((op_neq ha138 rfl rfl rfl).to (congrArg Value.bool decide_not)) ?_
            intro a139 ha139; clear ha138 a138
            refine wl_val ha139 rfl rfl rfl (op_pick_f ha139 rfl rfl rfl) ?_
            intro a140 ha140; clear ha139 a139
            refine wpList_nil ?_
            refine then_n ?_
            rw [decide_eq_true c79] at ha140
            refine cond_f ha140 rfl ?_
            refine wp_skip ?_
            refine then_n ?_
            refine wp_seq ?_
            refine wp_region_lit ?_
            refine wl_val ha140 rfl rfl rfl (op_assign ha140 rfl rfl) ?_
            intro a141 ha141; clear ha140 a140
            refine wpList_nil ?_
            refine then_n ?_
            refine wp_seq ?_
            refine wp_region_lit ?_
            refine wl_val ha141 rfl rfl rfl (op_move ha141 rfl rfl) ?_
            intro a142 ha142; clear ha141 a141
            refine wl_val ha142 rfl rfl rfl (op_move ha142 rfl rfl) ?_
            intro a143 ha143; clear ha142 a142
            refine wl_callS ha143 rfl rfl rfl (op_call ha143 rfl cb15 rfl) (c_laws_markStringS _ v56 ((cfV ((aList)) aA aB)) (1 : Int) ho57 (by first | assumption | omega | (simp; omega)) (by first | assumption | omega | (simp; omega)) (by first | assumption | omega | (simp; omega))) ?_
            rintro v144 w145 he146 ⟨rfl, ho147⟩ a148 ha148; clear ha143 a143
            have hx149 := hx133.stp he146 (by intro q hq; have hq0 := ho57.lt q hq; omega)
            have hzhx149 := he146.size
            replace ho19 : Own shVerN 56 w6.heap.size w6.heap.size w17.heap.size w145 v16 z20 := by first | exact ho19.stp he146 (by intro q hq; have hq0 := ho57.lt q hq; omega) | exact ho19.stpF flat_shVerN he146 (ho19.ne ho57 rfl)
            replace hN21 : Nst shLine 83 (fun x : Int × List (Str × Int) => x.2) w6.heap.size w17.heap.size w145 z20 := by first | exact hN21.stpF flat_shLine he146 ho57 rfl | exact hN21.stp he146 (by intro q hq; have hq0 := ho57.lt q hq; omega)
            replace ho31 : Own shStr 9 w17.heap.size w17.heap.size w28.heap.size w145 v30 ((cfV ((aList)) aA aB)) := by first | exact ho31.stp he146 (by intro q hq; have hq0 := ho57.lt q hq; omega)
            replace ho85 : Own shVerN 56 w68.heap.size w68.heap.size w83.heap.size w145 v82 z86 := by first | exact ho85.stp he146 (by intro q hq; have hq0 := ho57.lt q hq; omega) | exact ho85.stpF flat_shVerN he146 (ho85.ne ho57 rfl)
            replace hN87 : Nst shLine 83 (fun x : Int × List (Str × Int) => x.2) w68.heap.size w83.heap.size w145 z86 := by first | exact hN87.stpF flat_shLine he146 ho57 rfl | exact hN87.stp he146 (by intro q hq; have hq0 := ho57.lt q hq; omega)
            replace ho104 : Own shVerN 56 w28.heap.size w28.heap.size w41.heap.size w145 v40 z105 := by first | exact ho104.stp he146 (by intro q hq; have hq0 := ho57.lt q hq; omega) | exact ho104.stpF flat_shVerN he146 (ho104.ne ho57 rfl)
            replace hN106 : Nst shLine 83 (fun x : Int × List (Str × Int) => x.2) w28.heap.size w41.heap.size w145 z105 := by first | exact hN106.stpF flat_shLine he146 ho57 rfl | exact hN106.stp he146 (by intro q hq; have hq0 := ho57.lt q hq; omega)
            clear ho57
            refine wl_val ha148 rfl rfl rfl (op_assign ha148 rfl rfl) ?_
            intro a150 ha150; clear ha148 a148
            refine wpList_nil ?_
            refine then_n ?_
            refine wp_seq ?_
            refine wp_region_lit ?_
            refine wl_val ha150 rfl rfl rfl (op_assign ha150 rfl rfl) ?_
            intro a151 ha151; clear ha150 a150
            refine wpList_nil ?_
            refine then_n ?_
            refine wp_seq ?_
            refine wp_region_lit ?_
            refine wl_val ha151 rfl rfl rfl (op_move ha151 rfl rfl) ?_
            intro a152 ha152; clear ha151 a151
            refine wl_val ha152 rfl rfl rfl (op_move ha152 rfl rfl) ?_
            intro a153 ha153; clear ha152 a152
            refine wl_callR ha153 rfl rfl rfl (op_call ha153 rfl cb16 rfl) (c_laws_heldStringS _ v56 ((mkN mkS 1 ((cfV ((aList)) aA aB)).length ((1 : Int)))) (1 : Int) (ho147.rds pos_shStr) (by first | assumption | omega | (simp; omega)) (by first | assumption | omega | (simp; omega)) (by first | assumption | omega | (simp; omega) | (simp [mkN_length]; omega))) ?_
            rintro v154 w155 he156 rfl a157 ha157; clear ha153 a153
            have hx158 := hx149.trans' he156
            have hzhx158 := he156.size
            replace ho19 := ho19.ext he156
            replace hN21 := hN21.ext he156
            replace ho31 := ho31.ext he156
            replace ho85 := ho85.ext he156
            replace hN87 := hN87.ext he156
            replace ho104 := ho104.ext he156
            replace hN106 := hN106.ext he156
            replace ho147 := ho147.ext he156
            refine wl_val ha157 rfl rfl rfl (op_assign ha157 rfl rfl) ?_
            intro a159 ha159; clear ha157 a157
            refine wpList_nil ?_
            refine then_n ?_
            refine wp_seq ?_
            refine wp_seq ?_
            refine wp_region_lit ?_
            refine wl_val ha159 rfl rfl rfl (op_move ha159 rfl rfl) ?_
            intro a160 ha160; clear ha159 a159
            refine wl_val ha160 rfl rfl rfl (op_lss ha160 rfl rfl rfl) ?_
            intro a161 ha161; clear ha160 a160
            refine wpList_nil ?_
            refine then_n ?_
            by_cases c162 : (heldG okS 1 ((mkN mkS 1 ((cfV ((aList)) aA aB)).length ((1 : Int)))) (1 : Int) : Int) < (0 : Int)
            ·
              rw [decide_eq_true c162] at ha161
              refine cond_t ha161 rfl ?_
              refine wp_seq ?_
              refine wp_region_lit ?_
              refine wl_val ha161 rfl rfl rfl (op_assign ha161 rfl rfl) ?_
              intro a163 ha163; clear ha161 a161
              refine wpList_nil ?_
              refine then_n ?_
              refine wp_ret ?_
              refine then_r ?_
              refine ret1 ha163 rfl rfl ?_
              clear ha163 a163
              exact ret_mk hx158 (congrArg Value.bool (by first | rfl | omega | (simp [held_mkN okS_mk] at c162; done) | (simp [held_mkN okS_mk] at c162; omega) | (simp [held_mkN okS_mk, mkN_length] at c162; done) | (simp [held_mkN okS_mk, mkN_length] at c162; omega) | (simp [kk_mkVr] at c115; done) | (simp [kk_mkVr] at c115; omega) | (exact absurd rfl c115) | (exact absurd rfl c13)))
            ·
              rw [decide_eq_false c162] at ha161
              refine cond_f ha161 rfl ?_
              refine wp_skip ?_
              refine then_n ?_
              refine wp_seq ?_
              refine wp_seq ?_
              refine wp_region_lit ?_
              refine wl_val ha161 rfl rfl rfl (op_move ha161 rfl rfl) ?_
              intro a164 ha164; clear ha161 a161
              refine wl_val ha164 rfl rfl rfl (op_move ha164 rfl rfl) ?_
              intro a165 ha165; clear ha164 a164
              refine wl_val ha165 rfl rfl rfl ((op_neq ha165 rfl rfl rfl).to (congrArg Value.bool decide_not)) ?_
              intro a166 ha166; clear ha165 a165
              refine wpList_nil ?_
              refine then_n ?_
              by_cases c167 : (heldG okS 1 ((mkN mkS 1 ((cfV ((aList)) aA aB)).length ((1 : Int)))) (1 : Int) : Int) = (((1 : Int)) + 1 * (((cfV ((aList)) aA aB)).length : Nat) : Int)
              ·
                rw [decide_eq_true c167] at ha166
                refine cond_f ha166 rfl ?_
                refine wp_skip ?_
                refine then_n ?_
                refine wp_seq ?_
                refine wp_region_lit ?_
                refine wl_val ha166 rfl rfl rfl (op_move ha166 rfl rfl) ?_
                intro a168 ha168; clear ha166 a166
                refine wl_callR ha168 rfl rfl rfl (op_call ha168 rfl cb10 rfl) (c_laws_toVersionS _ v_aList aList (h_aList.ext pos_shVer hx158) (by first | assumption | omega | (simp; omega))) ?_
                rintro v169 w170 he171 ⟨z173, ho172, hN174, hE175⟩ a176 ha176; clear ha168 a168
                have hx177 := hx158.trans' he171
                have hzhx177 := he171.size
                replace ho19 := ho19.ext he171
                replace hN21 := hN21.ext he171
                replace ho31 := ho31.ext he171
                replace ho85 := ho85.ext he171
                replace hN87 := hN87.ext he171
                replace ho104 := ho104.ext he171
                replace hN106 := hN106.ext he171
                replace ho147 := ho147.ext he171
                have hlhE175 := absLen hE175
                refine wl_val ha176 rfl rfl rfl (op_move ha176 rfl rfl) ?_
                intro a178 ha178; clear ha176 a176
                refine wl_val ha178 rfl rfl rfl (op_move ha178 rfl rfl) ?_
                intro a179 ha179; clear ha178 a178
                refine wl_callR ha179 rfl rfl rfl (op_call ha179 rfl cb23 rfl) (c_impl_ConflictsOf _ v169 ((aList)) aA aB ((rds_shVerN (ho172.fin (by omega) (by omega) (by omega)) hN174).cast hE175)) ?_
                rintro v180 w181 he182 ⟨v183, rfl, ho184⟩ a185 ha185; clear ha179 a179
                have hx186 := hx177.trans' he182
                have hzhx186 := he182.size
                replace ho19 := ho19.ext he182
                replace hN21 := hN21.ext he182
                replace ho31 := ho31.ext he182
                replace ho85 := ho85.ext he182
                replace hN87 := hN87.ext he182
                replace ho104 := ho104.ext he182
                replace hN106 := hN106.ext he182
                replace ho147 := ho147.ext he182
                replace ho172 := ho172.ext he182
                replace hN174 := hN174.ext he182
                refine wl_val ha185 rfl rfl rfl (op_move ha185 rfl rfl) ?_
                intro a187 ha187; clear ha185 a185
                refine wl_val ha187 rfl rfl rfl (op_extract ha187 rfl rfl rfl) ?_
                intro a188 ha188; clear ha187 a187
                refine wl_val ha188 rfl rfl rfl (op_extract ha188 rfl rfl rfl) ?_
                intro a189 ha189; clear ha188 a188
                refine wl_val ha189 rfl rfl rfl (op_assign ha189 rfl rfl) ?_
                intro a190 ha190; clear ha189 a189
                refine wl_val ha190 rfl rfl rfl (op_assign ha190 rfl rfl) ?_
                intro a191 ha191; clear ha190 a190
                refine wpList_nil ?_
                refine then_n ?_
                refine wp_seq ?_
                refine wp_seq ?_
                refine wp_region_lit ?_
                refine wl_val ha191 rfl rfl rfl (op_move ha191 rfl rfl) ?_
                intro a192 ha192; clear ha191 a191
                refine wl_val ha192 rfl rfl rfl (op_move ha192 rfl rfl) ?_
                intro a193 ha193; clear ha192 a192
                refine wl_callR ha193 rfl rfl rfl (op_call ha193 rfl cb12 rfl) (c_laws_eqStringS _ v183 ((cfV ((aList)) aA aB)) v30 ((cfV ((aList)) aA aB)) (ho184.rds pos_shStr) (ho31.rds pos_shStr)) ?_
                rintro v194 w195 he196 rfl a197 ha197; clear ha193 a193
                have hx198 := hx186.trans' he196
                have hzhx198 := he196.size
                replace ho19 := ho19.ext he196
                replace hN21 := hN21.ext he196
                replace ho31 := ho31.ext he196
                replace ho85 := ho85.ext he196
                replace hN87 := hN87.ext he196
                replace ho104 := ho104.ext he196
                replace hN106 := hN106.ext he196
                replace ho147 := ho147.ext he196
                replace ho172 := ho172.ext he196
                replace hN174 := hN174.ext he196
                replace ho184 := ho184.ext he196
                refine wl_val ha197 rfl rfl rfl (op_not ha197 rfl rfl) ?_
                intro a199 ha199; clear ha197 a197
                refine wl_val ha199 rfl rfl rfl (op_move ha199 rfl rfl) ?_
                intro a200 ha200; clear ha199 a199
                rw [c74] at ha200
                refine wl_val ha200 rfl rfl rfl (op_move ha200 rfl rfl) ?_
                intro a201 ha201; clear ha200 a200
                refine wl_val ha201 rfl rfl rfl (op_move ha201 rfl rfl) ?_
                intro a202 ha202; clear ha201 a201
                refine wl_val ha202 rfl rfl rfl ((op_neq ha202 rfl rfl rfl).to (congrArg Value.bool decide_not)) ?_
                intro a203 ha203; clear ha202 a202
                refine wl_val ha203 rfl rfl rfl (op_pick_f ha203 rfl rfl rfl) ?_
                intro a204 ha204; clear ha203 a203
                refine wpList_nil ?_
                refine then_n ?_
                rw [decide_eq_true c79] at ha204
                refine cond_f ha204 rfl ?_
                refine wp_skip ?_
                refine then_n ?_
                refine wp_seq ?_
                refine wp_region_lit ?_
                refine wl_val ha204 rfl rfl rfl (op_assign ha204 rfl rfl) ?_
                intro a205 ha205; clear ha204 a204
                refine wpList_nil ?_
                refine then_n ?_
                refine wp_seq ?_
                refine wp_region_lit ?_
                refine wl_val ha205 rfl rfl rfl (op_move ha205 rfl rfl) ?_
                intro a206 ha206; clear ha205 a205
                refine wl_val ha206 rfl rfl rfl (op_move ha206 rfl rfl) ?_
                intro a207 ha207; clear ha206 a206
                refine wl_callR ha207 rfl rfl rfl (op_call ha207 rfl cb16 rfl) (c_laws_heldStringS _ v56 ((mkN mkS 1 ((cfV ((aList)) aA aB)).length ((1 : Int)))) (1 : Int) (ho147.rds pos_shStr) (by first | assumption | omega | (simp; omega)) (by first | assumption | omega | (simp; omega)) (by first | assumption | omega | (simp; omega) | (simp [mkN_length]; omega))) ?_
                rintro v208 w209 he210 rfl a211 ha211; clear ha207 a207
                have hx212 := hx198.trans' he210
                have hzhx212 := he210.size
                replace ho19 := ho19.ext he210
                replace hN21 := hN21.ext he210
                replace ho31 := ho31.ext he210
                replace ho85 := ho85.ext he210
                replace hN87 := hN87.ext he210
                replace ho104 := ho104.ext he210
                replace hN106 := hN106.ext he210
                replace ho147 := ho147.ext he210
                replace ho172 := ho172.ext he210
                replace hN174 := hN174.ext he210
                replace ho184 := ho184.ext he210
                refine wl_val ha211 rfl rfl rfl (op_assign ha211 rfl rfl) ?_
                intro a213 ha213; clear ha211 a211
                refine wpList_nil ?_
                refine then_n ?_
                refine wp_seq ?_
                refine wp_seq ?_
                refine wp_region_lit ?_
                refine wl_val ha213 rfl rfl rfl (op_move ha213 rfl rfl) ?_
                intro a214 ha214; clear ha213 a213
                refine wl_val ha214 rfl rfl rfl (op_lss ha214 rfl rfl rfl) ?_
                intro a215 ha215; clear ha214 a214
                refine wpList_nil ?_
                refine then_n ?_
                rw [decide_eq_false c162] at ha215
                refine cond_f ha215 rfl ?_
                refine wp_skip ?_
                refine then_n ?_
                refine wp_seq ?_
                refine wp_seq ?_
                refine wp_region_lit ?_
                refine wl_val ha215 rfl rfl rfl (op_move ha215 rfl rfl) ?_
                intro a216 ha216; clear ha215 a215
                refine wl_val ha216 rfl rfl rfl (op_move ha216 rfl rfl) ?_
                intro a217 ha217; clear ha216 a216
                refine wl_val ha217 rfl rfl rfl ((op_neq ha217 rfl rfl rfl).to (congrArg Value.bool decide_not)) ?_
                intro a218 ha218; clear ha217 a217
                refine wpList_nil ?_
                refine then_n ?_
                rw [decide_eq_true c167] at ha218
                refine cond_f ha218 rfl ?_
                refine wp_skip ?_
                refine then_n ?_
                refine wp_seq ?_
                refine wp_region_lit ?_
                refine wl_val ha218 rfl rfl rfl (op_assign ha218 rfl rfl) ?_
                intro a219 ha219; clear ha218 a218
                refine wpList_nil ?_
                refine then_n ?_
                refine wp_ret ?_
                refine ret1 ha219 rfl rfl ?_
                clear ha219 a219
                exact ret_mk hx212 (congrArg Value.bool (by first | rfl | omega | (simp [held_mkN okS_mk] at c167; done) | (simp [held_mkN okS_mk] at c167; omega) | (simp [held_mkN okS_mk, mkN_length] at c167; done) | (simp [held_mkN okS_mk, mkN_length] at c167; omega) | (simp [held_mkN okS_mk] at c162; done) | (simp [held_mkN okS_mk] at c162; omega) | (simp [held_mkN okS_mk, mkN_length] at c162; done) | (simp [held_mkN okS_mk, mkN_length] at c162; omega) | (simp [kk_mkVr] at c115; done) | (simp [kk_mkVr] at c115; omega) | (exact absurd rfl c162) | (exact absurd rfl c115) | (exact absurd rfl c13)))
              ·
                rw [decide_eq_false c167] at ha166
                refine cond_t ha166 rfl ?_
                refine wp_seq ?_
                refine wp_region_lit ?_
                refine wl_val ha166 rfl rfl rfl (op_assign ha166 rfl rfl) ?_
                intro a220 ha220; clear ha166 a166
                refine wpList_nil ?_
                refine then_n ?_
                refine wp_ret ?_
                refine then_r ?_
                refine ret1 ha220 rfl rfl ?_
                clear ha220 a220
                exact ret_mk hx158 (congrArg Value.bool (by first | rfl | omega | (simp [held_mkN okS_mk] at c167; done) | (simp [held_mkN okS_mk] at c167; omega) | (simp [held_mkN okS_mk, mkN_length] at c167; done) | (simp [held_mkN okS_mk, mkN_length] at c167; omega) | (simp [held_mkN okS_mk] at c162; done) | (simp [held_mkN okS_mk] at c162; omega) | (simp [held_mkN okS_mk, mkN_length] at c162; done) | (simp [held_mkN okS_mk, mkN_length] at c162; omega) | (simp [kk_mkVr] at c115; done) | (simp [kk_mkVr] at c115; omega) | (exact absurd rfl c167) | (exact absurd rfl c162) | (exact absurd rfl c115) | (exact absurd rfl c13)))
        ·
          rw [c97] at ha96
          refine cond_t ha96 rfl ?_
          refine wp_seq ?_
          refine wp_region_lit ?_
          refine wl_val ha96 rfl rfl rfl (op_assign ha96 rfl rfl) ?_
          intro a221 ha221; clear ha96 a96
          refine wpList_nil ?_
          refine then_n ?_
          refine wp_ret ?_
          refine then_r ?_
          refine ret1 ha221 rfl rfl ?_
          clear ha221 a221
          exact ret_mk hx95 (congrArg Value.bool (by first | rfl | omega | (rw [eqL_self] at c97; cases c97) | (exact absurd rfl c97) | (exact absurd rfl c13)))
      ·
        rw [decide_eq_false c79] at ha78
        refine cond_t ha78 rfl ?_
        refine wp_seq ?_
        refine wp_region_lit ?_
        refine wl_val ha78 rfl rfl rfl (op_assign ha78 rfl rfl) ?_
        intro a222 ha222; clear ha78 a78
        refine wpList_nil ?_
        refine then_n ?_
        refine wp_ret ?_
        refine then_r ?_
        refine ret1 ha222 rfl rfl ?_
        clear ha222 a222
        exact ret_mk hx71 (congrArg Value.bool (by first | rfl | omega | (exact absurd rfl c79) | (exact absurd rfl c13)))
    ·
      rw [c74] at ha73
      refine wl_skip ha73 rfl rfl rfl ?_
      intro a223 ha223; clear ha73 a73
      refine wl_skip ha223 rfl rfl rfl ?_
      intro a224 ha224; clear ha223 a223
      refine wl_skip ha224 rfl rfl rfl ?_
      intro a225 ha225; clear ha224 a224
      refine wl_val ha225 rfl rfl rfl (op_pick_t ha225 rfl rfl rfl) ?_
      intro a226 ha226; clear ha225 a225
      refine wpList_nil ?_
      refine then_n ?_
      refine cond_t ha226 rfl ?_
      refine wp_seq ?_
      refine wp_region_lit ?_
      refine wl_val ha226 rfl rfl rfl (op_assign ha226 rfl rfl) ?_
      intro a227 ha227; clear ha226 a226
      refine wpList_nil ?_
      refine then_n ?_
      refine wp_ret ?_
      refine then_r ?_
      refine ret1 ha227 rfl rfl ?_
      clear ha227 a227
      exact ret_mk hx71 (congrArg Value.bool (by first | rfl | omega | (rw [eqL_self] at c74; cases c74) | (exact absurd rfl c74) | (exact absurd rfl c13)))

theorem c_laws_FnExactMergeVersions (w0 : World) (v_aList : Value) (aList : List (Int × List (Str × Int))) {S_aList : Nat → Prop} (aA : Int) (aB : Int) (h_aList : Rds shVer S_aList w0 v_aList aList) (g0 : I64 aA) (g1 : I64 aB) :
    Calls Try.prog 4 #[v_aList, .int .i64 aA, .int .i64 aB] w0 (Ret w0 (fun v _ => v = .bool (true))) := by
  refine enter (N := 106) Try.func4 rfl rfl rfl ?_
  intro a0 ha0
  have hx0 := Ext.rfl' w0
  have hl_aList := h_aList.length_le
  have hcl := costL_len costVr aList
  have hkk := kkVr_le aList 1
  have hkg := kkVr_ge aList 1
  have hrl := mvL_len aList aA aB
  refine wp_seq ?_
  refine wp_region_lit ?_
  refine wl_val ha0 rfl rfl rfl (op_assign ha0 rfl rfl) ?_
  intro a1 ha1; clear ha0 a0
  refine wpList_nil ?_
  refine then_n ?_
  refine wp_seq ?_
  refine wp_region_lit ?_
  refine wl_val ha1 rfl rfl rfl (op_assign ha1 rfl rfl) ?_
  intro a2 ha2; clear ha1 a1
  refine wpList_nil ?_
  refine then_n ?_
  refine wp_seq ?_
  refine wp_region_lit ?_
  refine wl_val ha2 rfl rfl rfl (op_move ha2 rfl rfl) ?_
  intro a3 ha3; clear ha2 a2
  refine wl_val ha3 rfl rfl rfl (op_move ha3 rfl rfl) ?_
  intro a4 ha4; clear ha3 a3
  refine wl_callR ha4 rfl rfl rfl (op_call ha4 rfl cb8 rfl) (c_laws_szVersionS _ v_aList aList (1048576 : Int) (h_aList.ext pos_shVer hx0) (by first | assumption | omega | (simp; omega)) (by first | assumption | omega | (simp; omega))) ?_
  rintro v5 w6 he7 rfl a8 ha8; clear ha4 a4
  have hx9 := hx0.trans' he7
  have hzhx9 := he7.size
  refine wl_val ha8 rfl rfl rfl (op_assign ha8 rfl rfl) ?_
  intro a10 ha10; clear ha8 a8
  refine wpList_nil ?_
  refine then_n ?_
  refine wp_seq ?_
  refine wp_seq ?_
  refine wp_region_lit ?_
  refine wl_val ha10 rfl rfl rfl (op_move ha10 rfl rfl) ?_
  intro a11 ha11; clear ha10 a10
  refine wl_val ha11 rfl rfl rfl (op_lss ha11 rfl rfl rfl) ?_
  intro a12 ha12; clear ha11 a11
  refine wpList_nil ?_
  refine then_n ?_
  by_cases c13 : (szR (1048576 : Int) (costL costVr aList) : Int) < (0 : Int)
  ·
    rw [decide_eq_true c13] at ha12
    refine cond_t ha12 rfl ?_
    refine wp_seq ?_
    refine wp_region_lit ?_
    refine wl_val ha12 rfl rfl rfl (op_assign ha12 rfl rfl) ?_
    intro a14 ha14; clear ha12 a12
    refine wpList_nil ?_
    refine then_n ?_
    refine wp_ret ?_
    refine then_r ?_
    refine ret1 ha14 rfl rfl ?_
    clear ha14 a14
    exact ret_mk hx9 (congrArg Value.bool (by first | rfl | omega))
  ·
    rw [decide_eq_false c13] at ha12
    have hzc13 := szR_ok c13
    refine cond_f ha12 rfl ?_
    refine wp_skip ?_
    refine then_n ?_
    refine wp_seq ?_
    refine wp_region_lit ?_
    refine wl_val ha12 rfl rfl rfl (op_move ha12 rfl rfl) ?_
    intro a15 ha15; clear ha12 a12
    refine wl_callR ha15 rfl rfl rfl (op_call ha15 rfl cb10 rfl) (c_laws_toVersionS _ v_aList aList (h_aList.ext pos_shVer hx9) (by first | assumption | omega | (simp; omega))) ?_
    rintro v16 w17 he18 ⟨z20, ho19, hN21, hE22⟩ a23 ha23; clear ha15 a15
    have hx24 := hx9.trans' he18
    have hzhx24 := he18.size
    have hlhE22 := absLen hE22
    refine wl_val ha23 rfl rfl rfl (op_move ha23 rfl rfl) ?_
    intro a25 ha25; clear ha23 a23
    refine wl_val ha25 rfl rfl rfl (op_move ha25 rfl rfl) ?_
    intro a26 ha26; clear ha25 a25
    refine wl_callR ha26 rfl rfl rfl (op_call ha26 rfl cb17 rfl) (c_spec_MergeVersions _ v16 ((aList)) aA aB ((rds_shVerN (ho19.fin (by omega) (by omega) (by omega)) hN21).cast hE22)) ?_
    rintro v27 w28 he29 ⟨v30, rfl, ho31⟩ a32 ha32; clear ha26 a26
    have hx33 := hx24.trans' he29
    have hzhx33 := he29.size
    replace ho19 := ho19.ext he29
    replace hN21 := hN21.ext he29
    refine wl_val ha32 rfl rfl rfl (op_move ha32 rfl rfl) ?_
    intro a34 ha34; clear ha32 a32
    refine wl_val ha34 rfl rfl rfl (op_extract ha34 rfl rfl rfl) ?_
    intro a35 ha35; clear ha34 a34
    refine wl_val ha35 rfl rfl rfl (op_extract ha35 rfl rfl rfl) ?_
    intro a36 ha36; clear ha35 a35
    refine wl_val ha36 rfl rfl rfl (op_assign ha36 rfl rfl) ?_
    intro a37 ha37; clear ha36 a36
    refine wl_val ha37 rfl rfl rfl (op_assign ha37 rfl rfl) ?_
    intro a38 ha38; clear ha37 a37
    refine wpList_nil ?_
    refine then_n ?_
    refine wp_seq ?_
    refine wp_region_lit ?_
    refine wl_val ha38 rfl rfl rfl (op_move ha38 rfl rfl) ?_
    intro a39 ha39; clear ha38 a38
    refine wl_callR ha39 rfl rfl rfl (op_call ha39 rfl cb10 rfl) (c_laws_toVersionS _ v_aList aList (h_aList.ext pos_shVer hx33) (by first | assumption | omega | (simp; omega))) ?_
    rintro v40 w41 he42 ⟨z44, ho43, hN45, hE46⟩ a47 ha47; clear ha39 a39
    have hx48 := hx33.trans' he42
    have hzhx48 := he42.size
    replace ho19 := ho19.ext he42
    replace hN21 := hN21.ext he42
    replace ho31 := ho31.ext he42
    have hlhE46 := absLen hE46
    refine wl_val ha47 rfl rfl rfl (op_assign ha47 rfl rfl) ?_
    intro a49 ha49; clear ha47 a47
    refine wpList_nil ?_
    refine then_n ?_
    refine wp_seq ?_
    refine wp_region_lit ?_
    refine wl_val ha49 rfl rfl rfl (op_move ha49 rfl rfl) ?_
    intro a50 ha50; clear ha49 a49
    refine wl_val ha50 rfl rfl rfl (op_move ha50 rfl rfl) ?_
    intro a51 ha51; clear ha50 a50
    refine wl_val ha51 rfl rfl rfl (op_move ha51 rfl rfl) ?_
    intro a52 ha52; clear ha51 a51
    refine wl_callR ha52 rfl rfl rfl (op_call ha52 rfl cb18 rfl) (c_impl_MergeVersions _ v40 ((aList)) aA aB ((rds_shVerN (ho43.fin (by omega) (by omega) (by omega)) hN45).cast hE46)) ?_
    rintro v53 w54 he55 ⟨v56, rfl, ho57⟩ a58 ha58; clear ha52 a52
    have hx59 := hx48.trans' he55
    have hzhx59 := he55.size
    replace ho19 := ho19.ext he55
    replace hN21 := hN21.ext he55
    replace ho31 := ho31.ext he55
    replace ho43 := ho43.ext he55
    replace hN45 := hN45.ext he55
    refine wl_val ha58 rfl rfl rfl (op_move ha58 rfl rfl) ?_
    intro a60 ha60; clear ha58 a58
    refine wl_val ha60 rfl rfl rfl (op_extract ha60 rfl rfl rfl) ?_
    intro a61 ha61; clear ha60 a60
    refine wl_val ha61 rfl rfl rfl (op_extract ha61 rfl rfl rfl) ?_
    intro a62 ha62; clear ha61 a61
    refine wl_val ha62 rfl rfl rfl (op_assign ha62 rfl rfl) ?_
    intro a63 ha63; clear ha62 a62
    refine wl_val ha63 rfl rfl rfl (op_assign ha63 rfl rfl) ?_
    intro a64 ha64; clear ha63 a63
    refine wpList_nil ?_
    refine then_n ?_
    refine wp_seq ?_
    refine wp_seq ?_
    refine wp_region_lit ?_
    refine wl_val ha64 rfl rfl rfl (op_move ha64 rfl rfl) ?_
    intro a65 ha65; clear ha64 a64
    refine wl_val ha65 rfl rfl rfl (op_move ha65 rfl rfl) ?_
    intro a66 ha66; clear ha65 a65
    refine wl_callR ha66 rfl rfl rfl (op_call ha66 rfl cb19 rfl) (c_laws_eqLineS _ v56 ((mvL ((aList)) aA aB)) v30 ((mvL ((aList)) aA aB)) (ho57.rds pos_shLine) (ho31.rds pos_shLine)) ?_
    rintro v67 w68 he69 rfl a70 ha70; clear ha66 a66
    have hx71 := hx59.trans' he69
    have hzhx71 := he69.size
    replace ho19 := ho19.ext he69
    replace hN21 := hN21.ext he69
    replace ho31 := ho31.ext he69
    replace ho43 := ho43.ext he69
    replace hN45 := hN45.ext he69
    replace ho57 := ho57.ext he69
    refine wl_val ha70 rfl rfl rfl (op_not ha70 rfl rfl) ?_
    intro a72 ha72; clear ha70 a70
    refine wl_val ha72 rfl rfl rfl (op_move ha72 rfl rfl) ?_
    intro a73 ha73; clear ha72 a72
    rcases Bool.eq_false_or_eq_true (eqL ((mvL ((aList)) aA aB)) ((mvL ((aList)) aA aB))) with c74 | c74
    ·
      rw [c74] at ha73
      refine wl_val ha73 rfl rfl rfl (op_move ha73 rfl rfl) ?_
      intro a75 ha75; clear ha73 a73
      refine wl_val ha75 rfl rfl rfl (op_move ha75 rfl rfl) ?_
      intro a76 ha76; clear ha75 a75
      refine wl_val ha76 rfl rfl rfl ((op_neq ha76 rfl rfl rfl).to (congrArg Value.bool decide_not)) ?_
      intro a77 ha77; clear ha76 a76
      refine wl_val ha77 rfl rfl rfl (op_pick_f ha77 rfl rfl rfl) ?_
      intro a78 ha78; clear ha77 a77
      refine wpList_nil ?_
      refine then_n ?_
      by_cases c79 : (mvC ((aList)) aA aB : Int) = (mvC ((aList)) aA aB : Int)
      ·
        rw [decide_eq_true c79] at ha78
        refine cond_f ha78 rfl ?_
        refine wp_skip ?_
        refine then_n ?_
        refine wp_seq ?_
        refine wp_seq ?_
        refine wp_region_lit ?_
        refine wl_val ha78 rfl rfl rfl (op_move ha78 rfl rfl) ?_
        intro a80 ha80; clear ha78 a78
        refine wl_val ha80 rfl rfl rfl (op_move ha80 rfl rfl) ?_
        intro a81 ha81; clear ha80 a80
        refine wl_callR ha81 rfl rfl rfl (op_call ha81 rfl cb10 rfl) (c_laws_toVersionS _ v_aList aList (h_aList.ext pos_shVer hx71) (by first | assumption | omega | (simp; omega))) ?_
        rintro v82 w83 he84 ⟨z86, ho85, hN87, hE88⟩ a89 ha89; clear ha81 a81
        have hx90 := hx71.trans' he84
        have hzhx90 := he84.size
        replace ho19 := ho19.ext he84
        replace hN21 := hN21.ext he84
        replace ho31 := ho31.ext he84
        replace ho43 := ho43.ext he84
        replace hN45 := hN45.ext he84
        replace ho57 := ho57.ext he84
        have hlhE88 := absLen hE88
        refine wl_callR ha89 rfl rfl rfl (op_call ha89 rfl cb13 rfl) (c_laws_eqVersionS _ v40 ((aList)) v82 ((aList)) ((rds_shVerN (ho43.fin (by omega) (by omega) (by omega)) hN45).cast hE46) ((rds_shVerN (ho85.fin (by omega) (by omega) (by omega)) hN87).cast hE88)) ?_
        rintro v91 w92 he93 rfl a94 ha94; clear ha89 a89
        have hx95 := hx90.trans' he93
        have hzhx95 := he93.size
        replace ho19 := ho19.ext he93
        replace hN21 := hN21.ext he93
        replace ho31 := ho31.ext he93
        replace ho43 := ho43.ext he93
        replace hN45 := hN45.ext he93
        replace ho57 := ho57.ext he93
        replace ho85 := ho85.ext he93
        replace hN87 := hN87.ext he93
        refine wl_val ha94 rfl rfl rfl (op_not ha94 rfl rfl) ?_
        intro a96 ha96; clear ha94 a94
        refine wpList_nil ?_
        refine then_n ?_
        rcases Bool.eq_false_or_eq_true (eqL ((aList)) ((aList))) with c97 | c97
        ·
          rw [c97] at ha96
          refine cond_f ha96 rfl ?_
          refine wp_skip ?_
          refine then_n ?_
          refine wp_seq ?_
          refine wp_region_lit ?_
          refine wl_val ha96 rfl rfl rfl (op_assign ha96 rfl rfl) ?_
          intro a98 ha98; clear ha96 a96
          refine wpList_nil ?_
          refine then_n ?_
          refine wp_seq ?_
          refine wp_region_lit ?_
          refine wl_val ha98 rfl rfl rfl (op_move ha98 rfl rfl) ?_
          intro a99 ha99; clear ha98 a98
          refine wl_val ha99 rfl rfl rfl (op_move ha99 rfl rfl) ?_
          intro a100 ha100; clear ha99 a99
          have hm108 := c_laws_markVersionS _ v40 z44 (1 : Int) (ho43.fin (by omega) (by omega) (by omega)) hN45 (by omega) (by (try rw [hE46]); first | assumption | omega | (simp; omega)) (by (try rw [hE46]); first | assumption | omega | (simp; omega) | (simp [kk_mkVr]; omega)) (by (try rw [hE46]); first | assumption | omega | (simp; omega))
          rw [hE46] at hm108
          refine wl_callI ha100 rfl rfl rfl (op_call ha100 rfl cb14 rfl) (hm108) ?_
          rintro v101 w102 he103 ⟨z105, rfl, ho104, hN106, hE107⟩ a109 ha109; clear ha100 a100
          have hx110 := hx95.stpI he103 (by omega)
          have hzhx110 := he103.size
          replace ho19 := ho19.stpI he103 (by omega)
          replace hN21 := hN21.stpI he103 (by omega)
          replace ho31 := ho31.stpI he103 (by omega)
          replace ho57 := ho57.stpI he103 (by omega)
          replace ho85 := ho85.stpI he103 (by omega)
          replace hN87 := hN87.stpI he103 (by omega)
          clear ho43 hN45
          refine wl_val ha109 rfl rfl rfl (op_assign ha109 rfl rfl) ?_
          intro a111 ha111; clear ha109 a109
          refine wpList_nil ?_
          refine then_n ?_
          refine wp_seq ?_
          refine wp_seq ?_
          refine wp_region_lit ?_
          refine wl_val ha111 rfl rfl rfl (op_move ha111 rfl rfl) ?_
          intro a112 ha112; clear ha111 a111
          refine wl_val ha112 rfl rfl rfl (op_lss ha112 rfl rfl rfl) ?_
          intro a113 ha113; clear ha112 a112
          refine wl_val ha113 rfl rfl rfl (op_move ha113 rfl rfl) ?_
          intro a114 ha114; clear ha113 a113
          by_cases c115 : (kkVr ((aList)) ((1 : Int)) : Int) < (0 : Int)
          ·
            rw [decide_eq_true c115] at ha114
            refine wl_skip ha114 rfl rfl rfl ?_
            intro a116 ha116; clear ha114 a114
            refine wl_skip ha116 rfl rfl rfl ?_
            intro a117 ha117; clear ha116 a116
            refine wl_skip ha117 rfl rfl rfl ?_
            intro a118 ha118; clear ha117 a117
            refine wl_skip ha118 rfl rfl rfl ?_
            intro a119 ha119; clear ha118 a118
            refine wl_val ha119 rfl rfl rfl (op_pick_t ha119 rfl rfl rfl) ?_
            intro a120 ha120; clear ha119 a119
            refine wl_val ha120 rfl rfl rfl (op_move ha120 rfl rfl) ?_
            intro a121 ha121; clear ha120 a120
            refine wl_skip ha121 rfl rfl rfl ?_
            intro a122 ha122; clear ha121 a121
            refine wl_skip ha122 rfl rfl rfl ?_
            intro a123 ha123; clear ha122 a122
            refine wl_skip ha123 rfl rfl rfl ?_
            intro a124 ha124; clear ha123 a123
            refine wl_val ha124 rfl rfl rfl (op_pick_t ha124 rfl rfl rfl) ?_
            intro a125 ha125; clear ha124 a124
            refine wpList_nil ?_
            refine then_n ?_
            refine cond_t ha125 rfl ?_
            refine wp_seq ?_
            refine wp_region_lit ?_
            refine wl_val ha125 rfl rfl rfl (op_assign ha125 rfl rfl) ?_
            intro a126 ha126; clear ha125 a125
            refine wpList_nil ?_
            refine then_n ?_
            refine wp_ret ?_
            refine then_r ?_
            refine ret1 ha126 rfl rfl ?_
            clear ha126 a126
            exact ret_mk hx110 (congrArg Value.bool (by first | rfl | omega | (simp [kk_mkVr] at c115; done) | (simp [kk_mkVr] at c115; omega) | (exact absurd rfl c13)))
          ·
            rw [decide_eq_false c115] at ha114
            refine wl_val ha114 rfl rfl rfl (op_move ha114 rfl rfl) ?_
            intro a127 ha127; clear ha114 a114
            refine wl_val ha127 rfl rfl rfl (op_move ha127 rfl rfl) ?_
            intro a128 ha128; clear ha127 a127
            refine wl_callR ha128 rfl rfl rfl (op_call ha128 rfl cb19 rfl) (c_laws_eqLineS _ v56 ((mvL ((aList)) aA aB)) v30 ((mvL ((aList)) aA aB)) (ho57.rds pos_shLine) (ho31.rds pos_shLine)) ?_
            rintro v129 w130 he131 rfl a132 ha132; clear ha128 a128
            have hx133 := hx110.trans' he131
            have hzhx133 := he131.size
            replace ho19 := ho19.ext he131
            replace hN21 := hN21.ext he131
            replace ho31 := ho31.ext he131
            replace ho57 := ho57.ext he131
            replace ho85 := ho85.ext he131
            replace hN87 := hN87.ext he131
            replace ho104 := ho104.ext he131
            replace hN106 := hN106.ext he131
            refine wl_val ha132 rfl rfl rfl (op_not ha132 rfl rfl) ?_
            intro a134 ha134; clear ha132 a132
            refine wl_val ha134 rfl rfl rfl (op_pick_f ha134 rfl rfl rfl) ?_
            intro a135 ha135; clear ha134 a134
            refine wl_val ha135 rfl rfl rfl (op_move ha135 rfl rfl) ?_
            intro a136 ha136; clear ha135 a135
            rw [c74] at ha136
            refine wl_val ha136 rfl rfl rfl (op_move ha136 rfl rfl) ?_
            intro a137 ha137; clear ha136 a136
            refine wl_val ha137 rfl rfl rfl (op_move ha137 rfl rfl) ?_
            intro a138 ha138; clear ha137 a137
            refine wl_val ha138 rfl rfl rfl ((op_neq ha138 rfl rfl rfl).to (congrArg Value.bool decide_not)) ?_
            intro a139 ha139; clear ha138 a138
            refine wl_val ha139 rfl rfl rfl (op_pick_f ha139 rfl rfl rfl) ?_
            intro a140 ha140; clear ha139 a139
            refine wpList_nil ?_
            refine then_n ?_
            rw [decide_eq_true c79] at ha140
            refine cond_f ha140 rfl ?_
            refine wp_skip ?_
            refine then_n ?_
            refine wp_seq ?_
            refine wp_region_lit ?_
            refine wl_val ha140 rfl rfl rfl (op_assign ha140 rfl rfl) ?_
            intro a141 ha141; clear ha140 a140
            refine wpList_nil ?_
            refine then_n ?_
            refine wp_seq ?_
            refine wp_region_lit ?_
            refine wl_val ha141 rfl rfl rfl (op_move ha141 rfl rfl) ?_
            intro a142 ha142; clear ha141 a141
            refine wl_val ha142 rfl rfl rfl (op_move ha142 rfl rfl) ?_
            intro a143 ha143; clear ha142 a142
            refine wl_callS ha143 rfl rfl rfl (op_call ha143 rfl cb20 rfl) (c_laws_markLineS _ v56 ((mvL ((aList)) aA aB)) (1 : Int) ho57 (by first | assumption | omega | (simp; omega)) (by first | assumption | omega | (simp; omega)) (by first | assumption | omega | (simp; omega))) ?_
            rintro v144 w145 he146 ⟨rfl, ho147⟩ a148 ha148; clear ha143 a143
            have hx149 := hx133.stp he146 (by intro q hq; have hq0 := ho57.lt q hq; omega)
            have hzhx149 := he146.size
            replace ho19 : Own shVerN 56 w6.heap.size w6.heap.size w17.heap.size w145 v16 z20 := by first | exact ho19.stp he146 (by intro q hq; have hq0 := ho57.lt q hq; omega) | exact ho19.stpF flat_shVerN he146 (ho19.ne ho57 rfl)
            replace hN21 : Nst shLine 83 (fun x : Int × List (Str × Int) => x.2) w6.heap.size w17.heap.size w145 z20 := by first | exact hN21.stp he146 (by intro q hq; have hq0 := ho57.lt q hq; omega)
            replace ho31 : Own shLine 83 w17.heap.size w17.heap.size w28.heap.size w145 v30 ((mvL ((aList)) aA aB)) := by first | exact ho31.stp he146 (by intro q hq; have hq0 := ho57.lt q hq; omega)
            replace ho85 : Own shVerN 56 w68.heap.size w68.heap.size w83.heap.size w145 v82 z86 := by first | exact ho85.stp he146 (by intro q hq; have hq0 := ho57.lt q hq; omega) | exact ho85.stpF flat_shVerN he146 (ho85.ne ho57 rfl)
            replace hN87 : Nst shLine 83 (fun x : Int × List (Str × Int) => x.2) w68.heap.size w83.heap.size w145 z86 := by first | exact hN87.stp he146 (by intro q hq; have hq0 := ho57.lt q hq; omega)
            replace ho104 : Own shVerN 56 w28.heap.size w28.heap.size w41.heap.size w145 v40 z105 := by first | exact ho104.stp he146 (by intro q hq; have hq0 := ho57.lt q hq; omega) | exact ho104.stpF flat_shVerN he146 (ho104.ne ho57 rfl)
            replace hN106 : Nst shLine 83 (fun x : Int × List (Str × Int) => x.2) w28.heap.size w41.heap.size w145 z105 := by first | exact hN106.stp he146 (by intro q hq; have hq0 := ho57.lt q hq; omega)
            clear ho57
            refine wl_val ha148 rfl rfl rfl (op_assign ha148 rfl rfl) ?_
            intro a150 ha150; clear ha148 a148
            refine wpList_nil ?_
            refine then_n ?_
            refine wp_seq ?_
            refine wp_region_lit ?_
            refine wl_val ha150 rfl rfl rfl (op_assign ha150 rfl rfl) ?_
            intro a151 ha151; clear ha150 a150
            refine wpList_nil ?_
            refine then_n ?_
            refine wp_seq ?_
            refine wp_region_lit ?_
            refine wl_val ha151 rfl rfl rfl (op_move ha151 rfl rfl) ?_
            intro a152 ha152; clear ha151 a151
            refine wl_val ha152 rfl rfl rfl (op_move ha152 rfl rfl) ?_
            intro a153 ha153; clear ha152 a152
            refine wl_callR ha153 rfl rfl rfl (op_call ha153 rfl cb21 rfl) (c_laws_heldLineS _ v56 ((mkN mkLn 2 ((mvL ((aList)) aA aB)).length ((1 : Int)))) (1 : Int) (ho147.rds pos_shLine) (by first | assumption | omega | (simp; omega)) (by first | assumption | omega | (simp; omega)) (by first | assumption | omega | (simp; omega) | (simp [mkN_length]; omega))) ?_
            rintro v154 w155 he156 rfl a157 ha157; clear ha153 a153
            have hx158 := hx149.trans' he156
            have hzhx158 := he156.size
            replace ho19 := ho19.ext he156
            replace hN21 := hN21.ext he156
            replace ho31 := ho31.ext he156
            replace ho85 := ho85.ext he156
            replace hN87 := hN87.ext he156
            replace ho104 := ho104.ext he156
            replace hN106 := hN106.ext he156
            replace ho147 := ho147.ext he156
            refine wl_val ha157 rfl rfl rfl (op_assign ha157 rfl rfl) ?_
            intro a159 ha159; clear ha157 a157
            refine wpList_nil ?_
            refine then_n ?_
            refine wp_seq ?_
            refine wp_seq ?_
            refine wp_region_lit ?_
            refine wl_val ha159 rfl rfl rfl (op_move ha159 rfl rfl) ?_
            intro a160 ha160; clear ha159 a159
            refine wl_val ha160 rfl rfl rfl (op_lss ha160 rfl rfl rfl) ?_
            intro a161 ha161; clear ha160 a160
            refine wpList_nil ?_
            refine then_n ?_
            by_cases c162 : (heldG okLn 2 ((mkN mkLn 2 ((mvL ((aList)) aA aB)).length ((1 : Int)))) (1 : Int) : Int) < (0 : Int)
            ·
              rw [decide_eq_true c162] at ha161
              refine cond_t ha161 rfl ?_
              refine wp_seq ?_
              refine wp_region_lit ?_
              refine wl_val ha161 rfl rfl rfl (op_assign ha161 rfl rfl) ?_
              intro a163 ha163; clear ha161 a161
              refine wpList_nil ?_
              refine then_n ?_
              refine wp_ret ?_
              refine then_r ?_
              refine ret1 ha163 rfl rfl ?_
              clear ha163 a163
              exact ret_mk hx158 (congrArg Value.bool (by first | rfl | omega | (simp [held_mkN okLn_mk] at c162; done) | (simp [held_mkN okLn_mk] at c162; omega) | (simp [mkN_length, held_mkN okLn_mk] at c162; done) | (simp [mkN_length, held_mkN okLn_mk] at c162; omega) | (simp [kk_mkVr] at c115; done) | (simp [kk_mkVr] at c115; omega) | (exact absurd rfl c115) | (exact absurd rfl c13)))
            ·
              rw [decide_eq_false c162] at ha161
              refine cond_f ha161 rfl ?_
              refine wp_skip ?_
              refine then_n ?_
              refine wp_seq ?_
              refine wp_seq ?_
              refine wp_region_lit ?_
              refine wl_val ha161 rfl rfl rfl (op_move ha161 rfl rfl) ?_
              intro a164 ha164; clear ha161 a161
              refine wl_val ha164 rfl rfl rfl (op_move ha164 rfl rfl) ?_
              intro a165 ha165; clear ha164 a164
              refine wl_val ha165 rfl rfl rfl ((op_neq ha165 rfl rfl rfl).to (congrArg Value.bool decide_not)) ?_
              intro a166 ha166; clear ha165 a165
              refine wpList_nil ?_
              refine then_n ?_
              by_cases c167 : (heldG okLn 2 ((mkN mkLn 2 ((mvL ((aList)) aA aB)).length ((1 : Int)))) (1 : Int) : Int) = (((1 : Int)) + 2 * (((mvL ((aList)) aA aB)).length : Nat) : Int)
              ·
                rw [decide_eq_true c167] at ha166
                refine cond_f ha166 rfl ?_
                refine wp_skip ?_
                refine then_n ?_
                refine wp_seq ?_
                refine wp_region_lit ?_
                refine wl_val ha166 rfl rfl rfl (op_move ha166 rfl rfl) ?_
                intro a168 ha168; clear ha166 a166
                refine wl_callR ha168 rfl rfl rfl (op_call ha168 rfl cb10 rfl) (c_laws_toVersionS _ v_aList aList (h_aList.ext pos_shVer hx158) (by first | assumption | omega | (simp; omega))) ?_
                rintro v169 w170 he171 ⟨z173, ho172, hN174, hE175⟩ a176 ha176; clear ha168 a168
                have hx177 := hx158.trans' he171
                have hzhx177 := he171.size
                replace ho19 := ho19.ext he171
                replace hN21 := hN21.ext he171
                replace ho31 := ho31.ext he171
                replace ho85 := ho85.ext he171
                replace hN87 := hN87.ext he171
                replace ho104 := ho104.ext he171
                replace hN106 := hN106.ext he171
                replace ho147 := ho147.ext he171
                have hlhE175 := absLen hE175
                refine wl_val ha176 rfl rfl rfl (op_move ha176 rfl rfl) ?_
                intro a178 ha178; clear ha176 a176
                refine wl_val ha178 rfl rfl rfl (op_move ha178 rfl rfl) ?_
                intro a179 ha179; clear ha178 a178
                refine wl_callR ha179 rfl rfl rfl (op_call ha179 rfl cb18 rfl) (c_impl_MergeVersions _ v169 ((aList)) aA aB ((rds_shVerN (ho172.fin (by omega) (by omega) (by omega)) hN174).cast hE175)) ?_
                rintro v180 w181 he182 ⟨v183, rfl, ho184⟩ a185 ha185; clear ha179 a179
                have hx186 := hx177.trans' he182
                have hzhx186 := he182.size
                replace ho19 := ho19.ext he182
                replace hN21 := hN21.ext he182
                replace ho31 := ho31.ext he182
                replace ho85 := ho85.ext he182
                replace hN87 := hN87.ext he182
                replace ho104 := ho104.ext he182
                replace hN106 := hN106.ext he182
                replace ho147 := ho147.ext he182
                replace ho172 := ho172.ext he182
                replace hN174 := hN174.ext he182
                refine wl_val ha185 rfl rfl rfl (op_move ha185 rfl rfl) ?_
                intro a187 ha187; clear ha185 a185
                refine wl_val ha187 rfl rfl rfl (op_extract ha187 rfl rfl rfl) ?_
                intro a188 ha188; clear ha187 a187
                refine wl_val ha188 rfl rfl rfl (op_extract ha188 rfl rfl rfl) ?_
                intro a189 ha189; clear ha188 a188
                refine wl_val ha189 rfl rfl rfl (op_assign ha189 rfl rfl) ?_
                intro a190 ha190; clear ha189 a189
                refine wl_val ha190 rfl rfl rfl (op_assign ha190 rfl rfl) ?_
                intro a191 ha191; clear ha190 a190
                refine wpList_nil ?_
                refine then_n ?_
                refine wp_seq ?_
                refine wp_seq ?_
                refine wp_region_lit ?_
                refine wl_val ha191 rfl rfl rfl (op_move ha191 rfl rfl) ?_
                intro a192 ha192; clear ha191 a191
                refine wl_val ha192 rfl rfl rfl (op_move ha192 rfl rfl) ?_
                intro a193 ha193; clear ha192 a192
                refine wl_callR ha193 rfl rfl rfl (op_call ha193 rfl cb19 rfl) (c_laws_eqLineS _ v183 ((mvL ((aList)) aA aB)) v30 ((mvL ((aList)) aA aB)) (ho184.rds pos_shLine) (ho31.rds pos_shLine)) ?_
                rintro v194 w195 he196 rfl a197 ha197; clear ha193 a193
                have hx198 := hx186.trans' he196
                have hzhx198 := he196.size
                replace ho19 := ho19.ext he196
                replace hN21 := hN21.ext he196
                replace ho31 := ho31.ext he196
                replace ho85 := ho85.ext he196
                replace hN87 := hN87.ext he196
                replace ho104 := ho104.ext he196
                replace hN106 := hN106.ext he196
                replace ho147 := ho147.ext he196
                replace ho172 := ho172.ext he196
                replace hN174 := hN174.ext he196
                replace ho184 := ho184.ext he196
                refine wl_val ha197 rfl rfl rfl (op_not ha197 rfl rfl) ?_
                intro a199 ha199; clear ha197 a197
                refine wl_val ha199 rfl rfl rfl (op_move ha199 rfl rfl) ?_
                intro a200 ha200; clear ha199 a199
                rw [c74] at ha200
                refine wl_val ha200 rfl rfl rfl (op_move ha200 rfl rfl) ?_
                intro a201 ha201; clear ha200 a200
                refine wl_val ha201 rfl rfl rfl (op_move ha201 rfl rfl) ?_
                intro a202 ha202; clear ha201 a201
                refine wl_val ha202 rfl rfl rfl ((op_neq ha202 rfl rfl rfl).to (congrArg Value.bool decide_not)) ?_
                intro a203 ha203; clear ha202 a202
                refine wl_val ha203 rfl rfl rfl (op_pick_f ha203 rfl rfl rfl) ?_
                intro a204 ha204; clear ha203 a203
                refine wpList_nil ?_
                refine then_n ?_
                rw [decide_eq_true c79] at ha204
                refine cond_f ha204 rfl ?_
                refine wp_skip ?_
                refine then_n ?_
                refine wp_seq ?_
                refine wp_region_lit ?_
                refine wl_val ha204 rfl rfl rfl (op_assign ha204 rfl rfl) ?_
                intro a205 ha205; clear ha204 a204
                refine wpList_nil ?_
                refine then_n ?_
                refine wp_seq ?_
                refine wp_region_lit ?_
                refine wl_val ha205 rfl rfl rfl (op_move ha205 rfl rfl) ?_
                intro a206 ha206; clear ha205 a205
                refine wl_val ha206 rfl rfl rfl (op_move ha206 rfl rfl) ?_
                intro a207 ha207; clear ha206 a206
                refine wl_callR ha207 rfl rfl rfl (op_call ha207 rfl cb21 rfl) (c_laws_heldLineS _ v56 ((mkN mkLn 2 ((mvL ((aList)) aA aB)).length ((1 : Int)))) (1 : Int) (ho147.rds pos_shLine) (by first | assumption | omega | (simp; omega)) (by first | assumption | omega | (simp; omega)) (by first | assumption | omega | (simp; omega) | (simp [mkN_length]; omega))) ?_
                rintro v208 w209 he210 rfl a211 ha211; clear ha207 a207
                have hx212 := hx198.trans' he210
                have hzhx212 := he210.size
                replace ho19 := ho19.ext he210
                replace hN21 := hN21.ext he210
                replace ho31 := ho31.ext he210
                replace ho85 := ho85.ext he210
                replace hN87 := hN87.ext he210
                replace ho104 := ho104.ext he210
                replace hN106 := hN106.ext he210
                replace ho147 := ho147.ext he210
                replace ho172 := ho172.ext he210
                replace hN174 := hN174.ext he210
                replace ho184 := ho184.ext he210
                refine wl_val ha211 rfl rfl rfl (op_assign ha211 rfl rfl) ?_
                intro a213 ha213; clear ha211 a211
                refine wpList_nil ?_
                refine then_n ?_
                refine wp_seq ?_
                refine wp_seq ?_
                refine wp_region_lit ?_
                refine wl_val ha213 rfl rfl rfl (op_move ha213 rfl rfl) ?_
                intro a214 ha214; clear ha213 a213
                refine wl_val ha214 rfl rfl rfl (op_lss ha214 rfl rfl rfl) ?_
                intro a215 ha215; clear ha214 a214
                refine wpList_nil ?_
                refine then_n ?_
                rw [decide_eq_false c162] at ha215
                refine cond_f ha215 rfl ?_
                refine wp_skip ?_
                refine then_n ?_
                refine wp_seq ?_
                refine wp_seq ?_
                refine wp_region_lit ?_
                refine wl_val ha215 rfl rfl rfl (op_move ha215 rfl rfl) ?_
                intro a216 ha216; clear ha215 a215
                refine wl_val ha216 rfl rfl rfl (op_move ha216 rfl rfl) ?_
                intro a217 ha217; clear ha216 a216
                refine wl_val ha217 rfl rfl rfl ((op_neq ha217 rfl rfl rfl).to (congrArg Value.bool decide_not)) ?_
                intro a218 ha218; clear ha217 a217
                refine wpList_nil ?_
                refine then_n ?_
                rw [decide_eq_true c167] at ha218
                refine cond_f ha218 rfl ?_
                refine wp_skip ?_
                refine then_n ?_
                refine wp_seq ?_
                refine wp_region_lit ?_
                refine wl_val ha218 rfl rfl rfl (op_assign ha218 rfl rfl) ?_
                intro a219 ha219; clear ha218 a218
                refine wpList_nil ?_
                refine then_n ?_
                refine wp_ret ?_
                refine ret1 ha219 rfl rfl ?_
                clear ha219 a219
                exact ret_mk hx212 (congrArg Value.bool (by first | rfl | omega | (simp [held_mkN okLn_mk] at c167; done) | (simp [held_mkN okLn_mk] at c167; omega) | (simp [mkN_length, held_mkN okLn_mk] at c167; done) | (simp [mkN_length, held_mkN okLn_mk] at c167; omega) | (simp [held_mkN okLn_mk] at c162; done) | (simp [held_mkN okLn_mk] at c162; omega) | (simp [mkN_length, held_mkN okLn_mk] at c162; done) | (simp [mkN_length, held_mkN okLn_mk] at c162; omega) | (simp [kk_mkVr] at c115; done) | (simp [kk_mkVr] at c115; omega) | (exact absurd rfl c162) | (exact absurd rfl c115) | (exact absurd rfl c13)))
              ·
                rw [decide_eq_false c167] at ha166
                refine cond_t ha166 rfl ?_
                refine wp_seq ?_
                refine wp_region_lit ?_
                refine wl_val ha166 rfl rfl rfl (op_assign ha166 rfl rfl) ?_
                intro a220 ha220; clear ha166 a166
                refine wpList_nil ?_
                refine then_n ?_
                refine wp_ret ?_
                refine then_r ?_
                refine ret1 ha220 rfl rfl ?_
                clear ha220 a220
                exact ret_mk hx158 (congrArg Value.bool (by first | rfl | omega | (simp [held_mkN okLn_mk] at c167; done) | (simp [held_mkN okLn_mk] at c167; omega) | (simp [mkN_length, held_mkN okLn_mk] at c167; done) | (simp [mkN_length, held_mkN okLn_mk] at c167; omega) | (simp [held_mkN okLn_mk] at c162; done) | (simp [held_mkN okLn_mk] at c162; omega) | (simp [mkN_length, held_mkN okLn_mk] at c162; done) | (simp [mkN_length, held_mkN okLn_mk] at c162; omega) | (simp [kk_mkVr] at c115; done) | (simp [kk_mkVr] at c115; omega) | (exact absurd rfl c167) | (exact absurd rfl c162) | (exact absurd rfl c115) | (exact absurd rfl c13)))
        ·
          rw [c97] at ha96
          refine cond_t ha96 rfl ?_
          refine wp_seq ?_
          refine wp_region_lit ?_
          refine wl_val ha96 rfl rfl rfl (op_assign ha96 rfl rfl) ?_
          intro a221 ha221; clear ha96 a96
          refine wpList_nil ?_
          refine then_n ?_
          refine wp_ret ?_
          refine then_r ?_
          refine ret1 ha221 rfl rfl ?_
          clear ha221 a221
          exact ret_mk hx95 (congrArg Value.bool (by first | rfl | omega | (rw [eqL_self] at c97; cases c97) | (exact absurd rfl c97) | (exact absurd rfl c13)))
      ·
        rw [decide_eq_false c79] at ha78
        refine cond_t ha78 rfl ?_
        refine wp_seq ?_
        refine wp_region_lit ?_
        refine wl_val ha78 rfl rfl rfl (op_assign ha78 rfl rfl) ?_
        intro a222 ha222; clear ha78 a78
        refine wpList_nil ?_
        refine then_n ?_
        refine wp_ret ?_
        refine then_r ?_
        refine ret1 ha222 rfl rfl ?_
        clear ha222 a222
        exact ret_mk hx71 (congrArg Value.bool (by first | rfl | omega | (exact absurd rfl c79) | (exact absurd rfl c13)))
    ·
      rw [c74] at ha73
      refine wl_skip ha73 rfl rfl rfl ?_
      intro a223 ha223; clear ha73 a73
      refine wl_skip ha223 rfl rfl rfl ?_
      intro a224 ha224; clear ha223 a223
      refine wl_skip ha224 rfl rfl rfl ?_
      intro a225 ha225; clear ha224 a224
      refine wl_val ha225 rfl rfl rfl (op_pick_t ha225 rfl rfl rfl) ?_
      intro a226 ha226; clear ha225 a225
      refine wpList_nil ?_
      refine then_n ?_
      refine cond_t ha226 rfl ?_
      refine wp_seq ?_
      refine wp_region_lit ?_
      refine wl_val ha226 rfl rfl rfl (op_assign ha226 rfl rfl) ?_
      intro a227 ha227; clear ha226 a226
      refine wpList_nil ?_
      refine then_n ?_
      refine wp_ret ?_
      refine then_r ?_
      refine ret1 ha227 rfl rfl ?_
      clear ha227 a227
      exact ret_mk hx71 (congrArg Value.bool (by first | rfl | omega | (rw [eqL_self] at c74; cases c74) | (exact absurd rfl c74) | (exact absurd rfl c13)))


end Go.Proofs.Ytllpdkidaldkiaa
