/- The laws AddEntry, ClosedDays, DaySums, walked. -/
import Derived.Test.YtocedhbefdaefaaW4
import Derived.Test.YtocedhbefdaefaaL2
namespace Go.Proofs.Ytocedhbefdaefaa
open Go Go.RowKit

theorem c_laws_FnExactAddEntry (w0 : World) (v_aList : Value) (aList : List (Int × Int × Str × Int)) {S_aList : Nat → Prop} (aE : Int × Int × Str × Int) (h_aList : Rds shEnt S_aList w0 v_aList aList) (g0 : I64 aE.1) (g1 : I64 aE.2.1) (g2 : aE.2.2.1.length ≤ 9223372036854775807) (g3 : I64 aE.2.2.2) :
    Calls Try.prog 8 #[v_aList, .agg #[.int .i64 aE.1, .int .i64 aE.2.1, St aE.2.2.1, .int .i64 aE.2.2.2]] w0 (Ret w0 (fun v _ => v = .bool (true))) := by
  refine enter (N := 109) Try.func8 rfl rfl rfl ?_
  intro a0 ha0
  have hx0 := Ext.rfl' w0
  have hl_aList := h_aList.length_le
  have hcl := costL_len costEnt aList
  have hrl := addL_len aList aE
  have hce : costEnt aE = aE.2.2.1.length := rfl
  refine wp_seq ?_
  refine wp_region_lit ?_
  refine wl_eff ha0 rfl rfl rfl (op_box' ha0 rfl rfl rfl) ?_
  rintro _ w2 ⟨rfl, he3, hb4, hz5⟩ a6 ha6; clear ha0 a0
  have hx7 := hx0.trans' he3
  have hzhx7 := he3.size
  refine wl_val ha6 rfl rfl rfl (op_assign ha6 rfl rfl) ?_
  intro a8 ha8; clear ha6 a6
  refine wpList_nil ?_
  refine then_n ?_
  refine wp_seq ?_
  refine wp_region_lit ?_
  refine wl_val ha8 rfl rfl rfl (op_assign ha8 rfl rfl) ?_
  intro a9 ha9; clear ha8 a8
  refine wpList_nil ?_
  refine then_n ?_
  refine wp_seq ?_
  refine wp_region_lit ?_
  refine wl_val ha9 rfl rfl rfl (op_move ha9 rfl rfl) ?_
  intro a10 ha10; clear ha9 a9
  refine wl_val ha10 rfl rfl rfl (op_move ha10 rfl rfl) ?_
  intro a11 ha11; clear ha10 a10
  refine wl_callR ha11 rfl rfl rfl (op_call ha11 rfl cb15 rfl) (c_laws_szEntryS _ v_aList aList (1048576 : Int) (h_aList.ext pos_shEnt hx7) (by first | assumption | omega | (simp; omega)) (by first | assumption | omega | (simp; omega))) ?_
  rintro v12 w13 he14 rfl a15 ha15; clear ha11 a11
  have hx16 := hx7.trans' he14
  have hzhx16 := he14.size
  replace hb4 := hb4.ext he14
  refine wl_val ha15 rfl rfl rfl (op_assign ha15 rfl rfl) ?_
  intro a17 ha17; clear ha15 a15
  refine wpList_nil ?_
  refine then_n ?_
  refine wp_seq ?_
  refine wp_seq ?_
  refine wp_region_lit ?_
  refine wl_val ha17 rfl rfl rfl (op_move ha17 rfl rfl) ?_
  intro a18 ha18; clear ha17 a17
  refine wl_val ha18 rfl rfl rfl (op_lss ha18 rfl rfl rfl) ?_
  intro a19 ha19; clear ha18 a18
  refine wpList_nil ?_
  refine then_n ?_
  by_cases c20 : (szR (1048576 : Int) (costL costEnt aList) : Int) < (0 : Int)
  ·
    rw [decide_eq_true c20] at ha19
    refine cond_t ha19 rfl ?_
    refine wp_seq ?_
    refine wp_region_lit ?_
    refine wl_val ha19 rfl rfl rfl (op_assign ha19 rfl rfl) ?_
    intro a21 ha21; clear ha19 a19
    refine wpList_nil ?_
    refine then_n ?_
    refine wp_ret ?_
    refine then_r ?_
    refine ret1 ha21 rfl rfl ?_
    clear ha21 a21
    exact ret_mk hx16 (congrArg Value.bool (by first | rfl | omega))
  ·
    rw [decide_eq_false c20] at ha19
    have hzc20 := szR_ok c20
    refine cond_f ha19 rfl ?_
    refine wp_skip ?_
    refine then_n ?_
    refine wp_seq ?_
    refine wp_region_lit ?_
    refine wl_val ha19 rfl rfl rfl (op_loadS ha19 rfl Try.underlying37 ti37 rfl rfl hb4.cells) ?_
    intro a22 ha22; clear ha19 a19
    refine wl_val ha22 rfl rfl rfl (op_move ha22 rfl rfl) ?_
    intro a23 ha23; clear ha22 a22
    refine wl_callR ha23 rfl rfl rfl (op_call ha23 rfl cb28 rfl) (c_laws_szEntry _ aE (szR (1048576 : Int) (costL costEnt aList) : Int) (by first | assumption | omega | (simp; omega)) (by first | assumption | omega | (simp; omega)) (by first | assumption | omega | (simp; omega))) ?_
    rintro v24 w25 he26 rfl a27 ha27; clear ha23 a23
    have hx28 := hx16.trans' he26
    have hzhx28 := he26.size
    replace hb4 := hb4.ext he26
    refine wl_val ha27 rfl rfl rfl (op_assign ha27 rfl rfl) ?_
    intro a29 ha29; clear ha27 a27
    refine wpList_nil ?_
    refine then_n ?_
    refine wp_seq ?_
    refine wp_seq ?_
    refine wp_region_lit ?_
    refine wl_val ha29 rfl rfl rfl (op_move ha29 rfl rfl) ?_
    intro a30 ha30; clear ha29 a29
    refine wl_val ha30 rfl rfl rfl (op_lss ha30 rfl rfl rfl) ?_
    intro a31 ha31; clear ha30 a30
    refine wpList_nil ?_
    refine then_n ?_
    by_cases c32 : (szR (szR (1048576 : Int) (costL costEnt aList) : Int) (costEnt aE) : Int) < (0 : Int)
    ·
      rw [decide_eq_true c32] at ha31
      refine cond_t ha31 rfl ?_
      refine wp_seq ?_
      refine wp_region_lit ?_
      refine wl_val ha31 rfl rfl rfl (op_assign ha31 rfl rfl) ?_
      intro a33 ha33; clear ha31 a31
      refine wpList_nil ?_
      refine then_n ?_
      refine wp_ret ?_
      refine then_r ?_
      refine ret1 ha33 rfl rfl ?_
      clear ha33 a33
      exact ret_mk hx28 (congrArg Value.bool (by first | rfl | omega | (exact absurd rfl c20)))
    ·
      rw [decide_eq_false c32] at ha31
      have hzc32 := szR_ok c32
      refine cond_f ha31 rfl ?_
      refine wp_skip ?_
      refine then_n ?_
      refine wp_seq ?_
      refine dr_enter Ext follows_mixed ?_
      intro w34 he35
      have hx36 := hx28.trans' he35
      have hzhx36 := he35.size
      replace hb4 := hb4.ext he35
      have hs37 : Ext w34 w34 := Ext.rfl' _
      refine dr_val (i := 0) ha31 rfl (by kernel_rfl) (by kernel_rfl) (by kernel_rfl) rfl rfl rfl hs37 (fun w' hw' => op_move ha31 rfl rfl) ?_
      intro a38 ha38; clear ha31 a31
      refine dr_val (i := 2) ha38 rfl (by kernel_rfl) (by kernel_rfl) (by kernel_rfl) rfl rfl rfl hs37 (fun w' hw' => op_loadS ha38 rfl Try.underlying37 ti37 rfl rfl (hb4.ext hw').cells) ?_
      intro a39 ha39; clear ha38 a38
      refine dr_one (i := 1) (by kernel_rfl) ?_
      refine po_callR ha39 rfl rfl rfl rfl (op_call ha39 rfl cb17 rfl) (c_laws_toEntryS _ v_aList aList (h_aList.ext pos_shEnt (hx36.trans' hs37)) (by first | assumption | omega | (simp; omega))) ?_
      rintro v40 w41 he42 ho43 a44 ha44; clear ha39 a39
      have hs45 := hs37.trans' he42
      have hx46 := hx36.trans' he42
      have hzhx46 := he42.size
      refine ⟨hs45, ?_⟩
      refine dr_one (i := 3) (by kernel_rfl) ?_
      refine po_callR ha44 rfl rfl rfl rfl (op_call ha44 rfl cb30 rfl) (c_laws_toEntry _ aE ) ?_
      rintro v47 w48 he49 rfl a50 ha50; clear ha44 a44
      have hs51 := hs45.trans' he49
      have hx52 := hx46.trans' he49
      have hzhx52 := he49.size
      replace ho43 := ho43.ext he49
      refine ⟨hs51, ?_⟩
      refine dr_one (i := 4) (by kernel_rfl) ?_
      refine po_callR ha50 rfl rfl rfl rfl (op_call ha50 rfl cb29 rfl) (c_spec_AddEntry _ v40 ((aList)) ((aE)) (ho43.rds pos_shEnt) (by first | assumption | omega | (simp; omega)) (by first | assumption | omega | (simp; omega)) (by first | assumption | omega | (simp; omega)) (by first | assumption | omega | (simp; omega)) (by first | assumption | omega | (simp; omega))) ?_
      rintro v53 w54 he55 ⟨v56, rfl, ho57⟩ a58 ha58; clear ha50 a50
      have hs59 := hs51.trans' he55
      have hx60 := hx52.trans' he55
      have hzhx60 := he55.size
      replace ho43 := ho43.ext he55
      refine ⟨hs59, ?_⟩
      refine dr_val (i := 5) ha58 rfl (by kernel_rfl) (by kernel_rfl) (by kernel_rfl) rfl rfl rfl hs59 (fun w' hw' => op_move ha58 rfl rfl) ?_
      intro a61 ha61; clear ha58 a58
      refine dr_val (i := 6) ha61 rfl (by kernel_rfl) (by kernel_rfl) (by kernel_rfl) rfl rfl rfl hs59 (fun w' hw' => op_extract ha61 rfl rfl rfl) ?_
      intro a62 ha62; clear ha61 a61
      refine dr_val (i := 7) ha62 rfl (by kernel_rfl) (by kernel_rfl) (by kernel_rfl) rfl rfl rfl hs59 (fun w' hw' => op_extract ha62 rfl rfl rfl) ?_
      intro a63 ha63; clear ha62 a62
      refine dr_val (i := 8) ha63 rfl (by kernel_rfl) (by kernel_rfl) (by kernel_rfl) rfl rfl rfl hs59 (fun w' hw' => op_assign ha63 rfl rfl) ?_
      intro a64 ha64; clear ha63 a63
      refine dr_val (i := 9) ha64 rfl (by kernel_rfl) (by kernel_rfl) (by kernel_rfl) rfl rfl rfl hs59 (fun w' hw' => op_assign ha64 rfl rfl) ?_
      intro a65 ha65; clear ha64 a64
      refine dr_end (by kernel_rfl) ?_
      replace hb4 := hb4.ext hs59
      refine then_n ?_
      refine wp_seq ?_
      refine wp_region_lit ?_
      refine wl_val ha65 rfl rfl rfl (op_move ha65 rfl rfl) ?_
      intro a66 ha66; clear ha65 a65
      refine wl_callR ha66 rfl rfl rfl (op_call ha66 rfl cb17 rfl) (c_laws_toEntryS _ v_aList aList (h_aList.ext pos_shEnt hx60) (by first | assumption | omega | (simp; omega))) ?_
      rintro v67 w68 he69 ho70 a71 ha71; clear ha66 a66
      have hx72 := hx60.trans' he69
      have hzhx72 := he69.size
      replace hb4 := hb4.ext he69
      replace ho43 := ho43.ext he69
      replace ho57 := ho57.ext he69
      refine wl_val ha71 rfl rfl rfl (op_assign ha71 rfl rfl) ?_
      intro a73 ha73; clear ha71 a71
      refine wpList_nil ?_
      refine then_n ?_
      refine wp_seq ?_
      refine wp_region_lit ?_
      refine wl_val ha73 rfl rfl rfl (op_move ha73 rfl rfl) ?_
      intro a74 ha74; clear ha73 a73
      refine wl_val ha74 rfl rfl rfl (op_loadS ha74 rfl Try.underlying37 ti37 rfl rfl hb4.cells) ?_
      intro a75 ha75; clear ha74 a74
      refine wl_callR ha75 rfl rfl rfl (op_call ha75 rfl cb30 rfl) (c_laws_toEntry _ aE ) ?_
      rintro v76 w77 he78 rfl a79 ha79; clear ha75 a75
      have hx80 := hx72.trans' he78
      have hzhx80 := he78.size
      replace hb4 := hb4.ext he78
      replace ho43 := ho43.ext he78
      replace ho57 := ho57.ext he78
      replace ho70 := ho70.ext he78
      refine wl_callR ha79 rfl rfl rfl (op_call ha79 rfl cb31 rfl) (c_impl_AddEntry _ v67 ((aList)) ((aE)) (ho70.rds pos_shEnt) (by first | assumption | omega | (simp; omega)) (by first | assumption | omega | (simp; omega)) (by first | assumption | omega | (simp; omega)) (by first | assumption | omega | (simp; omega)) (by first | assumption | omega | (simp; omega))) ?_
      rintro v81 w82 he83 ⟨v84, rfl, ho85⟩ a86 ha86; clear ha79 a79
      have hx87 := hx80.trans' he83
      have hzhx87 := he83.size
      replace hb4 := hb4.ext he83
      replace ho43 := ho43.ext he83
      replace ho57 := ho57.ext he83
      replace ho70 := ho70.ext he83
      refine wl_val ha86 rfl rfl rfl (op_move ha86 rfl rfl) ?_
      intro a88 ha88; clear ha86 a86
      refine wl_val ha88 rfl rfl rfl (op_extract ha88 rfl rfl rfl) ?_
      intro a89 ha89; clear ha88 a88
      refine wl_val ha89 rfl rfl rfl (op_extract ha89 rfl rfl rfl) ?_
      intro a90 ha90; clear ha89 a89
      refine wl_val ha90 rfl rfl rfl (op_assign ha90 rfl rfl) ?_
      intro a91 ha91; clear ha90 a90
      refine wl_val ha91 rfl rfl rfl (op_assign ha91 rfl rfl) ?_
      intro a92 ha92; clear ha91 a91
      refine wpList_nil ?_
      refine then_n ?_
      refine wp_seq ?_
      refine wp_seq ?_
      refine wp_region_lit ?_
      refine wl_val ha92 rfl rfl rfl (op_move ha92 rfl rfl) ?_
      intro a93 ha93; clear ha92 a92
      refine wl_val ha93 rfl rfl rfl (op_move ha93 rfl rfl) ?_
      intro a94 ha94; clear ha93 a93
      refine wl_callR ha94 rfl rfl rfl (op_call ha94 rfl cb19 rfl) (c_laws_eqEntryS _ v84 ((addL ((aList)) ((aE)))) v56 ((addL ((aList)) ((aE)))) (ho85.rds pos_shEnt) (ho57.rds pos_shEnt)) ?_
      rintro v95 w96 he97 rfl a98 ha98; clear ha94 a94
      have hx99 := hx87.trans' he97
      have hzhx99 := he97.size
      replace hb4 := hb4.ext he97
      replace ho43 := ho43.ext he97
      replace ho57 := ho57.ext he97
      replace ho70 := ho70.ext he97
      replace ho85 := ho85.ext he97
      refine wl_val ha98 rfl rfl rfl (op_not ha98 rfl rfl) ?_
      intro a100 ha100; clear ha98 a98
      refine wl_val ha100 rfl rfl rfl (op_move ha100 rfl rfl) ?_
      intro a101 ha101; clear ha100 a100
      rcases Bool.eq_false_or_eq_true (eqL ((addL ((aList)) ((aE)))) ((addL ((aList)) ((aE))))) with c102 | c102
      ·
        rw [c102] at ha101
        refine wl_val ha101 rfl rfl rfl (op_move ha101 rfl rfl) ?_
        intro a103 ha103; clear ha101 a101
        refine wl_val ha103 rfl rfl rfl (op_move ha103 rfl rfl) ?_
        intro a104 ha104; clear ha103 a103
        refine wl_val ha104 rfl rfl rfl ((op_neq ha104 rfl rfl rfl).to (congrArg Value.bool decide_not)) ?_
        intro a105 ha105; clear ha104 a104
        refine wl_val ha105 rfl rfl rfl (op_pick_f ha105 rfl rfl rfl) ?_
        intro a106 ha106; clear ha105 a105
        refine wpList_nil ?_
        refine then_n ?_
        by_cases c107 : (addC ((aList)) ((aE)) : Int) = (addC ((aList)) ((aE)) : Int)
        ·
          rw [decide_eq_true c107] at ha106
          refine cond_f ha106 rfl ?_
          refine wp_skip ?_
          refine then_n ?_
          refine wp_seq ?_
          refine wp_seq ?_
          refine wp_region_lit ?_
          refine wl_val ha106 rfl rfl rfl (op_move ha106 rfl rfl) ?_
          intro a108 ha108; clear ha106 a106
          refine wl_val ha108 rfl rfl rfl (op_move ha108 rfl rfl) ?_
          intro a109 ha109; clear ha108 a108
          refine wl_callR ha109 rfl rfl rfl (op_call ha109 rfl cb17 rfl) (c_laws_toEntryS _ v_aList aList (h_aList.ext pos_shEnt hx99) (by first | assumption | omega | (simp; omega))) ?_
          rintro v110 w111 he112 ho113 a114 ha114; clear ha109 a109
          have hx115 := hx99.trans' he112
          have hzhx115 := he112.size
          replace hb4 := hb4.ext he112
          replace ho43 := ho43.ext he112
          replace ho57 := ho57.ext he112
          replace ho70 := ho70.ext he112
          replace ho85 := ho85.ext he112
          refine wl_callR ha114 rfl rfl rfl (op_call ha114 rfl cb19 rfl) (c_laws_eqEntryS _ v67 ((aList)) v110 ((aList)) (ho70.rds pos_shEnt) (ho113.rds pos_shEnt)) ?_
          rintro v116 w117 he118 rfl a119 ha119; clear ha114 a114
          have hx120 := hx115.trans' he118
          have hzhx120 := he118.size
          replace hb4 := hb4.ext he118
          replace ho43 := ho43.ext he118
          replace ho57 := ho57.ext he118
          replace ho70 := ho70.ext he118
          replace ho85 := ho85.ext he118
          replace ho113 := ho113.ext he118
          refine wl_val ha119 rfl rfl rfl (op_not ha119 rfl rfl) ?_
          intro a121 ha121; clear ha119 a119
          refine wpList_nil ?_
          refine then_n ?_
          rcases Bool.eq_false_or_eq_true (eqL ((aList)) ((aList))) with c122 | c122
          ·
            rw [c122] at ha121
            refine cond_f ha121 rfl ?_
            refine wp_skip ?_
            refine then_n ?_
            refine wp_seq ?_
            refine wp_region_lit ?_
            refine wl_val ha121 rfl rfl rfl (op_assign ha121 rfl rfl) ?_
            intro a123 ha123; clear ha121 a121
            refine wpList_nil ?_
            refine then_n ?_
            refine wp_seq ?_
            refine wp_region_lit ?_
            refine wl_val ha123 rfl rfl rfl (op_move ha123 rfl rfl) ?_
            intro a124 ha124; clear ha123 a123
            refine wl_val ha124 rfl rfl rfl (op_move ha124 rfl rfl) ?_
            intro a125 ha125; clear ha124 a124
            refine wl_callS ha125 rfl rfl rfl (op_call ha125 rfl cb32 rfl) (c_laws_markEntryS _ v67 ((aList)) (1 : Int) ho70 (by first | assumption | omega | (simp; omega)) (by first | assumption | omega | (simp; omega)) (by first | assumption | omega | (simp; omega))) ?_
            rintro v126 w127 he128 ⟨rfl, ho129⟩ a130 ha130; clear ha125 a125
            have hx131 := hx120.stp he128 (by intro q hq; have hq0 := ho70.lt q hq; omega)
            have hzhx131 := he128.size
            replace hb4 : Box w127 w0.heap.size 37 [.int .i64 aE.1, .int .i64 aE.2.1, St aE.2.2.1, .int .i64 aE.2.2.2] := by first | exact hb4.stp he128 (by intro q hq; have hq0 := ho70.lt q hq; omega) | exact hb4.stp he128 (by intro q hq e; subst e; exact ho70.ne_box hb4 rfl hq)
            replace ho43 : Own shEnt 41 w34.heap.size w34.heap.size w41.heap.size w127 v40 ((aList)) := by first | exact ho43.stp he128 (by intro q hq; have hq0 := ho70.lt q hq; omega)
            replace ho57 : Own shEnt 41 w48.heap.size w48.heap.size w54.heap.size w127 v56 ((addL ((aList)) ((aE)))) := by first | exact ho57.stp he128 (by intro q hq; have hq0 := ho70.lt q hq; omega)
            replace ho85 : Own shEnt 41 w77.heap.size w77.heap.size w82.heap.size w127 v84 ((addL ((aList)) ((aE)))) := by first | exact ho85.stp he128 (by intro q hq; have hq0 := ho70.lt q hq; omega)
            replace ho113 : Own shEnt 41 w96.heap.size w96.heap.size w111.heap.size w127 v110 ((aList)) := by first | exact ho113.stp he128 (by intro q hq; have hq0 := ho70.lt q hq; omega)
            clear ho70
            refine wl_val ha130 rfl rfl rfl (op_assign ha130 rfl rfl) ?_
            intro a132 ha132; clear ha130 a130
            refine wpList_nil ?_
            refine then_n ?_
            refine wp_seq ?_
            refine wp_seq ?_
            refine wp_region_lit ?_
            refine wl_val ha132 rfl rfl rfl (op_move ha132 rfl rfl) ?_
            intro a133 ha133; clear ha132 a132
            refine wl_val ha133 rfl rfl rfl (op_lss ha133 rfl rfl rfl) ?_
            intro a134 ha134; clear ha133 a133
            refine wl_val ha134 rfl rfl rfl (op_move ha134 rfl rfl) ?_
            intro a135 ha135; clear ha134 a134
            by_cases c136 : (((1 : Int)) + 4 * (((aList)).length : Nat) : Int) < (0 : Int)
            ·
              rw [decide_eq_true c136] at ha135
              refine wl_skip ha135 rfl rfl rfl ?_
              intro a137 ha137; clear ha135 a135
              refine wl_skip ha137 rfl rfl rfl ?_
              intro a138 ha138; clear ha137 a137
              refine wl_skip ha138 rfl rfl rfl ?_
              intro a139 ha139; clear ha138 a138
              refine wl_skip ha139 rfl rfl rfl ?_
              intro a140 ha140; clear ha139 a139
              refine wl_val ha140 rfl rfl rfl (op_pick_t ha140 rfl rfl rfl) ?_
              intro a141 ha141; clear ha140 a140
              refine wl_val ha141 rfl rfl rfl (op_move ha141 rfl rfl) ?_
              intro a142 ha142; clear ha141 a141
              refine wl_skip ha142 rfl rfl rfl ?_
              intro a143 ha143; clear ha142 a142
              refine wl_skip ha143 rfl rfl rfl ?_
              intro a144 ha144; clear ha143 a143
              refine wl_skip ha144 rfl rfl rfl ?_
              intro a145 ha145; clear ha144 a144
              refine wl_val ha145 rfl rfl rfl (op_pick_t ha145 rfl rfl rfl) ?_
              intro a146 ha146; clear ha145 a145
              refine wpList_nil ?_
              refine then_n ?_
              refine cond_t ha146 rfl ?_
              refine wp_seq ?_
              refine wp_region_lit ?_
              refine wl_val ha146 rfl rfl rfl (op_assign ha146 rfl rfl) ?_
              intro a147 ha147; clear ha146 a146
              refine wpList_nil ?_
              refine then_n ?_
              refine wp_ret ?_
              refine then_r ?_
              refine ret1 ha147 rfl rfl ?_
              clear ha147 a147
              exact ret_mk hx131 (congrArg Value.bool (by first | rfl | omega | (exact absurd rfl c32) | (exact absurd rfl c20)))
            ·
              rw [decide_eq_false c136] at ha135
              refine wl_val ha135 rfl rfl rfl (op_move ha135 rfl rfl) ?_
              intro a148 ha148; clear ha135 a135
              refine wl_val ha148 rfl rfl rfl (op_move ha148 rfl rfl) ?_
              intro a149 ha149; clear ha148 a148
              refine wl_callR ha149 rfl rfl rfl (op_call ha149 rfl cb19 rfl) (c_laws_eqEntryS _ v84 ((addL ((aList)) ((aE)))) v56 ((addL ((aList)) ((aE)))) (ho85.rds pos_shEnt) (ho57.rds pos_shEnt)) ?_
              rintro v150 w151 he152 rfl a153 ha153; clear ha149 a149
              have hx154 := hx131.trans' he152
              have hzhx154 := he152.size
              replace hb4 := hb4.ext he152
              replace ho43 := ho43.ext he152
              replace ho57 := ho57.ext he152
              replace ho85 := ho85.ext he152
              replace ho113 := ho113.ext he152
              replace ho129 := ho129.ext he152
              refine wl_val ha153 rfl rfl rfl (op_not ha153 rfl rfl) ?_
              intro a155 ha155; clear ha153 a153
              refine wl_val ha155 rfl rfl rfl (op_pick_f ha155 rfl rfl rfl) ?_
              intro a156 ha156; clear ha155 a155
              refine wl_val ha156 rfl rfl rfl (op_move ha156 rfl rfl) ?_
              intro a157 ha157; clear ha156 a156
              rw [c102] at ha157
              refine wl_val ha157 rfl rfl rfl (op_move ha157 rfl rfl) ?_
              intro a158 ha158; clear ha157 a157
              refine wl_val ha158 rfl rfl rfl (op_move ha158 rfl rfl) ?_
              intro a159 ha159; clear ha158 a158
              refine wl_val ha159 rfl rfl rfl ((op_neq ha159 rfl rfl rfl).to (congrArg Value.bool decide_not)) ?_
              intro a160 ha160; clear ha159 a159
              refine wl_val ha160 rfl rfl rfl (op_pick_f ha160 rfl rfl rfl) ?_
              intro a161 ha161; clear ha160 a160
              refine wpList_nil ?_
              refine then_n ?_
              rw [decide_eq_true c107] at ha161
              refine cond_f ha161 rfl ?_
              refine wp_skip ?_
              refine then_n ?_
              refine wp_seq ?_
              refine wp_region_lit ?_
              refine wl_val ha161 rfl rfl rfl (op_assign ha161 rfl rfl) ?_
              intro a162 ha162; clear ha161 a161
              refine wpList_nil ?_
              refine then_n ?_
              refine wp_seq ?_
              refine wp_region_lit ?_
              refine wl_val ha162 rfl rfl rfl (op_move ha162 rfl rfl) ?_
              intro a163 ha163; clear ha162 a162
              refine wl_val ha163 rfl rfl rfl (op_move ha163 rfl rfl) ?_
              intro a164 ha164; clear ha163 a163
              refine wl_callS ha164 rfl rfl rfl (op_call ha164 rfl cb32 rfl) (c_laws_markEntryS _ v84 ((addL ((aList)) ((aE)))) (1 : Int) ho85 (by first | assumption | omega | (simp; omega)) (by first | assumption | omega | (simp; omega)) (by first | assumption | omega | (simp; omega))) ?_
              rintro v165 w166 he167 ⟨rfl, ho168⟩ a169 ha169; clear ha164 a164
              have hx170 := hx154.stp he167 (by intro q hq; have hq0 := ho85.lt q hq; omega)
              have hzhx170 := he167.size
              replace hb4 : Box w166 w0.heap.size 37 [.int .i64 aE.1, .int .i64 aE.2.1, St aE.2.2.1, .int .i64 aE.2.2.2] := by first | exact hb4.stp he167 (by intro q hq; have hq0 := ho85.lt q hq; omega) | exact hb4.stp he167 (by intro q hq e; subst e; exact ho85.ne_box hb4 rfl hq)
              replace ho43 : Own shEnt 41 w34.heap.size w34.heap.size w41.heap.size w166 v40 ((aList)) := by first | exact ho43.stp he167 (by intro q hq; have hq0 := ho85.lt q hq; omega)
              replace ho57 : Own shEnt 41 w48.heap.size w48.heap.size w54.heap.size w166 v56 ((addL ((aList)) ((aE)))) := by first | exact ho57.stp he167 (by intro q hq; have hq0 := ho85.lt q hq; omega)
              replace ho113 : Own shEnt 41 w96.heap.size w96.heap.size w111.heap.size w166 v110 ((aList)) := by first | exact ho113.stp he167 (by intro q hq; have hq0 := ho85.lt q hq; omega)
              replace ho129 : Own shEnt 41 w54.heap.size w54.heap.size w68.heap.size w166 v67 ((mkN mkEnt 4 ((aList)).length ((1 : Int)))) := by first | exact ho129.stp he167 (by intro q hq; have hq0 := ho85.lt q hq; omega)
              clear ho85
              refine wl_val ha169 rfl rfl rfl (op_assign ha169 rfl rfl) ?_
              intro a171 ha171; clear ha169 a169
              refine wpList_nil ?_
              refine then_n ?_
              refine wp_seq ?_
              refine wp_region_lit ?_
              refine wl_val ha171 rfl rfl rfl (op_assign ha171 rfl rfl) ?_
              intro a172 ha172; clear ha171 a171
              refine wpList_nil ?_
              refine then_n ?_
              refine wp_seq ?_
              refine wp_region_lit ?_
              refine wl_val ha172 rfl rfl rfl (op_move ha172 rfl rfl) ?_
              intro a173 ha173; clear ha172 a172
              refine wl_val ha173 rfl rfl rfl (op_move ha173 rfl rfl) ?_
              intro a174 ha174; clear ha173 a173
              refine wl_callR ha174 rfl rfl rfl (op_call ha174 rfl cb33 rfl) (c_laws_heldEntryS _ v84 ((mkN mkEnt 4 ((addL ((aList)) ((aE)))).length ((1 : Int)))) (1 : Int) (ho168.rds pos_shEnt) (by first | assumption | omega | (simp; omega)) (by first | assumption | omega | (simp; omega)) (by first | assumption | omega | (simp; omega) | (simp [mkN_length]; omega))) ?_
              rintro v175 w176 he177 rfl a178 ha178; clear ha174 a174
              have hx179 := hx170.trans' he177
              have hzhx179 := he177.size
              replace hb4 := hb4.ext he177
              replace ho43 := ho43.ext he177
              replace ho57 := ho57.ext he177
              replace ho113 := ho113.ext he177
              replace ho129 := ho129.ext he177
              replace ho168 := ho168.ext he177
              refine wl_val ha178 rfl rfl rfl (op_assign ha178 rfl rfl) ?_
              intro a180 ha180; clear ha178 a178
              refine wpList_nil ?_
              refine then_n ?_
              refine wp_seq ?_
              refine wp_seq ?_
              refine wp_region_lit ?_
              refine wl_val ha180 rfl rfl rfl (op_move ha180 rfl rfl) ?_
              intro a181 ha181; clear ha180 a180
              refine wl_val ha181 rfl rfl rfl (op_lss ha181 rfl rfl rfl) ?_
              intro a182 ha182; clear ha181 a181
              refine wpList_nil ?_
              refine then_n ?_
              by_cases c183 : (heldG okEnt 4 ((mkN mkEnt 4 ((addL ((aList)) ((aE)))).length ((1 : Int)))) (1 : Int) : Int) < (0 : Int)
              ·
                rw [decide_eq_true c183] at ha182
                refine cond_t ha182 rfl ?_
                refine wp_seq ?_
                refine wp_region_lit ?_
                refine wl_val ha182 rfl rfl rfl (op_assign ha182 rfl rfl) ?_
                intro a184 ha184; clear ha182 a182
                refine wpList_nil ?_
                refine then_n ?_
                refine wp_ret ?_
                refine then_r ?_
                refine ret1 ha184 rfl rfl ?_
                clear ha184 a184
                exact ret_mk hx179 (congrArg Value.bool (by first | rfl | omega | (simp [held_mkN okEnt_mk] at c183; done) | (simp [held_mkN okEnt_mk] at c183; omega) | (simp [mkN_length, held_mkN okEnt_mk] at c183; done) | (simp [mkN_length, held_mkN okEnt_mk] at c183; omega) | (exact absurd rfl c136) | (exact absurd rfl c32) | (exact absurd rfl c20)))
              ·
                rw [decide_eq_false c183] at ha182
                refine cond_f ha182 rfl ?_
                refine wp_skip ?_
                refine then_n ?_
                refine wp_seq ?_
                refine wp_seq ?_
                refine wp_region_lit ?_
                refine wl_val ha182 rfl rfl rfl (op_move ha182 rfl rfl) ?_
                intro a185 ha185; clear ha182 a182
                refine wl_val ha185 rfl rfl rfl (op_move ha185 rfl rfl) ?_
                intro a186 ha186; clear ha185 a185
                refine wl_val ha186 rfl rfl rfl ((op_neq ha186 rfl rfl rfl).to (congrArg Value.bool decide_not)) ?_
                intro a187 ha187; clear ha186 a186
                refine wpList_nil ?_
                refine then_n ?_
                by_cases c188 : (heldG okEnt 4 ((mkN mkEnt 4 ((addL ((aList)) ((aE)))).length ((1 : Int)))) (1 : Int) : Int) = (((1 : Int)) + 4 * (((addL ((aList)) ((aE)))).length : Nat) : Int)
                ·
                  rw [decide_eq_true c188] at ha187
                  refine cond_f ha187 rfl ?_
                  refine wp_skip ?_
                  refine then_n ?_
                  refine wp_seq ?_
                  refine dr_enter Ext follows_mixed ?_
                  intro w189 he190
                  have hx191 := hx179.trans' he190
                  have hzhx191 := he190.size
                  replace hb4 := hb4.ext he190
                  replace ho43 := ho43.ext he190
                  replace ho57 := ho57.ext he190
                  replace ho113 := ho113.ext he190
                  replace ho129 := ho129.ext he190
                  replace ho168 := ho168.ext he190
                  have hs192 : Ext w189 w189 := Ext.rfl' _
                  refine dr_val (i := 0) ha187 rfl (by kernel_rfl) (by kernel_rfl) (by kernel_rfl) rfl rfl rfl hs192 (fun w' hw' => op_move ha187 rfl rfl) ?_
                  intro a193 ha193; clear ha187 a187
                  refine dr_val (i := 2) ha193 rfl (by kernel_rfl) (by kernel_rfl) (by kernel_rfl) rfl rfl rfl hs192 (fun w' hw' => op_loadS ha193 rfl Try.underlying37 ti37 rfl rfl (hb4.ext hw').cells) ?_
                  intro a194 ha194; clear ha193 a193
                  refine dr_one (i := 1) (by kernel_rfl) ?_
                  refine po_callR ha194 rfl rfl rfl rfl (op_call ha194 rfl cb17 rfl) (c_laws_toEntryS _ v_aList aList (h_aList.ext pos_shEnt (hx191.trans' hs192)) (by first | assumption | omega | (simp; omega))) ?_
                  rintro v195 w196 he197 ho198 a199 ha199; clear ha194 a194
                  have hs200 := hs192.trans' he197
                  have hx201 := hx191.trans' he197
                  have hzhx201 := he197.size
                  refine ⟨hs200, ?_⟩
                  refine dr_one (i := 3) (by kernel_rfl) ?_
                  refine po_callR ha199 rfl rfl rfl rfl (op_call ha199 rfl cb30 rfl) (c_laws_toEntry _ aE ) ?_
                  rintro v202 w203 he204 rfl a205 ha205; clear ha199 a199
                  have hs206 := hs200.trans' he204
                  have hx207 := hx201.trans' he204
                  have hzhx207 := he204.size
                  replace ho198 := ho198.ext he204
                  refine ⟨hs206, ?_⟩
                  refine dr_one (i := 4) (by kernel_rfl) ?_
                  refine po_callR ha205 rfl rfl rfl rfl (op_call ha205 rfl cb31 rfl) (c_impl_AddEntry _ v195 ((aList)) ((aE)) (ho198.rds pos_shEnt) (by first | assumption | omega | (simp; omega)) (by first | assumption | omega | (simp; omega)) (by first | assumption | omega | (simp; omega)) (by first | assumption | omega | (simp; omega)) (by first | assumption | omega | (simp; omega))) ?_
                  rintro v208 w209 he210 ⟨v211, rfl, ho212⟩ a213 ha213; clear ha205 a205
                  have hs214 := hs206.trans' he210
                  have hx215 := hx207.trans' he210
                  have hzhx215 := he210.size
                  replace ho198 := ho198.ext he210
                  refine ⟨hs214, ?_⟩
                  refine dr_val (i := 5) ha213 rfl (by kernel_rfl) (by kernel_rfl) (by kernel_rfl) rfl rfl rfl hs214 (fun w' hw' => op_move ha213 rfl rfl) ?_
                  intro a216 ha216; clear ha213 a213
                  refine dr_val (i := 6) ha216 rfl (by kernel_rfl) (by kernel_rfl) (by kernel_rfl) rfl rfl rfl hs214 (fun w' hw' => op_extract ha216 rfl rfl rfl) ?_
                  intro a217 ha217; clear ha216 a216
                  refine dr_val (i := 7) ha217 rfl (by kernel_rfl) (by kernel_rfl) (by kernel_rfl) rfl rfl rfl hs214 (fun w' hw' => op_extract ha217 rfl rfl rfl) ?_
                  intro a218 ha218; clear ha217 a217
                  refine dr_val (i := 8) ha218 rfl (by kernel_rfl) (by kernel_rfl) (by kernel_rfl) rfl rfl rfl hs214 (fun w' hw' => op_assign ha218 rfl rfl) ?_
                  intro a219 ha219; clear ha218 a218
                  refine dr_val (i := 9) ha219 rfl (by kernel_rfl) (by kernel_rfl) (by kernel_rfl) rfl rfl rfl hs214 (fun w' hw' => op_assign ha219 rfl rfl) ?_
                  intro a220 ha220; clear ha219 a219
                  refine dr_end (by kernel_rfl) ?_
                  replace hb4 := hb4.ext hs214
                  replace ho43 := ho43.ext hs214
                  replace ho57 := ho57.ext hs214
                  replace ho113 := ho113.ext hs214
                  replace ho129 := ho129.ext hs214
                  replace ho168 := ho168.ext hs214
                  refine then_n ?_
                  refine wp_seq ?_
                  refine wp_seq ?_
                  refine wp_region_lit ?_
                  refine wl_val ha220 rfl rfl rfl (op_move ha220 rfl rfl) ?_
                  intro a221 ha221; clear ha220 a220
                  refine wl_val ha221 rfl rfl rfl (op_move ha221 rfl rfl) ?_
                  intro a222 ha222; clear ha221 a221
                  refine wl_callR ha222 rfl rfl rfl (op_call ha222 rfl cb19 rfl) (c_laws_eqEntryS _ v211 ((addL ((aList)) ((aE)))) v56 ((addL ((aList)) ((aE)))) (ho212.rds pos_shEnt) (ho57.rds pos_shEnt)) ?_
                  rintro v223 w224 he225 rfl a226 ha226; clear ha222 a222
                  have hx227 := hx215.trans' he225
                  have hzhx227 := he225.size
                  replace hb4 := hb4.ext he225
                  replace ho43 := ho43.ext he225
                  replace ho57 := ho57.ext he225
                  replace ho113 := ho113.ext he225
                  replace ho129 := ho129.ext he225
                  replace ho168 := ho168.ext he225
                  replace ho198 := ho198.ext he225
                  replace ho212 := ho212.ext he225
                  refine wl_val ha226 rfl rfl rfl (op_not ha226 rfl rfl) ?_
                  intro a228 ha228; clear ha226 a226
                  refine wl_val ha228 rfl rfl rfl (op_move ha228 rfl rfl) ?_
                  intro a229 ha229; clear ha228 a228
                  rw [c102] at ha229
                  refine wl_val ha229 rfl rfl rfl (op_move ha229 rfl rfl) ?_
                  intro a230 ha230; clear ha229 a229
                  refine wl_val ha230 rfl rfl rfl (op_move ha230 rfl rfl) ?_
                  intro a231 ha231; clear ha230 a230
                  refine wl_val ha231 rfl rfl rfl ((op_neq ha231 rfl rfl rfl).to (congrArg Value.bool decide_not)) ?_
                  intro a232 ha232; clear ha231 a231
                  refine wl_val ha232 rfl rfl rfl (op_pick_f ha232 rfl rfl rfl) ?_
                  intro a233 ha233; clear ha232 a232
                  refine wpList_nil ?_
                  refine then_n ?_
                  rw [decide_eq_true c107] at ha233
                  refine cond_f ha233 rfl ?_
                  refine wp_skip ?_
                  refine then_n ?_
                  refine wp_seq ?_
                  refine wp_region_lit ?_
                  refine wl_val ha233 rfl rfl rfl (op_assign ha233 rfl rfl) ?_
                  intro a234 ha234; clear ha233 a233
                  refine wpList_nil ?_
                  refine then_n ?_
                  refine wp_seq ?_
                  refine wp_region_lit ?_
                  refine wl_val ha234 rfl rfl rfl (op_move ha234 rfl rfl) ?_
                  intro a235 ha235; clear ha234 a234
                  refine wl_val ha235 rfl rfl rfl (op_move ha235 rfl rfl) ?_
                  intro a236 ha236; clear ha235 a235
                  refine wl_callR ha236 rfl rfl rfl (op_call ha236 rfl cb33 rfl) (c_laws_heldEntryS _ v84 ((mkN mkEnt 4 ((addL ((aList)) ((aE)))).length ((1 : Int)))) (1 : Int) (ho168.rds pos_shEnt) (by first | assumption | omega | (simp; omega)) (by first | assumption | omega | (simp; omega)) (by first | assumption | omega | (simp; omega) | (simp [mkN_length]; omega))) ?_
                  rintro v237 w238 he239 rfl a240 ha240; clear ha236 a236
                  have hx241 := hx227.trans' he239
                  have hzhx241 := he239.size
                  replace hb4 := hb4.ext he239
                  replace ho43 := ho43.ext he239
                  replace ho57 := ho57.ext he239
                  replace ho113 := ho113.ext he239
                  replace ho129 := ho129.ext he239
                  replace ho168 := ho168.ext he239
                  replace ho198 := ho198.ext he239
                  replace ho212 := ho212.ext he239
                  refine wl_val ha240 rfl rfl rfl (op_assign ha240 rfl rfl) ?_
                  intro a242 ha242; clear ha240 a240
                  refine wpList_nil ?_
                  refine then_n ?_
                  refine wp_seq ?_
                  refine wp_seq ?_
                  refine wp_region_lit ?_
                  refine wl_val ha242 rfl rfl rfl (op_move ha242 rfl rfl) ?_
                  intro a243 ha243; clear ha242 a242
                  refine wl_val ha243 rfl rfl rfl (op_lss ha243 rfl rfl rfl) ?_
                  intro a244 ha244; clear ha243 a243
                  refine wpList_nil ?_
                  refine then_n ?_
                  rw [decide_eq_false c183] at ha244
                  refine cond_f ha244 rfl ?_
                  refine wp_skip ?_
                  refine then_n ?_
                  refine wp_seq ?_
                  refine wp_seq ?_
                  refine wp_region_lit ?_
                  refine wl_val ha244 rfl rfl rfl (op_move ha244 rfl rfl) ?_
                  intro a245 ha245; clear ha244 a244
                  refine wl_val ha245 rfl rfl rfl (op_move ha245 rfl rfl) ?_
                  intro a246 ha246; clear ha245 a245
                  refine wl_val ha246 rfl rfl rfl ((op_neq ha246 rfl rfl rfl).to (congrArg Value.bool decide_not)) ?_
                  intro a247 ha247; clear ha246 a246
                  refine wpList_nil ?_
                  refine then_n ?_
                  rw [decide_eq_true c188] at ha247
                  refine cond_f ha247 rfl ?_
                  refine wp_skip ?_
                  refine then_n ?_
                  refine wp_seq ?_
                  refine wp_region_lit ?_
                  refine wl_val ha247 rfl rfl rfl (op_assign ha247 rfl rfl) ?_
                  intro a248 ha248; clear ha247 a247
                  refine wpList_nil ?_
                  refine then_n ?_
                  refine wp_ret ?_
                  refine ret1 ha248 rfl rfl ?_
                  clear ha248 a248
                  exact ret_mk hx241 (congrArg Value.bool (by first | rfl | omega | (simp [held_mkN okEnt_mk] at c188; done) | (simp [held_mkN okEnt_mk] at c188; omega) | (simp [mkN_length, held_mkN okEnt_mk] at c188; done) | (simp [mkN_length, held_mkN okEnt_mk] at c188; omega) | (simp [held_mkN okEnt_mk] at c183; done) | (simp [held_mkN okEnt_mk] at c183; omega) | (simp [mkN_length, held_mkN okEnt_mk] at c183; done) | (simp [mkN_length, held_mkN okEnt_mk] at c183; omega) | (exact absurd rfl c183) | (exact absurd rfl c136) | (exact absurd rfl c32) | (exact absurd rfl c20)))
                ·
                  rw [decide_eq_false c188] at ha187
                  refine cond_t ha187 rfl ?_
                  refine wp_seq ?_
                  refine wp_region_lit ?_
                  refine wl_val ha187 rfl rfl rfl (op_assign ha187 rfl rfl) ?_
                  intro a249 ha249; clear ha187 a187
                  refine wpList_nil ?_
                  refine then_n ?_
                  refine wp_ret ?_
                  refine then_r ?_
                  refine ret1 ha249 rfl rfl ?_
                  clear ha249 a249
                  exact ret_mk hx179 (congrArg Value.bool (by first | rfl | omega | (simp [held_mkN okEnt_mk] at c188; done) | (simp [held_mkN okEnt_mk] at c188; omega) | (simp [mkN_length, held_mkN okEnt_mk] at c188; done) | (simp [mkN_length, held_mkN okEnt_mk] at c188; omega) | (simp [held_mkN okEnt_mk] at c183; done) | (simp [held_mkN okEnt_mk] at c183; omega) | (simp [mkN_length, held_mkN okEnt_mk] at c183; done) | (simp [mkN_length, held_mkN okEnt_mk] at c183; omega) | (exact absurd rfl c188) | (exact absurd rfl c183) | (exact absurd rfl c136) | (exact absurd rfl c32) | (exact absurd rfl c20)))
          ·
            rw [c122] at ha121
            refine cond_t ha121 rfl ?_
            refine wp_seq ?_
            refine wp_region_lit ?_
            refine wl_val ha121 rfl rfl rfl (op_assign ha121 rfl rfl) ?_
            intro a250 ha250; clear ha121 a121
            refine wpList_nil ?_
            refine then_n ?_
            refine wp_ret ?_
            refine then_r ?_
            refine ret1 ha250 rfl rfl ?_
            clear ha250 a250
            exact ret_mk hx120 (congrArg Value.bool (by first | rfl | omega | (rw [eqL_self] at c122; cases c122) | (exact absurd rfl c122) | (exact absurd rfl c32) | (exact absurd rfl c20)))
        ·
          rw [decide_eq_false c107] at ha106
          refine cond_t ha106 rfl ?_
          refine wp_seq ?_
          refine wp_region_lit ?_
          refine wl_val ha106 rfl rfl rfl (op_assign ha106 rfl rfl) ?_
          intro a251 ha251; clear ha106 a106
          refine wpList_nil ?_
          refine then_n ?_
          refine wp_ret ?_
          refine then_r ?_
          refine ret1 ha251 rfl rfl ?_
          clear ha251 a251
          exact ret_mk hx99 (congrArg Value.bool (by first | rfl | omega | (exact absurd rfl c107) | (exact absurd rfl c32) | (exact absurd rfl c20)))
      ·
        rw [c102] at ha101
        refine wl_skip ha101 rfl rfl rfl ?_
        intro a252 ha252; clear ha101 a101
        refine wl_skip ha252 rfl rfl rfl ?_
        intro a253 ha253; clear ha252 a252
        refine wl_skip ha253 rfl rfl rfl ?_
        intro a254 ha254; clear ha253 a253
        refine wl_val ha254 rfl rfl rfl (op_pick_t ha254 rfl rfl rfl) ?_
        intro a255 ha255; clear ha254 a254
        refine wpList_nil ?_
        refine then_n ?_
        refine cond_t ha255 rfl ?_
        refine wp_seq ?_
        refine wp_region_lit ?_
        refine wl_val ha255 rfl rfl rfl (op_assign ha255 rfl rfl) ?_
        intro a256 ha256; clear ha255 a255
        refine wpList_nil ?_
        refine then_n ?_
        refine wp_ret ?_
        refine then_r ?_
        refine ret1 ha256 rfl rfl ?_
        clear ha256 a256
        exact ret_mk hx99 (congrArg Value.bool (by first | rfl | omega | (rw [eqL_self] at c102; cases c102) | (exact absurd rfl c102) | (exact absurd rfl c32) | (exact absurd rfl c20)))

theorem c_laws_FnExactClosedDays (w0 : World) (v_aList : Value) (aList : List (Int × Int × Str × Int)) {S_aList : Nat → Prop} (h_aList : Rds shEnt S_aList w0 v_aList aList) :
    Calls Try.prog 9 #[v_aList] w0 (Ret w0 (fun v _ => v = .bool (true))) := by
  refine enter (N := 96) Try.func9 rfl rfl rfl ?_
  intro a0 ha0
  have hx0 := Ext.rfl' w0
  have hl_aList := h_aList.length_le
  have hcl := costL_len costEnt aList
  have hrl0 := clL_len aList
  have hrl : (if dbB aList then clL aList else []).length ≤ aList.length := by split <;> first | omega | simp | (simp; omega)
  refine wp_seq ?_
  refine wp_region_lit ?_
  refine wl_val ha0 rfl rfl rfl (op_assign ha0 rfl rfl) ?_
  intro a1 ha1; clear ha0 a0
  refine wpList_nil ?_
  refine then_n ?_
  refine wp_seq ?_
  refine wp_region_lit ?_
  refine wl_val ha1 rfl rfl rfl (op_assign ha1 rfl rfl) ?_
  intro a2 ha2; clear ha1 a1
  refine wpList_nil ?_
  refine then_n ?_
  refine wp_seq ?_
  refine wp_region_lit ?_
  refine wl_val ha2 rfl rfl rfl (op_move ha2 rfl rfl) ?_
  intro a3 ha3; clear ha2 a2
  refine wl_val ha3 rfl rfl rfl (op_move ha3 rfl rfl) ?_
  intro a4 ha4; clear ha3 a3
  refine wl_callR ha4 rfl rfl rfl (op_call ha4 rfl cb15 rfl) (c_laws_szEntryS _ v_aList aList (1048576 : Int) (h_aList.ext pos_shEnt hx0) (by first | assumption | omega | (simp; omega)) (by first | assumption | omega | (simp; omega))) ?_
  rintro v5 w6 he7 rfl a8 ha8; clear ha4 a4
  have hx9 := hx0.trans' he7
  have hzhx9 := he7.size
  refine wl_val ha8 rfl rfl rfl (op_assign ha8 rfl rfl) ?_
  intro a10 ha10; clear ha8 a8
  refine wpList_nil ?_
  refine then_n ?_
  refine wp_seq ?_
  refine wp_seq ?_
  refine wp_region_lit ?_
  refine wl_val ha10 rfl rfl rfl (op_move ha10 rfl rfl) ?_
  intro a11 ha11; clear ha10 a10
  refine wl_val ha11 rfl rfl rfl (op_lss ha11 rfl rfl rfl) ?_
  intro a12 ha12; clear ha11 a11
  refine wpList_nil ?_
  refine then_n ?_
  by_cases c13 : (szR (1048576 : Int) (costL costEnt aList) : Int) < (0 : Int)
  ·
    rw [decide_eq_true c13] at ha12
    refine cond_t ha12 rfl ?_
    refine wp_seq ?_
    refine wp_region_lit ?_
    refine wl_val ha12 rfl rfl rfl (op_assign ha12 rfl rfl) ?_
    intro a14 ha14; clear ha12 a12
    refine wpList_nil ?_
    refine then_n ?_
    refine wp_ret ?_
    refine then_r ?_
    refine ret1 ha14 rfl rfl ?_
    clear ha14 a14
    exact ret_mk hx9 (congrArg Value.bool (by first | rfl | omega))
  ·
    rw [decide_eq_false c13] at ha12
    have hzc13 := szR_ok c13
    refine cond_f ha12 rfl ?_
    refine wp_skip ?_
    refine then_n ?_
    refine wp_seq ?_
    refine wp_region_lit ?_
    refine wl_val ha12 rfl rfl rfl (op_move ha12 rfl rfl) ?_
    intro a15 ha15; clear ha12 a12
    refine wl_callR ha15 rfl rfl rfl (op_call ha15 rfl cb17 rfl) (c_laws_toEntryS _ v_aList aList (h_aList.ext pos_shEnt hx9) (by first | assumption | omega | (simp; omega))) ?_
    rintro v16 w17 he18 ho19 a20 ha20; clear ha15 a15
    have hx21 := hx9.trans' he18
    have hzhx21 := he18.size
    refine wl_callR ha20 rfl rfl rfl (op_call ha20 rfl cb34 rfl) (c_spec_ClosedDays _ v16 ((aList)) (ho19.rds pos_shEnt) (by first | assumption | omega | (simp; omega))) ?_
    rintro v22 w23 he24 ⟨v25, rfl, ho26⟩ a27 ha27; clear ha20 a20
    have hx28 := hx21.trans' he24
    have hzhx28 := he24.size
    replace ho19 := ho19.ext he24
    refine wl_val ha27 rfl rfl rfl (op_move ha27 rfl rfl) ?_
    intro a29 ha29; clear ha27 a27
    refine wl_val ha29 rfl rfl rfl (op_extract ha29 rfl rfl rfl) ?_
    intro a30 ha30; clear ha29 a29
    refine wl_val ha30 rfl rfl rfl (op_extract ha30 rfl rfl rfl) ?_
    intro a31 ha31; clear ha30 a30
    refine wl_val ha31 rfl rfl rfl (op_assign ha31 rfl rfl) ?_
    intro a32 ha32; clear ha31 a31
    refine wl_val ha32 rfl rfl rfl (op_assign ha32 rfl rfl) ?_
    intro a33 ha33; clear ha32 a32
    refine wpList_nil ?_
    refine then_n ?_
    refine wp_seq ?_
    refine wp_region_lit ?_
    refine wl_val ha33 rfl rfl rfl (op_move ha33 rfl rfl) ?_
    intro a34 ha34; clear ha33 a33
    refine wl_callR ha34 rfl rfl rfl (op_call ha34 rfl cb17 rfl) (c_laws_toEntryS _ v_aList aList (h_aList.ext pos_shEnt hx28) (by first | assumption | omega | (simp; omega))) ?_
    rintro v35 w36 he37 ho38 a39 ha39; clear ha34 a34
    have hx40 := hx28.trans' he37
    have hzhx40 := he37.size
    replace ho19 := ho19.ext he37
    replace ho26 := ho26.ext he37
    refine wl_val ha39 rfl rfl rfl (op_assign ha39 rfl rfl) ?_
    intro a41 ha41; clear ha39 a39
    refine wpList_nil ?_
    refine then_n ?_
    refine wp_seq ?_
    refine wp_region_lit ?_
    refine wl_val ha41 rfl rfl rfl (op_move ha41 rfl rfl) ?_
    intro a42 ha42; clear ha41 a41
    refine wl_callR ha42 rfl rfl rfl (op_call ha42 rfl cb35 rfl) (c_impl_ClosedDays _ v35 ((aList)) (ho38.rds pos_shEnt) (by first | assumption | omega | (simp; omega))) ?_
    rintro v43 w44 he45 ⟨v46, rfl, ho47⟩ a48 ha48; clear ha42 a42
    have hx49 := hx40.trans' he45
    have hzhx49 := he45.size
    replace ho19 := ho19.ext he45
    replace ho26 := ho26.ext he45
    replace ho38 := ho38.ext he45
    refine wl_val ha48 rfl rfl rfl (op_move ha48 rfl rfl) ?_
    intro a50 ha50; clear ha48 a48
    refine wl_val ha50 rfl rfl rfl (op_extract ha50 rfl rfl rfl) ?_
    intro a51 ha51; clear ha50 a50
    refine wl_val ha51 rfl rfl rfl (op_extract ha51 rfl rfl rfl) ?_
    intro a52 ha52; clear ha51 a51
    refine wl_val ha52 rfl rfl rfl (op_assign ha52 rfl rfl) ?_
    intro a53 ha53; clear ha52 a52
    refine wl_val ha53 rfl rfl rfl (op_assign ha53 rfl rfl) ?_
    intro a54 ha54; clear ha53 a53
    refine wpList_nil ?_
    refine then_n ?_
    refine wp_seq ?_
    refine wp_seq ?_
    refine wp_region_lit ?_
    refine wl_val ha54 rfl rfl rfl (op_move ha54 rfl rfl) ?_
    intro a55 ha55; clear ha54 a54
    refine wl_val ha55 rfl rfl rfl (op_move ha55 rfl rfl) ?_
    intro a56 ha56; clear ha55 a55
    refine wl_callR ha56 rfl rfl rfl (op_call ha56 rfl cb36 rfl) (c_laws_eqInt64S _ v46 ((if dbB ((aList)) then clL ((aList)) else [])) v25 ((if dbB ((aList)) then clL ((aList)) else [])) (ho47.rds pos_shI64) (ho26.rds pos_shI64)) ?_
    rintro v57 w58 he59 rfl a60 ha60; clear ha56 a56
    have hx61 := hx49.trans' he59
    have hzhx61 := he59.size
    replace ho19 := ho19.ext he59
    replace ho26 := ho26.ext he59
    replace ho38 := ho38.ext he59
    replace ho47 := ho47.ext he59
    refine wl_val ha60 rfl rfl rfl (op_not ha60 rfl rfl) ?_
    intro a62 ha62; clear ha60 a60
    refine wl_val ha62 rfl rfl rfl (op_move ha62 rfl rfl) ?_
    intro a63 ha63; clear ha62 a62
    rcases Bool.eq_false_or_eq_true (eqL ((if dbB ((aList)) then clL ((aList)) else [])) ((if dbB ((aList)) then clL ((aList)) else []))) with c64 | c64
    ·
      rw [c64] at ha63
      refine wl_val ha63 rfl rfl rfl (op_move ha63 rfl rfl) ?_
      intro a65 ha65; clear ha63 a63
      refine wl_val ha65 rfl rfl rfl (op_move ha65 rfl rfl) ?_
      intro a66 ha66; clear ha65 a65
      refine wl_val ha66 rfl rfl rfl ((op_neq ha66 rfl rfl rfl).to (congrArg Value.bool decide_not)) ?_
      intro a67 ha67; clear ha66 a66
      refine wl_val ha67 rfl rfl rfl (op_pick_f ha67 rfl rfl rfl) ?_
      intro a68 ha68; clear ha67 a67
      refine wpList_nil ?_
      refine then_n ?_
      by_cases c69 : (if dbB ((aList)) then 0 else 1 : Int) = (if dbB ((aList)) then 0 else 1 : Int)
      ·
        rw [decide_eq_true c69] at ha68
        refine cond_f ha68 rfl ?_
        refine wp_skip ?_
        refine then_n ?_
        refine wp_seq ?_
        refine wp_seq ?_
        refine wp_region_lit ?_
        refine wl_val ha68 rfl rfl rfl (op_move ha68 rfl rfl) ?_
        intro a70 ha70; clear ha68 a68
        refine wl_val ha70 rfl rfl rfl (op_move ha70 rfl rfl) ?_
        intro a71 ha71; clear ha70 a70
        refine wl_callR ha71 rfl rfl rfl (op_call ha71 rfl cb17 rfl) (c_laws_toEntryS _ v_aList aList (h_aList.ext pos_shEnt hx61) (by first | assumption | omega | (simp; omega))) ?_
        rintro v72 w73 he74 ho75 a76 ha76; clear ha71 a71
        have hx77 := hx61.trans' he74
        have hzhx77 := he74.size
        replace ho19 := ho19.ext he74
        replace ho26 := ho26.ext he74
        replace ho38 := ho38.ext he74
        replace ho47 := ho47.ext he74
        refine wl_callR ha76 rfl rfl rfl (op_call ha76 rfl cb19 rfl) (c_laws_eqEntryS _ v35 ((aList)) v72 ((aList)) (ho38.rds pos_shEnt) (ho75.rds pos_shEnt)) ?_
        rintro v78 w79 he80 rfl a81 ha81; clear ha76 a76
        have hx82 := hx77.trans' he80
        have hzhx82 := he80.size
        replace ho19 := ho19.ext he80
        replace ho26 := ho26.ext he80
        replace ho38 := ho38.ext he80
        replace ho47 := ho47.ext he80
        replace ho75 := ho75.ext he80
        refine wl_val ha81 rfl rfl rfl (op_not ha81 rfl rfl) ?_
        intro a83 ha83; clear ha81 a81
        refine wpList_nil ?_
        refine then_n ?_
        rcases Bool.eq_false_or_eq_true (eqL ((aList)) ((aList))) with c84 | c84
        ·
          rw [c84] at ha83
          refine cond_f ha83 rfl ?_
          refine wp_skip ?_
          refine then_n ?_
          refine wp_seq ?_
          refine wp_region_lit ?_
          refine wl_val ha83 rfl rfl rfl (op_assign ha83 rfl rfl) ?_
          intro a85 ha85; clear ha83 a83
          refine wpList_nil ?_
          refine then_n ?_
          refine wp_seq ?_
          refine wp_region_lit ?_
          refine wl_val ha85 rfl rfl rfl (op_move ha85 rfl rfl) ?_
          intro a86 ha86; clear ha85 a85
          refine wl_val ha86 rfl rfl rfl (op_move ha86 rfl rfl) ?_
          intro a87 ha87; clear ha86 a86
          refine wl_callS ha87 rfl rfl rfl (op_call ha87 rfl cb32 rfl) (c_laws_markEntryS _ v35 ((aList)) (1 : Int) ho38 (by first | assumption | omega | (simp; omega)) (by first | assumption | omega | (simp; omega)) (by first | assumption | omega | (simp; omega))) ?_
          rintro v88 w89 he90 ⟨rfl, ho91⟩ a92 ha92; clear ha87 a87
          have hx93 := hx82.stp he90 (by intro q hq; have hq0 := ho38.lt q hq; omega)
          have hzhx93 := he90.size
          replace ho19 : Own shEnt 41 w6.heap.size w6.heap.size w17.heap.size w89 v16 ((aList)) := by first | exact ho19.stp he90 (by intro q hq; have hq0 := ho38.lt q hq; omega)
          replace ho26 : Own shI64 2 w17.heap.size w17.heap.size w23.heap.size w89 v25 ((if dbB ((aList)) then clL ((aList)) else [])) := by first | exact ho26.stp he90 (by intro q hq; have hq0 := ho38.lt q hq; omega) | exact ho26.stpF flat_shI64 he90 (ho26.ne ho38 rfl)
          replace ho47 : Own shI64 2 w36.heap.size w36.heap.size w44.heap.size w89 v46 ((if dbB ((aList)) then clL ((aList)) else [])) := by first | exact ho47.stp he90 (by intro q hq; have hq0 := ho38.lt q hq; omega) | exact ho47.stpF flat_shI64 he90 (ho47.ne ho38 rfl)
          replace ho75 : Own shEnt 41 w58.heap.size w58.heap.size w73.heap.size w89 v72 ((aList)) := by first | exact ho75.stp he90 (by intro q hq; have hq0 := ho38.lt q hq; omega)
          clear ho38
          refine wl_val ha92 rfl rfl rfl (op_assign ha92 rfl rfl) ?_
          intro a94 ha94; clear ha92 a92
          refine wpList_nil ?_
          refine then_n ?_
          refine wp_seq ?_
          refine wp_seq ?_
          refine wp_region_lit ?_
          refine wl_val ha94 rfl rfl rfl (op_move ha94 rfl rfl) ?_
          intro a95 ha95; clear ha94 a94
          refine wl_val ha95 rfl rfl rfl (op_lss ha95 rfl rfl rfl) ?_
          intro a96 ha96; clear ha95 a95
          refine wl_val ha96 rfl rfl rfl (op_move ha96 rfl rfl) ?_
          intro a97 ha97; clear ha96 a96
          by_cases c98 : (((1 : Int)) + 4 * (((aList)).length : Nat) : Int) < (0 : Int)
          ·
            rw [decide_eq_true c98] at ha97
            refine wl_skip ha97 rfl rfl rfl ?_
            intro a99 ha99; clear ha97 a97
            refine wl_skip ha99 rfl rfl rfl ?_
            intro a100 ha100; clear ha99 a99
            refine wl_skip ha100 rfl rfl rfl ?_
            intro a101 ha101; clear ha100 a100
            refine wl_skip ha101 rfl rfl rfl ?_
            intro a102 ha102; clear ha101 a101
            refine wl_val ha102 rfl rfl rfl (op_pick_t ha102 rfl rfl rfl) ?_
            intro a103 ha103; clear ha102 a102
            refine wl_val ha103 rfl rfl rfl (op_move ha103 rfl rfl) ?_
            intro a104 ha104; clear ha103 a103
            refine wl_skip ha104 rfl rfl rfl ?_
            intro a105 ha105; clear ha104 a104
            refine wl_skip ha105 rfl rfl rfl ?_
            intro a106 ha106; clear ha105 a105
            refine wl_skip ha106 rfl rfl rfl ?_
            intro a107 ha107; clear ha106 a106
            refine wl_val ha107 rfl rfl rfl (op_pick_t ha107 rfl rfl rfl) ?_
            intro a108 ha108; clear ha107 a107
            refine wpList_nil ?_
            refine then_n ?_
            refine cond_t ha108 rfl ?_
            refine wp_seq ?_
            refine wp_region_lit ?_
            refine wl_val ha108 rfl rfl rfl (op_assign ha108 rfl rfl) ?_
            intro a109 ha109; clear ha108 a108
            refine wpList_nil ?_
            refine then_n ?_
            refine wp_ret ?_
            refine then_r ?_
            refine ret1 ha109 rfl rfl ?_
            clear ha109 a109
            exact ret_mk hx93 (congrArg Value.bool (by first | rfl | omega | (exact absurd rfl c13)))
          ·
            rw [decide_eq_false c98] at ha97
            refine wl_val ha97 rfl rfl rfl (op_move ha97 rfl rfl) ?_
            intro a110 ha110; clear ha97 a97
            refine wl_val ha110 rfl rfl rfl (op_move ha110 rfl rfl) ?_
            intro a111 ha111; clear ha110 a110
            refine wl_callR ha111 rfl rfl rfl (op_call ha111 rfl cb36 rfl) (c_laws_eqInt64S _ v46 ((if dbB ((aList)) then clL ((aList)) else [])) v25 ((if dbB ((aList)) then clL ((aList)) else [])) (ho47.rds pos_shI64) (ho26.rds pos_shI64)) ?_
            rintro v112 w113 he114 rfl a115 ha115; clear ha111 a111
            have hx116 := hx93.trans' he114
            have hzhx116 := he114.size
            replace ho19 := ho19.ext he114
            replace ho26 := ho26.ext he114
            replace ho47 := ho47.ext he114
            replace ho75 := ho75.ext he114
            replace ho91 := ho91.ext he114
            refine wl_val ha115 rfl rfl rfl (op_not ha115 rfl rfl) ?_
            intro a117 ha117; clear ha115 a115
            refine wl_val ha117 rfl rfl rfl (op_pick_f ha117 rfl rfl rfl) ?_
            intro a118 ha118; clear ha117 a117
            refine wl_val ha118 rfl rfl rfl (op_move ha118 rfl rfl) ?_
            intro a119 ha119; clear ha118 a118
            rw [c64] at ha119
            refine wl_val ha119 rfl rfl rfl (op_move ha119 rfl rfl) ?_
            intro a120 ha120; clear ha119 a119
            refine wl_val ha120 rfl rfl rfl (op_move ha120 rfl rfl) ?_
            intro a121 ha121; clear ha120 a120
            refine wl_val ha121 rfl rfl rfl ((op_neq ha121 rfl rfl rfl).to (congrArg Value.bool decide_not)) ?_
            intro a122 ha122; clear ha121 a121
            refine wl_val ha122 rfl rfl rfl (op_pick_f ha122 rfl rfl rfl) ?_
            intro a123 ha123; clear ha122 a122
            refine wpList_nil ?_
            refine then_n ?_
            rw [decide_eq_true c69] at ha123
            refine cond_f ha123 rfl ?_
            refine wp_skip ?_
            refine then_n ?_
            refine wp_seq ?_
            refine wp_region_lit ?_
            refine wl_val ha123 rfl rfl rfl (op_assign ha123 rfl rfl) ?_
            intro a124 ha124; clear ha123 a123
            refine wpList_nil ?_
            refine then_n ?_
            refine wp_seq ?_
            refine wp_region_lit ?_
            refine wl_val ha124 rfl rfl rfl (op_move ha124 rfl rfl) ?_
            intro a125 ha125; clear ha124 a124
            refine wl_val ha125 rfl rfl rfl (op_move ha125 rfl rfl) ?_
            intro a126 ha126; clear ha125 a125
            refine wl_callS ha126 rfl rfl rfl (op_call ha126 rfl cb37 rfl) (c_laws_markInt64S _ v46 ((if dbB ((aList)) then clL ((aList)) else [])) (1 : Int) ho47 (by first | assumption | omega | (simp; omega)) (by first | assumption | omega | (simp; omega)) (by first | assumption | omega | (simp; omega))) ?_
            rintro v127 w128 he129 ⟨rfl, ho130⟩ a131 ha131; clear ha126 a126
            have hx132 := hx116.stp he129 (by intro q hq; have hq0 := ho47.lt q hq; omega)
            have hzhx132 := he129.size
            replace ho19 : Own shEnt 41 w6.heap.size w6.heap.size w17.heap.size w128 v16 ((aList)) := by first | exact ho19.stp he129 (by intro q hq; have hq0 := ho47.lt q hq; omega) | exact ho19.stpF flat_shEnt he129 (ho19.ne ho47 rfl)
            replace ho26 : Own shI64 2 w17.heap.size w17.heap.size w23.heap.size w128 v25 ((if dbB ((aList)) then clL ((aList)) else [])) := by first | exact ho26.stp he129 (by intro q hq; have hq0 := ho47.lt q hq; omega)
            replace ho75 : Own shEnt 41 w58.heap.size w58.heap.size w73.heap.size w128 v72 ((aList)) := by first | exact ho75.stp he129 (by intro q hq; have hq0 := ho47.lt q hq; omega) | exact ho75.stpF flat_shEnt he129 (ho75.ne ho47 rfl)
            replace ho91 : Own shEnt 41 w23.heap.size w23.heap.size w36.heap.size w128 v35 ((mkN mkEnt 4 ((aList)).length ((1 : Int)))) := by first | exact ho91.stp he129 (by intro q hq; have hq0 := ho47.lt q hq; omega) | exact ho91.stpF flat_shEnt he129 (ho91.ne ho47 rfl)
            clear ho47
            refine wl_val ha131 rfl rfl rfl (op_assign ha131 rfl rfl) ?_
            intro a133 ha133; clear ha131 a131
            refine wpList_nil ?_
            refine then_n ?_
            refine wp_seq ?_
            refine wp_region_lit ?_
            refine wl_val ha133 rfl rfl rfl (op_assign ha133 rfl rfl) ?_
            intro a134 ha134; clear ha133 a133
            refine wpList_nil ?_
            refine then_n ?_
            refine wp_seq ?_
            refine wp_region_lit ?_
            refine wl_val ha134 rfl rfl rfl (op_move ha134 rfl rfl) ?_
            intro a135 ha135; clear ha134 a134
            refine wl_val ha135 rfl rfl rfl (op_move ha135 rfl rfl) ?_
            intro a136 ha136; clear ha135 a135
            refine wl_callR ha136 rfl rfl rfl (op_call ha136 rfl cb38 rfl) (c_laws_heldInt64S _ v46 ((mkN mkI 1 ((if dbB ((aList)) then clL ((aList)) else [])).length ((1 : Int)))) (1 : Int) (ho130.rds pos_shI64) (by first | assumption | omega | (simp; omega)) (by first | assumption | omega | (simp; omega)) (by first | assumption | omega | (simp; omega) | (simp [mkN_length]; omega))) ?_
            rintro v137 w138 he139 rfl a140 ha140; clear ha136 a136
            have hx141 := hx132.trans' he139
            have hzhx141 := he139.size
            replace ho19 := ho19.ext he139
            replace ho26 := ho26.ext he139
            replace ho75 := ho75.ext he139
            replace ho91 := ho91.ext he139
            replace ho130 := ho130.ext he139
            refine wl_val ha140 rfl rfl rfl (op_assign ha140 rfl rfl) ?_
            intro a142 ha142; clear ha140 a140
            refine wpList_nil ?_
            refine then_n ?_
            refine wp_seq ?_
            refine wp_seq ?_
            refine wp_region_lit ?_
            refine wl_val ha142 rfl rfl rfl (op_move ha142 rfl rfl) ?_
            intro a143 ha143; clear ha142 a142
            refine wl_val ha143 rfl rfl rfl (op_lss ha143 rfl rfl rfl) ?_
            intro a144 ha144; clear ha143 a143
            refine wpList_nil ?_
            refine then_n ?_
            by_cases c145 : (heldG okI 1 ((mkN mkI 1 ((if dbB ((aList)) then clL ((aList)) else [])).length ((1 : Int)))) (1 : Int) : Int) < (0 : Int)
            ·
              rw [decide_eq_true c145] at ha144
              refine cond_t ha144 rfl ?_
              refine wp_seq ?_
              refine wp_region_lit ?_
              refine wl_val ha144 rfl rfl rfl (op_assign ha144 rfl rfl) ?_
              intro a146 ha146; clear ha144 a144
              refine wpList_nil ?_
              refine then_n ?_
              refine wp_ret ?_
              refine then_r ?_
              refine ret1 ha146 rfl rfl ?_
              clear ha146 a146
              exact ret_mk hx141 (congrArg Value.bool (by first | rfl | omega | (simp [held_mkN okI_mk] at c145; done) | (simp [held_mkN okI_mk] at c145; omega) | (simp [held_mkN okI_mk, mkN_length] at c145; done) | (simp [held_mkN okI_mk, mkN_length] at c145; omega) | (exact absurd rfl c98) | (exact absurd rfl c13)))
            ·
              rw [decide_eq_false c145] at ha144
              refine cond_f ha144 rfl ?_
              refine wp_skip ?_
              refine then_n ?_
              refine wp_seq ?_
              refine wp_seq ?_
              refine wp_region_lit ?_
              refine wl_val ha144 rfl rfl rfl (op_move ha144 rfl rfl) ?_
              intro a147 ha147; clear ha144 a144
              refine wl_val ha147 rfl rfl rfl (op_move ha147 rfl rfl) ?_
              intro a148 ha148; clear ha147 a147
              refine wl_val ha148 rfl rfl rfl ((op_neq ha148 rfl rfl rfl).to (congrArg Value.bool decide_not)) ?_
              intro a149 ha149; clear ha148 a148
              refine wpList_nil ?_
              refine then_n ?_
              by_cases c150 : (heldG okI 1 ((mkN mkI 1 ((if dbB ((aList)) then clL ((aList)) else [])).length ((1 : Int)))) (1 : Int) : Int) = (((1 : Int)) + 1 * (((if dbB ((aList)) then clL ((aList)) else [])).length : Nat) : Int)
              ·
                rw [decide_eq_true c150] at ha149
                refine cond_f ha149 rfl ?_
                refine wp_skip ?_
                refine then_n ?_
                refine wp_seq ?_
                refine wp_region_lit ?_
                refine wl_val ha149 rfl rfl rfl (op_move ha149 rfl rfl) ?_
                intro a151 ha151; clear ha149 a149
                refine wl_callR ha151 rfl rfl rfl (op_call ha151 rfl cb17 rfl) (c_laws_toEntryS _ v_aList aList (h_aList.ext pos_shEnt hx141) (by first | assumption | omega | (simp; omega))) ?_
                rintro v152 w153 he154 ho155 a156 ha156; clear ha151 a151
                have hx157 := hx141.trans' he154
                have hzhx157 := he154.size
                replace ho19 := ho19.ext he154
                replace ho26 := ho26.ext he154
                replace ho75 := ho75.ext he154
                replace ho91 := ho91.ext he154
                replace ho130 := ho130.ext he154
                refine wl_callR ha156 rfl rfl rfl (op_call ha156 rfl cb35 rfl) (c_impl_ClosedDays _ v152 ((aList)) (ho155.rds pos_shEnt) (by first | assumption | omega | (simp; omega))) ?_
                rintro v158 w159 he160 ⟨v161, rfl, ho162⟩ a163 ha163; clear ha156 a156
                have hx164 := hx157.trans' he160
                have hzhx164 := he160.size
                replace ho19 := ho19.ext he160
                replace ho26 := ho26.ext he160
                replace ho75 := ho75.ext he160
                replace ho91 := ho91.ext he160
                replace ho130 := ho130.ext he160
                replace ho155 := ho155.ext he160
                refine wl_val ha163 rfl rfl rfl (op_move ha163 rfl rfl) ?_
                intro a165 ha165; clear ha163 a163
                refine wl_val ha165 rfl rfl rfl (op_extract ha165 rfl rfl rfl) ?_
                intro a166 ha166; clear ha165 a165
                refine wl_val ha166 rfl rfl rfl (op_extract ha166 rfl rfl rfl) ?_
                intro a167 ha167; clear ha166 a166
                refine wl_val ha167 rfl rfl rfl (op_assign ha167 rfl rfl) ?_
                intro a168 ha168; clear ha167 a167
                refine wl_val ha168 rfl rfl rfl (op_assign ha168 rfl rfl) ?_
                intro a169 ha169; clear ha168 a168
                refine wpList_nil ?_
                refine then_n ?_
                refine wp_seq ?_
                refine wp_seq ?_
                refine wp_region_lit ?_
                refine wl_val ha169 rfl rfl rfl (op_move ha169 rfl rfl) ?_
                intro a170 ha170; clear ha169 a169
                refine wl_val ha170 rfl rfl rfl (op_move ha170 rfl rfl) ?_
                intro a171 ha171; clear ha170 a170
                refine wl_callR ha171 rfl rfl rfl (op_call ha171 rfl cb36 rfl) (c_laws_eqInt64S _ v161 ((if dbB ((aList)) then clL ((aList)) else [])) v25 ((if dbB ((aList)) then clL ((aList)) else [])) (ho162.rds pos_shI64) (ho26.rds pos_shI64)) ?_
                rintro v172 w173 he174 rfl a175 ha175; clear ha171 a171
                have hx176 := hx164.trans' he174
                have hzhx176 := he174.size
                replace ho19 := ho19.ext he174
                replace ho26 := ho26.ext he174
                replace ho75 := ho75.ext he174
                replace ho91 := ho91.ext he174
                replace ho130 := ho130.ext he174
                replace ho155 := ho155.ext he174
                replace ho162 := ho162.ext he174
                refine wl_val ha175 rfl rfl rfl (op_not ha175 rfl rfl) ?_
                intro a177 ha177; clear ha175 a175
                refine wl_val ha177 rfl rfl rfl (op_move ha177 rfl rfl) ?_
                intro a178 ha178; clear ha177 a177
                rw [c64] at ha178
                refine wl_val ha178 rfl rfl rfl (op_move ha178 rfl rfl) ?_
                intro a179 ha179; clear ha178 a178
                refine wl_val ha179 rfl rfl rfl (op_move ha179 rfl rfl) ?_
                intro a180 ha180; clear ha179 a179
                refine wl_val ha180 rfl rfl rfl ((op_neq ha180 rfl rfl rfl).to (congrArg Value.bool decide_not)) ?_
                intro a181 ha181; clear ha180 a180
                refine wl_val ha181 rfl rfl rfl (op_pick_f ha181 rfl rfl rfl) ?_
                intro a182 ha182; clear ha181 a181
                refine wpList_nil ?_
                refine then_n ?_
                rw [decide_eq_true c69] at ha182
                refine cond_f ha182 rfl ?_
                refine wp_skip ?_
                refine then_n ?_
                refine wp_seq ?_
                refine wp_region_lit ?_
                refine wl_val ha182 rfl rfl rfl (op_assign ha182 rfl rfl) ?_
                intro a183 ha183; clear ha182 a182
                refine wpList_nil ?_
                refine then_n ?_
                refine wp_seq ?_
                refine wp_region_lit ?_
                refine wl_val ha183 rfl rfl rfl (op_move ha183 rfl rfl) ?_
                intro a184 ha184; clear ha183 a183
                refine wl_val ha184 rfl rfl rfl (op_move ha184 rfl rfl) ?_
                intro a185 ha185; clear ha184 a184
                refine wl_callR ha185 rfl rfl rfl (op_call ha185 rfl cb38 rfl) (c_laws_heldInt64S _ v46 ((mkN mkI 1 ((if dbB ((aList)) then clL ((aList)) else [])).length ((1 : Int)))) (1 : Int) (ho130.rds pos_shI64) (by first | assumption | omega | (simp; omega)) (by first | assumption | omega | (simp; omega)) (by first | assumption | omega | (simp; omega) | (simp [mkN_length]; omega))) ?_
                rintro v186 w187 he188 rfl a189 ha189; clear ha185 a185
                have hx190 := hx176.trans' he188
                have hzhx190 := he188.size
                replace ho19 := ho19.ext he188
                replace ho26 := ho26.ext he188
                replace ho75 := ho75.ext he188
                replace ho91 := ho91.ext he188
                replace ho130 := ho130.ext he188
                replace ho155 := ho155.ext he188
                replace ho162 := ho162.ext he188
                refine wl_val ha189 rfl rfl rfl (op_assign ha189 rfl rfl) ?_
                intro a191 ha191; clear ha189 a189
                refine wpList_nil ?_
                refine then_n ?_
                refine wp_seq ?_
                refine wp_seq ?_
                refine wp_region_lit ?_
                refine wl_val ha191 rfl rfl rfl (op_move ha191 rfl rfl) ?_
                intro a192 ha192; clear ha191 a191
                refine wl_val ha192 rfl rfl rfl (op_lss ha192 rfl rfl rfl) ?_
                intro a193 ha193; clear ha192 a192
                refine wpList_nil ?_
                refine then_n ?_
                rw [decide_eq_false c145] at ha193
                refine cond_f ha193 rfl ?_
                refine wp_skip ?_
                refine then_n ?_
                refine wp_seq ?_
                refine wp_seq ?_
                refine wp_region_lit ?_
                refine wl_val ha193 rfl rfl rfl (op_move ha193 rfl rfl) ?_
                intro a194 ha194; clear ha193 a193
                refine wl_val ha194 rfl rfl rfl (op_move ha194 rfl rfl) ?_
                intro a195 ha195; clear ha194 a194
                refine wl_val ha195 rfl rfl rfl ((op_neq ha195 rfl rfl rfl).to (congrArg Value.bool decide_not)) ?_
                intro a196 ha196; clear ha195 a195
                refine wpList_nil ?_
                refine then_n ?_
                rw [decide_eq_true c150] at ha196
                refine cond_f ha196 rfl ?_
                refine wp_skip ?_
                refine then_n ?_
                refine wp_seq ?_
                refine wp_region_lit ?_
                refine wl_val ha196 rfl rfl rfl (op_assign ha196 rfl rfl) ?_
                intro a197 ha197; clear ha196 a196
                refine wpList_nil ?_
                refine then_n ?_
                refine wp_ret ?_
                refine ret1 ha197 rfl rfl ?_
                clear ha197 a197
                exact ret_mk hx190 (congrArg Value.bool (by first | rfl | omega | (simp [held_mkN okI_mk] at c150; done) | (simp [held_mkN okI_mk] at c150; omega) | (simp [held_mkN okI_mk, mkN_length] at c150; done) | (simp [held_mkN okI_mk, mkN_length] at c150; omega) | (simp [held_mkN okI_mk] at c145; done) | (simp [held_mkN okI_mk] at c145; omega) | (simp [held_mkN okI_mk, mkN_length] at c145; done) | (simp [held_mkN okI_mk, mkN_length] at c145; omega) | (exact absurd rfl c145) | (exact absurd rfl c98) | (exact absurd rfl c13)))
              ·
                rw [decide_eq_false c150] at ha149
                refine cond_t ha149 rfl ?_
                refine wp_seq ?_
                refine wp_region_lit ?_
                refine wl_val ha149 rfl rfl rfl (op_assign ha149 rfl rfl) ?_
                intro a198 ha198; clear ha149 a149
                refine wpList_nil ?_
                refine then_n ?_
                refine wp_ret ?_
                refine then_r ?_
                refine ret1 ha198 rfl rfl ?_
                clear ha198 a198
                exact ret_mk hx141 (congrArg Value.bool (by first | rfl | omega | (simp [held_mkN okI_mk] at c150; done) | (simp [held_mkN okI_mk] at c150; omega) | (simp [held_mkN okI_mk, mkN_length] at c150; done) | (simp [held_mkN okI_mk, mkN_length] at c150; omega) | (simp [held_mkN okI_mk] at c145; done) | (simp [held_mkN okI_mk] at c145; omega) | (simp [held_mkN okI_mk, mkN_length] at c145; done) | (simp [held_mkN okI_mk, mkN_length] at c145; omega) | (exact absurd rfl c150) | (exact absurd rfl c145) | (exact absurd rfl c98) | (exact absurd rfl c13)))
        ·
          rw [c84] at ha83
          refine cond_t ha83 rfl ?_
          refine wp_seq ?_
          refine wp_region_lit ?_
          refine wl_val ha83 rfl rfl rfl (op_assign ha83 rfl rfl) ?_
          intro a199 ha199; clear ha83 a83
          refine wpList_nil ?_
          refine then_n ?_
          refine wp_ret ?_
          refine then_r ?_
          refine ret1 ha199 rfl rfl ?_
          clear ha199 a199
          exact ret_mk hx82 (congrArg Value.bool (by first | rfl | omega | (rw [eqL_self] at c84; cases c84) | (exact absurd rfl c84) | (exact absurd rfl c13)))
      ·
        rw [decide_eq_false c69] at ha68
        refine cond_t ha68 rfl ?_
        refine wp_seq ?_
        refine wp_region_lit ?_
        refine wl_val ha68 rfl rfl rfl (op_assign ha68 rfl rfl) ?_
        intro a200 ha200; clear ha68 a68
        refine wpList_nil ?_
        refine then_n ?_
        refine wp_ret ?_
        refine then_r ?_
        refine ret1 ha200 rfl rfl ?_
        clear ha200 a200
        exact ret_mk hx61 (congrArg Value.bool (by first | rfl | omega | (exact absurd rfl c69) | (exact absurd rfl c13)))
    ·
      rw [c64] at ha63
      refine wl_skip ha63 rfl rfl rfl ?_
      intro a201 ha201; clear ha63 a63
      refine wl_skip ha201 rfl rfl rfl ?_
      intro a202 ha202; clear ha201 a201
      refine wl_skip ha202 rfl rfl rfl ?_
      intro a203 ha203; clear ha202 a202
      refine wl_val ha203 rfl rfl rfl (op_pick_t ha203 rfl rfl rfl) ?_
      intro a204 ha204; clear ha203 a203
      refine wpList_nil ?_
      refine then_n ?_
      refine cond_t ha204 rfl ?_
      refine wp_seq ?_
      refine wp_region_lit ?_
      refine wl_val ha204 rfl rfl rfl (op_assign ha204 rfl rfl) ?_
      intro a205 ha205; clear ha204 a204
      refine wpList_nil ?_
      refine then_n ?_
      refine wp_ret ?_
      refine then_r ?_
      refine ret1 ha205 rfl rfl ?_
      clear ha205 a205
      exact ret_mk hx61 (congrArg Value.bool (by first | rfl | omega | (rw [eqL_self] at c64; cases c64) | (exact absurd rfl c64) | (exact absurd rfl c13)))

theorem c_laws_FnExactDaySums (w0 : World) (v_aList : Value) (aList : List (Int × Int × Str × Int)) {S_aList : Nat → Prop} (aDay : Int) (h_aList : Rds shEnt S_aList w0 v_aList aList) (g0 : I64 aDay) :
    Calls Try.prog 10 #[v_aList, .int .i64 aDay] w0 (Ret w0 (fun v _ => v = .bool (true))) := by
  refine enter (N := 101) Try.func10 rfl rfl rfl ?_
  intro a0 ha0
  have hx0 := Ext.rfl' w0
  have hl_aList := h_aList.length_le
  have hcl := costL_len costEnt aList
  have hrl0 := dsS_len aDay aList
  have hrl : (if codeD aList aDay = 0 then dsS aDay aList else []).length ≤ 3 := by split <;> first | omega | simp | (simp; omega)
  refine wp_seq ?_
  refine wp_region_lit ?_
  refine wl_val ha0 rfl rfl rfl (op_assign ha0 rfl rfl) ?_
  intro a1 ha1; clear ha0 a0
  refine wpList_nil ?_
  refine then_n ?_
  refine wp_seq ?_
  refine wp_region_lit ?_
  refine wl_val ha1 rfl rfl rfl (op_assign ha1 rfl rfl) ?_
  intro a2 ha2; clear ha1 a1
  refine wpList_nil ?_
  refine then_n ?_
  refine wp_seq ?_
  refine wp_region_lit ?_
  refine wl_val ha2 rfl rfl rfl (op_move ha2 rfl rfl) ?_
  intro a3 ha3; clear ha2 a2
  refine wl_val ha3 rfl rfl rfl (op_move ha3 rfl rfl) ?_
  intro a4 ha4; clear ha3 a3
  refine wl_callR ha4 rfl rfl rfl (op_call ha4 rfl cb15 rfl) (c_laws_szEntryS _ v_aList aList (1048576 : Int) (h_aList.ext pos_shEnt hx0) (by first | assumption | omega | (simp; omega)) (by first | assumption | omega | (simp; omega))) ?_
  rintro v5 w6 he7 rfl a8 ha8; clear ha4 a4
  have hx9 := hx0.trans' he7
  have hzhx9 := he7.size
  refine wl_val ha8 rfl rfl rfl (op_assign ha8 rfl rfl) ?_
  intro a10 ha10; clear ha8 a8
  refine wpList_nil ?_
  refine then_n ?_
  refine wp_seq ?_
  refine wp_seq ?_
  refine wp_region_lit ?_
  refine wl_val ha10 rfl rfl rfl (op_move ha10 rfl rfl) ?_
  intro a11 ha11; clear ha10 a10
  refine wl_val ha11 rfl rfl rfl (op_lss ha11 rfl rfl rfl) ?_
  intro a12 ha12; clear ha11 a11
  refine wpList_nil ?_
  refine then_n ?_
  by_cases c13 : (szR (1048576 : Int) (costL costEnt aList) : Int) < (0 : Int)
  ·
    rw [decide_eq_true c13] at ha12
    refine cond_t ha12 rfl ?_
    refine wp_seq ?_
    refine wp_region_lit ?_
    refine wl_val ha12 rfl rfl rfl (op_assign ha12 rfl rfl) ?_
    intro a14 ha14; clear ha12 a12
    refine wpList_nil ?_
    refine then_n ?_
    refine wp_ret ?_
    refine then_r ?_
    refine ret1 ha14 rfl rfl ?_
    clear ha14 a14
    exact ret_mk hx9 (congrArg Value.bool (by first | rfl | omega))
  ·
    rw [decide_eq_false c13] at ha12
    have hzc13 := szR_ok c13
    refine cond_f ha12 rfl ?_
    refine wp_skip ?_
    refine then_n ?_
    refine wp_seq ?_
    refine wp_region_lit ?_
    refine wl_val ha12 rfl rfl rfl (op_move ha12 rfl rfl) ?_
    intro a15 ha15; clear ha12 a12
    refine wl_callR ha15 rfl rfl rfl (op_call ha15 rfl cb17 rfl) (c_laws_toEntryS _ v_aList aList (h_aList.ext pos_shEnt hx9) (by first | assumption | omega | (simp; omega))) ?_
    rintro v16 w17 he18 ho19 a20 ha20; clear ha15 a15
    have hx21 := hx9.trans' he18
    have hzhx21 := he18.size
    refine wl_val ha20 rfl rfl rfl (op_move ha20 rfl rfl) ?_
    intro a22 ha22; clear ha20 a20
    refine wl_callR ha22 rfl rfl rfl (op_call ha22 rfl cb39 rfl) (c_spec_DaySums _ v16 ((aList)) aDay (ho19.rds pos_shEnt) (by first | assumption | omega | (simp; omega))) ?_
    rintro v23 w24 he25 ⟨v26, rfl, ho27⟩ a28 ha28; clear ha22 a22
    have hx29 := hx21.trans' he25
    have hzhx29 := he25.size
    replace ho19 := ho19.ext he25
    refine wl_val ha28 rfl rfl rfl (op_move ha28 rfl rfl) ?_
    intro a30 ha30; clear ha28 a28
    refine wl_val ha30 rfl rfl rfl (op_extract ha30 rfl rfl rfl) ?_
    intro a31 ha31; clear ha30 a30
    refine wl_val ha31 rfl rfl rfl (op_extract ha31 rfl rfl rfl) ?_
    intro a32 ha32; clear ha31 a31
    refine wl_val ha32 rfl rfl rfl (op_assign ha32 rfl rfl) ?_
    intro a33 ha33; clear ha32 a32
    refine wl_val ha33 rfl rfl rfl (op_assign ha33 rfl rfl) ?_
    intro a34 ha34; clear ha33 a33
    refine wpList_nil ?_
    refine then_n ?_
    refine wp_seq ?_
    refine wp_region_lit ?_
    refine wl_val ha34 rfl rfl rfl (op_move ha34 rfl rfl) ?_
    intro a35 ha35; clear ha34 a34
    refine wl_callR ha35 rfl rfl rfl (op_call ha35 rfl cb17 rfl) (c_laws_toEntryS _ v_aList aList (h_aList.ext pos_shEnt hx29) (by first | assumption | omega | (simp; omega))) ?_
    rintro v36 w37 he38 ho39 a40 ha40; clear ha35 a35
    have hx41 := hx29.trans' he38
    have hzhx41 := he38.size
    replace ho19 := ho19.ext he38
    replace ho27 := ho27.ext he38
    refine wl_val ha40 rfl rfl rfl (op_assign ha40 rfl rfl) ?_
    intro a42 ha42; clear ha40 a40
    refine wpList_nil ?_
    refine then_n ?_
    refine wp_seq ?_
    refine wp_region_lit ?_
    refine wl_val ha42 rfl rfl rfl (op_move ha42 rfl rfl) ?_
    intro a43 ha43; clear ha42 a42
    refine wl_val ha43 rfl rfl rfl (op_move ha43 rfl rfl) ?_
    intro a44 ha44; clear ha43 a43
    refine wl_callR ha44 rfl rfl rfl (op_call ha44 rfl cb40 rfl) (c_impl_DaySums _ v36 ((aList)) aDay (ho39.rds pos_shEnt) (by first | assumption | omega | (simp; omega))) ?_
    rintro v45 w46 he47 ⟨v48, rfl, ho49⟩ a50 ha50; clear ha44 a44
    have hx51 := hx41.trans' he47
    have hzhx51 := he47.size
    replace ho19 := ho19.ext he47
    replace ho27 := ho27.ext he47
    replace ho39 := ho39.ext he47
    refine wl_val ha50 rfl rfl rfl (op_move ha50 rfl rfl) ?_
    intro a52 ha52; clear ha50 a50
    refine wl_val ha52 rfl rfl rfl (op_extract ha52 rfl rfl rfl) ?_
    intro a53 ha53; clear ha52 a52
    refine wl_val ha53 rfl rfl rfl (op_extract ha53 rfl rfl rfl) ?_
    intro a54 ha54; clear ha53 a53
    refine wl_val ha54 rfl rfl rfl (op_assign ha54 rfl rfl) ?_
    intro a55 ha55; clear ha54 a54
    refine wl_val ha55 rfl rfl rfl (op_assign ha55 rfl rfl) ?_
    intro a56 ha56; clear ha55 a55
    refine wpList_nil ?_
    refine then_n ?_
    refine wp_seq ?_
    refine wp_seq ?_
    refine wp_region_lit ?_
    refine wl_val ha56 rfl rfl rfl (op_move ha56 rfl rfl) ?_
    intro a57 ha57; clear ha56 a56
    refine wl_val ha57 rfl rfl rfl (op_move ha57 rfl rfl) ?_
    intro a58 ha58; clear ha57 a57
    refine wl_callR ha58 rfl rfl rfl (op_call ha58 rfl cb36 rfl) (c_laws_eqInt64S _ v48 ((if codeD ((aList)) aDay = 0 then dsS aDay ((aList)) else [])) v26 ((if codeD ((aList)) aDay = 0 then dsS aDay ((aList)) else [])) (ho49.rds pos_shI64) (ho27.rds pos_shI64)) ?_
    rintro v59 w60 he61 rfl a62 ha62; clear ha58 a58
    have hx63 := hx51.trans' he61
    have hzhx63 := he61.size
    replace ho19 := ho19.ext he61
    replace ho27 := ho27.ext he61
    replace ho39 := ho39.ext he61
    replace ho49 := ho49.ext he61
    refine wl_val ha62 rfl rfl rfl (op_not ha62 rfl rfl) ?_
    intro a64 ha64; clear ha62 a62
    refine wl_val ha64 rfl rfl rfl (op_move ha64 rfl rfl) ?_
    intro a65 ha65; clear ha64 a64
    rcases Bool.eq_false_or_eq_true (eqL ((if codeD ((aList)) aDay = 0 then dsS aDay ((aList)) else [])) ((if codeD ((aList)) aDay = 0 then dsS aDay ((aList)) else []))) with c66 | c66
    ·
      rw [c66] at ha65
      refine wl_val ha65 rfl rfl rfl (op_move ha65 rfl rfl) ?_
      intro a67 ha67; clear ha65 a65
      refine wl_val ha67 rfl rfl rfl (op_move ha67 rfl rfl) ?_
      intro a68 ha68; clear ha67 a67
      refine wl_val ha68 rfl rfl rfl ((op_neq ha68 rfl rfl rfl).to (congrArg Value.bool decide_not)) ?_
      intro a69 ha69; clear ha68 a68
      refine wl_val ha69 rfl rfl rfl (op_pick_f ha69 rfl rfl rfl) ?_
      intro a70 ha70; clear ha69 a69
      refine wpList_nil ?_
      refine then_n ?_
      by_cases c71 : (codeD ((aList)) aDay : Int) = (codeD ((aList)) aDay : Int)
      ·
        rw [decide_eq_true c71] at ha70
        refine cond_f ha70 rfl ?_
        refine wp_skip ?_
        refine then_n ?_
        refine wp_seq ?_
        refine wp_seq ?_
        refine wp_region_lit ?_
        refine wl_val ha70 rfl rfl rfl (op_move ha70 rfl rfl) ?_
        intro a72 ha72; clear ha70 a70
        refine wl_val ha72 rfl rfl rfl (op_move ha72 rfl rfl) ?_
        intro a73 ha73; clear ha72 a72
        refine wl_callR ha73 rfl rfl rfl (op_call ha73 rfl cb17 rfl) (c_laws_toEntryS _ v_aList aList (h_aList.ext pos_shEnt hx63) (by first | assumption | omega | (simp; omega))) ?_
        rintro v74 w75 he76 ho77 a78 ha78; clear ha73 a73
        have hx79 := hx63.trans' he76
        have hzhx79 := he76.size
        replace ho19 := ho19.ext he76
        replace ho27 := ho27.ext he76
        replace ho39 := ho39.ext he76
        replace ho49 := ho49.ext he76
        refine wl_callR ha78 rfl rfl rfl (op_call ha78 rfl cb19 rfl) (c_laws_eqEntryS _ v36 ((aList)) v74 ((aList)) (ho39.rds pos_shEnt) (ho77.rds pos_shEnt)) ?_
        rintro v80 w81 he82 rfl a83 ha83; clear ha78 a78
        have hx84 := hx79.trans' he82
        have hzhx84 := he82.size
        replace ho19 := ho19.ext he82
        replace ho27 := ho27.ext he82
        replace ho39 := ho39.ext he82
        replace ho49 := ho49.ext he82
        replace ho77 := ho77.ext he82
        refine wl_val ha83 rfl rfl rfl (op_not ha83 rfl rfl) ?_
        intro a85 ha85; clear ha83 a83
        refine wpList_nil ?_
        refine then_n ?_
        rcases Bool.eq_false_or_eq_true (eqL ((aList)) ((aList))) with c86 | c86
        ·
          rw [c86] at ha85
          refine cond_f ha85 rfl ?_
          refine wp_skip ?_
          refine then_n ?_
          refine wp_seq ?_
          refine wp_region_lit ?_
          refine wl_val ha85 rfl rfl rfl (op_assign ha85 rfl rfl) ?_
          intro a87 ha87; clear ha85 a85
          refine wpList_nil ?_
          refine then_n ?_
          refine wp_seq ?_
          refine wp_region_lit ?_
          refine wl_val ha87 rfl rfl rfl (op_move ha87 rfl rfl) ?_
          intro a88 ha88; clear ha87 a87
          refine wl_val ha88 rfl rfl rfl (op_move ha88 rfl rfl) ?_
          intro a89 ha89; clear ha88 a88
          refine wl_callS ha89 rfl rfl rfl (op_call ha89 rfl cb32 rfl) (c_laws_markEntryS _ v36 ((aList)) (1 : Int) ho39 (by first | assumption | omega | (simp; omega)) (by first | assumption | omega | (simp; omega)) (by first | assumption | omega | (simp; omega))) ?_
          rintro v90 w91 he92 ⟨rfl, ho93⟩ a94 ha94; clear ha89 a89
          have hx95 := hx84.stp he92 (by intro q hq; have hq0 := ho39.lt q hq; omega)
          have hzhx95 := he92.size
          replace ho19 : Own shEnt 41 w6.heap.size w6.heap.size w17.heap.size w91 v16 ((aList)) := by first | exact ho19.stp he92 (by intro q hq; have hq0 := ho39.lt q hq; omega)
          replace ho27 : Own shI64 2 w17.heap.size w17.heap.size w24.heap.size w91 v26 ((if codeD ((aList)) aDay = 0 then dsS aDay ((aList)) else [])) := by first | exact ho27.stp he92 (by intro q hq; have hq0 := ho39.lt q hq; omega) | exact ho27.stpF flat_shI64 he92 (ho27.ne ho39 rfl)
          replace ho49 : Own shI64 2 w37.heap.size w37.heap.size w46.heap.size w91 v48 ((if codeD ((aList)) aDay = 0 then dsS aDay ((aList)) else [])) := by first | exact ho49.stp he92 (by intro q hq; have hq0 := ho39.lt q hq; omega) | exact ho49.stpF flat_shI64 he92 (ho49.ne ho39 rfl)
          replace ho77 : Own shEnt 41 w60.heap.size w60.heap.size w75.heap.size w91 v74 ((aList)) := by first | exact ho77.stp he92 (by intro q hq; have hq0 := ho39.lt q hq; omega)
          clear ho39
          refine wl_val ha94 rfl rfl rfl (op_assign ha94 rfl rfl) ?_
          intro a96 ha96; clear ha94 a94
          refine wpList_nil ?_
          refine then_n ?_
          refine wp_seq ?_
          refine wp_seq ?_
          refine wp_region_lit ?_
          refine wl_val ha96 rfl rfl rfl (op_move ha96 rfl rfl) ?_
          intro a97 ha97; clear ha96 a96
          refine wl_val ha97 rfl rfl rfl (op_lss ha97 rfl rfl rfl) ?_
          intro a98 ha98; clear ha97 a97
          refine wl_val ha98 rfl rfl rfl (op_move ha98 rfl rfl) ?_
          intro a99 ha99; clear ha98 a98
          by_cases c100 : (((1 : Int)) + 4 * (((aList)).length : Nat) : Int) < (0 : Int)
          ·
            rw [decide_eq_true c100] at ha99
            refine wl_skip ha99 rfl rfl rfl ?_
            intro a101 ha101; clear ha99 a99
            refine wl_skip ha101 rfl rfl rfl ?_
            intro a102 ha102; clear ha101 a101
            refine wl_skip ha102 rfl rfl rfl ?_
            intro a103 ha103; clear ha102 a102
            refine wl_skip ha103 rfl rfl rfl ?_
            intro a104 ha104; clear ha103 a103
            refine wl_val ha104 rfl rfl rfl (op_pick_t ha104 rfl rfl rfl) ?_
            intro a105 ha105; clear ha104 a104
            refine wl_val ha105 rfl rfl rfl (op_move ha105 rfl rfl) ?_
            intro a106 ha106; clear ha105 a105
            refine wl_skip ha106 rfl rfl rfl ?_
            intro a107 ha107; clear ha106 a106
            refine wl_skip ha107 rfl rfl rfl ?_
            intro a108 ha108; clear ha107 a107
            refine wl_skip ha108 rfl rfl rfl ?_
            intro a109 ha109; clear ha108 a108
            refine wl_val ha109 rfl rfl rfl (op_pick_t ha109 rfl rfl rfl) ?_
            intro a110 ha110; clear ha109 a109
            refine wpList_nil ?_
            refine then_n ?_
            refine cond_t ha110 rfl ?_
            refine wp_seq ?_
            refine wp_region_lit ?_
            refine wl_val ha110 rfl rfl rfl (op_assign ha110 rfl rfl) ?_
            intro a111 ha111; clear ha110 a110
            refine wpList_nil ?_
            refine then_n ?_
            refine wp_ret ?_
            refine then_r ?_
            refine ret1 ha111 rfl rfl ?_
            clear ha111 a111
            exact ret_mk hx95 (congrArg Value.bool (by first | rfl | omega | (exact absurd rfl c13)))
          ·
            rw [decide_eq_false c100] at ha99
            refine wl_val ha99 rfl rfl rfl (op_move ha99 rfl rfl) ?_
            intro a112 ha112; clear ha99 a99
            refine wl_val ha112 rfl rfl rfl (op_move ha112 rfl rfl) ?_
            intro a113 ha113; clear ha112 a112
            refine wl_callR ha113 rfl rfl rfl (op_call ha113 rfl cb36 rfl) (c_laws_eqInt64S _ v48 ((if codeD ((aList)) aDay = 0 then dsS aDay ((aList)) else [])) v26 ((if codeD ((aList)) aDay = 0 then dsS aDay ((aList)) else [])) (ho49.rds pos_shI64) (ho27.rds pos_shI64)) ?_
            rintro v114 w115 he116 rfl a117 ha117; clear ha113 a113
            have hx118 := hx95.trans' he116
            have hzhx118 := he116.size
            replace ho19 := ho19.ext he116
            replace ho27 := ho27.ext he116
            replace ho49 := ho49.ext he116
            replace ho77 := ho77.ext he116
            replace ho93 := ho93.ext he116
            refine wl_val ha117 rfl rfl rfl (op_not ha117 rfl rfl) ?_
            intro a119 ha119; clear ha117 a117
            refine wl_val ha119 rfl rfl rfl (op_pick_f ha119 rfl rfl rfl) ?_
            intro a120 ha120; clear ha119 a119
            refine wl_val ha120 rfl rfl rfl (op_move ha120 rfl rfl) ?_
            intro a121 ha121; clear ha120 a120
            rw [c66] at ha121
            refine wl_val ha121 rfl rfl rfl (op_move ha121 rfl rfl) ?_
            intro a122 ha122; clear ha121 a121
            refine wl_val ha122 rfl rfl rfl (op_move ha122 rfl rfl) ?_
            intro a123 ha123; clear ha122 a122
            refine wl_val ha123 rfl rfl rfl ((op_neq ha123 rfl rfl rfl).to (congrArg Value.bool decide_not)) ?_
            intro a124 ha124; clear ha123 a123
            refine wl_val ha124 rfl rfl rfl (op_pick_f ha124 rfl rfl rfl) ?_
            intro a125 ha125; clear ha124 a124
            refine wpList_nil ?_
            refine then_n ?_
            rw [decide_eq_true c71] at ha125
            refine cond_f ha125 rfl ?_
            refine wp_skip ?_
            refine then_n ?_
            refine wp_seq ?_
            refine wp_region_lit ?_
            refine wl_val ha125 rfl rfl rfl (op_assign ha125 rfl rfl) ?_
            intro a126 ha126; clear ha125 a125
            refine wpList_nil ?_
            refine then_n ?_
            refine wp_seq ?_
            refine wp_region_lit ?_
            refine wl_val ha126 rfl rfl rfl (op_move ha126 rfl rfl) ?_
            intro a127 ha127; clear ha126 a126
            refine wl_val ha127 rfl rfl rfl (op_move ha127 rfl rfl) ?_
            intro a128 ha128; clear ha127 a127
            refine wl_callS ha128 rfl rfl rfl (op_call ha128 rfl cb37 rfl) (c_laws_markInt64S _ v48 ((if codeD ((aList)) aDay = 0 then dsS aDay ((aList)) else [])) (1 : Int) ho49 (by first | assumption | omega | (simp; omega)) (by first | assumption | omega | (simp; omega)) (by first | assumption | omega | (simp; omega))) ?_
            rintro v129 w130 he131 ⟨rfl, ho132⟩ a133 ha133; clear ha128 a128
            have hx134 := hx118.stp he131 (by intro q hq; have hq0 := ho49.lt q hq; omega)
            have hzhx134 := he131.size
            replace ho19 : Own shEnt 41 w6.heap.size w6.heap.size w17.heap.size w130 v16 ((aList)) := by first | exact ho19.stp he131 (by intro q hq; have hq0 := ho49.lt q hq; omega) | exact ho19.stpF flat_shEnt he131 (ho19.ne ho49 rfl)
            replace ho27 : Own shI64 2 w17.heap.size w17.heap.size w24.heap.size w130 v26 ((if codeD ((aList)) aDay = 0 then dsS aDay ((aList)) else [])) := by first | exact ho27.stp he131 (by intro q hq; have hq0 := ho49.lt q hq; omega)
            replace ho77 : Own shEnt 41 w60.heap.size w60.heap.size w75.heap.size w130 v74 ((aList)) := by first | exact ho77.stp he131 (by intro q hq; have hq0 := ho49.lt q hq; omega) | exact ho77.stpF flat_shEnt he131 (ho77.ne ho49 rfl)
            replace ho93 : Own shEnt 41 w24.heap.size w24.heap.size w37.heap.size w130 v36 ((mkN mkEnt 4 ((aList)).length ((1 : Int)))) := by first | exact ho93.stp he131 (by intro q hq; have hq0 := ho49.lt q hq; omega) | exact ho93.stpF flat_shEnt he131 (ho93.ne ho49 rfl)
            clear ho49
            refine wl_val ha133 rfl rfl rfl (op_assign ha133 rfl rfl) ?_
            intro a135 ha135; clear ha133 a133
            refine wpList_nil ?_
            refine then_n ?_
            refine wp_seq ?_
            refine wp_region_lit ?_
            refine wl_val ha135 rfl rfl rfl (op_assign ha135 rfl rfl) ?_
            intro a136 ha136; clear ha135 a135
            refine wpList_nil ?_
            refine then_n ?_
            refine wp_seq ?_
            refine wp_region_lit ?_
            refine wl_val ha136 rfl rfl rfl (op_move ha136 rfl rfl) ?_
            intro a137 ha137; clear ha136 a136
            refine wl_val ha137 rfl rfl rfl (op_move ha137 rfl rfl) ?_
            intro a138 ha138; clear ha137 a137
            refine wl_callR ha138 rfl rfl rfl (op_call ha138 rfl cb38 rfl) (c_laws_heldInt64S _ v48 ((mkN mkI 1 ((if codeD ((aList)) aDay = 0 then dsS aDay ((aList)) else [])).length ((1 : Int)))) (1 : Int) (ho132.rds pos_shI64) (by first | assumption | omega | (simp; omega)) (by first | assumption | omega | (simp; omega)) (by first | assumption | omega | (simp; omega) | (simp [mkN_length]; omega))) ?_
            rintro v139 w140 he141 rfl a142 ha142; clear ha138 a138
            have hx143 := hx134.trans' he141
            have hzhx143 := he141.size
            replace ho19 := ho19.ext he141
            replace ho27 := ho27.ext he141
            replace ho77 := ho77.ext he141
            replace ho93 := ho93.ext he141
            replace ho132 := ho132.ext he141
            refine wl_val ha142 rfl rfl rfl (op_assign ha142 rfl rfl) ?_
            intro a144 ha144; clear ha142 a142
            refine wpList_nil ?_
            refine then_n ?_
            refine wp_seq ?_
            refine wp_seq ?_
            refine wp_region_lit ?_
            refine wl_val ha144 rfl rfl rfl (op_move ha144 rfl rfl) ?_
            intro a145 ha145; clear ha144 a144
            refine wl_val ha145 rfl rfl rfl (op_lss ha145 rfl rfl rfl) ?_
            intro a146 ha146; clear ha145 a145
            refine wpList_nil ?_
            refine then_n ?_
            by_cases c147 : (heldG okI 1 ((mkN mkI 1 ((if codeD ((aList)) aDay = 0 then dsS aDay ((aList)) else [])).length ((1 : Int)))) (1 : Int) : Int) < (0 : Int)
            ·
              rw [decide_eq_true c147] at ha146
              refine cond_t ha146 rfl ?_
              refine wp_seq ?_
              refine wp_region_lit ?_
              refine wl_val ha146 rfl rfl rfl (op_assign ha146 rfl rfl) ?_
              intro a148 ha148; clear ha146 a146
              refine wpList_nil ?_
              refine then_n ?_
              refine wp_ret ?_
              refine then_r ?_
              refine ret1 ha148 rfl rfl ?_
              clear ha148 a148
              exact ret_mk hx143 (congrArg Value.bool (by first | rfl | omega | (simp [held_mkN okI_mk] at c147; done) | (simp [held_mkN okI_mk] at c147; omega) | (simp [held_mkN okI_mk, mkN_length] at c147; done) | (simp [held_mkN okI_mk, mkN_length] at c147; omega) | (exact absurd rfl c100) | (exact absurd rfl c13)))
            ·
              rw [decide_eq_false c147] at ha146
              refine cond_f ha146 rfl ?_
              refine wp_skip ?_
              refine then_n ?_
              refine wp_seq ?_
              refine wp_seq ?_
              refine wp_region_lit ?_
              refine wl_val ha146 rfl rfl rfl (op_move ha146 rfl rfl) ?_
              intro a149 ha149; clear ha146 a146
              refine wl_val ha149 rfl rfl rfl (op_move ha149 rfl rfl) ?_
              intro a150 ha150; clear ha149 a149
              refine wl_val ha150 rfl rfl rfl ((op_neq ha150 rfl rfl rfl).to (congrArg Value.bool decide_not)) ?_
              intro a151 ha151; clear ha150 a150
              refine wpList_nil ?_
              refine then_n ?_
              by_cases c152 : (heldG okI 1 ((mkN mkI 1 ((if codeD ((aList)) aDay = 0 then dsS aDay ((aList)) else [])).length ((1 : Int)))) (1 : Int) : Int) = (((1 : Int)) + 1 * (((if codeD ((aList)) aDay = 0 then dsS aDay ((aList)) else [])).length : Nat) : Int)
              ·
                rw [decide_eq_true c152] at ha151
                refine cond_f ha151 rfl ?_
                refine wp_skip ?_
                refine then_n ?_
                refine wp_seq ?_
                refine wp_region_lit ?_
                refine wl_val ha151 rfl rfl rfl (op_move ha151 rfl rfl) ?_
                intro a153 ha153; clear ha151 a151
                refine wl_callR ha153 rfl rfl rfl (op_call ha153 rfl cb17 rfl) (c_laws_toEntryS _ v_aList aList (h_aList.ext pos_shEnt hx143) (by first | assumption | omega | (simp; omega))) ?_
                rintro v154 w155 he156 ho157 a158 ha158; clear ha153 a153
                have hx159 := hx143.trans' he156
                have hzhx159 := he156.size
                replace ho19 := ho19.ext he156
                replace ho27 := ho27.ext he156
                replace ho77 := ho77.ext he156
                replace ho93 := ho93.ext he156
                replace ho132 := ho132.ext he156
                refine wl_val ha158 rfl rfl rfl (op_move ha158 rfl rfl) ?_
                intro a160 ha160; clear ha158 a158
                refine wl_callR ha160 rfl rfl rfl (op_call ha160 rfl cb40 rfl) (c_impl_DaySums _ v154 ((aList)) aDay (ho157.rds pos_shEnt) (by first | assumption | omega | (simp; omega))) ?_
                rintro v161 w162 he163 ⟨v164, rfl, ho165⟩ a166 ha166; clear ha160 a160
                have hx167 := hx159.trans' he163
                have hzhx167 := he163.size
                replace ho19 := ho19.ext he163
                replace ho27 := ho27.ext he163
                replace ho77 := ho77.ext he163
                replace ho93 := ho93.ext he163
                replace ho132 := ho132.ext he163
                replace ho157 := ho157.ext he163
                refine wl_val ha166 rfl rfl rfl (op_move ha166 rfl rfl) ?_
                intro a168 ha168; clear ha166 a166
                refine wl_val ha168 rfl rfl rfl (op_extract ha168 rfl rfl rfl) ?_
                intro a169 ha169; clear ha168 a168
                refine wl_val ha169 rfl rfl rfl (op_extract ha169 rfl rfl rfl) ?_
                intro a170 ha170; clear ha169 a169
                refine wl_val ha170 rfl rfl rfl (op_assign ha170 rfl rfl) ?_
                intro a171 ha171; clear ha170 a170
                refine wl_val ha171 rfl rfl rfl (op_assign ha171 rfl rfl) ?_
                intro a172 ha172; clear ha171 a171
                refine wpList_nil ?_
                refine then_n ?_
                refine wp_seq ?_
                refine wp_seq ?_
                refine wp_region_lit ?_
                refine wl_val ha172 rfl rfl rfl (op_move ha172 rfl rfl) ?_
                intro a173 ha173; clear ha172 a172
                refine wl_val ha173 rfl rfl rfl (op_move ha173 rfl rfl) ?_
                intro a174 ha174; clear ha173 a173
                refine wl_callR ha174 rfl rfl rfl (op_call ha174 rfl cb36 rfl) (c_laws_eqInt64S _ v164 ((if codeD ((aList)) aDay = 0 then dsS aDay ((aList)) else [])) v26 ((if codeD ((aList)) aDay = 0 then dsS aDay ((aList)) else [])) (ho165.rds pos_shI64) (ho27.rds pos_shI64)) ?_
                rintro v175 w176 he177 rfl a178 ha178; clear ha174 a174
                have hx179 := hx167.trans' he177
                have hzhx179 := he177.size
                replace ho19 := ho19.ext he177
                replace ho27 := ho27.ext he177
                replace ho77 := ho77.ext he177
                replace ho93 := ho93.ext he177
                replace ho132 := ho132.ext he177
                replace ho157 := ho157.ext he177
                replace ho165 := ho165.ext he177
                refine wl_val ha178 rfl rfl rfl (op_not ha178 rfl rfl) ?_
                intro a180 ha180; clear ha178 a178
                refine wl_val ha180 rfl rfl rfl (op_move ha180 rfl rfl) ?_
                intro a181 ha181; clear ha180 a180
                rw [c66] at ha181
                refine wl_val ha181 rfl rfl rfl (op_move ha181 rfl rfl) ?_
                intro a182 ha182; clear ha181 a181
                refine wl_val ha182 rfl rfl rfl (op_move ha182 rfl rfl) ?_
                intro a183 ha183; clear ha182 a182
                refine wl_val ha183 rfl rfl rfl ((op_neq ha183 rfl rfl rfl).to (congrArg Value.bool decide_not)) ?_
                intro a184 ha184; clear ha183 a183
                refine wl_val ha184 rfl rfl rfl (op_pick_f ha184 rfl rfl rfl) ?_
                intro a185 ha185; clear ha184 a184
                refine wpList_nil ?_
                refine then_n ?_
                rw [decide_eq_true c71] at ha185
                refine cond_f ha185 rfl ?_
                refine wp_skip ?_
                refine then_n ?_
                refine wp_seq ?_
                refine wp_region_lit ?_
                refine wl_val ha185 rfl rfl rfl (op_assign ha185 rfl rfl) ?_
                intro a186 ha186; clear ha185 a185
                refine wpList_nil ?_
                refine then_n ?_
                refine wp_seq ?_
                refine wp_region_lit ?_
                refine wl_val ha186 rfl rfl rfl (op_move ha186 rfl rfl) ?_
                intro a187 ha187; clear ha186 a186
                refine wl_val ha187 rfl rfl rfl (op_move ha187 rfl rfl) ?_
                intro a188 ha188; clear ha187 a187
                refine wl_callR ha188 rfl rfl rfl (op_call ha188 rfl cb38 rfl) (c_laws_heldInt64S _ v48 ((mkN mkI 1 ((if codeD ((aList)) aDay = 0 then dsS aDay ((aList)) else [])).length ((1 : Int)))) (1 : Int) (ho132.rds pos_shI64) (by first | assumption | omega | (simp; omega)) (by first | assumption | omega | (simp; omega)) (by first | assumption | omega | (simp; omega) | (simp [mkN_length]; omega))) ?_
                rintro v189 w190 he191 rfl a192 ha192; clear ha188 a188
                have hx193 := hx179.trans' he191
                have hzhx193 := he191.size
                replace ho19 := ho19.ext he191
                replace ho27 := ho27.ext he191
                replace ho77 := ho77.ext he191
                replace ho93 := ho93.ext he191
                replace ho132 := ho132.ext he191
                replace ho157 := ho157.ext he191
                replace ho165 := ho165.ext he191
                refine wl_val ha192 rfl rfl rfl (op_assign ha192 rfl rfl) ?_
                intro a194 ha194; clear ha192 a192
                refine wpList_nil ?_
                refine then_n ?_
                refine wp_seq ?_
                refine wp_seq ?_
                refine wp_region_lit ?_
                refine wl_val ha194 rfl rfl rfl (op_move ha194 rfl rfl) ?_
                intro a195 ha195; clear ha194 a194
                refine wl_val ha195 rfl rfl rfl (op_lss ha195 rfl rfl rfl) ?_
                intro a196 ha196; clear ha195 a195
                refine wpList_nil ?_
                refine then_n ?_
                rw [decide_eq_false c147] at ha196
                refine cond_f ha196 rfl ?_
                refine wp_skip ?_
                refine then_n ?_
                refine wp_seq ?_
                refine wp_seq ?_
                refine wp_region_lit ?_
                refine wl_val ha196 rfl rfl rfl (op_move ha196 rfl rfl) ?_
                intro a197 ha197; clear ha196 a196
                refine wl_val ha197 rfl rfl rfl (op_move ha197 rfl rfl) ?_
                intro a198 ha198; clear ha197 a197
                refine wl_val ha198 rfl rfl rfl ((op_neq ha198 rfl rfl rfl).to (congrArg Value.bool decide_not)) ?_
                intro a199 ha199; clear ha198 a198
                refine wpList_nil ?_
                refine then_n ?_
                rw [decide_eq_true c152] at ha199
                refine cond_f ha199 rfl ?_
                refine wp_skip ?_
                refine then_n ?_
                refine wp_seq ?_
                refine wp_region_lit ?_
                refine wl_val ha199 rfl rfl rfl (op_assign ha199 rfl rfl) ?_
                intro a200 ha200; clear ha199 a199
                refine wpList_nil ?_
                refine then_n ?_
                refine wp_ret ?_
                refine ret1 ha200 rfl rfl ?_
                clear ha200 a200
                exact ret_mk hx193 (congrArg Value.bool (by first | rfl | omega | (simp [held_mkN okI_mk] at c152; done) | (simp [held_mkN okI_mk] at c152; omega) | (simp [held_mkN okI_mk, mkN_length] at c152; done) | (simp [held_mkN okI_mk, mkN_length] at c152; omega) | (simp [held_mkN okI_mk] at c147; done) | (simp [held_mkN okI_mk] at c147; omega) | (simp [held_mkN okI_mk, mkN_length] at c147; done) | (simp [held_mkN okI_mk, mkN_length] at c147; omega) | (exact absurd rfl c147) | (exact absurd rfl c100) | (exact absurd rfl c13)))
              ·
                rw [decide_eq_false c152] at ha151
                refine cond_t ha151 rfl ?_
                refine wp_seq ?_
                refine wp_region_lit ?_
                refine wl_val ha151 rfl rfl rfl (op_assign ha151 rfl rfl) ?_
                intro a201 ha201; clear ha151 a151
                refine wpList_nil ?_
                refine then_n ?_
                refine wp_ret ?_
                refine then_r ?_
                refine ret1 ha201 rfl rfl ?_
                clear ha201 a201
                exact ret_mk hx143 (congrArg Value.bool (by first | rfl | omega | (simp [held_mkN okI_mk] at c152; done) | (simp [held_mkN okI_mk] at c152; omega) | (simp [held_mkN okI_mk, mkN_length] at c152; done) | (simp [held_mkN okI_mk, mkN_length] at c152; omega) | (simp [held_mkN okI_mk] at c147; done) | (simp [held_mkN okI_mk] at c147; omega) | (simp [held_mkN okI_mk, mkN_length] at c147; done) | (simp [held_mkN okI_mk, mkN_length] at c147; omega) | (exact absurd rfl c152) | (exact absurd rfl c147) | (exact absurd rfl c100) | (exact absurd rfl c13)))
        ·
          rw [c86] at ha85
          refine cond_t ha85 rfl ?_
          refine wp_seq ?_
          refine wp_region_lit ?_
          refine wl_val ha85 rfl rfl rfl (op_assign ha85 rfl rfl) ?_
          intro a202 ha202; clear ha85 a85
          refine wpList_nil ?_
          refine then_n ?_
          refine wp_ret ?_
          refine then_r ?_
          refine ret1 ha202 rfl rfl ?_
          clear ha202 a202
          exact ret_mk hx84 (congrArg Value.bool (by first | rfl | omega | (rw [eqL_self] at c86; cases c86) | (exact absurd rfl c86) | (exact absurd rfl c13)))
      ·
        rw [decide_eq_false c71] at ha70
        refine cond_t ha70 rfl ?_
        refine wp_seq ?_
        refine wp_region_lit ?_
        refine wl_val ha70 rfl rfl rfl (op_assign ha70 rfl rfl) ?_
        intro a203 ha203; clear ha70 a70
        refine wpList_nil ?_
        refine then_n ?_
        refine wp_ret ?_
        refine then_r ?_
        refine ret1 ha203 rfl rfl ?_
        clear ha203 a203
        exact ret_mk hx63 (congrArg Value.bool (by first | rfl | omega | (exact absurd rfl c71) | (exact absurd rfl c13)))
    ·
      rw [c66] at ha65
      refine wl_skip ha65 rfl rfl rfl ?_
      intro a204 ha204; clear ha65 a65
      refine wl_skip ha204 rfl rfl rfl ?_
      intro a205 ha205; clear ha204 a204
      refine wl_skip ha205 rfl rfl rfl ?_
      intro a206 ha206; clear ha205 a205
      refine wl_val ha206 rfl rfl rfl (op_pick_t ha206 rfl rfl rfl) ?_
      intro a207 ha207; clear ha206 a206
      refine wpList_nil ?_
      refine then_n ?_
      refine cond_t ha207 rfl ?_
      refine wp_seq ?_
      refine wp_region_lit ?_
      refine wl_val ha207 rfl rfl rfl (op_assign ha207 rfl rfl) ?_
      intro a208 ha208; clear ha207 a207
      refine wpList_nil ?_
      refine then_n ?_
      refine wp_ret ?_
      refine then_r ?_
      refine ret1 ha208 rfl rfl ?_
      clear ha208 a208
      exact ret_mk hx63 (congrArg Value.bool (by first | rfl | omega | (rw [eqL_self] at c66; cases c66) | (exact absurd rfl c66) | (exact absurd rfl c13)))


end Go.Proofs.Ytocedhbefdaefaa
