/- The law ReplaceRecord, walked. -/
import Derived.Test.YtkdnclpgijkceaaW4
import Derived.Test.YtkdnclpgijkceaaL2
import Derived.Test.YtkdnclpgijkceaaL3
namespace Go.Proofs.Ytkdnclpgijkceaa
open Go Go.RowKit

theorem c_laws_FnExactReplaceRecord (w0 : World) (v_aList : Value) (aList : List (Int × Str)) {S_aList : Nat → Prop} (aR : Int × Str) (h_aList : Rds shRec S_aList w0 v_aList aList) (g0 : I64 aR.1) (g1 : aR.2.length ≤ 9223372036854775807) :
    Calls Try.prog 5 #[v_aList, .agg #[.int .i64 aR.1, St aR.2]] w0 (Ret w0 (fun v _ => v = .bool (true))) := by
  refine enter (N := 109) Try.func5 rfl rfl rfl ?_
  intro a0 ha0
  have hx0 := Ext.rfl' w0
  have hl_aList := h_aList.length_le
  have hsz := szL_le aList (n := 1048576) (by omega)
  have hrl := replL_len aList aR
  refine wp_seq ?_
  refine wp_region_lit ?_
  refine wl_eff ha0 rfl rfl rfl (op_box' ha0 rfl rfl rfl) ?_
  rintro _ w2 ⟨rfl, he3, hb4, hz5⟩ a6 ha6; clear ha0 a0
  have hx7 := hx0.trans' he3
  have hzhx7 := he3.size
  refine wl_val ha6 rfl rfl rfl (op_assign ha6 rfl rfl) ?_
  intro a8 ha8; clear ha6 a6
  refine wpList_nil ?_
  refine then_n ?_
  refine wp_seq ?_
  refine wp_region_lit ?_
  refine wl_val ha8 rfl rfl rfl (op_assign ha8 rfl rfl) ?_
  intro a9 ha9; clear ha8 a8
  refine wpList_nil ?_
  refine then_n ?_
  refine wp_seq ?_
  refine wp_region_lit ?_
  refine wl_val ha9 rfl rfl rfl (op_move ha9 rfl rfl) ?_
  intro a10 ha10; clear ha9 a9
  refine wl_val ha10 rfl rfl rfl (op_move ha10 rfl rfl) ?_
  intro a11 ha11; clear ha10 a10
  refine wl_callR ha11 rfl rfl rfl (op_call ha11 rfl cb13 rfl) (c_laws_szRecordS _ v_aList aList (1048576 : Int) (h_aList.ext pos_shRec hx7) (by first | assumption | omega | (simp; omega) | (simp [mkN_length]; omega)) (by first | assumption | omega | (simp; omega) | (simp [mkN_length]; omega))) ?_
  rintro v12 w13 he14 rfl a15 ha15; clear ha11 a11
  have hx16 := hx7.trans' he14
  have hzhx16 := he14.size
  replace hb4 := hb4.ext he14
  refine wl_val ha15 rfl rfl rfl (op_assign ha15 rfl rfl) ?_
  intro a17 ha17; clear ha15 a15
  refine wpList_nil ?_
  refine then_n ?_
  refine wp_seq ?_
  refine wp_seq ?_
  refine wp_region_lit ?_
  refine wl_val ha17 rfl rfl rfl (op_move ha17 rfl rfl) ?_
  intro a18 ha18; clear ha17 a17
  refine wl_val ha18 rfl rfl rfl (op_lss ha18 rfl rfl rfl) ?_
  intro a19 ha19; clear ha18 a18
  refine wpList_nil ?_
  refine then_n ?_
  by_cases c20 : (szL aList (1048576 : Int) : Int) < (0 : Int)
  ·
    rw [decide_eq_true c20] at ha19
    refine cond_t ha19 rfl ?_
    refine wp_seq ?_
    refine wp_region_lit ?_
    refine wl_val ha19 rfl rfl rfl (op_assign ha19 rfl rfl) ?_
    intro a21 ha21; clear ha19 a19
    refine wpList_nil ?_
    refine then_n ?_
    refine wp_ret ?_
    refine then_r ?_
    refine ret1 ha21 rfl rfl ?_
    clear ha21 a21
    exact ret_mk hx16 (congrArg Value.bool (by first | rfl | omega | (simp [eqL, held_mkN okR_mk, held_mkN okI_mk, mkN_length] at c20; done) | (simp [eqL, held_mkN okR_mk, held_mkN okI_mk, mkN_length] at c20; omega)))
  ·
    rw [decide_eq_false c20] at ha19
    refine cond_f ha19 rfl ?_
    refine wp_skip ?_
    refine then_n ?_
    refine wp_seq ?_
    have hlen := szL_len ‹¬ szL aList 1048576 < 0›
    have hsz := szL_le aList (n := 1048576) (by omega)
    have hrl := replL_len aList aR
    refine wp_region_lit ?_
    refine wl_val ha19 rfl rfl rfl (op_loadS ha19 rfl Try.underlying32 ti32 rfl rfl hb4.cells) ?_
    intro a22 ha22; clear ha19 a19
    refine wl_val ha22 rfl rfl rfl (op_move ha22 rfl rfl) ?_
    intro a23 ha23; clear ha22 a22
    refine wl_callR ha23 rfl rfl rfl (op_call ha23 rfl cb20 rfl) (c_laws_szRecord _ aR (szL aList (1048576 : Int) : Int) (by first | assumption | omega | (simp; omega) | (simp [mkN_length]; omega)) (by first | assumption | omega | (simp; omega) | (simp [mkN_length]; omega)) (by first | assumption | omega | (simp; omega) | (simp [mkN_length]; omega))) ?_
    rintro v24 w25 he26 rfl a27 ha27; clear ha23 a23
    have hx28 := hx16.trans' he26
    have hzhx28 := he26.size
    replace hb4 := hb4.ext he26
    refine wl_val ha27 rfl rfl rfl (op_assign ha27 rfl rfl) ?_
    intro a29 ha29; clear ha27 a27
    refine wpList_nil ?_
    refine then_n ?_
    refine wp_seq ?_
    refine wp_seq ?_
    refine wp_region_lit ?_
    refine wl_val ha29 rfl rfl rfl (op_move ha29 rfl rfl) ?_
    intro a30 ha30; clear ha29 a29
    refine wl_val ha30 rfl rfl rfl (op_lss ha30 rfl rfl rfl) ?_
    intro a31 ha31; clear ha30 a30
    refine wpList_nil ?_
    refine then_n ?_
    by_cases c32 : (szR (szL aList (1048576 : Int) : Int) aR.2.length : Int) < (0 : Int)
    ·
      rw [decide_eq_true c32] at ha31
      refine cond_t ha31 rfl ?_
      refine wp_seq ?_
      refine wp_region_lit ?_
      refine wl_val ha31 rfl rfl rfl (op_assign ha31 rfl rfl) ?_
      intro a33 ha33; clear ha31 a31
      refine wpList_nil ?_
      refine then_n ?_
      refine wp_ret ?_
      refine then_r ?_
      refine ret1 ha33 rfl rfl ?_
      clear ha33 a33
      exact ret_mk hx28 (congrArg Value.bool (by first | rfl | omega | (simp [eqL, held_mkN okR_mk, held_mkN okI_mk, mkN_length] at c32; done) | (simp [eqL, held_mkN okR_mk, held_mkN okI_mk, mkN_length] at c20; done) | (simp [eqL, held_mkN okR_mk, held_mkN okI_mk, mkN_length] at c32; omega) | (simp [eqL, held_mkN okR_mk, held_mkN okI_mk, mkN_length] at c20; omega)))
    ·
      rw [decide_eq_false c32] at ha31
      refine cond_f ha31 rfl ?_
      refine wp_skip ?_
      refine then_n ?_
      refine wp_seq ?_
      refine dr_enter Ext follows_mixed ?_
      intro w34 he35
      have hx36 := hx28.trans' he35
      have hzhx36 := he35.size
      replace hb4 := hb4.ext he35
      have hs37 : Ext w34 w34 := Ext.rfl' _
      refine dr_val (i := 0) ha31 rfl (by kernel_rfl) (by kernel_rfl) (by kernel_rfl) rfl rfl rfl hs37 (fun w' hw' => op_move ha31 rfl rfl) ?_
      intro a38 ha38; clear ha31 a31
      refine dr_val (i := 2) ha38 rfl (by kernel_rfl) (by kernel_rfl) (by kernel_rfl) rfl rfl rfl hs37 (fun w' hw' => op_loadS ha38 rfl Try.underlying32 ti32 rfl rfl (hb4.ext hw').cells) ?_
      intro a39 ha39; clear ha38 a38
      refine dr_one (i := 1) (by kernel_rfl) ?_
      refine po_callR ha39 rfl rfl rfl rfl (op_call ha39 rfl cb15 rfl) (c_laws_toRecordS _ v_aList aList (h_aList.ext pos_shRec (hx36.trans' hs37)) (by first | assumption | omega | (simp; omega) | (simp [mkN_length]; omega))) ?_
      rintro v40 w41 he42 ho43 a44 ha44; clear ha39 a39
      have hs45 := hs37.trans' he42
      have hx46 := hx36.trans' he42
      have hzhx46 := he42.size
      refine ⟨hs45, ?_⟩
      refine dr_one (i := 3) (by kernel_rfl) ?_
      refine po_callR ha44 rfl rfl rfl rfl (op_call ha44 rfl cb22 rfl) (c_laws_toRecord _ aR ) ?_
      rintro v47 w48 he49 rfl a50 ha50; clear ha44 a44
      have hs51 := hs45.trans' he49
      have hx52 := hx46.trans' he49
      have hzhx52 := he49.size
      replace ho43 := ho43.ext he49
      refine ⟨hs51, ?_⟩
      refine dr_one (i := 4) (by kernel_rfl) ?_
      refine po_callR ha50 rfl rfl rfl rfl (op_call ha50 rfl cb21 rfl) (c_spec_ReplaceRecord _ v40 ((aList)) ((aR)) (ho43.rds pos_shRec) (by first | assumption | omega | (simp; omega) | (simp [mkN_length]; omega)) (by first | assumption | omega | (simp; omega) | (simp [mkN_length]; omega)) (by first | assumption | omega | (simp; omega) | (simp [mkN_length]; omega))) ?_
      rintro v53 w54 he55 ⟨v56, rfl, ho57⟩ a58 ha58; clear ha50 a50
      have hs59 := hs51.trans' he55
      have hx60 := hx52.trans' he55
      have hzhx60 := he55.size
      replace ho43 := ho43.ext he55
      refine ⟨hs59, ?_⟩
      refine dr_val (i := 5) ha58 rfl (by kernel_rfl) (by kernel_rfl) (by kernel_rfl) rfl rfl rfl hs59 (fun w' hw' => op_move ha58 rfl rfl) ?_
      intro a61 ha61; clear ha58 a58
      refine dr_val (i := 6) ha61 rfl (by kernel_rfl) (by kernel_rfl) (by kernel_rfl) rfl rfl rfl hs59 (fun w' hw' => op_extract ha61 rfl rfl rfl) ?_
      intro a62 ha62; clear ha61 a61
      refine dr_val (i := 7) ha62 rfl (by kernel_rfl) (by kernel_rfl) (by kernel_rfl) rfl rfl rfl hs59 (fun w' hw' => op_extract ha62 rfl rfl rfl) ?_
      intro a63 ha63; clear ha62 a62
      refine dr_val (i := 8) ha63 rfl (by kernel_rfl) (by kernel_rfl) (by kernel_rfl) rfl rfl rfl hs59 (fun w' hw' => op_assign ha63 rfl rfl) ?_
      intro a64 ha64; clear ha63 a63
      refine dr_val (i := 9) ha64 rfl (by kernel_rfl) (by kernel_rfl) (by kernel_rfl) rfl rfl rfl hs59 (fun w' hw' => op_assign ha64 rfl rfl) ?_
      intro a65 ha65; clear ha64 a64
      refine dr_end (by kernel_rfl) ?_
      replace hb4 := hb4.ext hs59
      refine then_n ?_
      refine wp_seq ?_
      refine wp_region_lit ?_
      refine wl_val ha65 rfl rfl rfl (op_move ha65 rfl rfl) ?_
      intro a66 ha66; clear ha65 a65
      refine wl_callR ha66 rfl rfl rfl (op_call ha66 rfl cb15 rfl) (c_laws_toRecordS _ v_aList aList (h_aList.ext pos_shRec hx60) (by first | assumption | omega | (simp; omega) | (simp [mkN_length]; omega))) ?_
      rintro v67 w68 he69 ho70 a71 ha71; clear ha66 a66
      have hx72 := hx60.trans' he69
      have hzhx72 := he69.size
      replace hb4 := hb4.ext he69
      replace ho43 := ho43.ext he69
      replace ho57 := ho57.ext he69
      refine wl_val ha71 rfl rfl rfl (op_assign ha71 rfl rfl) ?_
      intro a73 ha73; clear ha71 a71
      refine wpList_nil ?_
      refine then_n ?_
      refine wp_seq ?_
      refine wp_region_lit ?_
      refine wl_val ha73 rfl rfl rfl (op_move ha73 rfl rfl) ?_
      intro a74 ha74; clear ha73 a73
      refine wl_val ha74 rfl rfl rfl (op_loadS ha74 rfl Try.underlying32 ti32 rfl rfl hb4.cells) ?_
      intro a75 ha75; clear ha74 a74
      refine wl_callR ha75 rfl rfl rfl (op_call ha75 rfl cb22 rfl) (c_laws_toRecord _ aR ) ?_
      rintro v76 w77 he78 rfl a79 ha79; clear ha75 a75
      have hx80 := hx72.trans' he78
      have hzhx80 := he78.size
      replace hb4 := hb4.ext he78
      replace ho43 := ho43.ext he78
      replace ho57 := ho57.ext he78
      replace ho70 := ho70.ext he78
      refine wl_callR ha79 rfl rfl rfl (op_call ha79 rfl cb23 rfl) (c_impl_ReplaceRecord _ v67 ((aList)) ((aR)) (ho70.rds pos_shRec) (by first | assumption | omega | (simp; omega) | (simp [mkN_length]; omega)) (by first | assumption | omega | (simp; omega) | (simp [mkN_length]; omega)) (by first | assumption | omega | (simp; omega) | (simp [mkN_length]; omega))) ?_
      rintro v81 w82 he83 ⟨v84, rfl, ho85⟩ a86 ha86; clear ha79 a79
      have hx87 := hx80.trans' he83
      have hzhx87 := he83.size
      replace hb4 := hb4.ext he83
      replace ho43 := ho43.ext he83
      replace ho57 := ho57.ext he83
      replace ho70 := ho70.ext he83
      refine wl_val ha86 rfl rfl rfl (op_move ha86 rfl rfl) ?_
      intro a88 ha88; clear ha86 a86
      refine wl_val ha88 rfl rfl rfl (op_extract ha88 rfl rfl rfl) ?_
      intro a89 ha89; clear ha88 a88
      refine wl_val ha89 rfl rfl rfl (op_extract ha89 rfl rfl rfl) ?_
      intro a90 ha90; clear ha89 a89
      refine wl_val ha90 rfl rfl rfl (op_assign ha90 rfl rfl) ?_
      intro a91 ha91; clear ha90 a90
      refine wl_val ha91 rfl rfl rfl (op_assign ha91 rfl rfl) ?_
      intro a92 ha92; clear ha91 a91
      refine wpList_nil ?_
      refine then_n ?_
      refine wp_seq ?_
      refine wp_seq ?_
      refine wp_region_lit ?_
      refine wl_val ha92 rfl rfl rfl (op_move ha92 rfl rfl) ?_
      intro a93 ha93; clear ha92 a92
      refine wl_val ha93 rfl rfl rfl (op_move ha93 rfl rfl) ?_
      intro a94 ha94; clear ha93 a93
      refine wl_callR ha94 rfl rfl rfl (op_call ha94 rfl cb17 rfl) (c_laws_eqRecordS _ v84 ((replL ((aList)) ((aR)))) v56 ((replL ((aList)) ((aR)))) (ho85.rds pos_shRec) (ho57.rds pos_shRec)) ?_
      rintro v95 w96 he97 rfl a98 ha98; clear ha94 a94
      have hx99 := hx87.trans' he97
      have hzhx99 := he97.size
      replace hb4 := hb4.ext he97
      replace ho43 := ho43.ext he97
      replace ho57 := ho57.ext he97
      replace ho70 := ho70.ext he97
      replace ho85 := ho85.ext he97
      refine wl_val ha98 rfl rfl rfl (op_not ha98 rfl rfl) ?_
      intro a100 ha100; clear ha98 a98
      refine wl_val ha100 rfl rfl rfl (op_move ha100 rfl rfl) ?_
      intro a101 ha101; clear ha100 a100
      rcases Bool.eq_false_or_eq_true (eqL ((replL ((aList)) ((aR)))) ((replL ((aList)) ((aR))))) with c102 | c102
      ·
        rw [c102] at ha101
        refine wl_val ha101 rfl rfl rfl (op_move ha101 rfl rfl) ?_
        intro a103 ha103; clear ha101 a101
        refine wl_val ha103 rfl rfl rfl (op_move ha103 rfl rfl) ?_
        intro a104 ha104; clear ha103 a103
        refine wl_val ha104 rfl rfl rfl ((op_neq ha104 rfl rfl rfl).to (congrArg Value.bool decide_not)) ?_
        intro a105 ha105; clear ha104 a104
        refine wl_val ha105 rfl rfl rfl (op_pick_f ha105 rfl rfl rfl) ?_
        intro a106 ha106; clear ha105 a105
        refine wpList_nil ?_
        refine then_n ?_
        by_cases c107 : (replE ((aList)) ((aR)) : Int) = (replE ((aList)) ((aR)) : Int)
        ·
          rw [decide_eq_true c107] at ha106
          refine cond_f ha106 rfl ?_
          refine wp_skip ?_
          refine then_n ?_
          refine wp_seq ?_
          refine wp_seq ?_
          refine wp_region_lit ?_
          refine wl_val ha106 rfl rfl rfl (op_move ha106 rfl rfl) ?_
          intro a108 ha108; clear ha106 a106
          refine wl_val ha108 rfl rfl rfl (op_move ha108 rfl rfl) ?_
          intro a109 ha109; clear ha108 a108
          refine wl_callR ha109 rfl rfl rfl (op_call ha109 rfl cb15 rfl) (c_laws_toRecordS _ v_aList aList (h_aList.ext pos_shRec hx99) (by first | assumption | omega | (simp; omega) | (simp [mkN_length]; omega))) ?_
          rintro v110 w111 he112 ho113 a114 ha114; clear ha109 a109
          have hx115 := hx99.trans' he112
          have hzhx115 := he112.size
          replace hb4 := hb4.ext he112
          replace ho43 := ho43.ext he112
          replace ho57 := ho57.ext he112
          replace ho70 := ho70.ext he112
          replace ho85 := ho85.ext he112
          refine wl_callR ha114 rfl rfl rfl (op_call ha114 rfl cb17 rfl) (c_laws_eqRecordS _ v67 ((aList)) v110 ((aList)) (ho70.rds pos_shRec) (ho113.rds pos_shRec)) ?_
          rintro v116 w117 he118 rfl a119 ha119; clear ha114 a114
          have hx120 := hx115.trans' he118
          have hzhx120 := he118.size
          replace hb4 := hb4.ext he118
          replace ho43 := ho43.ext he118
          replace ho57 := ho57.ext he118
          replace ho70 := ho70.ext he118
          replace ho85 := ho85.ext he118
          replace ho113 := ho113.ext he118
          refine wl_val ha119 rfl rfl rfl (op_not ha119 rfl rfl) ?_
          intro a121 ha121; clear ha119 a119
          refine wpList_nil ?_
          refine then_n ?_
          rcases Bool.eq_false_or_eq_true (eqL ((aList)) ((aList))) with c122 | c122
          ·
            rw [c122] at ha121
            refine cond_f ha121 rfl ?_
            refine wp_skip ?_
            refine then_n ?_
            refine wp_seq ?_
            refine wp_region_lit ?_
            refine wl_val ha121 rfl rfl rfl (op_assign ha121 rfl rfl) ?_
            intro a123 ha123; clear ha121 a121
            refine wpList_nil ?_
            refine then_n ?_
            refine wp_seq ?_
            refine wp_region_lit ?_
            refine wl_val ha123 rfl rfl rfl (op_move ha123 rfl rfl) ?_
            intro a124 ha124; clear ha123 a123
            refine wl_val ha124 rfl rfl rfl (op_move ha124 rfl rfl) ?_
            intro a125 ha125; clear ha124 a124
            refine wl_callS ha125 rfl rfl rfl (op_call ha125 rfl cb24 rfl) (c_laws_markRecordS _ v67 ((aList)) (1 : Int) ho70 (by first | assumption | omega | (simp; omega) | (simp [mkN_length]; omega)) (by first | assumption | omega | (simp; omega) | (simp [mkN_length]; omega)) (by first | assumption | omega | (simp; omega) | (simp [mkN_length]; omega))) ?_
            rintro v126 w127 he128 ⟨rfl, ho129⟩ a130 ha130; clear ha125 a125
            have hx131 := hx120.stp he128 (by intro q hq; have hq0 := ho70.lt q hq; omega)
            have hzhx131 := he128.size
            replace hb4 : Box w127 w0.heap.size 32 [.int .i64 aR.1, St aR.2] := by first | exact hb4.stp he128 (by intro q hq; have hq0 := ho70.lt q hq; omega) | exact hb4.stp he128 (by intro q hq e; subst e; exact ho70.ne_box hb4 rfl hq)
            replace ho43 : Own shRec 36 w34.heap.size w34.heap.size w41.heap.size w127 v40 ((aList)) := by first | exact ho43.stp he128 (by intro q hq; have hq0 := ho70.lt q hq; omega)
            replace ho57 : Own shRec 36 w48.heap.size w48.heap.size w54.heap.size w127 v56 ((replL ((aList)) ((aR)))) := by first | exact ho57.stp he128 (by intro q hq; have hq0 := ho70.lt q hq; omega)
            replace ho85 : Own shRec 36 w77.heap.size w77.heap.size w82.heap.size w127 v84 ((replL ((aList)) ((aR)))) := by first | exact ho85.stp he128 (by intro q hq; have hq0 := ho70.lt q hq; omega)
            replace ho113 : Own shRec 36 w96.heap.size w96.heap.size w111.heap.size w127 v110 ((aList)) := by first | exact ho113.stp he128 (by intro q hq; have hq0 := ho70.lt q hq; omega)
            clear ho70
            refine wl_val ha130 rfl rfl rfl (op_assign ha130 rfl rfl) ?_
            intro a132 ha132; clear ha130 a130
            refine wpList_nil ?_
            refine then_n ?_
            refine wp_seq ?_
            refine wp_seq ?_
            refine wp_region_lit ?_
            refine wl_val ha132 rfl rfl rfl (op_move ha132 rfl rfl) ?_
            intro a133 ha133; clear ha132 a132
            refine wl_val ha133 rfl rfl rfl (op_lss ha133 rfl rfl rfl) ?_
            intro a134 ha134; clear ha133 a133
            refine wl_val ha134 rfl rfl rfl (op_move ha134 rfl rfl) ?_
            intro a135 ha135; clear ha134 a134
            by_cases c136 : (((1 : Int)) + 2 * (((aList)).length : Nat) : Int) < (0 : Int)
            ·
              rw [decide_eq_true c136] at ha135
              refine wl_skip ha135 rfl rfl rfl ?_
              intro a137 ha137; clear ha135 a135
              refine wl_skip ha137 rfl rfl rfl ?_
              intro a138 ha138; clear ha137 a137
              refine wl_skip ha138 rfl rfl rfl ?_
              intro a139 ha139; clear ha138 a138
              refine wl_skip ha139 rfl rfl rfl ?_
              intro a140 ha140; clear ha139 a139
              refine wl_val ha140 rfl rfl rfl (op_pick_t ha140 rfl rfl rfl) ?_
              intro a141 ha141; clear ha140 a140
              refine wl_val ha141 rfl rfl rfl (op_move ha141 rfl rfl) ?_
              intro a142 ha142; clear ha141 a141
              refine wl_skip ha142 rfl rfl rfl ?_
              intro a143 ha143; clear ha142 a142
              refine wl_skip ha143 rfl rfl rfl ?_
              intro a144 ha144; clear ha143 a143
              refine wl_skip ha144 rfl rfl rfl ?_
              intro a145 ha145; clear ha144 a144
              refine wl_val ha145 rfl rfl rfl (op_pick_t ha145 rfl rfl rfl) ?_
              intro a146 ha146; clear ha145 a145
              refine wpList_nil ?_
              refine then_n ?_
              refine cond_t ha146 rfl ?_
              refine wp_seq ?_
              refine wp_region_lit ?_
              refine wl_val ha146 rfl rfl rfl (op_assign ha146 rfl rfl) ?_
              intro a147 ha147; clear ha146 a146
              refine wpList_nil ?_
              refine then_n ?_
              refine wp_ret ?_
              refine then_r ?_
              refine ret1 ha147 rfl rfl ?_
              clear ha147 a147
              exact ret_mk hx131 (congrArg Value.bool (by first | rfl | omega | (simp [eqL, held_mkN okR_mk, held_mkN okI_mk, mkN_length] at c136; done) | (simp [eqL, held_mkN okR_mk, held_mkN okI_mk, mkN_length] at c122; done) | (simp [eqL, held_mkN okR_mk, held_mkN okI_mk, mkN_length] at c107; done) | (simp [eqL, held_mkN okR_mk, held_mkN okI_mk, mkN_length] at c102; done) | (simp [eqL, held_mkN okR_mk, held_mkN okI_mk, mkN_length] at c32; done) | (simp [eqL, held_mkN okR_mk, held_mkN okI_mk, mkN_length] at c20; done) | (simp [eqL, held_mkN okR_mk, held_mkN okI_mk, mkN_length] at c136; omega) | (simp [eqL, held_mkN okR_mk, held_mkN okI_mk, mkN_length] at c122; omega) | (simp [eqL, held_mkN okR_mk, held_mkN okI_mk, mkN_length] at c107; omega)))
            ·
              rw [decide_eq_false c136] at ha135
              refine wl_val ha135 rfl rfl rfl (op_move ha135 rfl rfl) ?_
              intro a148 ha148; clear ha135 a135
              refine wl_val ha148 rfl rfl rfl (op_move ha148 rfl rfl) ?_
              intro a149 ha149; clear ha148 a148
              refine wl_callR ha149 rfl rfl rfl (op_call ha149 rfl cb17 rfl) (c_laws_eqRecordS _ v84 ((replL ((aList)) ((aR)))) v56 ((replL ((aList)) ((aR)))) (ho85.rds pos_shRec) (ho57.rds pos_shRec)) ?_
              rintro v150 w151 he152 rfl a153 ha153; clear ha149 a149
              have hx154 := hx131.trans' he152
              have hzhx154 := he152.size
              replace hb4 := hb4.ext he152
              replace ho43 := ho43.ext he152
              replace ho57 := ho57.ext he152
              replace ho85 := ho85.ext he152
              replace ho113 := ho113.ext he152
              replace ho129 := ho129.ext he152
              refine wl_val ha153 rfl rfl rfl (op_not ha153 rfl rfl) ?_
              intro a155 ha155; clear ha153 a153
              refine wl_val ha155 rfl rfl rfl (op_pick_f ha155 rfl rfl rfl) ?_
              intro a156 ha156; clear ha155 a155
              refine wl_val ha156 rfl rfl rfl (op_move ha156 rfl rfl) ?_
              intro a157 ha157; clear ha156 a156
              rw [c102] at ha157
              refine wl_val ha157 rfl rfl rfl (op_move ha157 rfl rfl) ?_
              intro a158 ha158; clear ha157 a157
              refine wl_val ha158 rfl rfl rfl (op_move ha158 rfl rfl) ?_
              intro a159 ha159; clear ha158 a158
              refine wl_val ha159 rfl rfl rfl ((op_neq ha159 rfl rfl rfl).to (congrArg Value.bool decide_not)) ?_
              intro a160 ha160; clear ha159 a159
              refine wl_val ha160 rfl rfl rfl (op_pick_f ha160 rfl rfl rfl) ?_
              intro a161 ha161; clear ha160 a160
              refine wpList_nil ?_
              refine then_n ?_
              rw [decide_eq_true c107] at ha161
              refine cond_f ha161 rfl ?_
              refine wp_skip ?_
              refine then_n ?_
              refine wp_seq ?_
              refine wp_region_lit ?_
              refine wl_val ha161 rfl rfl rfl (op_assign ha161 rfl rfl) ?_
              intro a162 ha162; clear ha161 a161
              refine wpList_nil ?_
              refine then_n ?_
              refine wp_seq ?_
              refine wp_region_lit ?_
              refine wl_val ha162 rfl rfl rfl (op_move ha162 rfl rfl) ?_
              intro a163 ha163; clear ha162 a162
              refine wl_val ha163 rfl rfl rfl (op_move ha163 rfl rfl) ?_
              intro a164 ha164; clear ha163 a163
              refine wl_callS ha164 rfl rfl rfl (op_call ha164 rfl cb24 rfl) (c_laws_markRecordS _ v84 ((replL ((aList)) ((aR)))) (1 : Int) ho85 (by first | assumption | omega | (simp; omega) | (simp [mkN_length]; omega)) (by first | assumption | omega | (simp; omega) | (simp [mkN_length]; omega)) (by first | assumption | omega | (simp; omega) | (simp [mkN_length]; omega))) ?_
              rintro v165 w166 he167 ⟨rfl, ho168⟩ a169 ha169; clear ha164 a164
              have hx170 := hx154.stp he167 (by intro q hq; have hq0 := ho85.lt q hq; omega)
              have hzhx170 := he167.size
              replace hb4 : Box w166 w0.heap.size 32 [.int .i64 aR.1, St aR.2] := by first | exact hb4.stp he167 (by intro q hq; have hq0 := ho85.lt q hq; omega) | exact hb4.stp he167 (by intro q hq e; subst e; exact ho85.ne_box hb4 rfl hq)
              replace ho43 : Own shRec 36 w34.heap.size w34.heap.size w41.heap.size w166 v40 ((aList)) := by first | exact ho43.stp he167 (by intro q hq; have hq0 := ho85.lt q hq; omega)
              replace ho57 : Own shRec 36 w48.heap.size w48.heap.size w54.heap.size w166 v56 ((replL ((aList)) ((aR)))) := by first | exact ho57.stp he167 (by intro q hq; have hq0 := ho85.lt q hq; omega)
              replace ho113 : Own shRec 36 w96.heap.size w96.heap.size w111.heap.size w166 v110 ((aList)) := by first | exact ho113.stp he167 (by intro q hq; have hq0 := ho85.lt q hq; omega)
              replace ho129 : Own shRec 36 w54.heap.size w54.heap.size w68.heap.size w166 v67 ((mkN mkR 2 ((aList)).length ((1 : Int)))) := by first | exact ho129.stp he167 (by intro q hq; have hq0 := ho85.lt q hq; omega)
              clear ho85
              refine wl_val ha169 rfl rfl rfl (op_assign ha169 rfl rfl) ?_
              intro a171 ha171; clear ha169 a169
              refine wpList_nil ?_
              refine then_n ?_
              refine wp_seq ?_
              refine wp_region_lit ?_
              refine wl_val ha171 rfl rfl rfl (op_assign ha171 rfl rfl) ?_
              intro a172 ha172; clear ha171 a171
              refine wpList_nil ?_
              refine then_n ?_
              refine wp_seq ?_
              refine wp_region_lit ?_
              refine wl_val ha172 rfl rfl rfl (op_move ha172 rfl rfl) ?_
              intro a173 ha173; clear ha172 a172
              refine wl_val ha173 rfl rfl rfl (op_move ha173 rfl rfl) ?_
              intro a174 ha174; clear ha173 a173
              refine wl_callR ha174 rfl rfl rfl (op_call ha174 rfl cb25 rfl) (c_laws_heldRecordS _ v84 ((mkN mkR 2 ((replL ((aList)) ((aR)))).length ((1 : Int)))) (1 : Int) (ho168.rds pos_shRec) (by first | assumption | omega | (simp; omega) | (simp [mkN_length]; omega)) (by first | assumption | omega | (simp; omega) | (simp [mkN_length]; omega)) (by first | assumption | omega | (simp; omega) | (simp [mkN_length]; omega))) ?_
              rintro v175 w176 he177 rfl a178 ha178; clear ha174 a174
              have hx179 := hx170.trans' he177
              have hzhx179 := he177.size
              replace hb4 := hb4.ext he177
              replace ho43 := ho43.ext he177
              replace ho57 := ho57.ext he177
              replace ho113 := ho113.ext he177
              replace ho129 := ho129.ext he177
              replace ho168 := ho168.ext he177
              refine wl_val ha178 rfl rfl rfl (op_assign ha178 rfl rfl) ?_
              intro a180 ha180; clear ha178 a178
              refine wpList_nil ?_
              refine then_n ?_
              refine wp_seq ?_
              refine wp_seq ?_
              refine wp_region_lit ?_
              refine wl_val ha180 rfl rfl rfl (op_move ha180 rfl rfl) ?_
              intro a181 ha181; clear ha180 a180
              refine wl_val ha181 rfl rfl rfl (op_lss ha181 rfl rfl rfl) ?_
              intro a182 ha182; clear ha181 a181
              refine wpList_nil ?_
              refine then_n ?_
              by_cases c183 : (heldG okR 2 ((mkN mkR 2 ((replL ((aList)) ((aR)))).length ((1 : Int)))) (1 : Int) : Int) < (0 : Int)
              ·
                rw [decide_eq_true c183] at ha182
                refine cond_t ha182 rfl ?_
                refine wp_seq ?_
                refine wp_region_lit ?_
                refine wl_val ha182 rfl rfl rfl (op_assign ha182 rfl rfl) ?_
                intro a184 ha184; clear ha182 a182
                refine wpList_nil ?_
                refine then_n ?_
                refine wp_ret ?_
                refine then_r ?_
                refine ret1 ha184 rfl rfl ?_
                clear ha184 a184
                exact ret_mk hx179 (congrArg Value.bool (by first | rfl | omega | (simp [eqL, held_mkN okR_mk, held_mkN okI_mk, mkN_length] at c183; done) | (simp [eqL, held_mkN okR_mk, held_mkN okI_mk, mkN_length] at c136; done) | (simp [eqL, held_mkN okR_mk, held_mkN okI_mk, mkN_length] at c122; done) | (simp [eqL, held_mkN okR_mk, held_mkN okI_mk, mkN_length] at c107; done) | (simp [eqL, held_mkN okR_mk, held_mkN okI_mk, mkN_length] at c102; done) | (simp [eqL, held_mkN okR_mk, held_mkN okI_mk, mkN_length] at c32; done) | (simp [eqL, held_mkN okR_mk, held_mkN okI_mk, mkN_length] at c20; done) | (simp [eqL, held_mkN okR_mk, held_mkN okI_mk, mkN_length] at c183; omega) | (simp [eqL, held_mkN okR_mk, held_mkN okI_mk, mkN_length] at c136; omega) | (simp [eqL, held_mkN okR_mk, held_mkN okI_mk, mkN_length] at c122; omega)))
              ·
                rw [decide_eq_false c183] at ha182
                refine cond_f ha182 rfl ?_
                refine wp_skip ?_
                refine then_n ?_
                refine wp_seq ?_
                refine wp_seq ?_
                refine wp_region_lit ?_
                refine wl_val ha182 rfl rfl rfl (op_move ha182 rfl rfl) ?_
                intro a185 ha185; clear ha182 a182
                refine wl_val ha185 rfl rfl rfl (op_move ha185 rfl rfl) ?_
                intro a186 ha186; clear ha185 a185
                refine wl_val ha186 rfl rfl rfl ((op_neq ha186 rfl rfl rfl).to (congrArg Value.bool decide_not)) ?_
                intro a187 ha187; clear ha186 a186
                refine wpList_nil ?_
                refine then_n ?_
                by_cases c188 : (heldG okR 2 ((mkN mkR 2 ((replL ((aList)) ((aR)))).length ((1 : Int)))) (1 : Int) : Int) = (((1 : Int)) + 2 * (((replL ((aList)) ((aR)))).length : Nat) : Int)
                ·
                  rw [decide_eq_true c188] at ha187
                  refine cond_f ha187 rfl ?_
                  refine wp_skip ?_
                  refine then_n ?_
                  refine wp_seq ?_
                  refine dr_enter Ext follows_mixed ?_
                  intro w189 he190
                  have hx191 := hx179.trans' he190
                  have hzhx191 := he190.size
                  replace hb4 := hb4.ext he190
                  replace ho43 := ho43.ext he190
                  replace ho57 := ho57.ext he190
                  replace ho113 := ho113.ext he190
                  replace ho129 := ho129.ext he190
                  replace ho168 := ho168.ext he190
                  have hs192 : Ext w189 w189 := Ext.rfl' _
                  refine dr_val (i := 0) ha187 rfl (by kernel_rfl) (by kernel_rfl) (by kernel_rfl) rfl rfl rfl hs192 (fun w' hw' => op_move ha187 rfl rfl) ?_
                  intro a193 ha193; clear ha187 a187
                  refine dr_val (i := 2) ha193 rfl (by kernel_rfl) (by kernel_rfl) (by kernel_rfl) rfl rfl rfl hs192 (fun w' hw' => op_loadS ha193 rfl Try.underlying32 ti32 rfl rfl (hb4.ext hw').cells) ?_
                  intro a194 ha194; clear ha193 a193
                  refine dr_one (i := 1) (by kernel_rfl) ?_
                  refine po_callR ha194 rfl rfl rfl rfl (op_call ha194 rfl cb15 rfl) (c_laws_toRecordS _ v_aList aList (h_aList.ext pos_shRec (hx191.trans' hs192)) (by first | assumption | omega | (simp; omega) | (simp [mkN_length]; omega))) ?_
                  rintro v195 w196 he197 ho198 a199 ha199; clear ha194 a194
                  have hs200 := hs192.trans' he197
                  have hx201 := hx191.trans' he197
                  have hzhx201 := he197.size
                  refine ⟨hs200, ?_⟩
                  refine dr_one (i := 3) (by kernel_rfl) ?_
                  refine po_callR ha199 rfl rfl rfl rfl (op_call ha199 rfl cb22 rfl) (c_laws_toRecord _ aR ) ?_
                  rintro v202 w203 he204 rfl a205 ha205; clear ha199 a199
                  have hs206 := hs200.trans' he204
                  have hx207 := hx201.trans' he204
                  have hzhx207 := he204.size
                  replace ho198 := ho198.ext he204
                  refine ⟨hs206, ?_⟩
                  refine dr_one (i := 4) (by kernel_rfl) ?_
                  refine po_callR ha205 rfl rfl rfl rfl (op_call ha205 rfl cb23 rfl) (c_impl_ReplaceRecord _ v195 ((aList)) ((aR)) (ho198.rds pos_shRec) (by first | assumption | omega | (simp; omega) | (simp [mkN_length]; omega)) (by first | assumption | omega | (simp; omega) | (simp [mkN_length]; omega)) (by first | assumption | omega | (simp; omega) | (simp [mkN_length]; omega))) ?_
                  rintro v208 w209 he210 ⟨v211, rfl, ho212⟩ a213 ha213; clear ha205 a205
                  have hs214 := hs206.trans' he210
                  have hx215 := hx207.trans' he210
                  have hzhx215 := he210.size
                  replace ho198 := ho198.ext he210
                  refine ⟨hs214, ?_⟩
                  refine dr_val (i := 5) ha213 rfl (by kernel_rfl) (by kernel_rfl) (by kernel_rfl) rfl rfl rfl hs214 (fun w' hw' => op_move ha213 rfl rfl) ?_
                  intro a216 ha216; clear ha213 a213
                  refine dr_val (i := 6) ha216 rfl (by kernel_rfl) (by kernel_rfl) (by kernel_rfl) rfl rfl rfl hs214 (fun w' hw' => op_extract ha216 rfl rfl rfl) ?_
                  intro a217 ha217; clear ha216 a216
                  refine dr_val (i := 7) ha217 rfl (by kernel_rfl) (by kernel_rfl) (by kernel_rfl) rfl rfl rfl hs214 (fun w' hw' => op_extract ha217 rfl rfl rfl) ?_
                  intro a218 ha218; clear ha217 a217
                  refine dr_val (i := 8) ha218 rfl (by kernel_rfl) (by kernel_rfl) (by kernel_rfl) rfl rfl rfl hs214 (fun w' hw' => op_assign ha218 rfl rfl) ?_
                  intro a219 ha219; clear ha218 a218
                  refine dr_val (i := 9) ha219 rfl (by kernel_rfl) (by kernel_rfl) (by kernel_rfl) rfl rfl rfl hs214 (fun w' hw' => op_assign ha219 rfl rfl) ?_
                  intro a220 ha220; clear ha219 a219
                  refine dr_end (by kernel_rfl) ?_
                  replace hb4 := hb4.ext hs214
                  replace ho43 := ho43.ext hs214
                  replace ho57 := ho57.ext hs214
                  replace ho113 := ho113.ext hs214
                  replace ho129 := ho129.ext hs214
                  replace ho168 := ho168.ext hs214
                  refine then_n ?_
                  refine wp_seq ?_
                  refine wp_seq ?_
                  refine wp_region_lit ?_
                  refine wl_val ha220 rfl rfl rfl (op_move ha220 rfl rfl) ?_
                  intro a221 ha221; clear ha220 a220
                  refine wl_val ha221 rfl rfl rfl (op_move ha221 rfl rfl) ?_
                  intro a222 ha222; clear ha221 a221
                  refine wl_callR ha222 rfl rfl rfl (op_call ha222 rfl cb17 rfl) (c_laws_eqRecordS _ v211 ((replL ((aList)) ((aR)))) v56 ((replL ((aList)) ((aR)))) (ho212.rds pos_shRec) (ho57.rds pos_shRec)) ?_
                  rintro v223 w224 he225 rfl a226 ha226; clear ha222 a222
                  have hx227 := hx215.trans' he225
                  have hzhx227 := he225.size
                  replace hb4 := hb4.ext he225
                  replace ho43 := ho43.ext he225
                  replace ho57 := ho57.ext he225
                  replace ho113 := ho113.ext he225
                  replace ho129 := ho129.ext he225
                  replace ho168 := ho168.ext he225
                  replace ho198 := ho198.ext he225
                  replace ho212 := ho212.ext he225
                  refine wl_val ha226 rfl rfl rfl (op_not ha226 rfl rfl) ?_
                  intro a228 ha228; clear ha226 a226
                  refine wl_val ha228 rfl rfl rfl (op_move ha228 rfl rfl) ?_
                  intro a229 ha229; clear ha228 a228
                  rw [c102] at ha229
                  refine wl_val ha229 rfl rfl rfl (op_move ha229 rfl rfl) ?_
                  intro a230 ha230; clear ha229 a229
                  refine wl_val ha230 rfl rfl rfl (op_move ha230 rfl rfl) ?_
                  intro a231 ha231; clear ha230 a230
                  refine wl_val ha231 rfl rfl rfl ((op_neq ha231 rfl rfl rfl).to (congrArg Value.bool decide_not)) ?_
                  intro a232 ha232; clear ha231 a231
                  refine wl_val ha232 rfl rfl rfl (op_pick_f ha232 rfl rfl rfl) ?_
                  intro a233 ha233; clear ha232 a232
                  refine wpList_nil ?_
                  refine then_n ?_
                  rw [decide_eq_true c107] at ha233
                  refine cond_f ha233 rfl ?_
                  refine wp_skip ?_
                  refine then_n ?_
                  refine wp_seq ?_
                  refine wp_region_lit ?_
                  refine wl_val ha233 rfl rfl rfl (op_assign ha233 rfl rfl) ?_
                  intro a234 ha234; clear ha233 a233
                  refine wpList_nil ?_
                  refine then_n ?_
                  refine wp_seq ?_
                  refine wp_region_lit ?_
                  refine wl_val ha234 rfl rfl rfl (op_move ha234 rfl rfl) ?_
                  intro a235 ha235; clear ha234 a234
                  refine wl_val ha235 rfl rfl rfl (op_move ha235 rfl rfl) ?_
                  intro a236 ha236; clear ha235 a235
                  refine wl_callR ha236 rfl rfl rfl (op_call ha236 rfl cb25 rfl) (c_laws_heldRecordS _ v84 ((mkN mkR 2 ((replL ((aList)) ((aR)))).length ((1 : Int)))) (1 : Int) (ho168.rds pos_shRec) (by first | assumption | omega | (simp; omega) | (simp [mkN_length]; omega)) (by first | assumption | omega | (simp; omega) | (simp [mkN_length]; omega)) (by first | assumption | omega | (simp; omega) | (simp [mkN_length]; omega))) ?_
                  rintro v237 w238 he239 rfl a240 ha240; clear ha236 a236
                  have hx241 := hx227.trans' he239
                  have hzhx241 := he239.size
                  replace hb4 := hb4.ext he239
                  replace ho43 := ho43.ext he239
                  replace ho57 := ho57.ext he239
                  replace ho113 := ho113.ext he239
                  replace ho129 := ho129.ext he239
                  replace ho168 := ho168.ext he239
                  replace ho198 := ho198.ext he239
                  replace ho212 := ho212.ext he239
                  refine wl_val ha240 rfl rfl rfl (op_assign ha240 rfl rfl) ?_
                  intro a242 ha242; clear ha240 a240
                  refine wpList_nil ?_
                  refine then_n ?_
                  refine wp_seq ?_
                  refine wp_seq ?_
                  refine wp_region_lit ?_
                  refine wl_val ha242 rfl rfl rfl (op_move ha242 rfl rfl) ?_
                  intro a243 ha243; clear ha242 a242
                  refine wl_val ha243 rfl rfl rfl (op_lss ha243 rfl rfl rfl) ?_
                  intro a244 ha244; clear ha243 a243
                  refine wpList_nil ?_
                  refine then_n ?_
                  rw [decide_eq_false c183] at ha244
                  refine cond_f ha244 rfl ?_
                  refine wp_skip ?_
                  refine then_n ?_
                  refine wp_seq ?_
                  refine wp_seq ?_
                  refine wp_region_lit ?_
                  refine wl_val ha244 rfl rfl rfl (op_move ha244 rfl rfl) ?_
                  intro a245 ha245; clear ha244 a244
                  refine wl_val ha245 rfl rfl rfl (op_move ha245 rfl rfl) ?_
                  intro a246 ha246; clear ha245 a245
                  refine wl_val ha246 rfl rfl rfl ((op_neq ha246 rfl rfl rfl).to (congrArg Value.bool decide_not)) ?_
                  intro a247 ha247; clear ha246 a246
                  refine wpList_nil ?_
                  refine then_n ?_
                  rw [decide_eq_true c188] at ha247
                  refine cond_f ha247 rfl ?_
                  refine wp_skip ?_
                  refine then_n ?_
                  refine wp_seq ?_
                  refine wp_region_lit ?_
                  refine wl_val ha247 rfl rfl rfl (op_assign ha247 rfl rfl) ?_
                  intro a248 ha248; clear ha247 a247
                  refine wpList_nil ?_
                  refine then_n ?_
                  refine wp_ret ?_
                  refine ret1 ha248 rfl rfl ?_
                  clear ha248 a248
                  exact ret_mk hx241 (congrArg Value.bool (by first | rfl | omega | (simp [eqL, held_mkN okR_mk, held_mkN okI_mk, mkN_length] at c188; done) | (simp [eqL, held_mkN okR_mk, held_mkN okI_mk, mkN_length] at c183; done) | (simp [eqL, held_mkN okR_mk, held_mkN okI_mk, mkN_length] at c136; done) | (simp [eqL, held_mkN okR_mk, held_mkN okI_mk, mkN_length] at c122; done) | (simp [eqL, held_mkN okR_mk, held_mkN okI_mk, mkN_length] at c107; done) | (simp [eqL, held_mkN okR_mk, held_mkN okI_mk, mkN_length] at c102; done) | (simp [eqL, held_mkN okR_mk, held_mkN okI_mk, mkN_length] at c32; done) | (simp [eqL, held_mkN okR_mk, held_mkN okI_mk, mkN_length] at c20; done) | (simp [eqL, held_mkN okR_mk, held_mkN okI_mk, mkN_length] at c188; omega) | (simp [eqL, held_mkN okR_mk, held_mkN okI_mk, mkN_length] at c183; omega) | (simp [eqL, held_mkN okR_mk, held_mkN okI_mk, mkN_length] at c136; omega)))
                ·
                  rw [decide_eq_false c188] at ha187
                  refine cond_t ha187 rfl ?_
                  refine wp_seq ?_
                  refine wp_region_lit ?_
                  refine wl_val ha187 rfl rfl rfl (op_assign ha187 rfl rfl) ?_
                  intro a249 ha249; clear ha187 a187
                  refine wpList_nil ?_
                  refine then_n ?_
                  refine wp_ret ?_
                  refine then_r ?_
                  refine ret1 ha249 rfl rfl ?_
                  clear ha249 a249
                  exact ret_mk hx179 (congrArg Value.bool (by first | rfl | omega | (simp [eqL, held_mkN okR_mk, held_mkN okI_mk, mkN_length] at c188; done) | (simp [eqL, held_mkN okR_mk, held_mkN okI_mk, mkN_length] at c183; done) | (simp [eqL, held_mkN okR_mk, held_mkN okI_mk, mkN_length] at c136; done) | (simp [eqL, held_mkN okR_mk, held_mkN okI_mk, mkN_length] at c122; done) | (simp [eqL, held_mkN okR_mk, held_mkN okI_mk, mkN_length] at c107; done) | (simp [eqL, held_mkN okR_mk, held_mkN okI_mk, mkN_length] at c102; done) | (simp [eqL, held_mkN okR_mk, held_mkN okI_mk, mkN_length] at c32; done) | (simp [eqL, held_mkN okR_mk, held_mkN okI_mk, mkN_length] at c20; done) | (simp [eqL, held_mkN okR_mk, held_mkN okI_mk, mkN_length] at c188; omega) | (simp [eqL, held_mkN okR_mk, held_mkN okI_mk, mkN_length] at c183; omega) | (simp [eqL, held_mkN okR_mk, held_mkN okI_mk, mkN_length] at c136; omega)))
          ·
            rw [c122] at ha121
            refine cond_t ha121 rfl ?_
            refine wp_seq ?_
            refine wp_region_lit ?_
            refine wl_val ha121 rfl rfl rfl (op_assign ha121 rfl rfl) ?_
            intro a250 ha250; clear ha121 a121
            refine wpList_nil ?_
            refine then_n ?_
            refine wp_ret ?_
            refine then_r ?_
            refine ret1 ha250 rfl rfl ?_
            clear ha250 a250
            exact ret_mk hx120 (congrArg Value.bool (by first | rfl | omega | (simp [eqL, held_mkN okR_mk, held_mkN okI_mk, mkN_length] at c122; done) | (simp [eqL, held_mkN okR_mk, held_mkN okI_mk, mkN_length] at c107; done) | (simp [eqL, held_mkN okR_mk, held_mkN okI_mk, mkN_length] at c102; done) | (simp [eqL, held_mkN okR_mk, held_mkN okI_mk, mkN_length] at c32; done) | (simp [eqL, held_mkN okR_mk, held_mkN okI_mk, mkN_length] at c20; done) | (simp [eqL, held_mkN okR_mk, held_mkN okI_mk, mkN_length] at c122; omega) | (simp [eqL, held_mkN okR_mk, held_mkN okI_mk, mkN_length] at c107; omega) | (simp [eqL, held_mkN okR_mk, held_mkN okI_mk, mkN_length] at c102; omega)))
        ·
          rw [decide_eq_false c107] at ha106
          refine cond_t ha106 rfl ?_
          refine wp_seq ?_
          refine wp_region_lit ?_
          refine wl_val ha106 rfl rfl rfl (op_assign ha106 rfl rfl) ?_
          intro a251 ha251; clear ha106 a106
          refine wpList_nil ?_
          refine then_n ?_
          refine wp_ret ?_
          refine then_r ?_
          refine ret1 ha251 rfl rfl ?_
          clear ha251 a251
          exact ret_mk hx99 (congrArg Value.bool (by first | rfl | omega | (simp [eqL, held_mkN okR_mk, held_mkN okI_mk, mkN_length] at c107; done) | (simp [eqL, held_mkN okR_mk, held_mkN okI_mk, mkN_length] at c102; done) | (simp [eqL, held_mkN okR_mk, held_mkN okI_mk, mkN_length] at c32; done) | (simp [eqL, held_mkN okR_mk, held_mkN okI_mk, mkN_length] at c20; done) | (simp [eqL, held_mkN okR_mk, held_mkN okI_mk, mkN_length] at c107; omega) | (simp [eqL, held_mkN okR_mk, held_mkN okI_mk, mkN_length] at c102; omega) | (simp [eqL, held_mkN okR_mk, held_mkN okI_mk, mkN_length] at c32; omega)))
      ·
        rw [c102] at ha101
        refine wl_skip ha101 rfl rfl rfl ?_
        intro a252 ha252; clear ha101 a101
        refine wl_skip ha252 rfl rfl rfl ?_
        intro a253 ha253; clear ha252 a252
        refine wl_skip ha253 rfl rfl rfl ?_
        intro a254 ha254; clear ha253 a253
        refine wl_val ha254 rfl rfl rfl (op_pick_t ha254 rfl rfl rfl) ?_
        intro a255 ha255; clear ha254 a254
        refine wpList_nil ?_
        refine then_n ?_
        refine cond_t ha255 rfl ?_
        refine wp_seq ?_
        refine wp_region_lit ?_
        refine wl_val ha255 rfl rfl rfl (op_assign ha255 rfl rfl) ?_
        intro a256 ha256; clear ha255 a255
        refine wpList_nil ?_
        refine then_n ?_
        refine wp_ret ?_
        refine then_r ?_
        refine ret1 ha256 rfl rfl ?_
        clear ha256 a256
        exact ret_mk hx99 (congrArg Value.bool (by first | rfl | omega | (simp [eqL, held_mkN okR_mk, held_mkN okI_mk, mkN_length] at c102; done) | (simp [eqL, held_mkN okR_mk, held_mkN okI_mk, mkN_length] at c32; done) | (simp [eqL, held_mkN okR_mk, held_mkN okI_mk, mkN_length] at c20; done) | (simp [eqL, held_mkN okR_mk, held_mkN okI_mk, mkN_length] at c102; omega) | (simp [eqL, held_mkN okR_mk, held_mkN okI_mk, mkN_length] at c32; omega) | (simp [eqL, held_mkN okR_mk, held_mkN okI_mk, mkN_length] at c20; omega)))


end Go.Proofs.Ytkdnclpgijkceaa
