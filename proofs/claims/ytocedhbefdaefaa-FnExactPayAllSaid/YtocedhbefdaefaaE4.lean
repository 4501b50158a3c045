/- The laws Debtors and PayAll, walked. -/
import Derived.Test.YtocedhbefdaefaaW6
import Derived.Test.YtocedhbefdaefaaL2
namespace Go.Proofs.Ytocedhbefdaefaa
open Go Go.RowKit

theorem c_laws_FnExactDebtors (w0 : World) (v_aList : Value) (aList : List (Int × Int × Str × Int)) {S_aList : Nat → Prop} (h_aList : Rds shEnt S_aList w0 v_aList aList) :
    Calls Try.prog 12 #[v_aList] w0 (Ret w0 (fun v _ => v = .bool (true))) := by
  refine enter (N := 133) Try.func12 rfl rfl rfl ?_
  intro a0 ha0
  have hx0 := Ext.rfl' w0
  have hl_aList := h_aList.length_le
  have hcl := costL_len costEnt aList
  have hrl := dbtN_len aList
  have hdc : (dbtC aList).length = (dbtN aList).length := by simp [dbtC]
  have hr1 : (if dbB aList then dbtN aList else []).length ≤ aList.length := by split <;> first | omega | simp | (simp; omega)
  have hr2 : (if dbB aList then dbtC aList else []).length ≤ aList.length := by split <;> first | omega | simp | (simp; omega)
  refine wp_seq ?_
  refine wp_region_lit ?_
  refine wl_val ha0 rfl rfl rfl (op_assign ha0 rfl rfl) ?_
  intro a1 ha1; clear ha0 a0
  refine wpList_nil ?_
  refine then_n ?_
  refine wp_seq ?_
  refine wp_region_lit ?_
  refine wl_val ha1 rfl rfl rfl (op_assign ha1 rfl rfl) ?_
  intro a2 ha2; clear ha1 a1
  refine wpList_nil ?_
  refine then_n ?_
  refine wp_seq ?_
  refine wp_region_lit ?_
  refine wl_val ha2 rfl rfl rfl (op_move ha2 rfl rfl) ?_
  intro a3 ha3; clear ha2 a2
  refine wl_val ha3 rfl rfl rfl (op_move ha3 rfl rfl) ?_
  intro a4 ha4; clear ha3 a3
  refine wl_callR ha4 rfl rfl rfl (op_call ha4 rfl cb15 rfl) (c_laws_szEntryS _ v_aList aList (1048576 : Int) (h_aList.ext pos_shEnt hx0) (by first | assumption | omega | (simp; omega)) (by first | assumption | omega | (simp; omega))) ?_
  rintro v5 w6 he7 rfl a8 ha8; clear ha4 a4
  have hx9 := hx0.trans' he7
  have hzhx9 := he7.size
  refine wl_val ha8 rfl rfl rfl (op_assign ha8 rfl rfl) ?_
  intro a10 ha10; clear ha8 a8
  refine wpList_nil ?_
  refine then_n ?_
  refine wp_seq ?_
  refine wp_seq ?_
  refine wp_region_lit ?_
  refine wl_val ha10 rfl rfl rfl (op_move ha10 rfl rfl) ?_
  intro a11 ha11; clear ha10 a10
  refine wl_val ha11 rfl rfl rfl (op_lss ha11 rfl rfl rfl) ?_
  intro a12 ha12; clear ha11 a11
  refine wpList_nil ?_
  refine then_n ?_
  by_cases c13 : (szR (1048576 : Int) (costL costEnt aList) : Int) < (0 : Int)
  ·
    rw [decide_eq_true c13] at ha12
    refine cond_t ha12 rfl ?_
    refine wp_seq ?_
    refine wp_region_lit ?_
    refine wl_val ha12 rfl rfl rfl (op_assign ha12 rfl rfl) ?_
    intro a14 ha14; clear ha12 a12
    refine wpList_nil ?_
    refine then_n ?_
    refine wp_ret ?_
    refine then_r ?_
    refine ret1 ha14 rfl rfl ?_
    clear ha14 a14
    exact ret_mk hx9 (congrArg Value.bool (by first | rfl | omega))
  ·
    rw [decide_eq_false c13] at ha12
    have hzc13 := szR_ok c13
    refine cond_f ha12 rfl ?_
    refine wp_skip ?_
    refine then_n ?_
    refine wp_seq ?_
    refine wp_region_lit ?_
    refine wl_val ha12 rfl rfl rfl (op_move ha12 rfl rfl) ?_
    intro a15 ha15; clear ha12 a12
    refine wl_callR ha15 rfl rfl rfl (op_call ha15 rfl cb17 rfl) (c_laws_toEntryS _ v_aList aList (h_aList.ext pos_shEnt hx9) (by first | assumption | omega | (simp; omega))) ?_
    rintro v16 w17 he18 ho19 a20 ha20; clear ha15 a15
    have hx21 := hx9.trans' he18
    have hzhx21 := he18.size
    refine wl_callR ha20 rfl rfl rfl (op_call ha20 rfl cb43 rfl) (c_spec_Debtors _ v16 ((aList)) (ho19.rds pos_shEnt) (by first | assumption | omega | (simp; omega))) ?_
    rintro v22 w23 he24 ⟨v25, v27, rfl, ho26, ho28⟩ a29 ha29; clear ha20 a20
    have hx30 := hx21.trans' he24
    have hzhx30 := he24.size
    replace ho19 := ho19.ext he24
    refine wl_val ha29 rfl rfl rfl (op_move ha29 rfl rfl) ?_
    intro a31 ha31; clear ha29 a29
    refine wl_val ha31 rfl rfl rfl (op_extract ha31 rfl rfl rfl) ?_
    intro a32 ha32; clear ha31 a31
    refine wl_val ha32 rfl rfl rfl (op_extract ha32 rfl rfl rfl) ?_
    intro a33 ha33; clear ha32 a32
    refine wl_val ha33 rfl rfl rfl (op_extract ha33 rfl rfl rfl) ?_
    intro a34 ha34; clear ha33 a33
    refine wl_val ha34 rfl rfl rfl (op_assign ha34 rfl rfl) ?_
    intro a35 ha35; clear ha34 a34
    refine wl_val ha35 rfl rfl rfl (op_assign ha35 rfl rfl) ?_
    intro a36 ha36; clear ha35 a35
    refine wl_val ha36 rfl rfl rfl (op_assign ha36 rfl rfl) ?_
    intro a37 ha37; clear ha36 a36
    refine wpList_nil ?_
    refine then_n ?_
    refine wp_seq ?_
    refine wp_region_lit ?_
    refine wl_val ha37 rfl rfl rfl (op_move ha37 rfl rfl) ?_
    intro a38 ha38; clear ha37 a37
    refine wl_callR ha38 rfl rfl rfl (op_call ha38 rfl cb17 rfl) (c_laws_toEntryS _ v_aList aList (h_aList.ext pos_shEnt hx30) (by first | assumption | omega | (simp; omega))) ?_
    rintro v39 w40 he41 ho42 a43 ha43; clear ha38 a38
    have hx44 := hx30.trans' he41
    have hzhx44 := he41.size
    replace ho19 := ho19.ext he41
    replace ho26 := ho26.ext he41
    replace ho28 := ho28.ext he41
    refine wl_val ha43 rfl rfl rfl (op_assign ha43 rfl rfl) ?_
    intro a45 ha45; clear ha43 a43
    refine wpList_nil ?_
    refine then_n ?_
    refine wp_seq ?_
    refine wp_region_lit ?_
    refine wl_val ha45 rfl rfl rfl (op_move ha45 rfl rfl) ?_
    intro a46 ha46; clear ha45 a45
    refine wl_callR ha46 rfl rfl rfl (op_call ha46 rfl cb44 rfl) (c_impl_Debtors _ v39 ((aList)) (ho42.rds pos_shEnt) (by first | assumption | omega | (simp; omega))) ?_
    rintro v47 w48 he49 ⟨v50, v52, rfl, ho51, ho53⟩ a54 ha54; clear ha46 a46
    have hx55 := hx44.trans' he49
    have hzhx55 := he49.size
    replace ho19 := ho19.ext he49
    replace ho26 := ho26.ext he49
    replace ho28 := ho28.ext he49
    replace ho42 := ho42.ext he49
    refine wl_val ha54 rfl rfl rfl (op_move ha54 rfl rfl) ?_
    intro a56 ha56; clear ha54 a54
    refine wl_val ha56 rfl rfl rfl (op_extract ha56 rfl rfl rfl) ?_
    intro a57 ha57; clear ha56 a56
    refine wl_val ha57 rfl rfl rfl (op_extract ha57 rfl rfl rfl) ?_
    intro a58 ha58; clear ha57 a57
    refine wl_val ha58 rfl rfl rfl (op_extract ha58 rfl rfl rfl) ?_
    intro a59 ha59; clear ha58 a58
    refine wl_val ha59 rfl rfl rfl (op_assign ha59 rfl rfl) ?_
    intro a60 ha60; clear ha59 a59
    refine wl_val ha60 rfl rfl rfl (op_assign ha60 rfl rfl) ?_
    intro a61 ha61; clear ha60 a60
    refine wl_val ha61 rfl rfl rfl (op_assign ha61 rfl rfl) ?_
    intro a62 ha62; clear ha61 a61
    refine wpList_nil ?_
    refine then_n ?_
    refine wp_seq ?_
    refine wp_seq ?_
    refine wp_region_lit ?_
    refine wl_val ha62 rfl rfl rfl (op_move ha62 rfl rfl) ?_
    intro a63 ha63; clear ha62 a62
    refine wl_val ha63 rfl rfl rfl (op_move ha63 rfl rfl) ?_
    intro a64 ha64; clear ha63 a63
    refine wl_callR ha64 rfl rfl rfl (op_call ha64 rfl cb45 rfl) (c_laws_eqStringS _ v50 ((if dbB ((aList)) then dbtN ((aList)) else [])) v25 ((if dbB ((aList)) then dbtN ((aList)) else [])) (ho51.rds pos_shStr) (ho26.rds pos_shStr)) ?_
    rintro v65 w66 he67 rfl a68 ha68; clear ha64 a64
    have hx69 := hx55.trans' he67
    have hzhx69 := he67.size
    replace ho19 := ho19.ext he67
    replace ho26 := ho26.ext he67
    replace ho28 := ho28.ext he67
    replace ho42 := ho42.ext he67
    replace ho51 := ho51.ext he67
    replace ho53 := ho53.ext he67
    refine wl_val ha68 rfl rfl rfl (op_not ha68 rfl rfl) ?_
    intro a70 ha70; clear ha68 a68
    refine wl_val ha70 rfl rfl rfl (op_move ha70 rfl rfl) ?_
    intro a71 ha71; clear ha70 a70
    rcases Bool.eq_false_or_eq_true (eqL ((if dbB ((aList)) then dbtN ((aList)) else [])) ((if dbB ((aList)) then dbtN ((aList)) else []))) with c72 | c72
    ·
      rw [c72] at ha71
      refine wl_val ha71 rfl rfl rfl (op_move ha71 rfl rfl) ?_
      intro a73 ha73; clear ha71 a71
      refine wl_val ha73 rfl rfl rfl (op_move ha73 rfl rfl) ?_
      intro a74 ha74; clear ha73 a73
      refine wl_callR ha74 rfl rfl rfl (op_call ha74 rfl cb36 rfl) (c_laws_eqInt64S _ v52 ((if dbB ((aList)) then dbtC ((aList)) else [])) v27 ((if dbB ((aList)) then dbtC ((aList)) else [])) (ho53.rds pos_shI64) (ho28.rds pos_shI64)) ?_
      rintro v75 w76 he77 rfl a78 ha78; clear ha74 a74
      have hx79 := hx69.trans' he77
      have hzhx79 := he77.size
      replace ho19 := ho19.ext he77
      replace ho26 := ho26.ext he77
      replace ho28 := ho28.ext he77
      replace ho42 := ho42.ext he77
      replace ho51 := ho51.ext he77
      replace ho53 := ho53.ext he77
      refine wl_val ha78 rfl rfl rfl (op_not ha78 rfl rfl) ?_
      intro a80 ha80; clear ha78 a78
      refine wl_val ha80 rfl rfl rfl (op_pick_f ha80 rfl rfl rfl) ?_
      intro a81 ha81; clear ha80 a80
      refine wl_val ha81 rfl rfl rfl (op_move ha81 rfl rfl) ?_
      intro a82 ha82; clear ha81 a81
      rcases Bool.eq_false_or_eq_true (eqL ((if dbB ((aList)) then dbtC ((aList)) else [])) ((if dbB ((aList)) then dbtC ((aList)) else []))) with c83 | c83
      ·
        rw [c83] at ha82
        refine wl_val ha82 rfl rfl rfl (op_move ha82 rfl rfl) ?_
        intro a84 ha84; clear ha82 a82
        refine wl_val ha84 rfl rfl rfl (op_move ha84 rfl rfl) ?_
        intro a85 ha85; clear ha84 a84
        refine wl_val ha85 rfl rfl rfl ((op_neq ha85 rfl rfl rfl).to (congrArg Value.bool decide_not)) ?_
        intro a86 ha86; clear ha85 a85
        refine wl_val ha86 rfl rfl rfl (op_pick_f ha86 rfl rfl rfl) ?_
        intro a87 ha87; clear ha86 a86
        refine wpList_nil ?_
        refine then_n ?_
        by_cases c88 : (if dbB ((aList)) then 0 else 1 : Int) = (if dbB ((aList)) then 0 else 1 : Int)
        ·
          rw [decide_eq_true c88] at ha87
          refine cond_f ha87 rfl ?_
          refine wp_skip ?_
          refine then_n ?_
          refine wp_seq ?_
          refine wp_seq ?_
          refine wp_region_lit ?_
          refine wl_val ha87 rfl rfl rfl (op_move ha87 rfl rfl) ?_
          intro a89 ha89; clear ha87 a87
          refine wl_val ha89 rfl rfl rfl (op_move ha89 rfl rfl) ?_
          intro a90 ha90; clear ha89 a89
          refine wl_callR ha90 rfl rfl rfl (op_call ha90 rfl cb17 rfl) (c_laws_toEntryS _ v_aList aList (h_aList.ext pos_shEnt hx79) (by first | assumption | omega | (simp; omega))) ?_
          rintro v91 w92 he93 ho94 a95 ha95; clear ha90 a90
          have hx96 := hx79.trans' he93
          have hzhx96 := he93.size
          replace ho19 := ho19.ext he93
          replace ho26 := ho26.ext he93
          replace ho28 := ho28.ext he93
          replace ho42 := ho42.ext he93
          replace ho51 := ho51.ext he93
          replace ho53 := ho53.ext he93
          refine wl_callR ha95 rfl rfl rfl (op_call ha95 rfl cb19 rfl) (c_laws_eqEntryS _ v39 ((aList)) v91 ((aList)) (ho42.rds pos_shEnt) (ho94.rds pos_shEnt)) ?_
          rintro v97 w98 he99 rfl a100 ha100; clear ha95 a95
          have hx101 := hx96.trans' he99
          have hzhx101 := he99.size
          replace ho19 := ho19.ext he99
          replace ho26 := ho26.ext he99
          replace ho28 := ho28.ext he99
          replace ho42 := ho42.ext he99
          replace ho51 := ho51.ext he99
          replace ho53 := ho53.ext he99
          replace ho94 := ho94.ext he99
          refine wl_val ha100 rfl rfl rfl (op_not ha100 rfl rfl) ?_
          intro a102 ha102; clear ha100 a100
          refine wpList_nil ?_
          refine then_n ?_
          rcases Bool.eq_false_or_eq_true (eqL ((aList)) ((aList))) with c103 | c103
          ·
            rw [c103] at ha102
            refine cond_f ha102 rfl ?_
            refine wp_skip ?_
            refine then_n ?_
            refine wp_seq ?_
            refine wp_region_lit ?_
            refine wl_val ha102 rfl rfl rfl (op_assign ha102 rfl rfl) ?_
            intro a104 ha104; clear ha102 a102
            refine wpList_nil ?_
            refine then_n ?_
            refine wp_seq ?_
            refine wp_region_lit ?_
            refine wl_val ha104 rfl rfl rfl (op_move ha104 rfl rfl) ?_
            intro a105 ha105; clear ha104 a104
            refine wl_val ha105 rfl rfl rfl (op_move ha105 rfl rfl) ?_
            intro a106 ha106; clear ha105 a105
            refine wl_callS ha106 rfl rfl rfl (op_call ha106 rfl cb32 rfl) (c_laws_markEntryS _ v39 ((aList)) (1 : Int) ho42 (by first | assumption | omega | (simp; omega)) (by first | assumption | omega | (simp; omega)) (by first | assumption | omega | (simp; omega))) ?_
            rintro v107 w108 he109 ⟨rfl, ho110⟩ a111 ha111; clear ha106 a106
            have hx112 := hx101.stp he109 (by intro q hq; have hq0 := ho42.lt q hq; omega)
            have hzhx112 := he109.size
            replace ho19 : Own shEnt 41 w6.heap.size w6.heap.size w17.heap.size w108 v16 ((aList)) := by first | exact ho19.stp he109 (by intro q hq; have hq0 := ho42.lt q hq; omega)
            replace ho26 : Own shStr 9 w17.heap.size w17.heap.size w23.heap.size w108 v25 ((if dbB ((aList)) then dbtN ((aList)) else [])) := by first | exact ho26.stp he109 (by intro q hq; have hq0 := ho42.lt q hq; omega) | exact ho26.stpF flat_shStr he109 (ho26.ne ho42 rfl)
            replace ho28 : Own shI64 2 w17.heap.size w17.heap.size w23.heap.size w108 v27 ((if dbB ((aList)) then dbtC ((aList)) else [])) := by first | exact ho28.stp he109 (by intro q hq; have hq0 := ho42.lt q hq; omega) | exact ho28.stpF flat_shI64 he109 (ho28.ne ho42 rfl)
            replace ho51 : Own shStr 9 w40.heap.size w40.heap.size w48.heap.size w108 v50 ((if dbB ((aList)) then dbtN ((aList)) else [])) := by first | exact ho51.stp he109 (by intro q hq; have hq0 := ho42.lt q hq; omega) | exact ho51.stpF flat_shStr he109 (ho51.ne ho42 rfl)
            replace ho53 : Own shI64 2 w40.heap.size w40.heap.size w48.heap.size w108 v52 ((if dbB ((aList)) then dbtC ((aList)) else [])) := by first | exact ho53.stp he109 (by intro q hq; have hq0 := ho42.lt q hq; omega) | exact ho53.stpF flat_shI64 he109 (ho53.ne ho42 rfl)
            replace ho94 : Own shEnt 41 w76.heap.size w76.heap.size w92.heap.size w108 v91 ((aList)) := by first | exact ho94.stp he109 (by intro q hq; have hq0 := ho42.lt q hq; omega)
            clear ho42
            refine wl_val ha111 rfl rfl rfl (op_assign ha111 rfl rfl) ?_
            intro a113 ha113; clear ha111 a111
            refine wpList_nil ?_
            refine then_n ?_
            refine wp_seq ?_
            refine wp_seq ?_
            refine wp_region_lit ?_
            refine wl_val ha113 rfl rfl rfl (op_move ha113 rfl rfl) ?_
            intro a114 ha114; clear ha113 a113
            refine wl_val ha114 rfl rfl rfl (op_lss ha114 rfl rfl rfl) ?_
            intro a115 ha115; clear ha114 a114
            refine wl_val ha115 rfl rfl rfl (op_move ha115 rfl rfl) ?_
            intro a116 ha116; clear ha115 a115
            by_cases c117 : (((1 : Int)) + 4 * (((aList)).length : Nat) : Int) < (0 : Int)
            ·
              rw [decide_eq_true c117] at ha116
              refine wl_skip ha116 rfl rfl rfl ?_
              intro a118 ha118; clear ha116 a116
              refine wl_skip ha118 rfl rfl rfl ?_
              intro a119 ha119; clear ha118 a118
              refine wl_skip ha119 rfl rfl rfl ?_
              intro a120 ha120; clear ha119 a119
              refine wl_skip ha120 rfl rfl rfl ?_
              intro a121 ha121; clear ha120 a120
              refine wl_val ha121 rfl rfl rfl (op_pick_t ha121 rfl rfl rfl) ?_
              intro a122 ha122; clear ha121 a121
              refine wl_val ha122 rfl rfl rfl (op_move ha122 rfl rfl) ?_
              intro a123 ha123; clear ha122 a122
              refine wl_skip ha123 rfl rfl rfl ?_
              intro a124 ha124; clear ha123 a123
              refine wl_skip ha124 rfl rfl rfl ?_
              intro a125 ha125; clear ha124 a124
              refine wl_skip ha125 rfl rfl rfl ?_
              intro a126 ha126; clear ha125 a125
              refine wl_skip ha126 rfl rfl rfl ?_
              intro a127 ha127; clear ha126 a126
              refine wl_val ha127 rfl rfl rfl (op_pick_t ha127 rfl rfl rfl) ?_
              intro a128 ha128; clear ha127 a127
              refine wl_val ha128 rfl rfl rfl (op_move ha128 rfl rfl) ?_
              intro a129 ha129; clear ha128 a128
              refine wl_skip ha129 rfl rfl rfl ?_
              intro a130 ha130; clear ha129 a129
              refine wl_skip ha130 rfl rfl rfl ?_
              intro a131 ha131; clear ha130 a130
              refine wl_skip ha131 rfl rfl rfl ?_
              intro a132 ha132; clear ha131 a131
              refine wl_val ha132 rfl rfl rfl (op_pick_t ha132 rfl rfl rfl) ?_
              intro a133 ha133; clear ha132 a132
              refine wpList_nil ?_
              refine then_n ?_
              refine cond_t ha133 rfl ?_
              refine wp_seq ?_
              refine wp_region_lit ?_
              refine wl_val ha133 rfl rfl rfl (op_assign ha133 rfl rfl) ?_
              intro a134 ha134; clear ha133 a133
              refine wpList_nil ?_
              refine then_n ?_
              refine wp_ret ?_
              refine then_r ?_
              refine ret1 ha134 rfl rfl ?_
              clear ha134 a134
              exact ret_mk hx112 (congrArg Value.bool (by first | rfl | omega | (exact absurd rfl c13)))
            ·
              rw [decide_eq_false c117] at ha116
              refine wl_val ha116 rfl rfl rfl (op_move ha116 rfl rfl) ?_
              intro a135 ha135; clear ha116 a116
              refine wl_val ha135 rfl rfl rfl (op_move ha135 rfl rfl) ?_
              intro a136 ha136; clear ha135 a135
              refine wl_callR ha136 rfl rfl rfl (op_call ha136 rfl cb45 rfl) (c_laws_eqStringS _ v50 ((if dbB ((aList)) then dbtN ((aList)) else [])) v25 ((if dbB ((aList)) then dbtN ((aList)) else [])) (ho51.rds pos_shStr) (ho26.rds pos_shStr)) ?_
              rintro v137 w138 he139 rfl a140 ha140; clear ha136 a136
              have hx141 := hx112.trans' he139
              have hzhx141 := he139.size
              replace ho19 := ho19.ext he139
              replace ho26 := ho26.ext he139
              replace ho28 := ho28.ext he139
              replace ho51 := ho51.ext he139
              replace ho53 := ho53.ext he139
              replace ho94 := ho94.ext he139
              replace ho110 := ho110.ext he139
              refine wl_val ha140 rfl rfl rfl (op_not ha140 rfl rfl) ?_
              intro a142 ha142; clear ha140 a140
              refine wl_val ha142 rfl rfl rfl (op_pick_f ha142 rfl rfl rfl) ?_
              intro a143 ha143; clear ha142 a142
              refine wl_val ha143 rfl rfl rfl (op_move ha143 rfl rfl) ?_
              intro a144 ha144; clear ha143 a143
              rw [c72] at ha144
              refine wl_val ha144 rfl rfl rfl (op_move ha144 rfl rfl) ?_
              intro a145 ha145; clear ha144 a144
              refine wl_val ha145 rfl rfl rfl (op_move ha145 rfl rfl) ?_
              intro a146 ha146; clear ha145 a145
              refine wl_callR ha146 rfl rfl rfl (op_call ha146 rfl cb36 rfl) (c_laws_eqInt64S _ v52 ((if dbB ((aList)) then dbtC ((aList)) else [])) v27 ((if dbB ((aList)) then dbtC ((aList)) else [])) (ho53.rds pos_shI64) (ho28.rds pos_shI64)) ?_
              rintro v147 w148 he149 rfl a150 ha150; clear ha146 a146
              have hx151 := hx141.trans' he149
              have hzhx151 := he149.size
              replace ho19 := ho19.ext he149
              replace ho26 := ho26.ext he149
              replace ho28 := ho28.ext he149
              replace ho51 := ho51.ext he149
              replace ho53 := ho53.ext he149
              replace ho94 := ho94.ext he149
              replace ho110 := ho110.ext he149
              refine wl_val ha150 rfl rfl rfl (op_not ha150 rfl rfl) ?_
              intro a152 ha152; clear ha150 a150
              refine wl_val ha152 rfl rfl rfl (op_pick_f ha152 rfl rfl rfl) ?_
              intro a153 ha153; clear ha152 a152
              refine wl_val ha153 rfl rfl rfl (op_move ha153 rfl rfl) ?_
              intro a154 ha154; clear ha153 a153
              rw [c83] at ha154
              refine wl_val ha154 rfl rfl rfl (op_move ha154 rfl rfl) ?_
              intro a155 ha155; clear ha154 a154
              refine wl_val ha155 rfl rfl rfl (op_move ha155 rfl rfl) ?_
              intro a156 ha156; clear ha155 a155
              refine wl_val ha156 rfl rfl rfl ((op_neq ha156 rfl rfl rfl).to (congrArg Value.bool decide_not)) ?_
              intro a157 ha157; clear ha156 a156
              refine wl_val ha157 rfl rfl rfl (op_pick_f ha157 rfl rfl rfl) ?_
              intro a158 ha158; clear ha157 a157
              refine wpList_nil ?_
              refine then_n ?_
              rw [decide_eq_true c88] at ha158
              refine cond_f ha158 rfl ?_
              refine wp_skip ?_
              refine then_n ?_
              refine wp_seq ?_
              refine wp_region_lit ?_
              refine wl_val ha158 rfl rfl rfl (op_assign ha158 rfl rfl) ?_
              intro a159 ha159; clear ha158 a158
              refine wpList_nil ?_
              refine then_n ?_
              refine wp_seq ?_
              refine wp_region_lit ?_
              refine wl_val ha159 rfl rfl rfl (op_move ha159 rfl rfl) ?_
              intro a160 ha160; clear ha159 a159
              refine wl_val ha160 rfl rfl rfl (op_move ha160 rfl rfl) ?_
              intro a161 ha161; clear ha160 a160
              refine wl_callS ha161 rfl rfl rfl (op_call ha161 rfl cb46 rfl) (c_laws_markStringS _ v50 ((if dbB ((aList)) then dbtN ((aList)) else [])) (1 : Int) ho51 (by first | assumption | omega | (simp; omega)) (by first | assumption | omega | (simp; omega)) (by first | assumption | omega | (simp; omega))) ?_
              rintro v162 w163 he164 ⟨rfl, ho165⟩ a166 ha166; clear ha161 a161
              have hx167 := hx151.stp he164 (by intro q hq; have hq0 := ho51.lt q hq; omega)
              have hzhx167 := he164.size
              replace ho19 : Own shEnt 41 w6.heap.size w6.heap.size w17.heap.size w163 v16 ((aList)) := by first | exact ho19.stp he164 (by intro q hq; have hq0 := ho51.lt q hq; omega) | exact ho19.stpF flat_shEnt he164 (ho19.ne ho51 rfl)
              replace ho26 : Own shStr 9 w17.heap.size w17.heap.size w23.heap.size w163 v25 ((if dbB ((aList)) then dbtN ((aList)) else [])) := by first | exact ho26.stp he164 (by intro q hq; have hq0 := ho51.lt q hq; omega)
              replace ho28 : Own shI64 2 w17.heap.size w17.heap.size w23.heap.size w163 v27 ((if dbB ((aList)) then dbtC ((aList)) else [])) := by first | exact ho28.stp he164 (by intro q hq; have hq0 := ho51.lt q hq; omega) | exact ho28.stpF flat_shI64 he164 (ho28.ne ho51 rfl)
              replace ho53 : Own shI64 2 w40.heap.size w40.heap.size w48.heap.size w163 v52 ((if dbB ((aList)) then dbtC ((aList)) else [])) := by first | exact ho53.stp he164 (by intro q hq; have hq0 := ho51.lt q hq; omega) | exact ho53.stpF flat_shI64 he164 (ho53.ne ho51 rfl)
              replace ho94 : Own shEnt 41 w76.heap.size w76.heap.size w92.heap.size w163 v91 ((aList)) := by first | exact ho94.stp he164 (by intro q hq; have hq0 := ho51.lt q hq; omega) | exact ho94.stpF flat_shEnt he164 (ho94.ne ho51 rfl)
              replace ho110 : Own shEnt 41 w23.heap.size w23.heap.size w40.heap.size w163 v39 ((mkN mkEnt 4 ((aList)).length ((1 : Int)))) := by first | exact ho110.stp he164 (by intro q hq; have hq0 := ho51.lt q hq; omega) | exact ho110.stpF flat_shEnt he164 (ho110.ne ho51 rfl)
              clear ho51
              refine wl_val ha166 rfl rfl rfl (op_assign ha166 rfl rfl) ?_
              intro a168 ha168; clear ha166 a166
              refine wpList_nil ?_
              refine then_n ?_
              refine wp_seq ?_
              refine wp_region_lit ?_
              refine wl_val ha168 rfl rfl rfl (op_move ha168 rfl rfl) ?_
              intro a169 ha169; clear ha168 a168
              refine wl_val ha169 rfl rfl rfl (op_move ha169 rfl rfl) ?_
              intro a170 ha170; clear ha169 a169
              refine wl_callS ha170 rfl rfl rfl (op_call ha170 rfl cb37 rfl) (c_laws_markInt64S _ v52 ((if dbB ((aList)) then dbtC ((aList)) else [])) (((1 : Int)) + 1 * (((if dbB ((aList)) then dbtN ((aList)) else [])).length : Nat) : Int) ho53 (by first | assumption | omega | (simp; omega)) (by first | assumption | omega | (simp; omega)) (by first | assumption | omega | (simp; omega))) ?_
              rintro v171 w172 he173 ⟨rfl, ho174⟩ a175 ha175; clear ha170 a170
              have hx176 := hx167.stp he173 (by intro q hq; have hq0 := ho53.lt q hq; omega)
              have hzhx176 := he173.size
              replace ho19 : Own shEnt 41 w6.heap.size w6.heap.size w17.heap.size w172 v16 ((aList)) := by first | exact ho19.stp he173 (by intro q hq; have hq0 := ho53.lt q hq; omega) | exact ho19.stpF flat_shEnt he173 (ho19.ne ho53 rfl)
              replace ho26 : Own shStr 9 w17.heap.size w17.heap.size w23.heap.size w172 v25 ((if dbB ((aList)) then dbtN ((aList)) else [])) := by first | exact ho26.stp he173 (by intro q hq; have hq0 := ho53.lt q hq; omega) | exact ho26.stpF flat_shStr he173 (ho26.ne ho53 rfl)
              replace ho28 : Own shI64 2 w17.heap.size w17.heap.size w23.heap.size w172 v27 ((if dbB ((aList)) then dbtC ((aList)) else [])) := by first | exact ho28.stp he173 (by intro q hq; have hq0 := ho53.lt q hq; omega)
              replace ho94 : Own shEnt 41 w76.heap.size w76.heap.size w92.heap.size w172 v91 ((aList)) := by first | exact ho94.stp he173 (by intro q hq; have hq0 := ho53.lt q hq; omega) | exact ho94.stpF flat_shEnt he173 (ho94.ne ho53 rfl)
              replace ho110 : Own shEnt 41 w23.heap.size w23.heap.size w40.heap.size w172 v39 ((mkN mkEnt 4 ((aList)).length ((1 : Int)))) := by first | exact ho110.stp he173 (by intro q hq; have hq0 := ho53.lt q hq; omega) | exact ho110.stpF flat_shEnt he173 (ho110.ne ho53 rfl)
              replace ho165 : Own shStr 9 w40.heap.size w40.heap.size w48.heap.size w172 v50 ((mkN mkS 1 ((if dbB ((aList)) then dbtN ((aList)) else [])).length ((1 : Int)))) := by first | exact ho165.stp he173 (by intro q hq; have hq0 := ho53.lt q hq; omega) | exact ho165.stpF flat_shStr he173 (ho165.ne ho53 rfl)
              clear ho53
              refine wl_val ha175 rfl rfl rfl (op_assign ha175 rfl rfl) ?_
              intro a177 ha177; clear ha175 a175
              refine wpList_nil ?_
              refine then_n ?_
              refine wp_seq ?_
              refine wp_region_lit ?_
              refine wl_val ha177 rfl rfl rfl (op_assign ha177 rfl rfl) ?_
              intro a178 ha178; clear ha177 a177
              refine wpList_nil ?_
              refine then_n ?_
              refine wp_seq ?_
              refine wp_region_lit ?_
              refine wl_val ha178 rfl rfl rfl (op_move ha178 rfl rfl) ?_
              intro a179 ha179; clear ha178 a178
              refine wl_val ha179 rfl rfl rfl (op_move ha179 rfl rfl) ?_
              intro a180 ha180; clear ha179 a179
              refine wl_callR ha180 rfl rfl rfl (op_call ha180 rfl cb47 rfl) (c_laws_heldStringS _ v50 ((mkN mkS 1 ((if dbB ((aList)) then dbtN ((aList)) else [])).length ((1 : Int)))) (1 : Int) (ho165.rds pos_shStr) (by first | assumption | omega | (simp; omega)) (by first | assumption | omega | (simp; omega)) (by first | assumption | omega | (simp; omega) | (simp [mkN_length]; omega))) ?_
              rintro v181 w182 he183 rfl a184 ha184; clear ha180 a180
              have hx185 := hx176.trans' he183
              have hzhx185 := he183.size
              replace ho19 := ho19.ext he183
              replace ho26 := ho26.ext he183
              replace ho28 := ho28.ext he183
              replace ho94 := ho94.ext he183
              replace ho110 := ho110.ext he183
              replace ho165 := ho165.ext he183
              replace ho174 := ho174.ext he183
              refine wl_val ha184 rfl rfl rfl (op_assign ha184 rfl rfl) ?_
              intro a186 ha186; clear ha184 a184
              refine wpList_nil ?_
              refine then_n ?_
              refine wp_seq ?_
              refine wp_seq ?_
              refine wp_region_lit ?_
              refine wl_val ha186 rfl rfl rfl (op_move ha186 rfl rfl) ?_
              intro a187 ha187; clear ha186 a186
              refine wl_val ha187 rfl rfl rfl (op_lss ha187 rfl rfl rfl) ?_
              intro a188 ha188; clear ha187 a187
              refine wpList_nil ?_
              refine then_n ?_
              by_cases c189 : (heldG okS 1 ((mkN mkS 1 ((if dbB ((aList)) then dbtN ((aList)) else [])).length ((1 : Int)))) (1 : Int) : Int) < (0 : Int)
              ·
                rw [decide_eq_true c189] at ha188
                refine cond_t ha188 rfl ?_
                refine wp_seq ?_
                refine wp_region_lit ?_
                refine wl_val ha188 rfl rfl rfl (op_assign ha188 rfl rfl) ?_
                intro a190 ha190; clear ha188 a188
                refine wpList_nil ?_
                refine then_n ?_
                refine wp_ret ?_
                refine then_r ?_
                refine ret1 ha190 rfl rfl ?_
                clear ha190 a190
                exact ret_mk hx185 (congrArg Value.bool (by first | rfl | omega | (simp [held_mkN okS_mk] at c189; done) | (simp [held_mkN okS_mk] at c189; omega) | (simp [held_mkN okS_mk, mkN_length] at c189; done) | (simp [held_mkN okS_mk, mkN_length] at c189; omega) | (exact absurd rfl c117) | (exact absurd rfl c13)))
              ·
                rw [decide_eq_false c189] at ha188
                refine cond_f ha188 rfl ?_
                refine wp_skip ?_
                refine then_n ?_
                refine wp_seq ?_
                refine wp_region_lit ?_
                refine wl_val ha188 rfl rfl rfl (op_move ha188 rfl rfl) ?_
                intro a191 ha191; clear ha188 a188
                refine wl_val ha191 rfl rfl rfl (op_move ha191 rfl rfl) ?_
                intro a192 ha192; clear ha191 a191
                refine wl_callR ha192 rfl rfl rfl (op_call ha192 rfl cb38 rfl) (c_laws_heldInt64S _ v52 ((mkN mkI 1 ((if dbB ((aList)) then dbtC ((aList)) else [])).length ((((1 : Int)) + 1 * (((if dbB ((aList)) then dbtN ((aList)) else [])).length : Nat) : Int)))) (heldG okS 1 ((mkN mkS 1 ((if dbB ((aList)) then dbtN ((aList)) else [])).length ((1 : Int)))) (1 : Int) : Int) (ho174.rds pos_shI64) (by first | assumption | omega | (simp; omega) | (simp [held_mkN okS_mk, mkN_length]; omega)) (by first | assumption | omega | (simp; omega) | (simp [held_mkN okS_mk, mkN_length]; omega)) (by first | assumption | omega | (simp; omega) | (simp [mkN_length]; omega))) ?_
                rintro v193 w194 he195 rfl a196 ha196; clear ha192 a192
                have hx197 := hx185.trans' he195
                have hzhx197 := he195.size
                replace ho19 := ho19.ext he195
                replace ho26 := ho26.ext he195
                replace ho28 := ho28.ext he195
                replace ho94 := ho94.ext he195
                replace ho110 := ho110.ext he195
                replace ho165 := ho165.ext he195
                replace ho174 := ho174.ext he195
                refine wl_val ha196 rfl rfl rfl (op_assign ha196 rfl rfl) ?_
                intro a198 ha198; clear ha196 a196
                refine wpList_nil ?_
                refine then_n ?_
                refine wp_seq ?_
                refine wp_seq ?_
                refine wp_region_lit ?_
                refine wl_val ha198 rfl rfl rfl (op_move ha198 rfl rfl) ?_
                intro a199 ha199; clear ha198 a198
                refine wl_val ha199 rfl rfl rfl (op_lss ha199 rfl rfl rfl) ?_
                intro a200 ha200; clear ha199 a199
                refine wpList_nil ?_
                refine then_n ?_
                by_cases c201 : (heldG okI 1 ((mkN mkI 1 ((if dbB ((aList)) then dbtC ((aList)) else [])).length ((((1 : Int)) + 1 * (((if dbB ((aList)) then dbtN ((aList)) else [])).length : Nat) : Int)))) (heldG okS 1 ((mkN mkS 1 ((if dbB ((aList)) then dbtN ((aList)) else [])).length ((1 : Int)))) (1 : Int) : Int) : Int) < (0 : Int)
                ·
                  rw [decide_eq_true c201] at ha200
                  refine cond_t ha200 rfl ?_
                  refine wp_seq ?_
                  refine wp_region_lit ?_
                  refine wl_val ha200 rfl rfl rfl (op_assign ha200 rfl rfl) ?_
                  intro a202 ha202; clear ha200 a200
                  refine wpList_nil ?_
                  refine then_n ?_
                  refine wp_ret ?_
                  refine then_r ?_
                  refine ret1 ha202 rfl rfl ?_
                  clear ha202 a202
                  exact ret_mk hx197 (congrArg Value.bool (by first | rfl | omega | (simp [held_mkN okI_mk, held_mkN okS_mk] at c201; done) | (simp [held_mkN okI_mk, held_mkN okS_mk] at c201; omega) | (simp [held_mkN okI_mk, held_mkN okS_mk, mkN_length] at c201; done) | (simp [held_mkN okI_mk, held_mkN okS_mk, mkN_length] at c201; omega) | (simp [held_mkN okS_mk] at c189; done) | (simp [held_mkN okS_mk] at c189; omega) | (simp [held_mkN okS_mk, mkN_length] at c189; done) | (simp [held_mkN okS_mk, mkN_length] at c189; omega) | (exact absurd rfl c189) | (exact absurd rfl c117) | (exact absurd rfl c13)))
                ·
                  rw [decide_eq_false c201] at ha200
                  refine cond_f ha200 rfl ?_
                  refine wp_skip ?_
                  refine then_n ?_
                  refine wp_seq ?_
                  refine wp_seq ?_
                  refine wp_region_lit ?_
                  refine wl_val ha200 rfl rfl rfl (op_move ha200 rfl rfl) ?_
                  intro a203 ha203; clear ha200 a200
                  refine wl_val ha203 rfl rfl rfl (op_move ha203 rfl rfl) ?_
                  intro a204 ha204; clear ha203 a203
                  refine wl_val ha204 rfl rfl rfl ((op_neq ha204 rfl rfl rfl).to (congrArg Value.bool decide_not)) ?_
                  intro a205 ha205; clear ha204 a204
                  refine wpList_nil ?_
                  refine then_n ?_
                  by_cases c206 : (heldG okI 1 ((mkN mkI 1 ((if dbB ((aList)) then dbtC ((aList)) else [])).length ((((1 : Int)) + 1 * (((if dbB ((aList)) then dbtN ((aList)) else [])).length : Nat) : Int)))) (heldG okS 1 ((mkN mkS 1 ((if dbB ((aList)) then dbtN ((aList)) else [])).length ((1 : Int)))) (1 : Int) : Int) : Int) = (((((1 : Int)) + 1 * (((if dbB ((aList)) then dbtN ((aList)) else [])).length : Nat) : Int)) + 1 * (((if dbB ((aList)) then dbtC ((aList)) else [])).length : Nat) : Int)
                  ·
                    rw [decide_eq_true c206] at ha205
                    refine cond_f ha205 rfl ?_
                    refine wp_skip ?_
                    refine then_n ?_
                    refine wp_seq ?_
                    refine wp_region_lit ?_
                    refine wl_val ha205 rfl rfl rfl (op_move ha205 rfl rfl) ?_
                    intro a207 ha207; clear ha205 a205
                    refine wl_callR ha207 rfl rfl rfl (op_call ha207 rfl cb17 rfl) (c_laws_toEntryS _ v_aList aList (h_aList.ext pos_shEnt hx197) (by first | assumption | omega | (simp; omega))) ?_
                    rintro v208 w209 he210 ho211 a212 ha212; clear ha207 a207
                    have hx213 := hx197.trans' he210
                    have hzhx213 := he210.size
                    replace ho19 := ho19.ext he210
                    replace ho26 := ho26.ext he210
                    replace ho28 := ho28.ext he210
                    replace ho94 := ho94.ext he210
                    replace ho110 := ho110.ext he210
                    replace ho165 := ho165.ext he210
                    replace ho174 := ho174.ext he210
                    refine wl_callR ha212 rfl rfl rfl (op_call ha212 rfl cb44 rfl) (c_impl_Debtors _ v208 ((aList)) (ho211.rds pos_shEnt) (by first | assumption | omega | (simp; omega))) ?_
                    rintro v214 w215 he216 ⟨v217, v219, rfl, ho218, ho220⟩ a221 ha221; clear ha212 a212
                    have hx222 := hx213.trans' he216
                    have hzhx222 := he216.size
                    replace ho19 := ho19.ext he216
                    replace ho26 := ho26.ext he216
                    replace ho28 := ho28.ext he216
                    replace ho94 := ho94.ext he216
                    replace ho110 := ho110.ext he216
                    replace ho165 := ho165.ext he216
                    replace ho174 := ho174.ext he216
                    replace ho211 := ho211.ext he216
                    refine wl_val ha221 rfl rfl rfl (op_move ha221 rfl rfl) ?_
                    intro a223 ha223; clear ha221 a221
                    refine wl_val ha223 rfl rfl rfl (op_extract ha223 rfl rfl rfl) ?_
                    intro a224 ha224; clear ha223 a223
                    refine wl_val ha224 rfl rfl rfl (op_extract ha224 rfl rfl rfl) ?_
                    intro a225 ha225; clear ha224 a224
                    refine wl_val ha225 rfl rfl rfl (op_extract ha225 rfl rfl rfl) ?_
                    intro a226 ha226; clear ha225 a225
                    refine wl_val ha226 rfl rfl rfl (op_assign ha226 rfl rfl) ?_
                    intro a227 ha227; clear ha226 a226
                    refine wl_val ha227 rfl rfl rfl (op_assign ha227 rfl rfl) ?_
                    intro a228 ha228; clear ha227 a227
                    refine wl_val ha228 rfl rfl rfl (op_assign ha228 rfl rfl) ?_
                    intro a229 ha229; clear ha228 a228
                    refine wpList_nil ?_
                    refine then_n ?_
                    refine wp_seq ?_
                    refine wp_seq ?_
                    refine wp_region_lit ?_
                    refine wl_val ha229 rfl rfl rfl (op_move ha229 rfl rfl) ?_
                    intro a230 ha230; clear ha229 a229
                    refine wl_val ha230 rfl rfl rfl (op_move ha230 rfl rfl) ?_
                    intro a231 ha231; clear ha230 a230
                    refine wl_callR ha231 rfl rfl rfl (op_call ha231 rfl cb45 rfl) (c_laws_eqStringS _ v217 ((if dbB ((aList)) then dbtN ((aList)) else [])) v25 ((if dbB ((aList)) then dbtN ((aList)) else [])) (ho218.rds pos_shStr) (ho26.rds pos_shStr)) ?_
                    rintro v232 w233 he234 rfl a235 ha235; clear ha231 a231
                    have hx236 := hx222.trans' he234
                    have hzhx236 := he234.size
                    replace ho19 := ho19.ext he234
                    replace ho26 := ho26.ext he234
                    replace ho28 := ho28.ext he234
                    replace ho94 := ho94.ext he234
                    replace ho110 := ho110.ext he234
                    replace ho165 := ho165.ext he234
                    replace ho174 := ho174.ext he234
                    replace ho211 := ho211.ext he234
                    replace ho218 := ho218.ext he234
                    replace ho220 := ho220.ext he234
                    refine wl_val ha235 rfl rfl rfl (op_not ha235 rfl rfl) ?_
                    intro a237 ha237; clear ha235 a235
                    refine wl_val ha237 rfl rfl rfl (op_move ha237 rfl rfl) ?_
                    intro a238 ha238; clear ha237 a237
                    rw [c72] at ha238
                    refine wl_val ha238 rfl rfl rfl (op_move ha238 rfl rfl) ?_
                    intro a239 ha239; clear ha238 a238
                    refine wl_val ha239 rfl rfl rfl (op_move ha239 rfl rfl) ?_
                    intro a240 ha240; clear ha239 a239
                    refine wl_callR ha240 rfl rfl rfl (op_call ha240 rfl cb36 rfl) (c_laws_eqInt64S _ v219 ((if dbB ((aList)) then dbtC ((aList)) else [])) v27 ((if dbB ((aList)) then dbtC ((aList)) else [])) (ho220.rds pos_shI64) (ho28.rds pos_shI64)) ?_
                    rintro v241 w242 he243 rfl a244 ha244; clear ha240 a240
                    have hx245 := hx236.trans' he243
                    have hzhx245 := he243.size
                    replace ho19 := ho19.ext he243
                    replace ho26 := ho26.ext he243
                    replace ho28 := ho28.ext he243
                    replace ho94 := ho94.ext he243
                    replace ho110 := ho110.ext he243
                    replace ho165 := ho165.ext he243
                    replace ho174 := ho174.ext he243
                    replace ho211 := ho211.ext he243
                    replace ho218 := ho218.ext he243
                    replace ho220 := ho220.ext he243
                    refine wl_val ha244 rfl rfl rfl (op_not ha244 rfl rfl) ?_
                    intro a246 ha246; clear ha244 a244
                    refine wl_val ha246 rfl rfl rfl (op_pick_f ha246 rfl rfl rfl) ?_
                    intro a247 ha247; clear ha246 a246
                    refine wl_val ha247 rfl rfl rfl (op_move ha247 rfl rfl) ?_
                    intro a248 ha248; clear ha247 a247
                    rw [c83] at ha248
                    refine wl_val ha248 rfl rfl rfl (op_move ha248 rfl rfl) ?_
                    intro a249 ha249; clear ha248 a248
                    refine wl_val ha249 rfl rfl rfl (op_move ha249 rfl rfl) ?_
                    intro a250 ha250; clear ha249 a249
                    refine wl_val ha250 rfl rfl rfl ((op_neq ha250 rfl rfl rfl).to (congrArg Value.bool decide_not)) ?_
                    intro a251 ha251; clear ha250 a250
                    refine wl_val ha251 rfl rfl rfl (op_pick_f ha251 rfl rfl rfl) ?_
                    intro a252 ha252; clear ha251 a251
                    refine wpList_nil ?_
                    refine then_n ?_
                    rw [decide_eq_true c88] at ha252
                    refine cond_f ha252 rfl ?_
                    refine wp_skip ?_
                    refine then_n ?_
                    refine wp_seq ?_
                    refine wp_region_lit ?_
                    refine wl_val ha252 rfl rfl rfl (op_assign ha252 rfl rfl) ?_
                    intro a253 ha253; clear ha252 a252
                    refine wpList_nil ?_
                    refine then_n ?_
                    refine wp_seq ?_
                    refine wp_region_lit ?_
                    refine wl_val ha253 rfl rfl rfl (op_move ha253 rfl rfl) ?_
                    intro a254 ha254; clear ha253 a253
                    refine wl_val ha254 rfl rfl rfl (op_move ha254 rfl rfl) ?_
                    intro a255 ha255; clear ha254 a254
                    refine wl_callR ha255 rfl rfl rfl (op_call ha255 rfl cb47 rfl) (c_laws_heldStringS _ v50 ((mkN mkS 1 ((if dbB ((aList)) then dbtN ((aList)) else [])).length ((1 : Int)))) (1 : Int) (ho165.rds pos_shStr) (by first | assumption | omega | (simp; omega)) (by first | assumption | omega | (simp; omega)) (by first | assumption | omega | (simp; omega) | (simp [mkN_length]; omega))) ?_
                    rintro v256 w257 he258 rfl a259 ha259; clear ha255 a255
                    have hx260 := hx245.trans' he258
                    have hzhx260 := he258.size
                    replace ho19 := ho19.ext he258
                    replace ho26 := ho26.ext he258
                    replace ho28 := ho28.ext he258
                    replace ho94 := ho94.ext he258
                    replace ho110 := ho110.ext he258
                    replace ho165 := ho165.ext he258
                    replace ho174 := ho174.ext he258
                    replace ho211 := ho211.ext he258
                    replace ho218 := ho218.ext he258
                    replace ho220 := ho220.ext he258
                    refine wl_val ha259 rfl rfl rfl (op_assign ha259 rfl rfl) ?_
                    intro a261 ha261; clear ha259 a259
                    refine wpList_nil ?_
                    refine then_n ?_
                    refine wp_seq ?_
                    refine wp_seq ?_
                    refine wp_region_lit ?_
                    refine wl_val ha261 rfl rfl rfl (op_move ha261 rfl rfl) ?_
                    intro a262 ha262; clear ha261 a261
                    refine wl_val ha262 rfl rfl rfl (op_lss ha262 rfl rfl rfl) ?_
                    intro a263 ha263; clear ha262 a262
                    refine wpList_nil ?_
                    refine then_n ?_
                    rw [decide_eq_false c189] at ha263
                    refine cond_f ha263 rfl ?_
                    refine wp_skip ?_
                    refine then_n ?_
                    refine wp_seq ?_
                    refine wp_region_lit ?_
                    refine wl_val ha263 rfl rfl rfl (op_move ha263 rfl rfl) ?_
                    intro a264 ha264; clear ha263 a263
                    refine wl_val ha264 rfl rfl rfl (op_move ha264 rfl rfl) ?_
                    intro a265 ha265; clear ha264 a264
                    refine wl_callR ha265 rfl rfl rfl (op_call ha265 rfl cb38 rfl) (c_laws_heldInt64S _ v52 ((mkN mkI 1 ((if dbB ((aList)) then dbtC ((aList)) else [])).length ((((1 : Int)) + 1 * (((if dbB ((aList)) then dbtN ((aList)) else [])).length : Nat) : Int)))) (heldG okS 1 ((mkN mkS 1 ((if dbB ((aList)) then dbtN ((aList)) else [])).length ((1 : Int)))) (1 : Int) : Int) (ho174.rds pos_shI64) (by first | assumption | omega | (simp; omega) | (simp [held_mkN okS_mk, mkN_length]; omega)) (by first | assumption | omega | (simp; omega) | (simp [held_mkN okS_mk, mkN_length]; omega)) (by first | assumption | omega | (simp; omega) | (simp [mkN_length]; omega))) ?_
                    rintro v266 w267 he268 rfl a269 ha269; clear ha265 a265
                    have hx270 := hx260.trans' he268
                    have hzhx270 := he268.size
                    replace ho19 := ho19.ext he268
                    replace ho26 := ho26.ext he268
                    replace ho28 := ho28.ext he268
                    replace ho94 := ho94.ext he268
                    replace ho110 := ho110.ext he268
                    replace ho165 := ho165.ext he268
                    replace ho174 := ho174.ext he268
                    replace ho211 := ho211.ext he268
                    replace ho218 := ho218.ext he268
                    replace ho220 := ho220.ext he268
                    refine wl_val ha269 rfl rfl rfl (op_assign ha269 rfl rfl) ?_
                    intro a271 ha271; clear ha269 a269
                    refine wpList_nil ?_
                    refine then_n ?_
                    refine wp_seq ?_
                    refine wp_seq ?_
                    refine wp_region_lit ?_
                    refine wl_val ha271 rfl rfl rfl (op_move ha271 rfl rfl) ?_
                    intro a272 ha272; clear ha271 a271
                    refine wl_val ha272 rfl rfl rfl (op_lss ha272 rfl rfl rfl) ?_
                    intro a273 ha273; clear ha272 a272
                    refine wpList_nil ?_
                    refine then_n ?_
                    rw [decide_eq_false c201] at ha273
                    refine cond_f ha273 rfl ?_
                    refine wp_skip ?_
                    refine then_n ?_
                    refine wp_seq ?_
                    refine wp_seq ?_
                    refine wp_region_lit ?_
                    refine wl_val ha273 rfl rfl rfl (op_move ha273 rfl rfl) ?_
                    intro a274 ha274; clear ha273 a273
                    refine wl_val ha274 rfl rfl rfl (op_move ha274 rfl rfl) ?_
                    intro a275 ha275; clear ha274 a274
                    refine wl_val ha275 rfl rfl rfl ((op_neq ha275 rfl rfl rfl).to (congrArg Value.bool decide_not)) ?_
                    intro a276 ha276; clear ha275 a275
                    refine wpList_nil ?_
                    refine then_n ?_
                    rw [decide_eq_true c206] at ha276
                    refine cond_f ha276 rfl ?_
                    refine wp_skip ?_
                    refine then_n ?_
                    refine wp_seq ?_
                    refine wp_region_lit ?_
                    refine wl_val ha276 rfl rfl rfl (op_assign ha276 rfl rfl) ?_
                    intro a277 ha277; clear ha276 a276
                    refine wpList_nil ?_
                    refine then_n ?_
                    refine wp_ret ?_
                    refine ret1 ha277 rfl rfl ?_
                    clear ha277 a277
                    exact ret_mk hx270 (congrArg Value.bool (by first | rfl | omega | (simp [held_mkN okI_mk, held_mkN okS_mk] at c206; done) | (simp [held_mkN okI_mk, held_mkN okS_mk] at c206; omega) | (simp [held_mkN okI_mk, held_mkN okS_mk, mkN_length] at c206; done) | (simp [held_mkN okI_mk, held_mkN okS_mk, mkN_length] at c206; omega) | (simp [held_mkN okI_mk, held_mkN okS_mk] at c201; done) | (simp [held_mkN okI_mk, held_mkN okS_mk] at c201; omega) | (simp [held_mkN okI_mk, held_mkN okS_mk, mkN_length] at c201; done) | (simp [held_mkN okI_mk, held_mkN okS_mk, mkN_length] at c201; omega) | (simp [held_mkN okS_mk] at c189; done) | (simp [held_mkN okS_mk] at c189; omega) | (simp [held_mkN okS_mk, mkN_length] at c189; done) | (simp [held_mkN okS_mk, mkN_length] at c189; omega) | (exact absurd rfl c201) | (exact absurd rfl c189) | (exact absurd rfl c117) | (exact absurd rfl c13)))
                  ·
                    rw [decide_eq_false c206] at ha205
                    refine cond_t ha205 rfl ?_
                    refine wp_seq ?_
                    refine wp_region_lit ?_
                    refine wl_val ha205 rfl rfl rfl (op_assign ha205 rfl rfl) ?_
                    intro a278 ha278; clear ha205 a205
                    refine wpList_nil ?_
                    refine then_n ?_
                    refine wp_ret ?_
                    refine then_r ?_
                    refine ret1 ha278 rfl rfl ?_
                    clear ha278 a278
                    exact ret_mk hx197 (congrArg Value.bool (by first | rfl | omega | (simp [held_mkN okI_mk, held_mkN okS_mk] at c206; done) | (simp [held_mkN okI_mk, held_mkN okS_mk] at c206; omega) | (simp [held_mkN okI_mk, held_mkN okS_mk, mkN_length] at c206; done) | (simp [held_mkN okI_mk, held_mkN okS_mk, mkN_length] at c206; omega) | (simp [held_mkN okI_mk, held_mkN okS_mk] at c201; done) | (simp [held_mkN okI_mk, held_mkN okS_mk] at c201; omega) | (simp [held_mkN okI_mk, held_mkN okS_mk, mkN_length] at c201; done) | (simp [held_mkN okI_mk, held_mkN okS_mk, mkN_length] at c201; omega) | (simp [held_mkN okS_mk] at c189; done) | (simp [held_mkN okS_mk] at c189; omega) | (simp [held_mkN okS_mk, mkN_length] at c189; done) | (simp [held_mkN okS_mk, mkN_length] at c189; omega) | (exact absurd rfl c206) | (exact absurd rfl c201) | (exact absurd rfl c189) | (exact absurd rfl c117) | (exact absurd rfl c13)))
          ·
            rw [c103] at ha102
            refine cond_t ha102 rfl ?_
            refine wp_seq ?_
            refine wp_region_lit ?_
            refine wl_val ha102 rfl rfl rfl (op_assign ha102 rfl rfl) ?_
            intro a279 ha279; clear ha102 a102
            refine wpList_nil ?_
            refine then_n ?_
            refine wp_ret ?_
            refine then_r ?_
            refine ret1 ha279 rfl rfl ?_
            clear ha279 a279
            exact ret_mk hx101 (congrArg Value.bool (by first | rfl | omega | (rw [eqL_self] at c103; cases c103) | (exact absurd rfl c103) | (exact absurd rfl c13)))
        ·
          rw [decide_eq_false c88] at ha87
          refine cond_t ha87 rfl ?_
          refine wp_seq ?_
          refine wp_region_lit ?_
          refine wl_val ha87 rfl rfl rfl (op_assign ha87 rfl rfl) ?_
          intro a280 ha280; clear ha87 a87
          refine wpList_nil ?_
          refine then_n ?_
          refine wp_ret ?_
          refine then_r ?_
          refine ret1 ha280 rfl rfl ?_
          clear ha280 a280
          exact ret_mk hx79 (congrArg Value.bool (by first | rfl | omega | (exact absurd rfl c88) | (exact absurd rfl c13)))
      ·
        rw [c83] at ha82
        refine wl_skip ha82 rfl rfl rfl ?_
        intro a281 ha281; clear ha82 a82
        refine wl_skip ha281 rfl rfl rfl ?_
        intro a282 ha282; clear ha281 a281
        refine wl_skip ha282 rfl rfl rfl ?_
        intro a283 ha283; clear ha282 a282
        refine wl_val ha283 rfl rfl rfl (op_pick_t ha283 rfl rfl rfl) ?_
        intro a284 ha284; clear ha283 a283
        refine wpList_nil ?_
        refine then_n ?_
        refine cond_t ha284 rfl ?_
        refine wp_seq ?_
        refine wp_region_lit ?_
        refine wl_val ha284 rfl rfl rfl (op_assign ha284 rfl rfl) ?_
        intro a285 ha285; clear ha284 a284
        refine wpList_nil ?_
        refine then_n ?_
        refine wp_ret ?_
        refine then_r ?_
        refine ret1 ha285 rfl rfl ?_
        clear ha285 a285
        exact ret_mk hx79 (congrArg Value.bool (by first | rfl | omega | (rw [eqL_self] at c83; cases c83) | (exact absurd rfl c83) | (exact absurd rfl c13)))
    ·
      rw [c72] at ha71
      refine wl_skip ha71 rfl rfl rfl ?_
      intro a286 ha286; clear ha71 a71
      refine wl_skip ha286 rfl rfl rfl ?_
      intro a287 ha287; clear ha286 a286
      refine wl_skip ha287 rfl rfl rfl ?_
      intro a288 ha288; clear ha287 a287
      refine wl_skip ha288 rfl rfl rfl ?_
      intro a289 ha289; clear ha288 a288
      refine wl_val ha289 rfl rfl rfl (op_pick_t ha289 rfl rfl rfl) ?_
      intro a290 ha290; clear ha289 a289
      refine wl_val ha290 rfl rfl rfl (op_move ha290 rfl rfl) ?_
      intro a291 ha291; clear ha290 a290
      refine wl_skip ha291 rfl rfl rfl ?_
      intro a292 ha292; clear ha291 a291
      refine wl_skip ha292 rfl rfl rfl ?_
      intro a293 ha293; clear ha292 a292
      refine wl_skip ha293 rfl rfl rfl ?_
      intro a294 ha294; clear ha293 a293
      refine wl_val ha294 rfl rfl rfl (op_pick_t ha294 rfl rfl rfl) ?_
      intro a295 ha295; clear ha294 a294
      refine wpList_nil ?_
      refine then_n ?_
      refine cond_t ha295 rfl ?_
      refine wp_seq ?_
      refine wp_region_lit ?_
      refine wl_val ha295 rfl rfl rfl (op_assign ha295 rfl rfl) ?_
      intro a296 ha296; clear ha295 a295
      refine wpList_nil ?_
      refine then_n ?_
      refine wp_ret ?_
      refine then_r ?_
      refine ret1 ha296 rfl rfl ?_
      clear ha296 a296
      exact ret_mk hx69 (congrArg Value.bool (by first | rfl | omega | (rw [eqL_self] at c72; cases c72) | (exact absurd rfl c72) | (exact absurd rfl c13)))

theorem c_laws_FnExactPayAll (w0 : World) (v_aList : Value) (aList : List (Int × Int × Str × Int)) {S_aList : Nat → Prop} (aDay : Int) (h_aList : Rds shEnt S_aList w0 v_aList aList) (g0 : I64 aDay) :
    Calls Try.prog 11 #[v_aList, .int .i64 aDay] w0 (Ret w0 (fun v _ => v = .bool (true))) := by
  refine enter (N := 101) Try.func11 rfl rfl rfl ?_
  intro a0 ha0
  have hx0 := Ext.rfl' w0
  have hl_aList := h_aList.length_le
  have hcl := costL_len costEnt aList
  have hrl := payL_len aList aDay
  refine wp_seq ?_
  refine wp_region_lit ?_
  refine wl_val ha0 rfl rfl rfl (op_assign ha0 rfl rfl) ?_
  intro a1 ha1; clear ha0 a0
  refine wpList_nil ?_
  refine then_n ?_
  refine wp_seq ?_
  refine wp_region_lit ?_
  refine wl_val ha1 rfl rfl rfl (op_assign ha1 rfl rfl) ?_
  intro a2 ha2; clear ha1 a1
  refine wpList_nil ?_
  refine then_n ?_
  refine wp_seq ?_
  refine wp_region_lit ?_
  refine wl_val ha2 rfl rfl rfl (op_move ha2 rfl rfl) ?_
  intro a3 ha3; clear ha2 a2
  refine wl_val ha3 rfl rfl rfl (op_move ha3 rfl rfl) ?_
  intro a4 ha4; clear ha3 a3
  refine wl_callR ha4 rfl rfl rfl (op_call ha4 rfl cb15 rfl) (c_laws_szEntryS _ v_aList aList (1048576 : Int) (h_aList.ext pos_shEnt hx0) (by first | assumption | omega | (simp; omega)) (by first | assumption | omega | (simp; omega))) ?_
  rintro v5 w6 he7 rfl a8 ha8; clear ha4 a4
  have hx9 := hx0.trans' he7
  have hzhx9 := he7.size
  refine wl_val ha8 rfl rfl rfl (op_assign ha8 rfl rfl) ?_
  intro a10 ha10; clear ha8 a8
  refine wpList_nil ?_
  refine then_n ?_
  refine wp_seq ?_
  refine wp_seq ?_
  refine wp_region_lit ?_
  refine wl_val ha10 rfl rfl rfl (op_move ha10 rfl rfl) ?_
  intro a11 ha11; clear ha10 a10
  refine wl_val ha11 rfl rfl rfl (op_lss ha11 rfl rfl rfl) ?_
  intro a12 ha12; clear ha11 a11
  refine wpList_nil ?_
  refine then_n ?_
  by_cases c13 : (szR (1048576 : Int) (costL costEnt aList) : Int) < (0 : Int)
  ·
    rw [decide_eq_true c13] at ha12
    refine cond_t ha12 rfl ?_
    refine wp_seq ?_
    refine wp_region_lit ?_
    refine wl_val ha12 rfl rfl rfl (op_assign ha12 rfl rfl) ?_
    intro a14 ha14; clear ha12 a12
    refine wpList_nil ?_
    refine then_n ?_
    refine wp_ret ?_
    refine then_r ?_
    refine ret1 ha14 rfl rfl ?_
    clear ha14 a14
    exact ret_mk hx9 (congrArg Value.bool (by first | rfl | omega))
  ·
    rw [decide_eq_false c13] at ha12
    have hzc13 := szR_ok c13
    refine cond_f ha12 rfl ?_
    refine wp_skip ?_
    refine then_n ?_
    refine wp_seq ?_
    refine wp_region_lit ?_
    refine wl_val ha12 rfl rfl rfl (op_move ha12 rfl rfl) ?_
    intro a15 ha15; clear ha12 a12
    refine wl_callR ha15 rfl rfl rfl (op_call ha15 rfl cb17 rfl) (c_laws_toEntryS _ v_aList aList (h_aList.ext pos_shEnt hx9) (by first | assumption | omega | (simp; omega))) ?_
    rintro v16 w17 he18 ho19 a20 ha20; clear ha15 a15
    have hx21 := hx9.trans' he18
    have hzhx21 := he18.size
    refine wl_val ha20 rfl rfl rfl (op_move ha20 rfl rfl) ?_
    intro a22 ha22; clear ha20 a20
    refine wl_callR ha22 rfl rfl rfl (op_call ha22 rfl cb41 rfl) (c_spec_PayAll _ v16 ((aList)) aDay (ho19.rds pos_shEnt) (by first | assumption | omega | (simp; omega)) (by first | assumption | omega | (simp; omega))) ?_
    rintro v23 w24 he25 ⟨v26, rfl, ho27⟩ a28 ha28; clear ha22 a22
    have hx29 := hx21.trans' he25
    have hzhx29 := he25.size
    replace ho19 := ho19.ext he25
    refine wl_val ha28 rfl rfl rfl (op_move ha28 rfl rfl) ?_
    intro a30 ha30; clear ha28 a28
    refine wl_val ha30 rfl rfl rfl (op_extract ha30 rfl rfl rfl) ?_
    intro a31 ha31; clear ha30 a30
    refine wl_val ha31 rfl rfl rfl (op_extract ha31 rfl rfl rfl) ?_
    intro a32 ha32; clear ha31 a31
    refine wl_val ha32 rfl rfl rfl (op_assign ha32 rfl rfl) ?_
    intro a33 ha33; clear ha32 a32
    refine wl_val ha33 rfl rfl rfl (op_assign ha33 rfl rfl) ?_
    intro a34 ha34; clear ha33 a33
    refine wpList_nil ?_
    refine then_n ?_
    refine wp_seq ?_
    refine wp_region_lit ?_
    refine wl_val ha34 rfl rfl rfl (op_move ha34 rfl rfl) ?_
    intro a35 ha35; clear ha34 a34
    refine wl_callR ha35 rfl rfl rfl (op_call ha35 rfl cb17 rfl) (c_laws_toEntryS _ v_aList aList (h_aList.ext pos_shEnt hx29) (by first | assumption | omega | (simp; omega))) ?_
    rintro v36 w37 he38 ho39 a40 ha40; clear ha35 a35
    have hx41 := hx29.trans' he38
    have hzhx41 := he38.size
    replace ho19 := ho19.ext he38
    replace ho27 := ho27.ext he38
    refine wl_val ha40 rfl rfl rfl (op_assign ha40 rfl rfl) ?_
    intro a42 ha42; clear ha40 a40
    refine wpList_nil ?_
    refine then_n ?_
    refine wp_seq ?_
    refine wp_region_lit ?_
    refine wl_val ha42 rfl rfl rfl (op_move ha42 rfl rfl) ?_
    intro a43 ha43; clear ha42 a42
    refine wl_val ha43 rfl rfl rfl (op_move ha43 rfl rfl) ?_
    intro a44 ha44; clear ha43 a43
    refine wl_callR ha44 rfl rfl rfl (op_call ha44 rfl cb42 rfl) (c_impl_PayAll _ v36 ((aList)) aDay (ho39.rds pos_shEnt) (by first | assumption | omega | (simp; omega)) (by first | assumption | omega | (simp; omega))) ?_
    rintro v45 w46 he47 ⟨v48, rfl, ho49⟩ a50 ha50; clear ha44 a44
    have hx51 := hx41.trans' he47
    have hzhx51 := he47.size
    replace ho19 := ho19.ext he47
    replace ho27 := ho27.ext he47
    replace ho39 := ho39.ext he47
    refine wl_val ha50 rfl rfl rfl (op_move ha50 rfl rfl) ?_
    intro a52 ha52; clear ha50 a50
    refine wl_val ha52 rfl rfl rfl (op_extract ha52 rfl rfl rfl) ?_
    intro a53 ha53; clear ha52 a52
    refine wl_val ha53 rfl rfl rfl (op_extract ha53 rfl rfl rfl) ?_
    intro a54 ha54; clear ha53 a53
    refine wl_val ha54 rfl rfl rfl (op_assign ha54 rfl rfl) ?_
    intro a55 ha55; clear ha54 a54
    refine wl_val ha55 rfl rfl rfl (op_assign ha55 rfl rfl) ?_
    intro a56 ha56; clear ha55 a55
    refine wpList_nil ?_
    refine then_n ?_
    refine wp_seq ?_
    refine wp_seq ?_
    refine wp_region_lit ?_
    refine wl_val ha56 rfl rfl rfl (op_move ha56 rfl rfl) ?_
    intro a57 ha57; clear ha56 a56
    refine wl_val ha57 rfl rfl rfl (op_move ha57 rfl rfl) ?_
    intro a58 ha58; clear ha57 a57
    refine wl_callR ha58 rfl rfl rfl (op_call ha58 rfl cb19 rfl) (c_laws_eqEntryS _ v48 ((payL ((aList)) aDay)) v26 ((payL ((aList)) aDay)) (ho49.rds pos_shEnt) (ho27.rds pos_shEnt)) ?_
    rintro v59 w60 he61 rfl a62 ha62; clear ha58 a58
    have hx63 := hx51.trans' he61
    have hzhx63 := he61.size
    replace ho19 := ho19.ext he61
    replace ho27 := ho27.ext he61
    replace ho39 := ho39.ext he61
    replace ho49 := ho49.ext he61
    refine wl_val ha62 rfl rfl rfl (op_not ha62 rfl rfl) ?_
    intro a64 ha64; clear ha62 a62
    refine wl_val ha64 rfl rfl rfl (op_move ha64 rfl rfl) ?_
    intro a65 ha65; clear ha64 a64
    rcases Bool.eq_false_or_eq_true (eqL ((payL ((aList)) aDay)) ((payL ((aList)) aDay))) with c66 | c66
    ·
      rw [c66] at ha65
      refine wl_val ha65 rfl rfl rfl (op_move ha65 rfl rfl) ?_
      intro a67 ha67; clear ha65 a65
      refine wl_val ha67 rfl rfl rfl (op_move ha67 rfl rfl) ?_
      intro a68 ha68; clear ha67 a67
      refine wl_val ha68 rfl rfl rfl ((op_neq ha68 rfl rfl rfl).to (congrArg Value.bool decide_not)) ?_
      intro a69 ha69; clear ha68 a68
      refine wl_val ha69 rfl rfl rfl (op_pick_f ha69 rfl rfl rfl) ?_
      intro a70 ha70; clear ha69 a69
      refine wpList_nil ?_
      refine then_n ?_
      by_cases c71 : (payC ((aList)) aDay : Int) = (payC ((aList)) aDay : Int)
      ·
        rw [decide_eq_true c71] at ha70
        refine cond_f ha70 rfl ?_
        refine wp_skip ?_
        refine then_n ?_
        refine wp_seq ?_
        refine wp_seq ?_
        refine wp_region_lit ?_
        refine wl_val ha70 rfl rfl rfl (op_move ha70 rfl rfl) ?_
        intro a72 ha72; clear ha70 a70
        refine wl_val ha72 rfl rfl rfl (op_move ha72 rfl rfl) ?_
        intro a73 ha73; clear ha72 a72
        refine wl_callR ha73 rfl rfl rfl (op_call ha73 rfl cb17 rfl) (c_laws_toEntryS _ v_aList aList (h_aList.ext pos_shEnt hx63) (by first | assumption | omega | (simp; omega))) ?_
        rintro v74 w75 he76 ho77 a78 ha78; clear ha73 a73
        have hx79 := hx63.trans' he76
        have hzhx79 := he76.size
        replace ho19 := ho19.ext he76
        replace ho27 := ho27.ext he76
        replace ho39 := ho39.ext he76
        replace ho49 := ho49.ext he76
        refine wl_callR ha78 rfl rfl rfl (op_call ha78 rfl cb19 rfl) (c_laws_eqEntryS _ v36 ((aList)) v74 ((aList)) (ho39.rds pos_shEnt) (ho77.rds pos_shEnt)) ?_
        rintro v80 w81 he82 rfl a83 ha83; clear ha78 a78
        have hx84 := hx79.trans' he82
        have hzhx84 := he82.size
        replace ho19 := ho19.ext he82
        replace ho27 := ho27.ext he82
        replace ho39 := ho39.ext he82
        replace ho49 := ho49.ext he82
        replace ho77 := ho77.ext he82
        refine wl_val ha83 rfl rfl rfl (op_not ha83 rfl rfl) ?_
        intro a85 ha85; clear ha83 a83
        refine wpList_nil ?_
        refine then_n ?_
        rcases Bool.eq_false_or_eq_true (eqL ((aList)) ((aList))) with c86 | c86
        ·
          rw [c86] at ha85
          refine cond_f ha85 rfl ?_
          refine wp_skip ?_
          refine then_n ?_
          refine wp_seq ?_
          refine wp_region_lit ?_
          refine wl_val ha85 rfl rfl rfl (op_assign ha85 rfl rfl) ?_
          intro a87 ha87; clear ha85 a85
          refine wpList_nil ?_
          refine then_n ?_
          refine wp_seq ?_
          refine wp_region_lit ?_
          refine wl_val ha87 rfl rfl rfl (op_move ha87 rfl rfl) ?_
          intro a88 ha88; clear ha87 a87
          refine wl_val ha88 rfl rfl rfl (op_move ha88 rfl rfl) ?_
          intro a89 ha89; clear ha88 a88
          refine wl_callS ha89 rfl rfl rfl (op_call ha89 rfl cb32 rfl) (c_laws_markEntryS _ v36 ((aList)) (1 : Int) ho39 (by first | assumption | omega | (simp; omega)) (by first | assumption | omega | (simp; omega)) (by first | assumption | omega | (simp; omega))) ?_
          rintro v90 w91 he92 ⟨rfl, ho93⟩ a94 ha94; clear ha89 a89
          have hx95 := hx84.stp he92 (by intro q hq; have hq0 := ho39.lt q hq; omega)
          have hzhx95 := he92.size
          replace ho19 : Own shEnt 41 w6.heap.size w6.heap.size w17.heap.size w91 v16 ((aList)) := by first | exact ho19.stp he92 (by intro q hq; have hq0 := ho39.lt q hq; omega)
          replace ho27 : Own shEnt 41 w17.heap.size w17.heap.size w24.heap.size w91 v26 ((payL ((aList)) aDay)) := by first | exact ho27.stp he92 (by intro q hq; have hq0 := ho39.lt q hq; omega)
          replace ho49 : Own shEnt 41 w37.heap.size w37.heap.size w46.heap.size w91 v48 ((payL ((aList)) aDay)) := by first | exact ho49.stp he92 (by intro q hq; have hq0 := ho39.lt q hq; omega)
          replace ho77 : Own shEnt 41 w60.heap.size w60.heap.size w75.heap.size w91 v74 ((aList)) := by first | exact ho77.stp he92 (by intro q hq; have hq0 := ho39.lt q hq; omega)
          clear ho39
          refine wl_val ha94 rfl rfl rfl (op_assign ha94 rfl rfl) ?_
          intro a96 ha96; clear ha94 a94
          refine wpList_nil ?_
          refine then_n ?_
          refine wp_seq ?_
          refine wp_seq ?_
          refine wp_region_lit ?_
          refine wl_val ha96 rfl rfl rfl (op_move ha96 rfl rfl) ?_
          intro a97 ha97; clear ha96 a96
          refine wl_val ha97 rfl rfl rfl (op_lss ha97 rfl rfl rfl) ?_
          intro a98 ha98; clear ha97 a97
          refine wl_val ha98 rfl rfl rfl (op_move ha98 rfl rfl) ?_
          intro a99 ha99; clear ha98 a98
          by_cases c100 : (((1 : Int)) + 4 * (((aList)).length : Nat) : Int) < (0 : Int)
          ·
            rw [decide_eq_true c100] at ha99
            refine wl_skip ha99 rfl rfl rfl ?_
            intro a101 ha101; clear ha99 a99
            refine wl_skip ha101 rfl rfl rfl ?_
            intro a102 ha102; clear ha101 a101
            refine wl_skip ha102 rfl rfl rfl ?_
            intro a103 ha103; clear ha102 a102
            refine wl_skip ha103 rfl rfl rfl ?_
            intro a104 ha104; clear ha103 a103
            refine wl_val ha104 rfl rfl rfl (op_pick_t ha104 rfl rfl rfl) ?_
            intro a105 ha105; clear ha104 a104
            refine wl_val ha105 rfl rfl rfl (op_move ha105 rfl rfl) ?_
            intro a106 ha106; clear ha105 a105
            refine wl_skip ha106 rfl rfl rfl ?_
            intro a107 ha107; clear ha106 a106
            refine wl_skip ha107 rfl rfl rfl ?_
            intro a108 ha108; clear ha107 a107
            refine wl_skip ha108 rfl rfl rfl ?_
            intro a109 ha109; clear ha108 a108
            refine wl_val ha109 rfl rfl rfl (op_pick_t ha109 rfl rfl rfl) ?_
            intro a110 ha110; clear ha109 a109
            refine wpList_nil ?_
            refine then_n ?_
            refine cond_t ha110 rfl ?_
            refine wp_seq ?_
            refine wp_region_lit ?_
            refine wl_val ha110 rfl rfl rfl (op_assign ha110 rfl rfl) ?_
            intro a111 ha111; clear ha110 a110
            refine wpList_nil ?_
            refine then_n ?_
            refine wp_ret ?_
            refine then_r ?_
            refine ret1 ha111 rfl rfl ?_
            clear ha111 a111
            exact ret_mk hx95 (congrArg Value.bool (by first | rfl | omega | (exact absurd rfl c13)))
          ·
            rw [decide_eq_false c100] at ha99
            refine wl_val ha99 rfl rfl rfl (op_move ha99 rfl rfl) ?_
            intro a112 ha112; clear ha99 a99
            refine wl_val ha112 rfl rfl rfl (op_move ha112 rfl rfl) ?_
            intro a113 ha113; clear ha112 a112
            refine wl_callR ha113 rfl rfl rfl (op_call ha113 rfl cb19 rfl) (c_laws_eqEntryS _ v48 ((payL ((aList)) aDay)) v26 ((payL ((aList)) aDay)) (ho49.rds pos_shEnt) (ho27.rds pos_shEnt)) ?_
            rintro v114 w115 he116 rfl a117 ha117; clear ha113 a113
            have hx118 := hx95.trans' he116
            have hzhx118 := he116.size
            replace ho19 := ho19.ext he116
            replace ho27 := ho27.ext he116
            replace ho49 := ho49.ext he116
            replace ho77 := ho77.ext he116
            replace ho93 := ho93.ext he116
            refine wl_val ha117 rfl rfl rfl (op_not ha117 rfl rfl) ?_
            intro a119 ha119; clear ha117 a117
            refine wl_val ha119 rfl rfl rfl (op_pick_f ha119 rfl rfl rfl) ?_
            intro a120 ha120; clear ha119 a119
            refine wl_val ha120 rfl rfl rfl (op_move ha120 rfl rfl) ?_
            intro a121 ha121; clear ha120 a120
            rw [c66] at ha121
            refine wl_val ha121 rfl rfl rfl (op_move ha121 rfl rfl) ?_
            intro a122 ha122; clear ha121 a121
            refine wl_val ha122 rfl rfl rfl (op_move ha122 rfl rfl) ?_
            intro a123 ha123; clear ha122 a122
            refine wl_val ha123 rfl rfl rfl ((op_neq ha123 rfl rfl rfl).to (congrArg Value.bool decide_not)) ?_
            intro a124 ha124; clear ha123 a123
            refine wl_val ha124 rfl rfl rfl (op_pick_f ha124 rfl rfl rfl) ?_
            intro a125 ha125; clear ha124 a124
            refine wpList_nil ?_
            refine then_n ?_
            rw [decide_eq_true c71] at ha125
            refine cond_f ha125 rfl ?_
            refine wp_skip ?_
            refine then_n ?_
            refine wp_seq ?_
            refine wp_region_lit ?_
            refine wl_val ha125 rfl rfl rfl (op_assign ha125 rfl rfl) ?_
            intro a126 ha126; clear ha125 a125
            refine wpList_nil ?_
            refine then_n ?_
            refine wp_seq ?_
            refine wp_region_lit ?_
            refine wl_val ha126 rfl rfl rfl (op_move ha126 rfl rfl) ?_
            intro a127 ha127; clear ha126 a126
            refine wl_val ha127 rfl rfl rfl (op_move ha127 rfl rfl) ?_
            intro a128 ha128; clear ha127 a127
            refine wl_callS ha128 rfl rfl rfl (op_call ha128 rfl cb32 rfl) (c_laws_markEntryS _ v48 ((payL ((aList)) aDay)) (1 : Int) ho49 (by first | assumption | omega | (simp; omega)) (by first | assumption | omega | (simp; omega)) (by first | assumption | omega | (simp; omega))) ?_
            rintro v129 w130 he131 ⟨rfl, ho132⟩ a133 ha133; clear ha128 a128
            have hx134 := hx118.stp he131 (by intro q hq; have hq0 := ho49.lt q hq; omega)
            have hzhx134 := he131.size
            replace ho19 : Own shEnt 41 w6.heap.size w6.heap.size w17.heap.size w130 v16 ((aList)) := by first | exact ho19.stp he131 (by intro q hq; have hq0 := ho49.lt q hq; omega)
            replace ho27 : Own shEnt 41 w17.heap.size w17.heap.size w24.heap.size w130 v26 ((payL ((aList)) aDay)) := by first | exact ho27.stp he131 (by intro q hq; have hq0 := ho49.lt q hq; omega)
            replace ho77 : Own shEnt 41 w60.heap.size w60.heap.size w75.heap.size w130 v74 ((aList)) := by first | exact ho77.stp he131 (by intro q hq; have hq0 := ho49.lt q hq; omega)
            replace ho93 : Own shEnt 41 w24.heap.size w24.heap.size w37.heap.size w130 v36 ((mkN mkEnt 4 ((aList)).length ((1 : Int)))) := by first | exact ho93.stp he131 (by intro q hq; have hq0 := ho49.lt q hq; omega)
            clear ho49
            refine wl_val ha133 rfl rfl rfl (op_assign ha133 rfl rfl) ?_
            intro a135 ha135; clear ha133 a133
            refine wpList_nil ?_
            refine then_n ?_
            refine wp_seq ?_
            refine wp_region_lit ?_
            refine wl_val ha135 rfl rfl rfl (op_assign ha135 rfl rfl) ?_
            intro a136 ha136; clear ha135 a135
            refine wpList_nil ?_
            refine then_n ?_
            refine wp_seq ?_
            refine wp_region_lit ?_
            refine wl_val ha136 rfl rfl rfl (op_move ha136 rfl rfl) ?_
            intro a137 ha137; clear ha136 a136
            refine wl_val ha137 rfl rfl rfl (op_move ha137 rfl rfl) ?_
            intro a138 ha138; clear ha137 a137
            refine wl_callR ha138 rfl rfl rfl (op_call ha138 rfl cb33 rfl) (c_laws_heldEntryS _ v48 ((mkN mkEnt 4 ((payL ((aList)) aDay)).length ((1 : Int)))) (1 : Int) (ho132.rds pos_shEnt) (by first | assumption | omega | (simp; omega)) (by first | assumption | omega | (simp; omega)) (by first | assumption | omega | (simp; omega) | (simp [mkN_length]; omega))) ?_
            rintro v139 w140 he141 rfl a142 ha142; clear ha138 a138
            have hx143 := hx134.trans' he141
            have hzhx143 := he141.size
            replace ho19 := ho19.ext he141
            replace ho27 := ho27.ext he141
            replace ho77 := ho77.ext he141
            replace ho93 := ho93.ext he141
            replace ho132 := ho132.ext he141
            refine wl_val ha142 rfl rfl rfl (op_assign ha142 rfl rfl) ?_
            intro a144 ha144; clear ha142 a142
            refine wpList_nil ?_
            refine then_n ?_
            refine wp_seq ?_
            refine wp_seq ?_
            refine wp_region_lit ?_
            refine wl_val ha144 rfl rfl rfl (op_move ha144 rfl rfl) ?_
            intro a145 ha145; clear ha144 a144
            refine wl_val ha145 rfl rfl rfl (op_lss ha145 rfl rfl rfl) ?_
            intro a146 ha146; clear ha145 a145
            refine wpList_nil ?_
            refine then_n ?_
            by_cases c147 : (heldG okEnt 4 ((mkN mkEnt 4 ((payL ((aList)) aDay)).length ((1 : Int)))) (1 : Int) : Int) < (0 : Int)
            ·
              rw [decide_eq_true c147] at ha146
              refine cond_t ha146 rfl ?_
              refine wp_seq ?_
              refine wp_region_lit ?_
              refine wl_val ha146 rfl rfl rfl (op_assign ha146 rfl rfl) ?_
              intro a148 ha148; clear ha146 a146
              refine wpList_nil ?_
              refine then_n ?_
              refine wp_ret ?_
              refine then_r ?_
              refine ret1 ha148 rfl rfl ?_
              clear ha148 a148
              exact ret_mk hx143 (congrArg Value.bool (by first | rfl | omega | (simp [held_mkN okEnt_mk] at c147; done) | (simp [held_mkN okEnt_mk] at c147; omega) | (simp [mkN_length, held_mkN okEnt_mk] at c147; done) | (simp [mkN_length, held_mkN okEnt_mk] at c147; omega) | (exact absurd rfl c100) | (exact absurd rfl c13)))
            ·
              rw [decide_eq_false c147] at ha146
              refine cond_f ha146 rfl ?_
              refine wp_skip ?_
              refine then_n ?_
              refine wp_seq ?_
              refine wp_seq ?_
              refine wp_region_lit ?_
              refine wl_val ha146 rfl rfl rfl (op_move ha146 rfl rfl) ?_
              intro a149 ha149; clear ha146 a146
              refine wl_val ha149 rfl rfl rfl (op_move ha149 rfl rfl) ?_
              intro a150 ha150; clear ha149 a149
              refine wl_val ha150 rfl rfl rfl ((op_neq ha150 rfl rfl rfl).to (congrArg Value.bool decide_not)) ?_
              intro a151 ha151; clear ha150 a150
              refine wpList_nil ?_
              refine then_n ?_
              by_cases c152 : (heldG okEnt 4 ((mkN mkEnt 4 ((payL ((aList)) aDay)).length ((1 : Int)))) (1 : Int) : Int) = (((1 : Int)) + 4 * (((payL ((aList)) aDay)).length : Nat) : Int)
              ·
                rw [decide_eq_true c152] at ha151
                refine cond_f ha151 rfl ?_
                refine wp_skip ?_
                refine then_n ?_
                refine wp_seq ?_
                refine wp_region_lit ?_
                refine wl_val ha151 rfl rfl rfl (op_move ha151 rfl rfl) ?_
                intro a153 ha153; clear ha151 a151
                refine wl_callR ha153 rfl rfl rfl (op_call ha153 rfl cb17 rfl) (c_laws_toEntryS _ v_aList aList (h_aList.ext pos_shEnt hx143) (by first | assumption | omega | (simp; omega))) ?_
                rintro v154 w155 he156 ho157 a158 ha158; clear ha153 a153
                have hx159 := hx143.trans' he156
                have hzhx159 := he156.size
                replace ho19 := ho19.ext he156
                replace ho27 := ho27.ext he156
                replace ho77 := ho77.ext he156
                replace ho93 := ho93.ext he156
                replace ho132 := ho132.ext he156
                refine wl_val ha158 rfl rfl rfl (op_move ha158 rfl rfl) ?_
                intro a160 ha160; clear ha158 a158
                refine wl_callR ha160 rfl rfl rfl (op_call ha160 rfl cb42 rfl) (c_impl_PayAll _ v154 ((aList)) aDay (ho157.rds pos_shEnt) (by first | assumption | omega | (simp; omega)) (by first | assumption | omega | (simp; omega))) ?_
                rintro v161 w162 he163 ⟨v164, rfl, ho165⟩ a166 ha166; clear ha160 a160
                have hx167 := hx159.trans' he163
                have hzhx167 := he163.size
                replace ho19 := ho19.ext he163
                replace ho27 := ho27.ext he163
                replace ho77 := ho77.ext he163
                replace ho93 := ho93.ext he163
                replace ho132 := ho132.ext he163
                replace ho157 := ho157.ext he163
                refine wl_val ha166 rfl rfl rfl (op_move ha166 rfl rfl) ?_
                intro a168 ha168; clear ha166 a166
                refine wl_val ha168 rfl rfl rfl (op_extract ha168 rfl rfl rfl) ?_
                intro a169 ha169; clear ha168 a168
                refine wl_val ha169 rfl rfl rfl (op_extract ha169 rfl rfl rfl) ?_
                intro a170 ha170; clear ha169 a169
                refine wl_val ha170 rfl rfl rfl (op_assign ha170 rfl rfl) ?_
                intro a171 ha171; clear ha170 a170
                refine wl_val ha171 rfl rfl rfl (op_assign ha171 rfl rfl) ?_
                intro a172 ha172; clear ha171 a171
                refine wpList_nil ?_
                refine then_n ?_
                refine wp_seq ?_
                refine wp_seq ?_
                refine wp_region_lit ?_
                refine wl_val ha172 rfl rfl rfl (op_move ha172 rfl rfl) ?_
                intro a173 ha173; clear ha172 a172
                refine wl_val ha173 rfl rfl rfl (op_move ha173 rfl rfl) ?_
                intro a174 ha174; clear ha173 a173
                refine wl_callR ha174 rfl rfl rfl (op_call ha174 rfl cb19 rfl) (c_laws_eqEntryS _ v164 ((payL ((aList)) aDay)) v26 ((payL ((aList)) aDay)) (ho165.rds pos_shEnt) (ho27.rds pos_shEnt)) ?_
                rintro v175 w176 he177 rfl a178 ha178; clear ha174 a174
                have hx179 := hx167.trans' he177
                have hzhx179 := he177.size
                replace ho19 := ho19.ext he177
                replace ho27 := ho27.ext he177
                replace ho77 := ho77.ext he177
                replace ho93 := ho93.ext he177
                replace ho132 := ho132.ext he177
                replace ho157 := ho157.ext he177
                replace ho165 := ho165.ext he177
                refine wl_val ha178 rfl rfl rfl (op_not ha178 rfl rfl) ?_
                intro a180 ha180; clear ha178 a178
                refine wl_val ha180 rfl rfl rfl (op_move ha180 rfl rfl) ?_
                intro a181 ha181; clear ha180 a180
                rw [c66] at ha181
                refine wl_val ha181 rfl rfl rfl (op_move ha181 rfl rfl) ?_
                intro a182 ha182; clear ha181 a181
                refine wl_val ha182 rfl rfl rfl (op_move ha182 rfl rfl) ?_
                intro a183 ha183; clear ha182 a182
                refine wl_val ha183 rfl rfl rfl ((op_neq ha183 rfl rfl rfl).to (congrArg Value.bool decide_not)) ?_
                intro a184 ha184; clear ha183 a183
                refine wl_val ha184 rfl rfl rfl (op_pick_f ha184 rfl rfl rfl) ?_
                intro a185 ha185; clear ha184 a184
                refine wpList_nil ?_
                refine then_n ?_
                rw [decide_eq_true c71] at ha185
                refine cond_f ha185 rfl ?_
                refine wp_skip ?_
                refine then_n ?_
                refine wp_seq ?_
                refine wp_region_lit ?_
                refine wl_val ha185 rfl rfl rfl (op_assign ha185 rfl rfl) ?_
                intro a186 ha186; clear ha185 a185
                refine wpList_nil ?_
                refine then_n ?_
                refine wp_seq ?_
                refine wp_region_lit ?_
                refine wl_val ha186 rfl rfl rfl (op_move ha186 rfl rfl) ?_
                intro a187 ha187; clear ha186 a186
                refine wl_val ha187 rfl rfl rfl (op_move ha187 rfl rfl) ?_
                intro a188 ha188; clear ha187 a187
                refine wl_callR ha188 rfl rfl rfl (op_call ha188 rfl cb33 rfl) (c_laws_heldEntryS _ v48 ((mkN mkEnt 4 ((payL ((aList)) aDay)).length ((1 : Int)))) (1 : Int) (ho132.rds pos_shEnt) (by first | assumption | omega | (simp; omega)) (by first | assumption | omega | (simp; omega)) (by first | assumption | omega | (simp; omega) | (simp [mkN_length]; omega))) ?_
                rintro v189 w190 he191 rfl a192 ha192; clear ha188 a188
                have hx193 := hx179.trans' he191
                have hzhx193 := he191.size
                replace ho19 := ho19.ext he191
                replace ho27 := ho27.ext he191
                replace ho77 := ho77.ext he191
                replace ho93 := ho93.ext he191
                replace ho132 := ho132.ext he191
                replace ho157 := ho157.ext he191
                replace ho165 := ho165.ext he191
                refine wl_val ha192 rfl rfl rfl (op_assign ha192 rfl rfl) ?_
                intro a194 ha194; clear ha192 a192
                refine wpList_nil ?_
                refine then_n ?_
                refine wp_seq ?_
                refine wp_seq ?_
                refine wp_region_lit ?_
                refine wl_val ha194 rfl rfl rfl (op_move ha194 rfl rfl) ?_
                intro a195 ha195; clear ha194 a194
                refine wl_val ha195 rfl rfl rfl (op_lss ha195 rfl rfl rfl) ?_
                intro a196 ha196; clear ha195 a195
                refine wpList_nil ?_
                refine then_n ?_
                rw [decide_eq_false c147] at ha196
                refine cond_f ha196 rfl ?_
                refine wp_skip ?_
                refine then_n ?_
                refine wp_seq ?_
                refine wp_seq ?_
                refine wp_region_lit ?_
                refine wl_val ha196 rfl rfl rfl (op_move ha196 rfl rfl) ?_
                intro a197 ha197; clear ha196 a196
                refine wl_val ha197 rfl rfl rfl (op_move ha197 rfl rfl) ?_
                intro a198 ha198; clear ha197 a197
                refine wl_val ha198 rfl rfl rfl ((op_neq ha198 rfl rfl rfl).to (congrArg Value.bool decide_not)) ?_
                intro a199 ha199; clear ha198 a198
                refine wpList_nil ?_
                refine then_n ?_
                rw [decide_eq_true c152] at ha199
                refine cond_f ha199 rfl ?_
                refine wp_skip ?_
                refine then_n ?_
                refine wp_seq ?_
                refine wp_region_lit ?_
                refine wl_val ha199 rfl rfl rfl (op_assign ha199 rfl rfl) ?_
                intro a200 ha200; clear ha199 a199
                refine wpList_nil ?_
                refine then_n ?_
                refine wp_ret ?_
                refine ret1 ha200 rfl rfl ?_
                clear ha200 a200
                exact ret_mk hx193 (congrArg Value.bool (by first | rfl | omega | (simp [held_mkN okEnt_mk] at c152; done) | (simp [held_mkN okEnt_mk] at c152; omega) | (simp [mkN_length, held_mkN okEnt_mk] at c152; done) | (simp [mkN_length, held_mkN okEnt_mk] at c152; omega) | (simp [held_mkN okEnt_mk] at c147; done) | (simp [held_mkN okEnt_mk] at c147; omega) | (simp [mkN_length, held_mkN okEnt_mk] at c147; done) | (simp [mkN_length, held_mkN okEnt_mk] at c147; omega) | (exact absurd rfl c147) | (exact absurd rfl c100) | (exact absurd rfl c13)))
              ·
                rw [decide_eq_false c152] at ha151
                refine cond_t ha151 rfl ?_
                refine wp_seq ?_
                refine wp_region_lit ?_
                refine wl_val ha151 rfl rfl rfl (op_assign ha151 rfl rfl) ?_
                intro a201 ha201; clear ha151 a151
                refine wpList_nil ?_
                refine then_n ?_
                refine wp_ret ?_
                refine then_r ?_
                refine ret1 ha201 rfl rfl ?_
                clear ha201 a201
                exact ret_mk hx143 (congrArg Value.bool (by first | rfl | omega | (simp [held_mkN okEnt_mk] at c152; done) | (simp [held_mkN okEnt_mk] at c152; omega) | (simp [mkN_length, held_mkN okEnt_mk] at c152; done) | (simp [mkN_length, held_mkN okEnt_mk] at c152; omega) | (simp [held_mkN okEnt_mk] at c147; done) | (simp [held_mkN okEnt_mk] at c147; omega) | (simp [mkN_length, held_mkN okEnt_mk] at c147; done) | (simp [mkN_length, held_mkN okEnt_mk] at c147; omega) | (exact absurd rfl c152) | (exact absurd rfl c147) | (exact absurd rfl c100) | (exact absurd rfl c13)))
        ·
          rw [c86] at ha85
          refine cond_t ha85 rfl ?_
          refine wp_seq ?_
          refine wp_region_lit ?_
          refine wl_val ha85 rfl rfl rfl (op_assign ha85 rfl rfl) ?_
          intro a202 ha202; clear ha85 a85
          refine wpList_nil ?_
          refine then_n ?_
          refine wp_ret ?_
          refine then_r ?_
          refine ret1 ha202 rfl rfl ?_
          clear ha202 a202
          exact ret_mk hx84 (congrArg Value.bool (by first | rfl | omega | (rw [eqL_self] at c86; cases c86) | (exact absurd rfl c86) | (exact absurd rfl c13)))
      ·
        rw [decide_eq_false c71] at ha70
        refine cond_t ha70 rfl ?_
        refine wp_seq ?_
        refine wp_region_lit ?_
        refine wl_val ha70 rfl rfl rfl (op_assign ha70 rfl rfl) ?_
        intro a203 ha203; clear ha70 a70
        refine wpList_nil ?_
        refine then_n ?_
        refine wp_ret ?_
        refine then_r ?_
        refine ret1 ha203 rfl rfl ?_
        clear ha203 a203
        exact ret_mk hx63 (congrArg Value.bool (by first | rfl | omega | (exact absurd rfl c71) | (exact absurd rfl c13)))
    ·
      rw [c66] at ha65
      refine wl_skip ha65 rfl rfl rfl ?_
      intro a204 ha204; clear ha65 a65
      refine wl_skip ha204 rfl rfl rfl ?_
      intro a205 ha205; clear ha204 a204
      refine wl_skip ha205 rfl rfl rfl ?_
      intro a206 ha206; clear ha205 a205
      refine wl_val ha206 rfl rfl rfl (op_pick_t ha206 rfl rfl rfl) ?_
      intro a207 ha207; clear ha206 a206
      refine wpList_nil ?_
      refine then_n ?_
      refine cond_t ha207 rfl ?_
      refine wp_seq ?_
      refine wp_region_lit ?_
      refine wl_val ha207 rfl rfl rfl (op_assign ha207 rfl rfl) ?_
      intro a208 ha208; clear ha207 a207
      refine wpList_nil ?_
      refine then_n ?_
      refine wp_ret ?_
      refine then_r ?_
      refine ret1 ha208 rfl rfl ?_
      clear ha208 a208
      exact ret_mk hx63 (congrArg Value.bool (by first | rfl | omega | (rw [eqL_self] at c66; cases c66) | (exact absurd rfl c66) | (exact absurd rfl c13)))


end Go.Proofs.Ytocedhbefdaefaa
