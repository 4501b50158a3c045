/- The law WidthsOf, walked. -/
import Derived.Test.YtjpldgicibnkcaaW3
import Derived.Test.YtjpldgicibnkcaaL3
namespace Go.Proofs.Ytjpldgicibnkcaa
open Go Go.RowKit

theorem c_laws_FnExactWidthsOf (w0 : World) (v_aT0 : Value) (v_aT1 : Value) (aT : List Str × List (List Int)) {S_aT0 : Nat → Prop} {S_aT1 : Nat → Prop} (h_aT0 : Rds shStr S_aT0 w0 v_aT0 aT.1) (h_aT1 : Rds shRow S_aT1 w0 v_aT1 aT.2) :
    Calls Try.prog 6 #[.agg #[v_aT0, v_aT1]] w0 (Ret w0 (fun v _ => v = .bool (true))) := by
  refine enter (N := 96) Try.func6 rfl rfl rfl ?_
  intro a0 ha0
  have hx0 := Ext.rfl' w0
  have hl_aT0 := h_aT0.length_le
  have hl_aT1 := h_aT1.length_le
  have hcl : costT aT = costL costS aT.1 + costL costRow aT.2 := rfl
  have hc1 := costL_len costS aT.1
  have hc2 := costL_len costRow aT.2
  have hkk := kkT_le aT 1
  have hkg := kkT_ge aT 1
  have hkk2 : kkT (aT.1, aT.2) 1 ≤ 1 + (costT aT : Nat) := hkk
  have hkg2 : 1 ≤ kkT (aT.1, aT.2) 1 := hkg
  have hwl := wdT_len aT
  refine wp_seq ?_
  refine wp_region_lit ?_
  refine wl_eff ha0 rfl rfl rfl (op_box' ha0 rfl rfl rfl) ?_
  rintro _ w2 ⟨rfl, he3, hb4, hz5⟩ a6 ha6; clear ha0 a0
  have hx7 := hx0.trans' he3
  have hzhx7 := he3.size
  refine wl_val ha6 rfl rfl rfl (op_assign ha6 rfl rfl) ?_
  intro a8 ha8; clear ha6 a6
  refine wpList_nil ?_
  refine then_n ?_
  refine wp_seq ?_
  refine wp_region_lit ?_
  refine wl_val ha8 rfl rfl rfl (op_assign ha8 rfl rfl) ?_
  intro a9 ha9; clear ha8 a8
  refine wpList_nil ?_
  refine then_n ?_
  refine wp_seq ?_
  refine wp_region_lit ?_
  refine wl_val ha9 rfl rfl rfl (op_loadS ha9 rfl Try.underlying25 ti25 rfl rfl hb4.cells) ?_
  intro a10 ha10; clear ha9 a9
  refine wl_val ha10 rfl rfl rfl (op_move ha10 rfl rfl) ?_
  intro a11 ha11; clear ha10 a10
  refine wl_callR ha11 rfl rfl rfl (op_call ha11 rfl cb16 rfl) (c_laws_szTable _ v_aT0 v_aT1 aT (1048576 : Int) (h_aT0.ext pos_shStr hx7) (h_aT1.ext pos_shRow hx7) (by first | assumption | omega | (simp; omega)) (by first | assumption | omega | (simp; omega))) ?_
  rintro v12 w13 he14 rfl a15 ha15; clear ha11 a11
  have hx16 := hx7.trans' he14
  have hzhx16 := he14.size
  replace hb4 := hb4.ext he14
  refine wl_val ha15 rfl rfl rfl (op_assign ha15 rfl rfl) ?_
  intro a17 ha17; clear ha15 a15
  refine wpList_nil ?_
  refine then_n ?_
  refine wp_seq ?_
  refine wp_seq ?_
  refine wp_region_lit ?_
  refine wl_val ha17 rfl rfl rfl (op_move ha17 rfl rfl) ?_
  intro a18 ha18; clear ha17 a17
  refine wl_val ha18 rfl rfl rfl (op_lss ha18 rfl rfl rfl) ?_
  intro a19 ha19; clear ha18 a18
  refine wpList_nil ?_
  refine then_n ?_
  by_cases c20 : (szR (1048576 : Int) (costT aT) : Int) < (0 : Int)
  ·
    rw [decide_eq_true c20] at ha19
    refine cond_t ha19 rfl ?_
    refine wp_seq ?_
    refine wp_region_lit ?_
    refine wl_val ha19 rfl rfl rfl (op_assign ha19 rfl rfl) ?_
    intro a21 ha21; clear ha19 a19
    refine wpList_nil ?_
    refine then_n ?_
    refine wp_ret ?_
    refine then_r ?_
    refine ret1 ha21 rfl rfl ?_
    clear ha21 a21
    exact ret_mk hx16 (congrArg Value.bool (by first | rfl | omega))
  ·
    rw [decide_eq_false c20] at ha19
    have hzc20 := szR_ok c20
    refine cond_f ha19 rfl ?_
    refine wp_skip ?_
    refine then_n ?_
    refine wp_seq ?_
    refine wp_region_lit ?_
    refine wl_val ha19 rfl rfl rfl (op_loadS ha19 rfl Try.underlying25 ti25 rfl rfl hb4.cells) ?_
    intro a22 ha22; clear ha19 a19
    refine wl_callR ha22 rfl rfl rfl (op_call ha22 rfl cb18 rfl) (c_laws_toTable _ v_aT0 v_aT1 aT (h_aT0.ext pos_shStr hx16) (h_aT1.ext pos_shRow hx16) (by first | assumption | omega | (simp; omega))) ?_
    rintro v23 w24 he25 ⟨u26, u28, z30, rfl, ho27, ho29, hN31, hE32⟩ a33 ha33; clear ha22 a22
    have hx34 := hx16.trans' he25
    have hzhx34 := he25.size
    replace hb4 := hb4.ext he25
    have hlhE32 := absLen hE32
    refine wl_callR ha33 rfl rfl rfl (op_call ha33 rfl cb29 rfl) (c_spec_WidthsOf _ u26 u28 ((aT)) (ho27.rds pos_shStr) ((rds_shRowN (ho29.fin (by omega) (by omega) (by omega)) hN31).cast hE32)) ?_
    rintro v35 w36 he37 ⟨v38, rfl, ho39⟩ a40 ha40; clear ha33 a33
    have hx41 := hx34.trans' he37
    have hzhx41 := he37.size
    replace hb4 := hb4.ext he37
    replace ho27 := ho27.ext he37
    replace ho29 := ho29.ext he37
    replace hN31 := hN31.ext he37
    refine wl_val ha40 rfl rfl rfl (op_move ha40 rfl rfl) ?_
    intro a42 ha42; clear ha40 a40
    refine wl_val ha42 rfl rfl rfl (op_extract ha42 rfl rfl rfl) ?_
    intro a43 ha43; clear ha42 a42
    refine wl_val ha43 rfl rfl rfl (op_extract ha43 rfl rfl rfl) ?_
    intro a44 ha44; clear ha43 a43
    refine wl_val ha44 rfl rfl rfl (op_assign ha44 rfl rfl) ?_
    intro a45 ha45; clear ha44 a44
    refine wl_val ha45 rfl rfl rfl (op_assign ha45 rfl rfl) ?_
    intro a46 ha46; clear ha45 a45
    refine wpList_nil ?_
    refine then_n ?_
    refine wp_seq ?_
    refine wp_region_lit ?_
    refine wl_val ha46 rfl rfl rfl (op_loadS ha46 rfl Try.underlying25 ti25 rfl rfl hb4.cells) ?_
    intro a47 ha47; clear ha46 a46
    refine wl_callR ha47 rfl rfl rfl (op_call ha47 rfl cb18 rfl) (c_laws_toTable _ v_aT0 v_aT1 aT (h_aT0.ext pos_shStr hx41) (h_aT1.ext pos_shRow hx41) (by first | assumption | omega | (simp; omega))) ?_
    rintro v48 w49 he50 ⟨u51, u53, z55, rfl, ho52, ho54, hN56, hE57⟩ a58 ha58; clear ha47 a47
    have hx59 := hx41.trans' he50
    have hzhx59 := he50.size
    replace hb4 := hb4.ext he50
    replace ho27 := ho27.ext he50
    replace ho29 := ho29.ext he50
    replace hN31 := hN31.ext he50
    replace ho39 := ho39.ext he50
    have hlhE57 := absLen hE57
    refine wl_eff ha58 rfl rfl rfl (op_alloc' rfl ti28 rfl) ?_
    rintro _ w61 ⟨rfl, he62, hb63, hz64⟩ a65 ha65; clear ha58 a58
    have hx66 := hx59.trans' he62
    have hzhx66 := he62.size
    replace hb4 := hb4.ext he62
    replace ho27 := ho27.ext he62
    replace ho29 := ho29.ext he62
    replace hN31 := hN31.ext he62
    replace ho39 := ho39.ext he62
    replace ho52 := ho52.ext he62
    replace ho54 := ho54.ext he62
    replace hN56 := hN56.ext he62
    refine wl_effS ha65 rfl rfl (op_storeAll' ha65 rfl ti28 rfl rfl hb63 rfl rfl (by intro u hu; have hu : u ∈ ([u51, u53] : List Value) := hu; simp only [List.mem_cons, List.mem_nil_iff, or_false] at hu; rcases hu with rfl | rfl <;> first | rfl | exact ho52.one | exact ho54.one) rfl) ?_
    rintro w67 ⟨hb69, hst68, hz70⟩
    have hx71 := hx66.stp hst68 (by intro q hq; cases hq; exact (by omega))
    have hzhx71 := hst68.size
    replace hb4 := hb4.stp hst68 (by intro q hq; cases hq; omega)
    replace ho27 : Own shStr 9 w13.heap.size w13.heap.size w24.heap.size w67 u26 (((aT).1)) := by first | exact ho27.stp hst68 (by intro q hq; cases hq; omega) | exact ho27.stpF flat_shStr hst68 (by intro q hq; cases hq; exact ho27.ne_box (by assumption) rfl)
    replace ho29 : Own shRowN 41 w13.heap.size w13.heap.size w24.heap.size w67 u28 z30 := by first | exact ho29.stp hst68 (by intro q hq; cases hq; omega) | exact ho29.stpF flat_shRowN hst68 (by intro q hq; cases hq; exact ho29.ne_box (by assumption) rfl)
    replace hN31 : Nst shI64 2 (fun x : List Int => x) w13.heap.size w24.heap.size w67 z30 := by first | exact hN31.stp hst68 (by intro q hq; cases hq; omega) | exact hN31.stpB flat_shI64 hst68 (by assumption) rfl
    replace ho39 : Own shI64 2 w24.heap.size w24.heap.size w36.heap.size w67 v38 ((wdT ((aT)))) := by first | exact ho39.stp hst68 (by intro q hq; cases hq; omega) | exact ho39.stpF flat_shI64 hst68 (by intro q hq; cases hq; exact ho39.ne_box (by assumption) rfl)
    replace ho52 : Own shStr 9 w36.heap.size w36.heap.size w49.heap.size w67 u51 (((aT).1)) := by first | exact ho52.stp hst68 (by intro q hq; cases hq; omega) | exact ho52.stpF flat_shStr hst68 (by intro q hq; cases hq; exact ho52.ne_box (by assumption) rfl)
    replace ho54 : Own shRowN 41 w36.heap.size w36.heap.size w49.heap.size w67 u53 z55 := by first | exact ho54.stp hst68 (by intro q hq; cases hq; omega) | exact ho54.stpF flat_shRowN hst68 (by intro q hq; cases hq; exact ho54.ne_box (by assumption) rfl)
    replace hN56 : Nst shI64 2 (fun x : List Int => x) w36.heap.size w49.heap.size w67 z55 := by first | exact hN56.stp hst68 (by intro q hq; cases hq; omega) | exact hN56.stpB flat_shI64 hst68 (by assumption) rfl
    clear hb63
    refine wpList_nil ?_
    refine then_n ?_
    refine wp_seq ?_
    refine wp_region_lit ?_
    refine wl_val ha65 rfl rfl rfl (op_loadS ha65 rfl Try.underlying28 ti28 rfl rfl hb69.cells) ?_
    intro a72 ha72; clear ha65 a65
    refine wl_callR ha72 rfl rfl rfl (op_call ha72 rfl cb30 rfl) (c_impl_WidthsOf _ u51 u53 ((aT)) (ho52.rds pos_shStr) ((rds_shRowN (ho54.fin (by omega) (by omega) (by omega)) hN56).cast hE57)) ?_
    rintro v73 w74 he75 ⟨v76, rfl, ho77⟩ a78 ha78; clear ha72 a72
    have hx79 := hx71.trans' he75
    have hzhx79 := he75.size
    replace hb4 := hb4.ext he75
    replace ho27 := ho27.ext he75
    replace ho29 := ho29.ext he75
    replace hN31 := hN31.ext he75
    replace ho39 := ho39.ext he75
    replace ho52 := ho52.ext he75
    replace ho54 := ho54.ext he75
    replace hN56 := hN56.ext he75
    replace hb69 := hb69.ext he75
    refine wl_val ha78 rfl rfl rfl (op_move ha78 rfl rfl) ?_
    intro a80 ha80; clear ha78 a78
    refine wl_val ha80 rfl rfl rfl (op_extract ha80 rfl rfl rfl) ?_
    intro a81 ha81; clear ha80 a80
    refine wl_val ha81 rfl rfl rfl (op_extract ha81 rfl rfl rfl) ?_
    intro a82 ha82; clear ha81 a81
    refine wl_val ha82 rfl rfl rfl (op_assign ha82 rfl rfl) ?_
    intro a83 ha83; clear ha82 a82
    refine wl_val ha83 rfl rfl rfl (op_assign ha83 rfl rfl) ?_
    intro a84 ha84; clear ha83 a83
    refine wpList_nil ?_
    refine then_n ?_
    refine wp_seq ?_
    refine wp_seq ?_
    refine wp_region_lit ?_
    refine wl_val ha84 rfl rfl rfl (op_move ha84 rfl rfl) ?_
    intro a85 ha85; clear ha84 a84
    refine wl_val ha85 rfl rfl rfl (op_move ha85 rfl rfl) ?_
    intro a86 ha86; clear ha85 a85
    refine wl_callR ha86 rfl rfl rfl (op_call ha86 rfl cb31 rfl) (c_laws_eqInt64S _ v76 ((wdT ((aT)))) v38 ((wdT ((aT)))) (ho77.rds pos_shI64) (ho39.rds pos_shI64)) ?_
    rintro v87 w88 he89 rfl a90 ha90; clear ha86 a86
    have hx91 := hx79.trans' he89
    have hzhx91 := he89.size
    replace hb4 := hb4.ext he89
    replace ho27 := ho27.ext he89
    replace ho29 := ho29.ext he89
    replace hN31 := hN31.ext he89
    replace ho39 := ho39.ext he89
    replace ho52 := ho52.ext he89
    replace ho54 := ho54.ext he89
    replace hN56 := hN56.ext he89
    replace hb69 := hb69.ext he89
    replace ho77 := ho77.ext he89
    refine wl_val ha90 rfl rfl rfl (op_not ha90 rfl rfl) ?_
    intro a92 ha92; clear ha90 a90
    refine wl_val ha92 rfl rfl rfl (op_move ha92 rfl rfl) ?_
    intro a93 ha93; clear ha92 a92
    rcases Bool.eq_false_or_eq_true (eqL ((wdT ((aT)))) ((wdT ((aT))))) with c94 | c94
    ·
      rw [c94] at ha93
      refine wl_val ha93 rfl rfl rfl (op_move ha93 rfl rfl) ?_
      intro a95 ha95; clear ha93 a93
      refine wl_val ha95 rfl rfl rfl (op_move ha95 rfl rfl) ?_
      intro a96 ha96; clear ha95 a95
      refine wl_val ha96 rfl rfl rfl ((op_neq ha96 rfl rfl rfl).to (congrArg Value.bool decide_not)) ?_
      intro a97 ha97; clear ha96 a96
      refine wl_val ha97 rfl rfl rfl (op_pick_f ha97 rfl rfl rfl) ?_
      intro a98 ha98; clear ha97 a97
      refine wpList_nil ?_
      refine then_n ?_
      by_cases c99 : (if tabB ((aT)) then 0 else 1 : Int) = (if tabB ((aT)) then 0 else 1 : Int)
      ·
        rw [decide_eq_true c99] at ha98
        refine cond_f ha98 rfl ?_
        refine wp_skip ?_
        refine then_n ?_
        refine wp_seq ?_
        refine wp_seq ?_
        refine dr_enter Ext follows_mixed ?_
        intro w100 he101
        have hx102 := hx91.trans' he101
        have hzhx102 := he101.size
        replace hb4 := hb4.ext he101
        replace ho27 := ho27.ext he101
        replace ho29 := ho29.ext he101
        replace hN31 := hN31.ext he101
        replace ho39 := ho39.ext he101
        replace ho52 := ho52.ext he101
        replace ho54 := ho54.ext he101
        replace hN56 := hN56.ext he101
        replace hb69 := hb69.ext he101
        replace ho77 := ho77.ext he101
        have hs103 : Ext w100 w100 := Ext.rfl' _
        refine dr_val (i := 0) ha98 rfl (by kernel_rfl) (by kernel_rfl) (by kernel_rfl) rfl rfl rfl hs103 (fun w' hw' => op_loadS ha98 rfl Try.underlying28 ti28 rfl rfl (hb69.ext hw').cells) ?_
        intro a104 ha104; clear ha98 a98
        refine dr_val (i := 1) ha104 rfl (by kernel_rfl) (by kernel_rfl) (by kernel_rfl) rfl rfl rfl hs103 (fun w' hw' => op_loadS ha104 rfl Try.underlying25 ti25 rfl rfl (hb4.ext hw').cells) ?_
        intro a105 ha105; clear ha104 a104
        refine dr_one (i := 2) (by kernel_rfl) ?_
        refine po_callR ha105 rfl rfl rfl rfl (op_call ha105 rfl cb18 rfl) (c_laws_toTable _ v_aT0 v_aT1 aT (h_aT0.ext pos_shStr (hx102.trans' hs103)) (h_aT1.ext pos_shRow (hx102.trans' hs103)) (by first | assumption | omega | (simp; omega))) ?_
        rintro v106 w107 he108 ⟨u109, u111, z113, rfl, ho110, ho112, hN114, hE115⟩ a116 ha116; clear ha105 a105
        have hs117 := hs103.trans' he108
        have hx118 := hx102.trans' he108
        have hzhx118 := he108.size
        refine ⟨hs117, ?_⟩
        have hlhE115 := absLen hE115
        refine dr_one (i := 3) (by kernel_rfl) ?_
        refine po_callR ha116 rfl rfl rfl rfl (op_call ha116 rfl cb20 rfl) (c_laws_eqTable _ u51 u53 ((aT)) u109 u111 ((aT)) ((ho52.rds pos_shStr).ext pos_shStr hs117) (((rds_shRowN (ho54.fin (by omega) (by omega) (by omega)) hN56).ext pos_shRow hs117).cast hE57) (ho110.rds pos_shStr) ((rds_shRowN (ho112.fin (by omega) (by omega) (by omega)) hN114).cast hE115)) ?_
        rintro v119 w120 he121 rfl a122 ha122; clear ha116 a116
        have hs123 := hs117.trans' he121
        have hx124 := hx118.trans' he121
        have hzhx124 := he121.size
        replace ho110 := ho110.ext he121
        replace ho112 := ho112.ext he121
        replace hN114 := hN114.ext he121
        refine ⟨hs123, ?_⟩
        refine dr_val (i := 4) ha122 rfl (by kernel_rfl) (by kernel_rfl) (by kernel_rfl) rfl rfl rfl hs123 (fun w' hw' => op_not ha122 rfl rfl) ?_
        intro a125 ha125; clear ha122 a122
        refine dr_end (by kernel_rfl) ?_
        replace hb4 := hb4.ext hs123
        replace ho27 := ho27.ext hs123
        replace ho29 := ho29.ext hs123
        replace hN31 := hN31.ext hs123
        replace ho39 := ho39.ext hs123
        replace ho52 := ho52.ext hs123
        replace ho54 := ho54.ext hs123
        replace hN56 := hN56.ext hs123
        replace hb69 := hb69.ext hs123
        replace ho77 := ho77.ext hs123
        refine then_n ?_
        rcases Bool.eq_false_or_eq_true (decide (((aT)) = ((aT)))) with c126 | c126
        ·
          rw [c126] at ha125
          refine cond_f ha125 rfl ?_
          refine wp_skip ?_
          refine then_n ?_
          refine wp_seq ?_
          refine wp_region_lit ?_
          refine wl_val ha125 rfl rfl rfl (op_assign ha125 rfl rfl) ?_
          intro a127 ha127; clear ha125 a125
          refine wpList_nil ?_
          refine then_n ?_
          refine wp_seq ?_
          refine wp_region_lit ?_
          refine wl_val ha127 rfl rfl rfl (op_loadS ha127 rfl Try.underlying28 ti28 rfl rfl hb69.cells) ?_
          intro a128 ha128; clear ha127 a127
          refine wl_val ha128 rfl rfl rfl (op_move ha128 rfl rfl) ?_
          intro a129 ha129; clear ha128 a128
          have hm138 := c_laws_markTable (lo_a := w36.heap.size) (hi_a := w49.heap.size) _ u51 (((aT).1)) u53 z55 (1 : Int) (ho52.fin (by omega) (by omega) (by omega)) (ho54.fin (by omega) (by omega) (by omega)) (hN56.fin (by omega) (by omega)) (by omega) (by (try rw [hE57]); first | assumption | omega | (simp; omega)) (by (try rw [hE57]); first | assumption | omega | (simp; omega)) (by (try rw [hE57]); first | assumption | omega | (simp; omega))
          try rw [hE57] at hm138
          refine wl_callI ha129 rfl rfl rfl (op_call ha129 rfl cb26 rfl) (hm138) ?_
          rintro v130 w131 he132 ⟨z135, rfl, ho133, ho134, hN136, hE137⟩ a139 ha139; clear ha129 a129
          have hx140 := hx124.stpI he132 (by omega)
          have hzhx140 := he132.size
          replace hb4 := hb4.stpI he132 (by omega)
          replace ho27 := ho27.stpI he132 (by omega)
          replace ho29 := ho29.stpI he132 (by omega)
          replace hN31 := hN31.stpI he132 (by omega)
          replace ho39 := ho39.stpI he132 (by omega)
          replace hb69 := hb69.stpI he132 (by omega)
          replace ho77 := ho77.stpI he132 (by omega)
          replace ho110 := ho110.stpI he132 (by omega)
          replace ho112 := ho112.stpI he132 (by omega)
          replace hN114 := hN114.stpI he132 (by omega)
          clear ho52 ho54 hN56
          refine wl_val ha139 rfl rfl rfl (op_assign ha139 rfl rfl) ?_
          intro a141 ha141; clear ha139 a139
          refine wpList_nil ?_
          refine then_n ?_
          refine wp_seq ?_
          refine wp_seq ?_
          refine wp_region_lit ?_
          refine wl_val ha141 rfl rfl rfl (op_move ha141 rfl rfl) ?_
          intro a142 ha142; clear ha141 a141
          refine wl_val ha142 rfl rfl rfl (op_lss ha142 rfl rfl rfl) ?_
          intro a143 ha143; clear ha142 a142
          refine wl_val ha143 rfl rfl rfl (op_move ha143 rfl rfl) ?_
          intro a144 ha144; clear ha143 a143
          by_cases c145 : (kkT ((((aT).1), ((aT).2)) : List Str × List (List Int)) ((1 : Int)) : Int) < (0 : Int)
          ·
            rw [decide_eq_true c145] at ha144
            refine wl_skip ha144 rfl rfl rfl ?_
            intro a146 ha146; clear ha144 a144
            refine wl_skip ha146 rfl rfl rfl ?_
            intro a147 ha147; clear ha146 a146
            refine wl_skip ha147 rfl rfl rfl ?_
            intro a148 ha148; clear ha147 a147
            refine wl_skip ha148 rfl rfl rfl ?_
            intro a149 ha149; clear ha148 a148
            refine wl_val ha149 rfl rfl rfl (op_pick_t ha149 rfl rfl rfl) ?_
            intro a150 ha150; clear ha149 a149
            refine wl_val ha150 rfl rfl rfl (op_move ha150 rfl rfl) ?_
            intro a151 ha151; clear ha150 a150
            refine wl_skip ha151 rfl rfl rfl ?_
            intro a152 ha152; clear ha151 a151
            refine wl_skip ha152 rfl rfl rfl ?_
            intro a153 ha153; clear ha152 a152
            refine wl_skip ha153 rfl rfl rfl ?_
            intro a154 ha154; clear ha153 a153
            refine wl_val ha154 rfl rfl rfl (op_pick_t ha154 rfl rfl rfl) ?_
            intro a155 ha155; clear ha154 a154
            refine wpList_nil ?_
            refine then_n ?_
            refine cond_t ha155 rfl ?_
            refine wp_seq ?_
            refine wp_region_lit ?_
            refine wl_val ha155 rfl rfl rfl (op_assign ha155 rfl rfl) ?_
            intro a156 ha156; clear ha155 a155
            refine wpList_nil ?_
            refine then_n ?_
            refine wp_ret ?_
            refine then_r ?_
            refine ret1 ha156 rfl rfl ?_
            clear ha156 a156
            exact ret_mk hx140 (congrArg Value.bool (by first | rfl | omega | (simp at c126; done) | (exact absurd rfl c20)))
          ·
            rw [decide_eq_false c145] at ha144
            refine wl_val ha144 rfl rfl rfl (op_move ha144 rfl rfl) ?_
            intro a157 ha157; clear ha144 a144
            refine wl_val ha157 rfl rfl rfl (op_move ha157 rfl rfl) ?_
            intro a158 ha158; clear ha157 a157
            refine wl_callR ha158 rfl rfl rfl (op_call ha158 rfl cb31 rfl) (c_laws_eqInt64S _ v76 ((wdT ((aT)))) v38 ((wdT ((aT)))) (ho77.rds pos_shI64) (ho39.rds pos_shI64)) ?_
            rintro v159 w160 he161 rfl a162 ha162; clear ha158 a158
            have hx163 := hx140.trans' he161
            have hzhx163 := he161.size
            replace hb4 := hb4.ext he161
            replace ho27 := ho27.ext he161
            replace ho29 := ho29.ext he161
            replace hN31 := hN31.ext he161
            replace ho39 := ho39.ext he161
            replace hb69 := hb69.ext he161
            replace ho77 := ho77.ext he161
            replace ho110 := ho110.ext he161
            replace ho112 := ho112.ext he161
            replace hN114 := hN114.ext he161
            replace ho133 := ho133.ext he161
            replace ho134 := ho134.ext he161
            replace hN136 := hN136.ext he161
            refine wl_val ha162 rfl rfl rfl (op_not ha162 rfl rfl) ?_
            intro a164 ha164; clear ha162 a162
            refine wl_val ha164 rfl rfl rfl (op_pick_f ha164 rfl rfl rfl) ?_
            intro a165 ha165; clear ha164 a164
            refine wl_val ha165 rfl rfl rfl (op_move ha165 rfl rfl) ?_
            intro a166 ha166; clear ha165 a165
            rw [c94] at ha166
            refine wl_val ha166 rfl rfl rfl (op_move ha166 rfl rfl) ?_
            intro a167 ha167; clear ha166 a166
            refine wl_val ha167 rfl rfl rfl (op_move ha167 rfl rfl) ?_
            intro a168 ha168; clear ha167 a167
            refine wl_val ha168 rfl rfl rfl ((op_neq ha168 rfl rfl rfl).to (congrArg Value.bool decide_not)) ?_
            intro a169 ha169; clear ha168 a168
            refine wl_val ha169 rfl rfl rfl (op_pick_f ha169 rfl rfl rfl) ?_
            intro a170 ha170; clear ha169 a169
            refine wpList_nil ?_
            refine then_n ?_
            rw [decide_eq_true c99] at ha170
            refine cond_f ha170 rfl ?_
            refine wp_skip ?_
            refine then_n ?_
            refine wp_seq ?_
            refine wp_region_lit ?_
            refine wl_val ha170 rfl rfl rfl (op_assign ha170 rfl rfl) ?_
            intro a171 ha171; clear ha170 a170
            refine wpList_nil ?_
            refine then_n ?_
            refine wp_seq ?_
            refine wp_region_lit ?_
            refine wl_val ha171 rfl rfl rfl (op_move ha171 rfl rfl) ?_
            intro a172 ha172; clear ha171 a171
            refine wl_val ha172 rfl rfl rfl (op_move ha172 rfl rfl) ?_
            intro a173 ha173; clear ha172 a172
            refine wl_callS ha173 rfl rfl rfl (op_call ha173 rfl cb32 rfl) (c_laws_markInt64S _ v76 ((wdT ((aT)))) (1 : Int) ho77 (by first | assumption | omega | (simp; omega)) (by first | assumption | omega | (simp; omega)) (by first | assumption | omega | (simp; omega))) ?_
            rintro v174 w175 he176 ⟨rfl, ho177⟩ a178 ha178; clear ha173 a173
            have hx179 := hx163.stp he176 (by intro q hq; have hq0 := ho77.lt q hq; omega)
            have hzhx179 := he176.size
            replace hb4 : Box w175 w0.heap.size 25 [v_aT0, v_aT1] := by first | exact hb4.stp he176 (by intro q hq; have hq0 := ho77.lt q hq; omega) | exact hb4.stp he176 (by intro q hq e; subst e; exact ho77.ne_box hb4 rfl hq)
            replace ho27 : Own shStr 9 w13.heap.size w13.heap.size w24.heap.size w175 u26 (((aT).1)) := by first | exact ho27.stp he176 (by intro q hq; have hq0 := ho77.lt q hq; omega) | exact ho27.stpF flat_shStr he176 (ho27.ne ho77 rfl)
            replace ho29 : Own shRowN 41 w13.heap.size w13.heap.size w24.heap.size w175 u28 z30 := by first | exact ho29.stp he176 (by intro q hq; have hq0 := ho77.lt q hq; omega) | exact ho29.stpF flat_shRowN he176 (ho29.ne ho77 rfl)
            replace hN31 : Nst shI64 2 (fun x : List Int => x) w13.heap.size w24.heap.size w175 z30 := by first | exact hN31.stp he176 (by intro q hq; have hq0 := ho77.lt q hq; omega)
            replace ho39 : Own shI64 2 w24.heap.size w24.heap.size w36.heap.size w175 v38 ((wdT ((aT)))) := by first | exact ho39.stp he176 (by intro q hq; have hq0 := ho77.lt q hq; omega)
            replace hb69 : Box w175 w49.heap.size 28 [u51, u53] := by first | exact hb69.stp he176 (by intro q hq; have hq0 := ho77.lt q hq; omega) | exact hb69.stp he176 (by intro q hq e; subst e; exact ho77.ne_box hb69 rfl hq)
            replace ho110 : Own shStr 9 w100.heap.size w100.heap.size w107.heap.size w175 u109 (((aT).1)) := by first | exact ho110.stp he176 (by intro q hq; have hq0 := ho77.lt q hq; omega) | exact ho110.stpF flat_shStr he176 (ho110.ne ho77 rfl)
            replace ho112 : Own shRowN 41 w100.heap.size w100.heap.size w107.heap.size w175 u111 z113 := by first | exact ho112.stp he176 (by intro q hq; have hq0 := ho77.lt q hq; omega) | exact ho112.stpF flat_shRowN he176 (ho112.ne ho77 rfl)
            replace hN114 : Nst shI64 2 (fun x : List Int => x) w100.heap.size w107.heap.size w175 z113 := by first | exact hN114.stp he176 (by intro q hq; have hq0 := ho77.lt q hq; omega)
            replace ho133 : Own shStr 9 w36.heap.size w36.heap.size w49.heap.size w175 u51 ((mkN mkS 1 ((((aT).1), ((aT).2)) : List Str × List (List Int)).1.length ((1 : Int)))) := by first | exact ho133.stp he176 (by intro q hq; have hq0 := ho77.lt q hq; omega) | exact ho133.stpF flat_shStr he176 (ho133.ne ho77 rfl)
            replace ho134 : Own shRowN 41 w36.heap.size w36.heap.size w49.heap.size w175 u53 z135 := by first | exact ho134.stp he176 (by intro q hq; have hq0 := ho77.lt q hq; omega) | exact ho134.stpF flat_shRowN he176 (ho134.ne ho77 rfl)
            replace hN136 : Nst shI64 2 (fun x : List Int => x) w36.heap.size w49.heap.size w175 z135 := by first | exact hN136.stp he176 (by intro q hq; have hq0 := ho77.lt q hq; omega)
            clear ho77
            refine wl_val ha178 rfl rfl rfl (op_assign ha178 rfl rfl) ?_
            intro a180 ha180; clear ha178 a178
            refine wpList_nil ?_
            refine then_n ?_
            refine wp_seq ?_
            refine wp_region_lit ?_
            refine wl_val ha180 rfl rfl rfl (op_assign ha180 rfl rfl) ?_
            intro a181 ha181; clear ha180 a180
            refine wpList_nil ?_
            refine then_n ?_
            refine wp_seq ?_
            refine wp_region_lit ?_
            refine wl_val ha181 rfl rfl rfl (op_move ha181 rfl rfl) ?_
            intro a182 ha182; clear ha181 a181
            refine wl_val ha182 rfl rfl rfl (op_move ha182 rfl rfl) ?_
            intro a183 ha183; clear ha182 a182
            refine wl_callR ha183 rfl rfl rfl (op_call ha183 rfl cb33 rfl) (c_laws_heldInt64S _ v76 ((mkN mkI 1 ((wdT ((aT)))).length ((1 : Int)))) (1 : Int) (ho177.rds pos_shI64) (by first | assumption | omega | (simp; omega)) (by first | assumption | omega | (simp; omega)) (by first | assumption | omega | (simp; omega) | (simp [mkN_length]; omega))) ?_
            rintro v184 w185 he186 rfl a187 ha187; clear ha183 a183
            have hx188 := hx179.trans' he186
            have hzhx188 := he186.size
            replace hb4 := hb4.ext he186
            replace ho27 := ho27.ext he186
            replace ho29 := ho29.ext he186
            replace hN31 := hN31.ext he186
            replace ho39 := ho39.ext he186
            replace hb69 := hb69.ext he186
            replace ho110 := ho110.ext he186
            replace ho112 := ho112.ext he186
            replace hN114 := hN114.ext he186
            replace ho133 := ho133.ext he186
            replace ho134 := ho134.ext he186
            replace hN136 := hN136.ext he186
            replace ho177 := ho177.ext he186
            refine wl_val ha187 rfl rfl rfl (op_assign ha187 rfl rfl) ?_
            intro a189 ha189; clear ha187 a187
            refine wpList_nil ?_
            refine then_n ?_
            refine wp_seq ?_
            refine wp_seq ?_
            refine wp_region_lit ?_
            refine wl_val ha189 rfl rfl rfl (op_move ha189 rfl rfl) ?_
            intro a190 ha190; clear ha189 a189
            refine wl_val ha190 rfl rfl rfl (op_lss ha190 rfl rfl rfl) ?_
            intro a191 ha191; clear ha190 a190
            refine wpList_nil ?_
            refine then_n ?_
            by_cases c192 : (heldG okI 1 ((mkN mkI 1 ((wdT ((aT)))).length ((1 : Int)))) (1 : Int) : Int) < (0 : Int)
            ·
              rw [decide_eq_true c192] at ha191
              refine cond_t ha191 rfl ?_
              refine wp_seq ?_
              refine wp_region_lit ?_
              refine wl_val ha191 rfl rfl rfl (op_assign ha191 rfl rfl) ?_
              intro a193 ha193; clear ha191 a191
              refine wpList_nil ?_
              refine then_n ?_
              refine wp_ret ?_
              refine then_r ?_
              refine ret1 ha193 rfl rfl ?_
              clear ha193 a193
              exact ret_mk hx188 (congrArg Value.bool (by first | rfl | omega | (simp [held_mkN okI_mk] at c192; done) | (simp [held_mkN okI_mk] at c192; omega) | (simp [held_mkN okI_mk, mkN_length] at c192; done) | (simp [held_mkN okI_mk, mkN_length] at c192; omega) | (exact absurd rfl c145) | (simp at c126; done) | (exact absurd rfl c20)))
            ·
              rw [decide_eq_false c192] at ha191
              refine cond_f ha191 rfl ?_
              refine wp_skip ?_
              refine then_n ?_
              refine wp_seq ?_
              refine wp_seq ?_
              refine wp_region_lit ?_
              refine wl_val ha191 rfl rfl rfl (op_move ha191 rfl rfl) ?_
              intro a194 ha194; clear ha191 a191
              refine wl_val ha194 rfl rfl rfl (op_move ha194 rfl rfl) ?_
              intro a195 ha195; clear ha194 a194
              refine wl_val ha195 rfl rfl rfl ((op_neq ha195 rfl rfl rfl).to (congrArg Value.bool decide_not)) ?_
              intro a196 ha196; clear ha195 a195
              refine wpList_nil ?_
              refine then_n ?_
              by_cases c197 : (heldG okI 1 ((mkN mkI 1 ((wdT ((aT)))).length ((1 : Int)))) (1 : Int) : Int) = (((1 : Int)) + 1 * (((wdT ((aT)))).length : Nat) : Int)
              ·
                rw [decide_eq_true c197] at ha196
                refine cond_f ha196 rfl ?_
                refine wp_skip ?_
                refine then_n ?_
                refine wp_seq ?_
                refine wp_region_lit ?_
                refine wl_val ha196 rfl rfl rfl (op_loadS ha196 rfl Try.underlying25 ti25 rfl rfl hb4.cells) ?_
                intro a198 ha198; clear ha196 a196
                refine wl_callR ha198 rfl rfl rfl (op_call ha198 rfl cb18 rfl) (c_laws_toTable _ v_aT0 v_aT1 aT (h_aT0.ext pos_shStr hx188) (h_aT1.ext pos_shRow hx188) (by first | assumption | omega | (simp; omega))) ?_
                rintro v199 w200 he201 ⟨u202, u204, z206, rfl, ho203, ho205, hN207, hE208⟩ a209 ha209; clear ha198 a198
                have hx210 := hx188.trans' he201
                have hzhx210 := he201.size
                replace hb4 := hb4.ext he201
                replace ho27 := ho27.ext he201
                replace ho29 := ho29.ext he201
                replace hN31 := hN31.ext he201
                replace ho39 := ho39.ext he201
                replace hb69 := hb69.ext he201
                replace ho110 := ho110.ext he201
                replace ho112 := ho112.ext he201
                replace hN114 := hN114.ext he201
                replace ho133 := ho133.ext he201
                replace ho134 := ho134.ext he201
                replace hN136 := hN136.ext he201
                replace ho177 := ho177.ext he201
                have hlhE208 := absLen hE208
                refine wl_callR ha209 rfl rfl rfl (op_call ha209 rfl cb30 rfl) (c_impl_WidthsOf _ u202 u204 ((aT)) (ho203.rds pos_shStr) ((rds_shRowN (ho205.fin (by omega) (by omega) (by omega)) hN207).cast hE208)) ?_
                rintro v211 w212 he213 ⟨v214, rfl, ho215⟩ a216 ha216; clear ha209 a209
                have hx217 := hx210.trans' he213
                have hzhx217 := he213.size
                replace hb4 := hb4.ext he213
                replace ho27 := ho27.ext he213
                replace ho29 := ho29.ext he213
                replace hN31 := hN31.ext he213
                replace ho39 := ho39.ext he213
                replace hb69 := hb69.ext he213
                replace ho110 := ho110.ext he213
                replace ho112 := ho112.ext he213
                replace hN114 := hN114.ext he213
                replace ho133 := ho133.ext he213
                replace ho134 := ho134.ext he213
                replace hN136 := hN136.ext he213
                replace ho177 := ho177.ext he213
                replace ho203 := ho203.ext he213
                replace ho205 := ho205.ext he213
                replace hN207 := hN207.ext he213
                refine wl_val ha216 rfl rfl rfl (op_move ha216 rfl rfl) ?_
                intro a218 ha218; clear ha216 a216
                refine wl_val ha218 rfl rfl rfl (op_extract ha218 rfl rfl rfl) ?_
                intro a219 ha219; clear ha218 a218
                refine wl_val ha219 rfl rfl rfl (op_extract ha219 rfl rfl rfl) ?_
                intro a220 ha220; clear ha219 a219
                refine wl_val ha220 rfl rfl rfl (op_assign ha220 rfl rfl) ?_
                intro a221 ha221; clear ha220 a220
                refine wl_val ha221 rfl rfl rfl (op_assign ha221 rfl rfl) ?_
                intro a222 ha222; clear ha221 a221
                refine wpList_nil ?_
                refine then_n ?_
                refine wp_seq ?_
                refine wp_seq ?_
                refine wp_region_lit ?_
                refine wl_val ha222 rfl rfl rfl (op_move ha222 rfl rfl) ?_
                intro a223 ha223; clear ha222 a222
                refine wl_val ha223 rfl rfl rfl (op_move ha223 rfl rfl) ?_
                intro a224 ha224; clear ha223 a223
                refine wl_callR ha224 rfl rfl rfl (op_call ha224 rfl cb31 rfl) (c_laws_eqInt64S _ v214 ((wdT ((aT)))) v38 ((wdT ((aT)))) (ho215.rds pos_shI64) (ho39.rds pos_shI64)) ?_
                rintro v225 w226 he227 rfl a228 ha228; clear ha224 a224
                have hx229 := hx217.trans' he227
                have hzhx229 := he227.size
                replace hb4 := hb4.ext he227
                replace ho27 := ho27.ext he227
                replace ho29 := ho29.ext he227
                replace hN31 := hN31.ext he227
                replace ho39 := ho39.ext he227
                replace hb69 := hb69.ext he227
                replace ho110 := ho110.ext he227
                replace ho112 := ho112.ext he227
                replace hN114 := hN114.ext he227
                replace ho133 := ho133.ext he227
                replace ho134 := ho134.ext he227
                replace hN136 := hN136.ext he227
                replace ho177 := ho177.ext he227
                replace ho203 := ho203.ext he227
                replace ho205 := ho205.ext he227
                replace hN207 := hN207.ext he227
                replace ho215 := ho215.ext he227
                refine wl_val ha228 rfl rfl rfl (op_not ha228 rfl rfl) ?_
                intro a230 ha230; clear ha228 a228
                refine wl_val ha230 rfl rfl rfl (op_move ha230 rfl rfl) ?_
                intro a231 ha231; clear ha230 a230
                rw [c94] at ha231
                refine wl_val ha231 rfl rfl rfl (op_move ha231 rfl rfl) ?_
                intro a232 ha232; clear ha231 a231
                refine wl_val ha232 rfl rfl rfl (op_move ha232 rfl rfl) ?_
                intro a233 ha233; clear ha232 a232
                refine wl_val ha233 rfl rfl rfl ((op_neq ha233 rfl rfl rfl).to (congrArg Value.bool decide_not)) ?_
                intro a234 ha234; clear ha233 a233
                refine wl_val ha234 rfl rfl rfl (op_pick_f ha234 rfl rfl rfl) ?_
                intro a235 ha235; clear ha234 a234
                refine wpList_nil ?_
                refine then_n ?_
                rw [decide_eq_true c99] at ha235
                refine cond_f ha235 rfl ?_
                refine wp_skip ?_
                refine then_n ?_
                refine wp_seq ?_
                refine wp_region_lit ?_
                refine wl_val ha235 rfl rfl rfl (op_assign ha235 rfl rfl) ?_
                intro a236 ha236; clear ha235 a235
                refine wpList_nil ?_
                refine then_n ?_
                refine wp_seq ?_
                refine wp_region_lit ?_
                refine wl_val ha236 rfl rfl rfl (op_move ha236 rfl rfl) ?_
                intro a237 ha237; clear ha236 a236
                refine wl_val ha237 rfl rfl rfl (op_move ha237 rfl rfl) ?_
                intro a238 ha238; clear ha237 a237
                refine wl_callR ha238 rfl rfl rfl (op_call ha238 rfl cb33 rfl) (c_laws_heldInt64S _ v76 ((mkN mkI 1 ((wdT ((aT)))).length ((1 : Int)))) (1 : Int) (ho177.rds pos_shI64) (by first | assumption | omega | (simp; omega)) (by first | assumption | omega | (simp; omega)) (by first | assumption | omega | (simp; omega) | (simp [mkN_length]; omega))) ?_
                rintro v239 w240 he241 rfl a242 ha242; clear ha238 a238
                have hx243 := hx229.trans' he241
                have hzhx243 := he241.size
                replace hb4 := hb4.ext he241
                replace ho27 := ho27.ext he241
                replace ho29 := ho29.ext he241
                replace hN31 := hN31.ext he241
                replace ho39 := ho39.ext he241
                replace hb69 := hb69.ext he241
                replace ho110 := ho110.ext he241
                replace ho112 := ho112.ext he241
                replace hN114 := hN114.ext he241
                replace ho133 := ho133.ext he241
                replace ho134 := ho134.ext he241
                replace hN136 := hN136.ext he241
                replace ho177 := ho177.ext he241
                replace ho203 := ho203.ext he241
                replace ho205 := ho205.ext he241
                replace hN207 := hN207.ext he241
                replace ho215 := ho215.ext he241
                refine wl_val ha242 rfl rfl rfl (op_assign ha242 rfl rfl) ?_
                intro a244 ha244; clear ha242 a242
                refine wpList_nil ?_
                refine then_n ?_
                refine wp_seq ?_
                refine wp_seq ?_
                refine wp_region_lit ?_
                refine wl_val ha244 rfl rfl rfl (op_move ha244 rfl rfl) ?_
                intro a245 ha245; clear ha244 a244
                refine wl_val ha245 rfl rfl rfl (op_lss ha245 rfl rfl rfl) ?_
                intro a246 ha246; clear ha245 a245
                refine wpList_nil ?_
                refine then_n ?_
                rw [decide_eq_false c192] at ha246
                refine cond_f ha246 rfl ?_
                refine wp_skip ?_
                refine then_n ?_
                refine wp_seq ?_
                refine wp_seq ?_
                refine wp_region_lit ?_
                refine wl_val ha246 rfl rfl rfl (op_move ha246 rfl rfl) ?_
                intro a247 ha247; clear ha246 a246
                refine wl_val ha247 rfl rfl rfl (op_move ha247 rfl rfl) ?_
                intro a248 ha248; clear ha247 a247
                refine wl_val ha248 rfl rfl rfl ((op_neq ha248 rfl rfl rfl).to (congrArg Value.bool decide_not)) ?_
                intro a249 ha249; clear ha248 a248
                refine wpList_nil ?_
                refine then_n ?_
                rw [decide_eq_true c197] at ha249
                refine cond_f ha249 rfl ?_
                refine wp_skip ?_
                refine then_n ?_
                refine wp_seq ?_
                refine wp_region_lit ?_
                refine wl_val ha249 rfl rfl rfl (op_assign ha249 rfl rfl) ?_
                intro a250 ha250; clear ha249 a249
                refine wpList_nil ?_
                refine then_n ?_
                refine wp_ret ?_
                refine ret1 ha250 rfl rfl ?_
                clear ha250 a250
                exact ret_mk hx243 (congrArg Value.bool (by first | rfl | omega | (simp [held_mkN okI_mk] at c197; done) | (simp [held_mkN okI_mk] at c197; omega) | (simp [held_mkN okI_mk, mkN_length] at c197; done) | (simp [held_mkN okI_mk, mkN_length] at c197; omega) | (simp [held_mkN okI_mk] at c192; done) | (simp [held_mkN okI_mk] at c192; omega) | (simp [held_mkN okI_mk, mkN_length] at c192; done) | (simp [held_mkN okI_mk, mkN_length] at c192; omega) | (exact absurd rfl c192) | (exact absurd rfl c145) | (simp at c126; done) | (exact absurd rfl c20)))
              ·
                rw [decide_eq_false c197] at ha196
                refine cond_t ha196 rfl ?_
                refine wp_seq ?_
                refine wp_region_lit ?_
                refine wl_val ha196 rfl rfl rfl (op_assign ha196 rfl rfl) ?_
                intro a251 ha251; clear ha196 a196
                refine wpList_nil ?_
                refine then_n ?_
                refine wp_ret ?_
                refine then_r ?_
                refine ret1 ha251 rfl rfl ?_
                clear ha251 a251
                exact ret_mk hx188 (congrArg Value.bool (by first | rfl | omega | (simp [held_mkN okI_mk] at c197; done) | (simp [held_mkN okI_mk] at c197; omega) | (simp [held_mkN okI_mk, mkN_length] at c197; done) | (simp [held_mkN okI_mk, mkN_length] at c197; omega) | (simp [held_mkN okI_mk] at c192; done) | (simp [held_mkN okI_mk] at c192; omega) | (simp [held_mkN okI_mk, mkN_length] at c192; done) | (simp [held_mkN okI_mk, mkN_length] at c192; omega) | (exact absurd rfl c197) | (exact absurd rfl c192) | (exact absurd rfl c145) | (simp at c126; done) | (exact absurd rfl c20)))
        ·
          rw [c126] at ha125
          refine cond_t ha125 rfl ?_
          refine wp_seq ?_
          refine wp_region_lit ?_
          refine wl_val ha125 rfl rfl rfl (op_assign ha125 rfl rfl) ?_
          intro a252 ha252; clear ha125 a125
          refine wpList_nil ?_
          refine then_n ?_
          refine wp_ret ?_
          refine then_r ?_
          refine ret1 ha252 rfl rfl ?_
          clear ha252 a252
          exact ret_mk hx124 (congrArg Value.bool (by first | rfl | omega | (exact absurd rfl c126) | (simp at c126; done) | (exact absurd rfl c20)))
      ·
        rw [decide_eq_false c99] at ha98
        refine cond_t ha98 rfl ?_
        refine wp_seq ?_
        refine wp_region_lit ?_
        refine wl_val ha98 rfl rfl rfl (op_assign ha98 rfl rfl) ?_
        intro a253 ha253; clear ha98 a98
        refine wpList_nil ?_
        refine then_n ?_
        refine wp_ret ?_
        refine then_r ?_
        refine ret1 ha253 rfl rfl ?_
        clear ha253 a253
        exact ret_mk hx91 (congrArg Value.bool (by first | rfl | omega | (exact absurd rfl c99) | (exact absurd rfl c20)))
    ·
      rw [c94] at ha93
      refine wl_skip ha93 rfl rfl rfl ?_
      intro a254 ha254; clear ha93 a93
      refine wl_skip ha254 rfl rfl rfl ?_
      intro a255 ha255; clear ha254 a254
      refine wl_skip ha255 rfl rfl rfl ?_
      intro a256 ha256; clear ha255 a255
      refine wl_val ha256 rfl rfl rfl (op_pick_t ha256 rfl rfl rfl) ?_
      intro a257 ha257; clear ha256 a256
      refine wpList_nil ?_
      refine then_n ?_
      refine cond_t ha257 rfl ?_
      refine wp_seq ?_
      refine wp_region_lit ?_
      refine wl_val ha257 rfl rfl rfl (op_assign ha257 rfl rfl) ?_
      intro a258 ha258; clear ha257 a257
      refine wpList_nil ?_
      refine then_n ?_
      refine wp_ret ?_
      refine then_r ?_
      refine ret1 ha258 rfl rfl ?_
      clear ha258 a258
      exact ret_mk hx91 (congrArg Value.bool (by first | rfl | omega | (rw [eqL_self] at c94; cases c94) | (exact absurd rfl c94) | (exact absurd rfl c20)))


end Go.Proofs.Ytjpldgicibnkcaa
