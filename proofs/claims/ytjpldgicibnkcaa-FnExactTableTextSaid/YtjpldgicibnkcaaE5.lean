/- The law TableText, walked. -/
import Derived.Test.YtjpldgicibnkcaaW8
import Derived.Test.YtjpldgicibnkcaaL2
namespace Go.Proofs.Ytjpldgicibnkcaa
open Go Go.RowKit

theorem c_laws_FnExactTableText (w0 : World) (v_aT0 : Value) (v_aT1 : Value) (aT : List Str × List (List Int)) {S_aT0 : Nat → Prop} {S_aT1 : Nat → Prop} (h_aT0 : Rds shStr S_aT0 w0 v_aT0 aT.1) (h_aT1 : Rds shRow S_aT1 w0 v_aT1 aT.2) :
    Calls Try.prog 11 #[.agg #[v_aT0, v_aT1]] w0 (Ret w0 (fun v _ => v = .bool (true))) := by
  refine enter (N := 40) Try.func11 rfl rfl rfl ?_
  intro a0 ha0
  have hx0 := Ext.rfl' w0
  have hl_aT0 := h_aT0.length_le
  have hl_aT1 := h_aT1.length_le
  have hcl : costT aT = costL costS aT.1 + costL costRow aT.2 := rfl
  have hc1 := costL_len costS aT.1
  have hc2 := costL_len costRow aT.2
  have hkk := kkT_le aT 1
  have hkg := kkT_ge aT 1
  have hkk2 : kkT (aT.1, aT.2) 1 ≤ 1 + (costT aT : Nat) := hkk
  have hkg2 : 1 ≤ kkT (aT.1, aT.2) 1 := hkg
  refine wp_seq ?_
  refine wp_region_lit ?_
  refine wl_eff ha0 rfl rfl rfl (op_box' ha0 rfl rfl rfl) ?_
  rintro _ w2 ⟨rfl, he3, hb4, hz5⟩ a6 ha6; clear ha0 a0
  have hx7 := hx0.trans' he3
  have hzhx7 := he3.size
  refine wl_val ha6 rfl rfl rfl (op_assign ha6 rfl rfl) ?_
  intro a8 ha8; clear ha6 a6
  refine wpList_nil ?_
  refine then_n ?_
  refine wp_seq ?_
  refine wp_region_lit ?_
  refine wl_val ha8 rfl rfl rfl (op_assign ha8 rfl rfl) ?_
  intro a9 ha9; clear ha8 a8
  refine wpList_nil ?_
  refine then_n ?_
  refine wp_seq ?_
  refine wp_region_lit ?_
  refine wl_val ha9 rfl rfl rfl (op_loadS ha9 rfl Try.underlying25 ti25 rfl rfl hb4.cells) ?_
  intro a10 ha10; clear ha9 a9
  refine wl_val ha10 rfl rfl rfl (op_move ha10 rfl rfl) ?_
  intro a11 ha11; clear ha10 a10
  refine wl_callR ha11 rfl rfl rfl (op_call ha11 rfl cb16 rfl) (c_laws_szTable _ v_aT0 v_aT1 aT (1048576 : Int) (h_aT0.ext pos_shStr hx7) (h_aT1.ext pos_shRow hx7) (by first | assumption | omega | (simp; omega)) (by first | assumption | omega | (simp; omega))) ?_
  rintro v12 w13 he14 rfl a15 ha15; clear ha11 a11
  have hx16 := hx7.trans' he14
  have hzhx16 := he14.size
  replace hb4 := hb4.ext he14
  refine wl_val ha15 rfl rfl rfl (op_assign ha15 rfl rfl) ?_
  intro a17 ha17; clear ha15 a15
  refine wpList_nil ?_
  refine then_n ?_
  refine wp_seq ?_
  refine wp_seq ?_
  refine wp_region_lit ?_
  refine wl_val ha17 rfl rfl rfl (op_move ha17 rfl rfl) ?_
  intro a18 ha18; clear ha17 a17
  refine wl_val ha18 rfl rfl rfl (op_lss ha18 rfl rfl rfl) ?_
  intro a19 ha19; clear ha18 a18
  refine wpList_nil ?_
  refine then_n ?_
  by_cases c20 : (szR (1048576 : Int) (costT aT) : Int) < (0 : Int)
  ·
    rw [decide_eq_true c20] at ha19
    refine cond_t ha19 rfl ?_
    refine wp_seq ?_
    refine wp_region_lit ?_
    refine wl_val ha19 rfl rfl rfl (op_assign ha19 rfl rfl) ?_
    intro a21 ha21; clear ha19 a19
    refine wpList_nil ?_
    refine then_n ?_
    refine wp_ret ?_
    refine then_r ?_
    refine ret1 ha21 rfl rfl ?_
    clear ha21 a21
    exact ret_mk hx16 (congrArg Value.bool (by first | rfl | omega))
  ·
    rw [decide_eq_false c20] at ha19
    have hzc20 := szR_ok c20
    refine cond_f ha19 rfl ?_
    refine wp_skip ?_
    refine then_n ?_
    refine wp_seq ?_
    refine wp_region_lit ?_
    refine wl_val ha19 rfl rfl rfl (op_loadS ha19 rfl Try.underlying25 ti25 rfl rfl hb4.cells) ?_
    intro a22 ha22; clear ha19 a19
    refine wl_callR ha22 rfl rfl rfl (op_call ha22 rfl cb18 rfl) (c_laws_toTable _ v_aT0 v_aT1 aT (h_aT0.ext pos_shStr hx16) (h_aT1.ext pos_shRow hx16) (by first | assumption | omega | (simp; omega))) ?_
    rintro v23 w24 he25 ⟨u26, u28, z30, rfl, ho27, ho29, hN31, hE32⟩ a33 ha33; clear ha22 a22
    have hx34 := hx16.trans' he25
    have hzhx34 := he25.size
    replace hb4 := hb4.ext he25
    have hlhE32 := absLen hE32
    refine wl_callR ha33 rfl rfl rfl (op_call ha33 rfl cb46 rfl) (c_spec_TableText _ u26 u28 ((aT)) (ho27.rds pos_shStr) ((rds_shRowN (ho29.fin (by omega) (by omega) (by omega)) hN31).cast hE32)) ?_
    rintro v35 w36 he37 rfl a38 ha38; clear ha33 a33
    have hx39 := hx34.trans' he37
    have hzhx39 := he37.size
    replace hb4 := hb4.ext he37
    replace ho27 := ho27.ext he37
    replace ho29 := ho29.ext he37
    replace hN31 := hN31.ext he37
    refine wl_val ha38 rfl rfl rfl (op_move ha38 rfl rfl) ?_
    intro a40 ha40; clear ha38 a38
    refine wl_val ha40 rfl rfl rfl (op_extract ha40 rfl rfl rfl) ?_
    intro a41 ha41; clear ha40 a40
    refine wl_val ha41 rfl rfl rfl (op_extract ha41 rfl rfl rfl) ?_
    intro a42 ha42; clear ha41 a41
    refine wl_val ha42 rfl rfl rfl (op_assign ha42 rfl rfl) ?_
    intro a43 ha43; clear ha42 a42
    refine wl_val ha43 rfl rfl rfl (op_assign ha43 rfl rfl) ?_
    intro a44 ha44; clear ha43 a43
    refine wpList_nil ?_
    refine then_n ?_
    refine wp_seq ?_
    refine wp_region_lit ?_
    refine wl_val ha44 rfl rfl rfl (op_loadS ha44 rfl Try.underlying25 ti25 rfl rfl hb4.cells) ?_
    intro a45 ha45; clear ha44 a44
    refine wl_callR ha45 rfl rfl rfl (op_call ha45 rfl cb18 rfl) (c_laws_toTable _ v_aT0 v_aT1 aT (h_aT0.ext pos_shStr hx39) (h_aT1.ext pos_shRow hx39) (by first | assumption | omega | (simp; omega))) ?_
    rintro v46 w47 he48 ⟨u49, u51, z53, rfl, ho50, ho52, hN54, hE55⟩ a56 ha56; clear ha45 a45
    have hx57 := hx39.trans' he48
    have hzhx57 := he48.size
    replace hb4 := hb4.ext he48
    replace ho27 := ho27.ext he48
    replace ho29 := ho29.ext he48
    replace hN31 := hN31.ext he48
    have hlhE55 := absLen hE55
    refine wl_eff ha56 rfl rfl rfl (op_alloc' rfl ti28 rfl) ?_
    rintro _ w59 ⟨rfl, he60, hb61, hz62⟩ a63 ha63; clear ha56 a56
    have hx64 := hx57.trans' he60
    have hzhx64 := he60.size
    replace hb4 := hb4.ext he60
    replace ho27 := ho27.ext he60
    replace ho29 := ho29.ext he60
    replace hN31 := hN31.ext he60
    replace ho50 := ho50.ext he60
    replace ho52 := ho52.ext he60
    replace hN54 := hN54.ext he60
    refine wl_effS ha63 rfl rfl (op_storeAll' ha63 rfl ti28 rfl rfl hb61 rfl rfl (by intro u hu; have hu : u ∈ ([u49, u51] : List Value) := hu; simp only [List.mem_cons, List.mem_nil_iff, or_false] at hu; rcases hu with rfl | rfl <;> first | rfl | exact ho50.one | exact ho52.one) rfl) ?_
    rintro w65 ⟨hb67, hst66, hz68⟩
    have hx69 := hx64.stp hst66 (by intro q hq; cases hq; exact (by omega))
    have hzhx69 := hst66.size
    replace hb4 := hb4.stp hst66 (by intro q hq; cases hq; omega)
    replace ho27 : Own shStr 9 w13.heap.size w13.heap.size w24.heap.size w65 u26 (((aT).1)) := by first | exact ho27.stp hst66 (by intro q hq; cases hq; omega) | exact ho27.stpF flat_shStr hst66 (by intro q hq; cases hq; exact ho27.ne_box (by assumption) rfl)
    replace ho29 : Own shRowN 41 w13.heap.size w13.heap.size w24.heap.size w65 u28 z30 := by first | exact ho29.stp hst66 (by intro q hq; cases hq; omega) | exact ho29.stpF flat_shRowN hst66 (by intro q hq; cases hq; exact ho29.ne_box (by assumption) rfl)
    replace hN31 : Nst shI64 2 (fun x : List Int => x) w13.heap.size w24.heap.size w65 z30 := by first | exact hN31.stp hst66 (by intro q hq; cases hq; omega) | exact hN31.stpB flat_shI64 hst66 (by assumption) rfl
    replace ho50 : Own shStr 9 w36.heap.size w36.heap.size w47.heap.size w65 u49 (((aT).1)) := by first | exact ho50.stp hst66 (by intro q hq; cases hq; omega) | exact ho50.stpF flat_shStr hst66 (by intro q hq; cases hq; exact ho50.ne_box (by assumption) rfl)
    replace ho52 : Own shRowN 41 w36.heap.size w36.heap.size w47.heap.size w65 u51 z53 := by first | exact ho52.stp hst66 (by intro q hq; cases hq; omega) | exact ho52.stpF flat_shRowN hst66 (by intro q hq; cases hq; exact ho52.ne_box (by assumption) rfl)
    replace hN54 : Nst shI64 2 (fun x : List Int => x) w36.heap.size w47.heap.size w65 z53 := by first | exact hN54.stp hst66 (by intro q hq; cases hq; omega) | exact hN54.stpB flat_shI64 hst66 (by assumption) rfl
    clear hb61
    refine wpList_nil ?_
    refine then_n ?_
    refine wp_seq ?_
    refine wp_region_lit ?_
    refine wl_val ha63 rfl rfl rfl (op_loadS ha63 rfl Try.underlying28 ti28 rfl rfl hb67.cells) ?_
    intro a70 ha70; clear ha63 a63
    refine wl_callR ha70 rfl rfl rfl (op_call ha70 rfl cb47 rfl) (c_impl_TableText _ u49 u51 ((aT)) (ho50.rds pos_shStr) ((rds_shRowN (ho52.fin (by omega) (by omega) (by omega)) hN54).cast hE55)) ?_
    rintro v71 w72 he73 rfl a74 ha74; clear ha70 a70
    have hx75 := hx69.trans' he73
    have hzhx75 := he73.size
    replace hb4 := hb4.ext he73
    replace ho27 := ho27.ext he73
    replace ho29 := ho29.ext he73
    replace hN31 := hN31.ext he73
    replace ho50 := ho50.ext he73
    replace ho52 := ho52.ext he73
    replace hN54 := hN54.ext he73
    replace hb67 := hb67.ext he73
    refine wl_val ha74 rfl rfl rfl (op_move ha74 rfl rfl) ?_
    intro a76 ha76; clear ha74 a74
    refine wl_val ha76 rfl rfl rfl (op_extract ha76 rfl rfl rfl) ?_
    intro a77 ha77; clear ha76 a76
    refine wl_val ha77 rfl rfl rfl (op_extract ha77 rfl rfl rfl) ?_
    intro a78 ha78; clear ha77 a77
    refine wl_val ha78 rfl rfl rfl (op_assign ha78 rfl rfl) ?_
    intro a79 ha79; clear ha78 a78
    refine wl_val ha79 rfl rfl rfl (op_assign ha79 rfl rfl) ?_
    intro a80 ha80; clear ha79 a79
    refine wpList_nil ?_
    refine then_n ?_
    refine wp_seq ?_
    refine wp_seq ?_
    refine wp_region_lit ?_
    refine wl_val ha80 rfl rfl rfl (op_move ha80 rfl rfl) ?_
    intro a81 ha81; clear ha80 a80
    refine wl_val ha81 rfl rfl rfl (op_move ha81 rfl rfl) ?_
    intro a82 ha82; clear ha81 a81
    refine wl_val ha82 rfl rfl rfl ((op_sneq ha82 rfl rfl rfl).to (congrArg Value.bool decide_not)) ?_
    intro a83 ha83; clear ha82 a82
    refine wl_val ha83 rfl rfl rfl (op_move ha83 rfl rfl) ?_
    intro a84 ha84; clear ha83 a83
    by_cases c85 : (txT ((aT))) = (txT ((aT)))
    ·
      rw [decide_eq_true c85] at ha84
      refine wl_val ha84 rfl rfl rfl (op_move ha84 rfl rfl) ?_
      intro a86 ha86; clear ha84 a84
      refine wl_val ha86 rfl rfl rfl (op_move ha86 rfl rfl) ?_
      intro a87 ha87; clear ha86 a86
      refine wl_val ha87 rfl rfl rfl ((op_neq ha87 rfl rfl rfl).to (congrArg Value.bool decide_not)) ?_
      intro a88 ha88; clear ha87 a87
      refine wl_val ha88 rfl rfl rfl (op_pick_f ha88 rfl rfl rfl) ?_
      intro a89 ha89; clear ha88 a88
      refine wpList_nil ?_
      refine then_n ?_
      by_cases c90 : (if tabB ((aT)) then 0 else 1 : Int) = (if tabB ((aT)) then 0 else 1 : Int)
      ·
        rw [decide_eq_true c90] at ha89
        refine cond_f ha89 rfl ?_
        refine wp_skip ?_
        refine then_n ?_
        refine wp_seq ?_
        refine wp_seq ?_
        refine dr_enter Ext follows_mixed ?_
        intro w91 he92
        have hx93 := hx75.trans' he92
        have hzhx93 := he92.size
        replace hb4 := hb4.ext he92
        replace ho27 := ho27.ext he92
        replace ho29 := ho29.ext he92
        replace hN31 := hN31.ext he92
        replace ho50 := ho50.ext he92
        replace ho52 := ho52.ext he92
        replace hN54 := hN54.ext he92
        replace hb67 := hb67.ext he92
        have hs94 : Ext w91 w91 := Ext.rfl' _
        refine dr_val (i := 0) ha89 rfl (by kernel_rfl) (by kernel_rfl) (by kernel_rfl) rfl rfl rfl hs94 (fun w' hw' => op_loadS ha89 rfl Try.underlying28 ti28 rfl rfl (hb67.ext hw').cells) ?_
        intro a95 ha95; clear ha89 a89
        refine dr_val (i := 1) ha95 rfl (by kernel_rfl) (by kernel_rfl) (by kernel_rfl) rfl rfl rfl hs94 (fun w' hw' => op_loadS ha95 rfl Try.underlying25 ti25 rfl rfl (hb4.ext hw').cells) ?_
        intro a96 ha96; clear ha95 a95
        refine dr_one (i := 2) (by kernel_rfl) ?_
        refine po_callR ha96 rfl rfl rfl rfl (op_call ha96 rfl cb18 rfl) (c_laws_toTable _ v_aT0 v_aT1 aT (h_aT0.ext pos_shStr (hx93.trans' hs94)) (h_aT1.ext pos_shRow (hx93.trans' hs94)) (by first | assumption | omega | (simp; omega))) ?_
        rintro v97 w98 he99 ⟨u100, u102, z104, rfl, ho101, ho103, hN105, hE106⟩ a107 ha107; clear ha96 a96
        have hs108 := hs94.trans' he99
        have hx109 := hx93.trans' he99
        have hzhx109 := he99.size
        refine ⟨hs108, ?_⟩
        have hlhE106 := absLen hE106
        refine dr_one (i := 3) (by kernel_rfl) ?_
        refine po_callR ha107 rfl rfl rfl rfl (op_call ha107 rfl cb20 rfl) (c_laws_eqTable _ u49 u51 ((aT)) u100 u102 ((aT)) ((ho50.rds pos_shStr).ext pos_shStr hs108) (((rds_shRowN (ho52.fin (by omega) (by omega) (by omega)) hN54).ext pos_shRow hs108).cast hE55) (ho101.rds pos_shStr) ((rds_shRowN (ho103.fin (by omega) (by omega) (by omega)) hN105).cast hE106)) ?_
        rintro v110 w111 he112 rfl a113 ha113; clear ha107 a107
        have hs114 := hs108.trans' he112
        have hx115 := hx109.trans' he112
        have hzhx115 := he112.size
        replace ho101 := ho101.ext he112
        replace ho103 := ho103.ext he112
        replace hN105 := hN105.ext he112
        refine ⟨hs114, ?_⟩
        refine dr_val (i := 4) ha113 rfl (by kernel_rfl) (by kernel_rfl) (by kernel_rfl) rfl rfl rfl hs114 (fun w' hw' => op_not ha113 rfl rfl) ?_
        intro a116 ha116; clear ha113 a113
        refine dr_end (by kernel_rfl) ?_
        replace hb4 := hb4.ext hs114
        replace ho27 := ho27.ext hs114
        replace ho29 := ho29.ext hs114
        replace hN31 := hN31.ext hs114
        replace ho50 := ho50.ext hs114
        replace ho52 := ho52.ext hs114
        replace hN54 := hN54.ext hs114
        replace hb67 := hb67.ext hs114
        refine then_n ?_
        rcases Bool.eq_false_or_eq_true (decide (((aT)) = ((aT)))) with c117 | c117
        ·
          rw [c117] at ha116
          refine cond_f ha116 rfl ?_
          refine wp_skip ?_
          refine then_n ?_
          refine wp_seq ?_
          refine wp_region_lit ?_
          refine wl_val ha116 rfl rfl rfl (op_assign ha116 rfl rfl) ?_
          intro a118 ha118; clear ha116 a116
          refine wpList_nil ?_
          refine then_n ?_
          refine wp_ret ?_
          refine ret1 ha118 rfl rfl ?_
          clear ha118 a118
          exact ret_mk hx115 (congrArg Value.bool (by first | rfl | omega | (simp at c117; done) | (exact absurd rfl c20)))
        ·
          rw [c117] at ha116
          refine cond_t ha116 rfl ?_
          refine wp_seq ?_
          refine wp_region_lit ?_
          refine wl_val ha116 rfl rfl rfl (op_assign ha116 rfl rfl) ?_
          intro a119 ha119; clear ha116 a116
          refine wpList_nil ?_
          refine then_n ?_
          refine wp_ret ?_
          refine then_r ?_
          refine ret1 ha119 rfl rfl ?_
          clear ha119 a119
          exact ret_mk hx115 (congrArg Value.bool (by first | rfl | omega | (exact absurd rfl c117) | (simp at c117; done) | (exact absurd rfl c20)))
      ·
        rw [decide_eq_false c90] at ha89
        refine cond_t ha89 rfl ?_
        refine wp_seq ?_
        refine wp_region_lit ?_
        refine wl_val ha89 rfl rfl rfl (op_assign ha89 rfl rfl) ?_
        intro a120 ha120; clear ha89 a89
        refine wpList_nil ?_
        refine then_n ?_
        refine wp_ret ?_
        refine then_r ?_
        refine ret1 ha120 rfl rfl ?_
        clear ha120 a120
        exact ret_mk hx75 (congrArg Value.bool (by first | rfl | omega | (exact absurd rfl c90) | (exact absurd rfl c20)))
    ·
      rw [decide_eq_false c85] at ha84
      refine wl_skip ha84 rfl rfl rfl ?_
      intro a121 ha121; clear ha84 a84
      refine wl_skip ha121 rfl rfl rfl ?_
      intro a122 ha122; clear ha121 a121
      refine wl_skip ha122 rfl rfl rfl ?_
      intro a123 ha123; clear ha122 a122
      refine wl_val ha123 rfl rfl rfl (op_pick_t ha123 rfl rfl rfl) ?_
      intro a124 ha124; clear ha123 a123
      refine wpList_nil ?_
      refine then_n ?_
      refine cond_t ha124 rfl ?_
      refine wp_seq ?_
      refine wp_region_lit ?_
      refine wl_val ha124 rfl rfl rfl (op_assign ha124 rfl rfl) ?_
      intro a125 ha125; clear ha124 a124
      refine wpList_nil ?_
      refine then_n ?_
      refine wp_ret ?_
      refine then_r ?_
      refine ret1 ha125 rfl rfl ?_
      clear ha125 a125
      exact ret_mk hx75 (congrArg Value.bool (by first | rfl | omega | (exact absurd rfl c85) | (exact absurd rfl c20)))


end Go.Proofs.Ytjpldgicibnkcaa
