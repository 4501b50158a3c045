/- The laws IsTable, SumColumn, walked. -/
import Derived.Test.YtjpldgicibnkcaaW2
import Derived.Test.YtjpldgicibnkcaaL2
namespace Go.Proofs.Ytjpldgicibnkcaa
open Go Go.RowKit

theorem c_laws_FnExactIsTable (w0 : World) (v_aT0 : Value) (v_aT1 : Value) (aT : List Str × List (List Int)) {S_aT0 : Nat → Prop} {S_aT1 : Nat → Prop} (h_aT0 : Rds shStr S_aT0 w0 v_aT0 aT.1) (h_aT1 : Rds shRow S_aT1 w0 v_aT1 aT.2) :
    Calls Try.prog 3 #[.agg #[v_aT0, v_aT1]] w0 (Ret w0 (fun v _ => v = .bool (true))) := by
  refine enter (N := 27) Try.func3 rfl rfl rfl ?_
  intro a0 ha0
  have hx0 := Ext.rfl' w0
  have hl_aT0 := h_aT0.length_le
  have hl_aT1 := h_aT1.length_le
  have hcl : costT aT = costL costS aT.1 + costL costRow aT.2 := rfl
  have hc1 := costL_len costS aT.1
  have hc2 := costL_len costRow aT.2
  have hkk := kkT_le aT 1
  have hkg := kkT_ge aT 1
  have hkk2 : kkT (aT.1, aT.2) 1 ≤ 1 + (costT aT : Nat) := hkk
  have hkg2 : 1 ≤ kkT (aT.1, aT.2) 1 := hkg
  refine wp_seq ?_
  refine wp_region_lit ?_
  refine wl_eff ha0 rfl rfl rfl (op_box' ha0 rfl rfl rfl) ?_
  rintro _ w2 ⟨rfl, he3, hb4, hz5⟩ a6 ha6; clear ha0 a0
  have hx7 := hx0.trans' he3
  have hzhx7 := he3.size
  refine wl_val ha6 rfl rfl rfl (op_assign ha6 rfl rfl) ?_
  intro a8 ha8; clear ha6 a6
  refine wpList_nil ?_
  refine then_n ?_
  refine wp_seq ?_
  refine wp_region_lit ?_
  refine wl_val ha8 rfl rfl rfl (op_assign ha8 rfl rfl) ?_
  intro a9 ha9; clear ha8 a8
  refine wpList_nil ?_
  refine then_n ?_
  refine wp_seq ?_
  refine wp_region_lit ?_
  refine wl_val ha9 rfl rfl rfl (op_loadS ha9 rfl Try.underlying25 ti25 rfl rfl hb4.cells) ?_
  intro a10 ha10; clear ha9 a9
  refine wl_val ha10 rfl rfl rfl (op_move ha10 rfl rfl) ?_
  intro a11 ha11; clear ha10 a10
  refine wl_callR ha11 rfl rfl rfl (op_call ha11 rfl cb16 rfl) (c_laws_szTable _ v_aT0 v_aT1 aT (1048576 : Int) (h_aT0.ext pos_shStr hx7) (h_aT1.ext pos_shRow hx7) (by first | assumption | omega | (simp; omega)) (by first | assumption | omega | (simp; omega))) ?_
  rintro v12 w13 he14 rfl a15 ha15; clear ha11 a11
  have hx16 := hx7.trans' he14
  have hzhx16 := he14.size
  replace hb4 := hb4.ext he14
  refine wl_val ha15 rfl rfl rfl (op_assign ha15 rfl rfl) ?_
  intro a17 ha17; clear ha15 a15
  refine wpList_nil ?_
  refine then_n ?_
  refine wp_seq ?_
  refine wp_seq ?_
  refine wp_region_lit ?_
  refine wl_val ha17 rfl rfl rfl (op_move ha17 rfl rfl) ?_
  intro a18 ha18; clear ha17 a17
  refine wl_val ha18 rfl rfl rfl (op_lss ha18 rfl rfl rfl) ?_
  intro a19 ha19; clear ha18 a18
  refine wpList_nil ?_
  refine then_n ?_
  by_cases c20 : (szR (1048576 : Int) (costT aT) : Int) < (0 : Int)
  ·
    rw [decide_eq_true c20] at ha19
    refine cond_t ha19 rfl ?_
    refine wp_seq ?_
    refine wp_region_lit ?_
    refine wl_val ha19 rfl rfl rfl (op_assign ha19 rfl rfl) ?_
    intro a21 ha21; clear ha19 a19
    refine wpList_nil ?_
    refine then_n ?_
    refine wp_ret ?_
    refine then_r ?_
    refine ret1 ha21 rfl rfl ?_
    clear ha21 a21
    exact ret_mk hx16 (congrArg Value.bool (by first | rfl | omega))
  ·
    rw [decide_eq_false c20] at ha19
    have hzc20 := szR_ok c20
    refine cond_f ha19 rfl ?_
    refine wp_skip ?_
    refine then_n ?_
    refine wp_seq ?_
    refine wp_region_lit ?_
    refine wl_val ha19 rfl rfl rfl (op_loadS ha19 rfl Try.underlying25 ti25 rfl rfl hb4.cells) ?_
    intro a22 ha22; clear ha19 a19
    refine wl_callR ha22 rfl rfl rfl (op_call ha22 rfl cb18 rfl) (c_laws_toTable _ v_aT0 v_aT1 aT (h_aT0.ext pos_shStr hx16) (h_aT1.ext pos_shRow hx16) (by first | assumption | omega | (simp; omega))) ?_
    rintro v23 w24 he25 ⟨u26, u28, z30, rfl, ho27, ho29, hN31, hE32⟩ a33 ha33; clear ha22 a22
    have hx34 := hx16.trans' he25
    have hzhx34 := he25.size
    replace hb4 := hb4.ext he25
    have hlhE32 := absLen hE32
    refine wl_callR ha33 rfl rfl rfl (op_call ha33 rfl cb17 rfl) (c_spec_IsTable _ u26 u28 ((aT)) (ho27.rds pos_shStr) ((rds_shRowN (ho29.fin (by omega) (by omega) (by omega)) hN31).cast hE32)) ?_
    rintro v35 w36 he37 rfl a38 ha38; clear ha33 a33
    have hx39 := hx34.trans' he37
    have hzhx39 := he37.size
    replace hb4 := hb4.ext he37
    replace ho27 := ho27.ext he37
    replace ho29 := ho29.ext he37
    replace hN31 := hN31.ext he37
    refine wl_val ha38 rfl rfl rfl (op_assign ha38 rfl rfl) ?_
    intro a40 ha40; clear ha38 a38
    refine wpList_nil ?_
    refine then_n ?_
    refine wp_seq ?_
    refine wp_region_lit ?_
    refine wl_val ha40 rfl rfl rfl (op_loadS ha40 rfl Try.underlying25 ti25 rfl rfl hb4.cells) ?_
    intro a41 ha41; clear ha40 a40
    refine wl_callR ha41 rfl rfl rfl (op_call ha41 rfl cb18 rfl) (c_laws_toTable _ v_aT0 v_aT1 aT (h_aT0.ext pos_shStr hx39) (h_aT1.ext pos_shRow hx39) (by first | assumption | omega | (simp; omega))) ?_
    rintro v42 w43 he44 ⟨u45, u47, z49, rfl, ho46, ho48, hN50, hE51⟩ a52 ha52; clear ha41 a41
    have hx53 := hx39.trans' he44
    have hzhx53 := he44.size
    replace hb4 := hb4.ext he44
    replace ho27 := ho27.ext he44
    replace ho29 := ho29.ext he44
    replace hN31 := hN31.ext he44
    have hlhE51 := absLen hE51
    refine wl_eff ha52 rfl rfl rfl (op_alloc' rfl ti28 rfl) ?_
    rintro _ w55 ⟨rfl, he56, hb57, hz58⟩ a59 ha59; clear ha52 a52
    have hx60 := hx53.trans' he56
    have hzhx60 := he56.size
    replace hb4 := hb4.ext he56
    replace ho27 := ho27.ext he56
    replace ho29 := ho29.ext he56
    replace hN31 := hN31.ext he56
    replace ho46 := ho46.ext he56
    replace ho48 := ho48.ext he56
    replace hN50 := hN50.ext he56
    refine wl_effS ha59 rfl rfl (op_storeAll' ha59 rfl ti28 rfl rfl hb57 rfl rfl (by intro u hu; have hu : u ∈ ([u45, u47] : List Value) := hu; simp only [List.mem_cons, List.mem_nil_iff, or_false] at hu; rcases hu with rfl | rfl <;> first | rfl | exact ho46.one | exact ho48.one) rfl) ?_
    rintro w61 ⟨hb63, hst62, hz64⟩
    have hx65 := hx60.stp hst62 (by intro q hq; cases hq; exact (by omega))
    have hzhx65 := hst62.size
    replace hb4 := hb4.stp hst62 (by intro q hq; cases hq; omega)
    replace ho27 : Own shStr 9 w13.heap.size w13.heap.size w24.heap.size w61 u26 (((aT).1)) := by first | exact ho27.stp hst62 (by intro q hq; cases hq; omega) | exact ho27.stpF flat_shStr hst62 (by intro q hq; cases hq; exact ho27.ne_box (by assumption) rfl)
    replace ho29 : Own shRowN 41 w13.heap.size w13.heap.size w24.heap.size w61 u28 z30 := by first | exact ho29.stp hst62 (by intro q hq; cases hq; omega) | exact ho29.stpF flat_shRowN hst62 (by intro q hq; cases hq; exact ho29.ne_box (by assumption) rfl)
    replace hN31 : Nst shI64 2 (fun x : List Int => x) w13.heap.size w24.heap.size w61 z30 := by first | exact hN31.stp hst62 (by intro q hq; cases hq; omega) | exact hN31.stpB flat_shI64 hst62 (by assumption) rfl
    replace ho46 : Own shStr 9 w36.heap.size w36.heap.size w43.heap.size w61 u45 (((aT).1)) := by first | exact ho46.stp hst62 (by intro q hq; cases hq; omega) | exact ho46.stpF flat_shStr hst62 (by intro q hq; cases hq; exact ho46.ne_box (by assumption) rfl)
    replace ho48 : Own shRowN 41 w36.heap.size w36.heap.size w43.heap.size w61 u47 z49 := by first | exact ho48.stp hst62 (by intro q hq; cases hq; omega) | exact ho48.stpF flat_shRowN hst62 (by intro q hq; cases hq; exact ho48.ne_box (by assumption) rfl)
    replace hN50 : Nst shI64 2 (fun x : List Int => x) w36.heap.size w43.heap.size w61 z49 := by first | exact hN50.stp hst62 (by intro q hq; cases hq; omega) | exact hN50.stpB flat_shI64 hst62 (by assumption) rfl
    clear hb57
    refine wpList_nil ?_
    refine then_n ?_
    refine wp_seq ?_
    refine wp_region_lit ?_
    refine wl_val ha59 rfl rfl rfl (op_loadS ha59 rfl Try.underlying28 ti28 rfl rfl hb63.cells) ?_
    intro a66 ha66; clear ha59 a59
    refine wl_callR ha66 rfl rfl rfl (op_call ha66 rfl cb19 rfl) (c_impl_IsTable _ u45 u47 ((aT)) (ho46.rds pos_shStr) ((rds_shRowN (ho48.fin (by omega) (by omega) (by omega)) hN50).cast hE51)) ?_
    rintro v67 w68 he69 rfl a70 ha70; clear ha66 a66
    have hx71 := hx65.trans' he69
    have hzhx71 := he69.size
    replace hb4 := hb4.ext he69
    replace ho27 := ho27.ext he69
    replace ho29 := ho29.ext he69
    replace hN31 := hN31.ext he69
    replace ho46 := ho46.ext he69
    replace ho48 := ho48.ext he69
    replace hN50 := hN50.ext he69
    replace hb63 := hb63.ext he69
    refine wl_val ha70 rfl rfl rfl (op_assign ha70 rfl rfl) ?_
    intro a72 ha72; clear ha70 a70
    refine wpList_nil ?_
    refine then_n ?_
    refine wp_seq ?_
    refine wp_seq ?_
    refine wp_region_lit ?_
    refine wl_val ha72 rfl rfl rfl (op_move ha72 rfl rfl) ?_
    intro a73 ha73; clear ha72 a72
    refine wl_val ha73 rfl rfl rfl (op_move ha73 rfl rfl) ?_
    intro a74 ha74; clear ha73 a73
    refine wl_val ha74 rfl rfl rfl (op_bneq ha74 rfl Try.underlying4 rfl rfl) ?_
    intro a75 ha75; clear ha74 a74
    refine wpList_nil ?_
    refine then_n ?_
    rcases Bool.eq_false_or_eq_true ((tabB ((aT)) == tabB ((aT)))) with c76 | c76
    ·
      rw [c76] at ha75
      refine cond_f ha75 rfl ?_
      refine wp_skip ?_
      refine then_n ?_
      refine wp_seq ?_
      refine wp_seq ?_
      refine dr_enter Ext follows_mixed ?_
      intro w77 he78
      have hx79 := hx71.trans' he78
      have hzhx79 := he78.size
      replace hb4 := hb4.ext he78
      replace ho27 := ho27.ext he78
      replace ho29 := ho29.ext he78
      replace hN31 := hN31.ext he78
      replace ho46 := ho46.ext he78
      replace ho48 := ho48.ext he78
      replace hN50 := hN50.ext he78
      replace hb63 := hb63.ext he78
      have hs80 : Ext w77 w77 := Ext.rfl' _
      refine dr_val (i := 0) ha75 rfl (by kernel_rfl) (by kernel_rfl) (by kernel_rfl) rfl rfl rfl hs80 (fun w' hw' => op_loadS ha75 rfl Try.underlying28 ti28 rfl rfl (hb63.ext hw').cells) ?_
      intro a81 ha81; clear ha75 a75
      refine dr_val (i := 1) ha81 rfl (by kernel_rfl) (by kernel_rfl) (by kernel_rfl) rfl rfl rfl hs80 (fun w' hw' => op_loadS ha81 rfl Try.underlying25 ti25 rfl rfl (hb4.ext hw').cells) ?_
      intro a82 ha82; clear ha81 a81
      refine dr_one (i := 2) (by kernel_rfl) ?_
      refine po_callR ha82 rfl rfl rfl rfl (op_call ha82 rfl cb18 rfl) (c_laws_toTable _ v_aT0 v_aT1 aT (h_aT0.ext pos_shStr (hx79.trans' hs80)) (h_aT1.ext pos_shRow (hx79.trans' hs80)) (by first | assumption | omega | (simp; omega))) ?_
      rintro v83 w84 he85 ⟨u86, u88, z90, rfl, ho87, ho89, hN91, hE92⟩ a93 ha93; clear ha82 a82
      have hs94 := hs80.trans' he85
      have hx95 := hx79.trans' he85
      have hzhx95 := he85.size
      refine ⟨hs94, ?_⟩
      have hlhE92 := absLen hE92
      refine dr_one (i := 3) (by kernel_rfl) ?_
      refine po_callR ha93 rfl rfl rfl rfl (op_call ha93 rfl cb20 rfl) (c_laws_eqTable _ u45 u47 ((aT)) u86 u88 ((aT)) ((ho46.rds pos_shStr).ext pos_shStr hs94) (((rds_shRowN (ho48.fin (by omega) (by omega) (by omega)) hN50).ext pos_shRow hs94).cast hE51) (ho87.rds pos_shStr) ((rds_shRowN (ho89.fin (by omega) (by omega) (by omega)) hN91).cast hE92)) ?_
      rintro v96 w97 he98 rfl a99 ha99; clear ha93 a93
      have hs100 := hs94.trans' he98
      have hx101 := hx95.trans' he98
      have hzhx101 := he98.size
      replace ho87 := ho87.ext he98
      replace ho89 := ho89.ext he98
      replace hN91 := hN91.ext he98
      refine ⟨hs100, ?_⟩
      refine dr_val (i := 4) ha99 rfl (by kernel_rfl) (by kernel_rfl) (by kernel_rfl) rfl rfl rfl hs100 (fun w' hw' => op_not ha99 rfl rfl) ?_
      intro a102 ha102; clear ha99 a99
      refine dr_end (by kernel_rfl) ?_
      replace hb4 := hb4.ext hs100
      replace ho27 := ho27.ext hs100
      replace ho29 := ho29.ext hs100
      replace hN31 := hN31.ext hs100
      replace ho46 := ho46.ext hs100
      replace ho48 := ho48.ext hs100
      replace hN50 := hN50.ext hs100
      replace hb63 := hb63.ext hs100
      refine then_n ?_
      rcases Bool.eq_false_or_eq_true (decide (((aT)) = ((aT)))) with c103 | c103
      ·
        rw [c103] at ha102
        refine cond_f ha102 rfl ?_
        refine wp_skip ?_
        refine then_n ?_
        refine wp_seq ?_
        refine wp_region_lit ?_
        refine wl_val ha102 rfl rfl rfl (op_assign ha102 rfl rfl) ?_
        intro a104 ha104; clear ha102 a102
        refine wpList_nil ?_
        refine then_n ?_
        refine wp_ret ?_
        refine ret1 ha104 rfl rfl ?_
        clear ha104 a104
        exact ret_mk hx101 (congrArg Value.bool (by first | rfl | omega | (simp at c103; done) | (simp at c76; done) | (exact absurd rfl c20)))
      ·
        rw [c103] at ha102
        refine cond_t ha102 rfl ?_
        refine wp_seq ?_
        refine wp_region_lit ?_
        refine wl_val ha102 rfl rfl rfl (op_assign ha102 rfl rfl) ?_
        intro a105 ha105; clear ha102 a102
        refine wpList_nil ?_
        refine then_n ?_
        refine wp_ret ?_
        refine then_r ?_
        refine ret1 ha105 rfl rfl ?_
        clear ha105 a105
        exact ret_mk hx101 (congrArg Value.bool (by first | rfl | omega | (exact absurd rfl c103) | (simp at c103; done) | (simp at c76; done) | (exact absurd rfl c20)))
    ·
      rw [c76] at ha75
      refine cond_t ha75 rfl ?_
      refine wp_seq ?_
      refine wp_region_lit ?_
      refine wl_val ha75 rfl rfl rfl (op_assign ha75 rfl rfl) ?_
      intro a106 ha106; clear ha75 a75
      refine wpList_nil ?_
      refine then_n ?_
      refine wp_ret ?_
      refine then_r ?_
      refine ret1 ha106 rfl rfl ?_
      clear ha106 a106
      exact ret_mk hx71 (congrArg Value.bool (by first | rfl | omega | (exact absurd rfl c76) | (simp at c76; done) | (exact absurd rfl c20)))

theorem c_laws_FnExactSumColumn (w0 : World) (v_aT0 : Value) (v_aT1 : Value) (aT : List Str × List (List Int)) {S_aT0 : Nat → Prop} {S_aT1 : Nat → Prop} (aColumn : Int) (h_aT0 : Rds shStr S_aT0 w0 v_aT0 aT.1) (h_aT1 : Rds shRow S_aT1 w0 v_aT1 aT.2) (g0 : I64 aColumn) :
    Calls Try.prog 4 #[.agg #[v_aT0, v_aT1], .int .i64 aColumn] w0 (Ret w0 (fun v _ => v = .bool (true))) := by
  refine enter (N := 44) Try.func4 rfl rfl rfl ?_
  intro a0 ha0
  have hx0 := Ext.rfl' w0
  have hl_aT0 := h_aT0.length_le
  have hl_aT1 := h_aT1.length_le
  have hcl : costT aT = costL costS aT.1 + costL costRow aT.2 := rfl
  have hc1 := costL_len costS aT.1
  have hc2 := costL_len costRow aT.2
  have hkk := kkT_le aT 1
  have hkg := kkT_ge aT 1
  have hkk2 : kkT (aT.1, aT.2) 1 ≤ 1 + (costT aT : Nat) := hkk
  have hkg2 : 1 ≤ kkT (aT.1, aT.2) 1 := hkg
  refine wp_seq ?_
  refine wp_region_lit ?_
  refine wl_eff ha0 rfl rfl rfl (op_box' ha0 rfl rfl rfl) ?_
  rintro _ w2 ⟨rfl, he3, hb4, hz5⟩ a6 ha6; clear ha0 a0
  have hx7 := hx0.trans' he3
  have hzhx7 := he3.size
  refine wl_val ha6 rfl rfl rfl (op_assign ha6 rfl rfl) ?_
  intro a8 ha8; clear ha6 a6
  refine wpList_nil ?_
  refine then_n ?_
  refine wp_seq ?_
  refine wp_region_lit ?_
  refine wl_val ha8 rfl rfl rfl (op_assign ha8 rfl rfl) ?_
  intro a9 ha9; clear ha8 a8
  refine wpList_nil ?_
  refine then_n ?_
  refine wp_seq ?_
  refine wp_region_lit ?_
  refine wl_val ha9 rfl rfl rfl (op_loadS ha9 rfl Try.underlying25 ti25 rfl rfl hb4.cells) ?_
  intro a10 ha10; clear ha9 a9
  refine wl_val ha10 rfl rfl rfl (op_move ha10 rfl rfl) ?_
  intro a11 ha11; clear ha10 a10
  refine wl_callR ha11 rfl rfl rfl (op_call ha11 rfl cb16 rfl) (c_laws_szTable _ v_aT0 v_aT1 aT (1048576 : Int) (h_aT0.ext pos_shStr hx7) (h_aT1.ext pos_shRow hx7) (by first | assumption | omega | (simp; omega)) (by first | assumption | omega | (simp; omega))) ?_
  rintro v12 w13 he14 rfl a15 ha15; clear ha11 a11
  have hx16 := hx7.trans' he14
  have hzhx16 := he14.size
  replace hb4 := hb4.ext he14
  refine wl_val ha15 rfl rfl rfl (op_assign ha15 rfl rfl) ?_
  intro a17 ha17; clear ha15 a15
  refine wpList_nil ?_
  refine then_n ?_
  refine wp_seq ?_
  refine wp_seq ?_
  refine wp_region_lit ?_
  refine wl_val ha17 rfl rfl rfl (op_move ha17 rfl rfl) ?_
  intro a18 ha18; clear ha17 a17
  refine wl_val ha18 rfl rfl rfl (op_lss ha18 rfl rfl rfl) ?_
  intro a19 ha19; clear ha18 a18
  refine wpList_nil ?_
  refine then_n ?_
  by_cases c20 : (szR (1048576 : Int) (costT aT) : Int) < (0 : Int)
  ·
    rw [decide_eq_true c20] at ha19
    refine cond_t ha19 rfl ?_
    refine wp_seq ?_
    refine wp_region_lit ?_
    refine wl_val ha19 rfl rfl rfl (op_assign ha19 rfl rfl) ?_
    intro a21 ha21; clear ha19 a19
    refine wpList_nil ?_
    refine then_n ?_
    refine wp_ret ?_
    refine then_r ?_
    refine ret1 ha21 rfl rfl ?_
    clear ha21 a21
    exact ret_mk hx16 (congrArg Value.bool (by first | rfl | omega))
  ·
    rw [decide_eq_false c20] at ha19
    have hzc20 := szR_ok c20
    refine cond_f ha19 rfl ?_
    refine wp_skip ?_
    refine then_n ?_
    refine wp_seq ?_
    refine wp_region_lit ?_
    refine wl_val ha19 rfl rfl rfl (op_loadS ha19 rfl Try.underlying25 ti25 rfl rfl hb4.cells) ?_
    intro a22 ha22; clear ha19 a19
    refine wl_callR ha22 rfl rfl rfl (op_call ha22 rfl cb18 rfl) (c_laws_toTable _ v_aT0 v_aT1 aT (h_aT0.ext pos_shStr hx16) (h_aT1.ext pos_shRow hx16) (by first | assumption | omega | (simp; omega))) ?_
    rintro v23 w24 he25 ⟨u26, u28, z30, rfl, ho27, ho29, hN31, hE32⟩ a33 ha33; clear ha22 a22
    have hx34 := hx16.trans' he25
    have hzhx34 := he25.size
    replace hb4 := hb4.ext he25
    have hlhE32 := absLen hE32
    refine wl_val ha33 rfl rfl rfl (op_move ha33 rfl rfl) ?_
    intro a35 ha35; clear ha33 a33
    refine wl_callR ha35 rfl rfl rfl (op_call ha35 rfl cb21 rfl) (c_spec_SumColumn _ u26 u28 ((aT)) aColumn (ho27.rds pos_shStr) ((rds_shRowN (ho29.fin (by omega) (by omega) (by omega)) hN31).cast hE32)) ?_
    rintro v36 w37 he38 rfl a39 ha39; clear ha35 a35
    have hx40 := hx34.trans' he38
    have hzhx40 := he38.size
    replace hb4 := hb4.ext he38
    replace ho27 := ho27.ext he38
    replace ho29 := ho29.ext he38
    replace hN31 := hN31.ext he38
    refine wl_val ha39 rfl rfl rfl (op_move ha39 rfl rfl) ?_
    intro a41 ha41; clear ha39 a39
    refine wl_val ha41 rfl rfl rfl (op_extract ha41 rfl rfl rfl) ?_
    intro a42 ha42; clear ha41 a41
    refine wl_val ha42 rfl rfl rfl (op_extract ha42 rfl rfl rfl) ?_
    intro a43 ha43; clear ha42 a42
    refine wl_val ha43 rfl rfl rfl (op_assign ha43 rfl rfl) ?_
    intro a44 ha44; clear ha43 a43
    refine wl_val ha44 rfl rfl rfl (op_assign ha44 rfl rfl) ?_
    intro a45 ha45; clear ha44 a44
    refine wpList_nil ?_
    refine then_n ?_
    refine wp_seq ?_
    refine wp_region_lit ?_
    refine wl_val ha45 rfl rfl rfl (op_loadS ha45 rfl Try.underlying25 ti25 rfl rfl hb4.cells) ?_
    intro a46 ha46; clear ha45 a45
    refine wl_callR ha46 rfl rfl rfl (op_call ha46 rfl cb18 rfl) (c_laws_toTable _ v_aT0 v_aT1 aT (h_aT0.ext pos_shStr hx40) (h_aT1.ext pos_shRow hx40) (by first | assumption | omega | (simp; omega))) ?_
    rintro v47 w48 he49 ⟨u50, u52, z54, rfl, ho51, ho53, hN55, hE56⟩ a57 ha57; clear ha46 a46
    have hx58 := hx40.trans' he49
    have hzhx58 := he49.size
    replace hb4 := hb4.ext he49
    replace ho27 := ho27.ext he49
    replace ho29 := ho29.ext he49
    replace hN31 := hN31.ext he49
    have hlhE56 := absLen hE56
    refine wl_eff ha57 rfl rfl rfl (op_alloc' rfl ti28 rfl) ?_
    rintro _ w60 ⟨rfl, he61, hb62, hz63⟩ a64 ha64; clear ha57 a57
    have hx65 := hx58.trans' he61
    have hzhx65 := he61.size
    replace hb4 := hb4.ext he61
    replace ho27 := ho27.ext he61
    replace ho29 := ho29.ext he61
    replace hN31 := hN31.ext he61
    replace ho51 := ho51.ext he61
    replace ho53 := ho53.ext he61
    replace hN55 := hN55.ext he61
    refine wl_effS ha64 rfl rfl (op_storeAll' ha64 rfl ti28 rfl rfl hb62 rfl rfl (by intro u hu; have hu : u ∈ ([u50, u52] : List Value) := hu; simp only [List.mem_cons, List.mem_nil_iff, or_false] at hu; rcases hu with rfl | rfl <;> first | rfl | exact ho51.one | exact ho53.one) rfl) ?_
    rintro w66 ⟨hb68, hst67, hz69⟩
    have hx70 := hx65.stp hst67 (by intro q hq; cases hq; exact (by omega))
    have hzhx70 := hst67.size
    replace hb4 := hb4.stp hst67 (by intro q hq; cases hq; omega)
    replace ho27 : Own shStr 9 w13.heap.size w13.heap.size w24.heap.size w66 u26 (((aT).1)) := by first | exact ho27.stp hst67 (by intro q hq; cases hq; omega) | exact ho27.stpF flat_shStr hst67 (by intro q hq; cases hq; exact ho27.ne_box (by assumption) rfl)
    replace ho29 : Own shRowN 41 w13.heap.size w13.heap.size w24.heap.size w66 u28 z30 := by first | exact ho29.stp hst67 (by intro q hq; cases hq; omega) | exact ho29.stpF flat_shRowN hst67 (by intro q hq; cases hq; exact ho29.ne_box (by assumption) rfl)
    replace hN31 : Nst shI64 2 (fun x : List Int => x) w13.heap.size w24.heap.size w66 z30 := by first | exact hN31.stp hst67 (by intro q hq; cases hq; omega) | exact hN31.stpB flat_shI64 hst67 (by assumption) rfl
    replace ho51 : Own shStr 9 w37.heap.size w37.heap.size w48.heap.size w66 u50 (((aT).1)) := by first | exact ho51.stp hst67 (by intro q hq; cases hq; omega) | exact ho51.stpF flat_shStr hst67 (by intro q hq; cases hq; exact ho51.ne_box (by assumption) rfl)
    replace ho53 : Own shRowN 41 w37.heap.size w37.heap.size w48.heap.size w66 u52 z54 := by first | exact ho53.stp hst67 (by intro q hq; cases hq; omega) | exact ho53.stpF flat_shRowN hst67 (by intro q hq; cases hq; exact ho53.ne_box (by assumption) rfl)
    replace hN55 : Nst shI64 2 (fun x : List Int => x) w37.heap.size w48.heap.size w66 z54 := by first | exact hN55.stp hst67 (by intro q hq; cases hq; omega) | exact hN55.stpB flat_shI64 hst67 (by assumption) rfl
    clear hb62
    refine wpList_nil ?_
    refine then_n ?_
    refine wp_seq ?_
    refine wp_region_lit ?_
    refine wl_val ha64 rfl rfl rfl (op_loadS ha64 rfl Try.underlying28 ti28 rfl rfl hb68.cells) ?_
    intro a71 ha71; clear ha64 a64
    refine wl_val ha71 rfl rfl rfl (op_move ha71 rfl rfl) ?_
    intro a72 ha72; clear ha71 a71
    refine wl_callR ha72 rfl rfl rfl (op_call ha72 rfl cb22 rfl) (c_impl_SumColumn _ u50 u52 ((aT)) aColumn (ho51.rds pos_shStr) ((rds_shRowN (ho53.fin (by omega) (by omega) (by omega)) hN55).cast hE56)) ?_
    rintro v73 w74 he75 rfl a76 ha76; clear ha72 a72
    have hx77 := hx70.trans' he75
    have hzhx77 := he75.size
    replace hb4 := hb4.ext he75
    replace ho27 := ho27.ext he75
    replace ho29 := ho29.ext he75
    replace hN31 := hN31.ext he75
    replace ho51 := ho51.ext he75
    replace ho53 := ho53.ext he75
    replace hN55 := hN55.ext he75
    replace hb68 := hb68.ext he75
    refine wl_val ha76 rfl rfl rfl (op_move ha76 rfl rfl) ?_
    intro a78 ha78; clear ha76 a76
    refine wl_val ha78 rfl rfl rfl (op_extract ha78 rfl rfl rfl) ?_
    intro a79 ha79; clear ha78 a78
    refine wl_val ha79 rfl rfl rfl (op_extract ha79 rfl rfl rfl) ?_
    intro a80 ha80; clear ha79 a79
    refine wl_val ha80 rfl rfl rfl (op_assign ha80 rfl rfl) ?_
    intro a81 ha81; clear ha80 a80
    refine wl_val ha81 rfl rfl rfl (op_assign ha81 rfl rfl) ?_
    intro a82 ha82; clear ha81 a81
    refine wpList_nil ?_
    refine then_n ?_
    refine wp_seq ?_
    refine wp_seq ?_
    refine wp_region_lit ?_
    refine wl_val ha82 rfl rfl rfl (op_move ha82 rfl rfl) ?_
    intro a83 ha83; clear ha82 a82
    refine wl_val ha83 rfl rfl rfl (op_move ha83 rfl rfl) ?_
    intro a84 ha84; clear ha83 a83
    refine wl_val ha84 rfl rfl rfl ((op_neq ha84 rfl rfl rfl).to (congrArg Value.bool decide_not)) ?_
    intro a85 ha85; clear ha84 a84
    refine wl_val ha85 rfl rfl rfl (op_move ha85 rfl rfl) ?_
    intro a86 ha86; clear ha85 a85
    by_cases c87 : (if cdT ((aT)) aColumn = 0 then sumI (rowC aColumn) ((aT)).2 else 0 : Int) = (if cdT ((aT)) aColumn = 0 then sumI (rowC aColumn) ((aT)).2 else 0 : Int)
    ·
      rw [decide_eq_true c87] at ha86
      refine wl_val ha86 rfl rfl rfl (op_move ha86 rfl rfl) ?_
      intro a88 ha88; clear ha86 a86
      refine wl_val ha88 rfl rfl rfl (op_move ha88 rfl rfl) ?_
      intro a89 ha89; clear ha88 a88
      refine wl_val ha89 rfl rfl rfl ((op_neq ha89 rfl rfl rfl).to (congrArg Value.bool decide_not)) ?_
      intro a90 ha90; clear ha89 a89
      refine wl_val ha90 rfl rfl rfl (op_pick_f ha90 rfl rfl rfl) ?_
      intro a91 ha91; clear ha90 a90
      refine wpList_nil ?_
      refine then_n ?_
      by_cases c92 : (cdT ((aT)) aColumn : Int) = (cdT ((aT)) aColumn : Int)
      ·
        rw [decide_eq_true c92] at ha91
        refine cond_f ha91 rfl ?_
        refine wp_skip ?_
        refine then_n ?_
        refine wp_seq ?_
        refine wp_seq ?_
        refine dr_enter Ext follows_mixed ?_
        intro w93 he94
        have hx95 := hx77.trans' he94
        have hzhx95 := he94.size
        replace hb4 := hb4.ext he94
        replace ho27 := ho27.ext he94
        replace ho29 := ho29.ext he94
        replace hN31 := hN31.ext he94
        replace ho51 := ho51.ext he94
        replace ho53 := ho53.ext he94
        replace hN55 := hN55.ext he94
        replace hb68 := hb68.ext he94
        have hs96 : Ext w93 w93 := Ext.rfl' _
        refine dr_val (i := 0) ha91 rfl (by kernel_rfl) (by kernel_rfl) (by kernel_rfl) rfl rfl rfl hs96 (fun w' hw' => op_loadS ha91 rfl Try.underlying28 ti28 rfl rfl (hb68.ext hw').cells) ?_
        intro a97 ha97; clear ha91 a91
        refine dr_val (i := 1) ha97 rfl (by kernel_rfl) (by kernel_rfl) (by kernel_rfl) rfl rfl rfl hs96 (fun w' hw' => op_loadS ha97 rfl Try.underlying25 ti25 rfl rfl (hb4.ext hw').cells) ?_
        intro a98 ha98; clear ha97 a97
        refine dr_one (i := 2) (by kernel_rfl) ?_
        refine po_callR ha98 rfl rfl rfl rfl (op_call ha98 rfl cb18 rfl) (c_laws_toTable _ v_aT0 v_aT1 aT (h_aT0.ext pos_shStr (hx95.trans' hs96)) (h_aT1.ext pos_shRow (hx95.trans' hs96)) (by first | assumption | omega | (simp; omega))) ?_
        rintro v99 w100 he101 ⟨u102, u104, z106, rfl, ho103, ho105, hN107, hE108⟩ a109 ha109; clear ha98 a98
        have hs110 := hs96.trans' he101
        have hx111 := hx95.trans' he101
        have hzhx111 := he101.size
        refine ⟨hs110, ?_⟩
        have hlhE108 := absLen hE108
        refine dr_one (i := 3) (by kernel_rfl) ?_
        refine po_callR ha109 rfl rfl rfl rfl (op_call ha109 rfl cb20 rfl) (c_laws_eqTable _ u50 u52 ((aT)) u102 u104 ((aT)) ((ho51.rds pos_shStr).ext pos_shStr hs110) (((rds_shRowN (ho53.fin (by omega) (by omega) (by omega)) hN55).ext pos_shRow hs110).cast hE56) (ho103.rds pos_shStr) ((rds_shRowN (ho105.fin (by omega) (by omega) (by omega)) hN107).cast hE108)) ?_
        rintro v112 w113 he114 rfl a115 ha115; clear ha109 a109
        have hs116 := hs110.trans' he114
        have hx117 := hx111.trans' he114
        have hzhx117 := he114.size
        replace ho103 := ho103.ext he114
        replace ho105 := ho105.ext he114
        replace hN107 := hN107.ext he114
        refine ⟨hs116, ?_⟩
        refine dr_val (i := 4) ha115 rfl (by kernel_rfl) (by kernel_rfl) (by kernel_rfl) rfl rfl rfl hs116 (fun w' hw' => op_not ha115 rfl rfl) ?_
        intro a118 ha118; clear ha115 a115
        refine dr_end (by kernel_rfl) ?_
        replace hb4 := hb4.ext hs116
        replace ho27 := ho27.ext hs116
        replace ho29 := ho29.ext hs116
        replace hN31 := hN31.ext hs116
        replace ho51 := ho51.ext hs116
        replace ho53 := ho53.ext hs116
        replace hN55 := hN55.ext hs116
        replace hb68 := hb68.ext hs116
        refine then_n ?_
        rcases Bool.eq_false_or_eq_true (decide (((aT)) = ((aT)))) with c119 | c119
        ·
          rw [c119] at ha118
          refine cond_f ha118 rfl ?_
          refine wp_skip ?_
          refine then_n ?_
          refine wp_seq ?_
          refine wp_region_lit ?_
          refine wl_val ha118 rfl rfl rfl (op_assign ha118 rfl rfl) ?_
          intro a120 ha120; clear ha118 a118
          refine wpList_nil ?_
          refine then_n ?_
          refine wp_ret ?_
          refine ret1 ha120 rfl rfl ?_
          clear ha120 a120
          exact ret_mk hx117 (congrArg Value.bool (by first | rfl | omega | (simp at c119; done) | (exact absurd rfl c20)))
        ·
          rw [c119] at ha118
          refine cond_t ha118 rfl ?_
          refine wp_seq ?_
          refine wp_region_lit ?_
          refine wl_val ha118 rfl rfl rfl (op_assign ha118 rfl rfl) ?_
          intro a121 ha121; clear ha118 a118
          refine wpList_nil ?_
          refine then_n ?_
          refine wp_ret ?_
          refine then_r ?_
          refine ret1 ha121 rfl rfl ?_
          clear ha121 a121
          exact ret_mk hx117 (congrArg Value.bool (by first | rfl | omega | (exact absurd rfl c119) | (simp at c119; done) | (exact absurd rfl c20)))
      ·
        rw [decide_eq_false c92] at ha91
        refine cond_t ha91 rfl ?_
        refine wp_seq ?_
        refine wp_region_lit ?_
        refine wl_val ha91 rfl rfl rfl (op_assign ha91 rfl rfl) ?_
        intro a122 ha122; clear ha91 a91
        refine wpList_nil ?_
        refine then_n ?_
        refine wp_ret ?_
        refine then_r ?_
        refine ret1 ha122 rfl rfl ?_
        clear ha122 a122
        exact ret_mk hx77 (congrArg Value.bool (by first | rfl | omega | (exact absurd rfl c92) | (exact absurd rfl c20)))
    ·
      rw [decide_eq_false c87] at ha86
      refine wl_skip ha86 rfl rfl rfl ?_
      intro a123 ha123; clear ha86 a86
      refine wl_skip ha123 rfl rfl rfl ?_
      intro a124 ha124; clear ha123 a123
      refine wl_skip ha124 rfl rfl rfl ?_
      intro a125 ha125; clear ha124 a124
      refine wl_val ha125 rfl rfl rfl (op_pick_t ha125 rfl rfl rfl) ?_
      intro a126 ha126; clear ha125 a125
      refine wpList_nil ?_
      refine then_n ?_
      refine cond_t ha126 rfl ?_
      refine wp_seq ?_
      refine wp_region_lit ?_
      refine wl_val ha126 rfl rfl rfl (op_assign ha126 rfl rfl) ?_
      intro a127 ha127; clear ha126 a126
      refine wpList_nil ?_
      refine then_n ?_
      refine wp_ret ?_
      refine then_r ?_
      refine ret1 ha127 rfl rfl ?_
      clear ha127 a127
      exact ret_mk hx77 (congrArg Value.bool (by first | rfl | omega | (exact absurd rfl c87) | (exact absurd rfl c20)))


end Go.Proofs.Ytjpldgicibnkcaa
