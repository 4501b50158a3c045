/- The law IsDesk, walked. -/
import Derived.Test.YthbehhhblchhhaaL1
namespace Go.Proofs.Ythbehhhblchhhaa
open Go Go.RowKit

theorem c_laws_FnExactIsDesk (w0 : World) (v_aD0 : Value) (v_aD1 : Value) (v_aD2 : Value) (aD : List (Str × Int × Int × Int × Int) × List (Str × Int × Int) × List (Int × Int × Str × Int)) {S_aD0 : Nat → Prop} {S_aD1 : Nat → Prop} {S_aD2 : Nat → Prop} (h_aD0 : Rds shBin S_aD0 w0 v_aD0 aD.1) (h_aD1 : Rds shProm S_aD1 w0 v_aD1 aD.2.1) (h_aD2 : Rds shEnt S_aD2 w0 v_aD2 aD.2.2) :
    Calls Try.prog 4 #[.agg #[v_aD0, v_aD1, v_aD2]] w0 (Ret w0 (fun v _ => v = .bool (true))) := by
  refine enter (N := 27) Try.func4 rfl rfl rfl ?_
  intro a0 ha0
  have hx0 := Ext.rfl' w0
  have hl_aD0 := h_aD0.length_le
  have hl_aD1 := h_aD1.length_le
  have hl_aD2 := h_aD2.length_le
  have hcd := costDesk_eq aD
  have hc1 := costL_len costBin aD.1
  have hc2 := costL_len costProm aD.2.1
  have hc3 := costL_len costEnt aD.2.2
  refine wp_seq ?_
  refine wp_region_lit ?_
  refine wl_eff ha0 rfl rfl rfl (op_box' ha0 rfl rfl rfl) ?_
  rintro _ w2 ⟨rfl, he3, hb4, hz5⟩ a6 ha6; clear ha0 a0
  have hx7 := hx0.trans' he3
  have hzhx7 := he3.size
  refine wl_val ha6 rfl rfl rfl (op_assign ha6 rfl rfl) ?_
  intro a8 ha8; clear ha6 a6
  refine wpList_nil ?_
  refine then_n ?_
  refine wp_seq ?_
  refine wp_region_lit ?_
  refine wl_val ha8 rfl rfl rfl (op_assign ha8 rfl rfl) ?_
  intro a9 ha9; clear ha8 a8
  refine wpList_nil ?_
  refine then_n ?_
  refine wp_seq ?_
  refine wp_region_lit ?_
  refine wl_val ha9 rfl rfl rfl (op_loadS ha9 rfl Try.underlying27 ti27 rfl rfl hb4.cells) ?_
  intro a10 ha10; clear ha9 a9
  refine wl_val ha10 rfl rfl rfl (op_move ha10 rfl rfl) ?_
  intro a11 ha11; clear ha10 a10
  refine wl_callR ha11 rfl rfl rfl (op_call ha11 rfl cb7 rfl) (c_laws_szDesk _ v_aD0 v_aD1 v_aD2 aD (1048576 : Int) (h_aD0.ext pos_shBin hx7) (h_aD1.ext pos_shProm hx7) (h_aD2.ext pos_shEnt hx7) (by first | assumption | omega | (simp; omega)) (by first | assumption | omega | (simp; omega))) ?_
  rintro v12 w13 he14 rfl a15 ha15; clear ha11 a11
  have hx16 := hx7.trans' he14
  have hzhx16 := he14.size
  replace hb4 := hb4.ext he14
  refine wl_val ha15 rfl rfl rfl (op_assign ha15 rfl rfl) ?_
  intro a17 ha17; clear ha15 a15
  refine wpList_nil ?_
  refine then_n ?_
  refine wp_seq ?_
  refine wp_seq ?_
  refine wp_region_lit ?_
  refine wl_val ha17 rfl rfl rfl (op_move ha17 rfl rfl) ?_
  intro a18 ha18; clear ha17 a17
  refine wl_val ha18 rfl rfl rfl (op_lss ha18 rfl rfl rfl) ?_
  intro a19 ha19; clear ha18 a18
  refine wpList_nil ?_
  refine then_n ?_
  by_cases c20 : (szR (1048576 : Int) (costDesk aD) : Int) < (0 : Int)
  ·
    rw [decide_eq_true c20] at ha19
    refine cond_t ha19 rfl ?_
    refine wp_seq ?_
    refine wp_region_lit ?_
    refine wl_val ha19 rfl rfl rfl (op_assign ha19 rfl rfl) ?_
    intro a21 ha21; clear ha19 a19
    refine wpList_nil ?_
    refine then_n ?_
    refine wp_ret ?_
    refine then_r ?_
    refine ret1 ha21 rfl rfl ?_
    clear ha21 a21
    exact ret_mk hx16 (congrArg Value.bool (by first | rfl | omega))
  ·
    rw [decide_eq_false c20] at ha19
    have hzc20 := szR_ok c20
    refine cond_f ha19 rfl ?_
    refine wp_skip ?_
    refine then_n ?_
    refine wp_seq ?_
    refine wp_region_lit ?_
    refine wl_val ha19 rfl rfl rfl (op_loadS ha19 rfl Try.underlying27 ti27 rfl rfl hb4.cells) ?_
    intro a22 ha22; clear ha19 a19
    refine wl_callR ha22 rfl rfl rfl (op_call ha22 rfl cb9 rfl) (c_laws_toDesk _ v_aD0 v_aD1 v_aD2 aD (h_aD0.ext pos_shBin hx16) (h_aD1.ext pos_shProm hx16) (h_aD2.ext pos_shEnt hx16) (by first | assumption | omega | (simp; omega)) (by first | assumption | omega | (simp; omega)) (by first | assumption | omega | (simp; omega))) ?_
    rintro v23 w24 he25 ⟨u26, u28, u30, rfl, ho27, ho29, ho31⟩ a32 ha32; clear ha22 a22
    have hx33 := hx16.trans' he25
    have hzhx33 := he25.size
    replace hb4 := hb4.ext he25
    refine wl_callR ha32 rfl rfl rfl (op_call ha32 rfl cb8 rfl) (c_spec_IsDesk _ u26 u28 u30 ((aD)) (ho27.rds pos_shBin) (ho29.rds pos_shProm) (ho31.rds pos_shEnt) (by first | assumption | omega | (simp; omega)) (by first | assumption | omega | (simp; omega)) (by first | assumption | omega | (simp; omega))) ?_
    rintro v34 w35 he36 rfl a37 ha37; clear ha32 a32
    have hx38 := hx33.trans' he36
    have hzhx38 := he36.size
    replace hb4 := hb4.ext he36
    replace ho27 := ho27.ext he36
    replace ho29 := ho29.ext he36
    replace ho31 := ho31.ext he36
    refine wl_val ha37 rfl rfl rfl (op_assign ha37 rfl rfl) ?_
    intro a39 ha39; clear ha37 a37
    refine wpList_nil ?_
    refine then_n ?_
    refine wp_seq ?_
    refine wp_region_lit ?_
    refine wl_val ha39 rfl rfl rfl (op_loadS ha39 rfl Try.underlying27 ti27 rfl rfl hb4.cells) ?_
    intro a40 ha40; clear ha39 a39
    refine wl_callR ha40 rfl rfl rfl (op_call ha40 rfl cb9 rfl) (c_laws_toDesk _ v_aD0 v_aD1 v_aD2 aD (h_aD0.ext pos_shBin hx38) (h_aD1.ext pos_shProm hx38) (h_aD2.ext pos_shEnt hx38) (by first | assumption | omega | (simp; omega)) (by first | assumption | omega | (simp; omega)) (by first | assumption | omega | (simp; omega))) ?_
    rintro v41 w42 he43 ⟨u44, u46, u48, rfl, ho45, ho47, ho49⟩ a50 ha50; clear ha40 a40
    have hx51 := hx38.trans' he43
    have hzhx51 := he43.size
    replace hb4 := hb4.ext he43
    replace ho27 := ho27.ext he43
    replace ho29 := ho29.ext he43
    replace ho31 := ho31.ext he43
    refine wl_eff ha50 rfl rfl rfl (op_alloc' rfl ti34 rfl) ?_
    rintro _ w53 ⟨rfl, he54, hb55, hz56⟩ a57 ha57; clear ha50 a50
    have hx58 := hx51.trans' he54
    have hzhx58 := he54.size
    replace hb4 := hb4.ext he54
    replace ho27 := ho27.ext he54
    replace ho29 := ho29.ext he54
    replace ho31 := ho31.ext he54
    replace ho45 := ho45.ext he54
    replace ho47 := ho47.ext he54
    replace ho49 := ho49.ext he54
    refine wl_effS ha57 rfl rfl (op_storeAll' ha57 rfl ti34 rfl rfl hb55 rfl rfl (by intro u hu; have hu : u ∈ ([u44, u46, u48] : List Value) := hu; simp only [List.mem_cons, List.mem_nil_iff, or_false] at hu; rcases hu with rfl | rfl | rfl <;> first | rfl | exact ho45.one | exact ho47.one | exact ho49.one) rfl) ?_
    rintro w59 ⟨hb61, hst60, hz62⟩
    have hx63 := hx58.stp hst60 (by intro q hq; cases hq; exact (by omega))
    have hzhx63 := hst60.size
    replace hb4 := hb4.stp hst60 (by intro q hq; cases hq; omega)
    replace ho27 : Own shBin 69 w13.heap.size w13.heap.size w24.heap.size w59 u26 (((aD).1)) := by first | exact ho27.stp hst60 (by intro q hq; cases hq; omega) | exact ho27.stpF flat_shBin hst60 (by intro q hq; cases hq; exact ho27.ne_box (by assumption) rfl)
    replace ho29 : Own shProm 72 w13.heap.size w13.heap.size w24.heap.size w59 u28 (((aD).2.1)) := by first | exact ho29.stp hst60 (by intro q hq; cases hq; omega) | exact ho29.stpF flat_shProm hst60 (by intro q hq; cases hq; exact ho29.ne_box (by assumption) rfl)
    replace ho31 : Own shEnt 74 w13.heap.size w13.heap.size w24.heap.size w59 u30 (((aD).2.2)) := by first | exact ho31.stp hst60 (by intro q hq; cases hq; omega) | exact ho31.stpF flat_shEnt hst60 (by intro q hq; cases hq; exact ho31.ne_box (by assumption) rfl)
    replace ho45 : Own shBin 69 w35.heap.size w35.heap.size w42.heap.size w59 u44 (((aD).1)) := by first | exact ho45.stp hst60 (by intro q hq; cases hq; omega) | exact ho45.stpF flat_shBin hst60 (by intro q hq; cases hq; exact ho45.ne_box (by assumption) rfl)
    replace ho47 : Own shProm 72 w35.heap.size w35.heap.size w42.heap.size w59 u46 (((aD).2.1)) := by first | exact ho47.stp hst60 (by intro q hq; cases hq; omega) | exact ho47.stpF flat_shProm hst60 (by intro q hq; cases hq; exact ho47.ne_box (by assumption) rfl)
    replace ho49 : Own shEnt 74 w35.heap.size w35.heap.size w42.heap.size w59 u48 (((aD).2.2)) := by first | exact ho49.stp hst60 (by intro q hq; cases hq; omega) | exact ho49.stpF flat_shEnt hst60 (by intro q hq; cases hq; exact ho49.ne_box (by assumption) rfl)
    clear hb55
    refine wpList_nil ?_
    refine then_n ?_
    refine wp_seq ?_
    refine wp_region_lit ?_
    refine wl_val ha57 rfl rfl rfl (op_loadS ha57 rfl Try.underlying34 ti34 rfl rfl hb61.cells) ?_
    intro a64 ha64; clear ha57 a57
    refine wl_callR ha64 rfl rfl rfl (op_call ha64 rfl cb10 rfl) (c_impl_IsDesk _ u44 u46 u48 ((aD)) (ho45.rds pos_shBin) (ho47.rds pos_shProm) (ho49.rds pos_shEnt) (by first | assumption | omega | (simp; omega)) (by first | assumption | omega | (simp; omega)) (by first | assumption | omega | (simp; omega))) ?_
    rintro v65 w66 he67 rfl a68 ha68; clear ha64 a64
    have hx69 := hx63.trans' he67
    have hzhx69 := he67.size
    replace hb4 := hb4.ext he67
    replace ho27 := ho27.ext he67
    replace ho29 := ho29.ext he67
    replace ho31 := ho31.ext he67
    replace ho45 := ho45.ext he67
    replace ho47 := ho47.ext he67
    replace ho49 := ho49.ext he67
    replace hb61 := hb61.ext he67
    refine wl_val ha68 rfl rfl rfl (op_assign ha68 rfl rfl) ?_
    intro a70 ha70; clear ha68 a68
    refine wpList_nil ?_
    refine then_n ?_
    refine wp_seq ?_
    refine wp_seq ?_
    refine wp_region_lit ?_
    refine wl_val ha70 rfl rfl rfl (op_move ha70 rfl rfl) ?_
    intro a71 ha71; clear ha70 a70
    refine wl_val ha71 rfl rfl rfl (op_move ha71 rfl rfl) ?_
    intro a72 ha72; clear ha71 a71
    refine wl_val ha72 rfl rfl rfl (op_bneq ha72 rfl Try.underlying4 rfl rfl) ?_
    intro a73 ha73; clear ha72 a72
    refine wpList_nil ?_
    refine then_n ?_
    rcases Bool.eq_false_or_eq_true ((deskB ((aD)) == deskB ((aD)))) with c74 | c74
    ·
      rw [c74] at ha73
      refine cond_f ha73 rfl ?_
      refine wp_skip ?_
      refine then_n ?_
      refine wp_seq ?_
      refine wp_seq ?_
      refine dr_enter Ext follows_mixed ?_
      intro w75 he76
      have hx77 := hx69.trans' he76
      have hzhx77 := he76.size
      replace hb4 := hb4.ext he76
      replace ho27 := ho27.ext he76
      replace ho29 := ho29.ext he76
      replace ho31 := ho31.ext he76
      replace ho45 := ho45.ext he76
      replace ho47 := ho47.ext he76
      replace ho49 := ho49.ext he76
      replace hb61 := hb61.ext he76
      have hs78 : Ext w75 w75 := Ext.rfl' _
      refine dr_val (i := 0) ha73 rfl (by kernel_rfl) (by kernel_rfl) (by kernel_rfl) rfl rfl rfl hs78 (fun w' hw' => op_loadS ha73 rfl Try.underlying34 ti34 rfl rfl (hb61.ext hw').cells) ?_
      intro a79 ha79; clear ha73 a73
      refine dr_val (i := 1) ha79 rfl (by kernel_rfl) (by kernel_rfl) (by kernel_rfl) rfl rfl rfl hs78 (fun w' hw' => op_loadS ha79 rfl Try.underlying27 ti27 rfl rfl (hb4.ext hw').cells) ?_
      intro a80 ha80; clear ha79 a79
      refine dr_one (i := 2) (by kernel_rfl) ?_
      refine po_callR ha80 rfl rfl rfl rfl (op_call ha80 rfl cb9 rfl) (c_laws_toDesk _ v_aD0 v_aD1 v_aD2 aD (h_aD0.ext pos_shBin (hx77.trans' hs78)) (h_aD1.ext pos_shProm (hx77.trans' hs78)) (h_aD2.ext pos_shEnt (hx77.trans' hs78)) (by first | assumption | omega | (simp; omega)) (by first | assumption | omega | (simp; omega)) (by first | assumption | omega | (simp; omega))) ?_
      rintro v81 w82 he83 ⟨u84, u86, u88, rfl, ho85, ho87, ho89⟩ a90 ha90; clear ha80 a80
      have hs91 := hs78.trans' he83
      have hx92 := hx77.trans' he83
      have hzhx92 := he83.size
      refine ⟨hs91, ?_⟩
      refine dr_one (i := 3) (by kernel_rfl) ?_
      refine po_callR ha90 rfl rfl rfl rfl (op_call ha90 rfl cb11 rfl) (c_laws_eqDesk _ u44 u46 u48 ((aD)) u84 u86 u88 ((aD)) ((ho45.rds pos_shBin).ext pos_shBin hs91) ((ho47.rds pos_shProm).ext pos_shProm hs91) ((ho49.rds pos_shEnt).ext pos_shEnt hs91) (ho85.rds pos_shBin) (ho87.rds pos_shProm) (ho89.rds pos_shEnt)) ?_
      rintro v93 w94 he95 rfl a96 ha96; clear ha90 a90
      have hs97 := hs91.trans' he95
      have hx98 := hx92.trans' he95
      have hzhx98 := he95.size
      replace ho85 := ho85.ext he95
      replace ho87 := ho87.ext he95
      replace ho89 := ho89.ext he95
      refine ⟨hs97, ?_⟩
      refine dr_val (i := 4) ha96 rfl (by kernel_rfl) (by kernel_rfl) (by kernel_rfl) rfl rfl rfl hs97 (fun w' hw' => op_not ha96 rfl rfl) ?_
      intro a99 ha99; clear ha96 a96
      refine dr_end (by kernel_rfl) ?_
      replace hb4 := hb4.ext hs97
      replace ho27 := ho27.ext hs97
      replace ho29 := ho29.ext hs97
      replace ho31 := ho31.ext hs97
      replace ho45 := ho45.ext hs97
      replace ho47 := ho47.ext hs97
      replace ho49 := ho49.ext hs97
      replace hb61 := hb61.ext hs97
      refine then_n ?_
      rcases Bool.eq_false_or_eq_true (decide (((aD)) = ((aD)))) with c100 | c100
      ·
        rw [c100] at ha99
        refine cond_f ha99 rfl ?_
        refine wp_skip ?_
        refine then_n ?_
        refine wp_seq ?_
        refine wp_region_lit ?_
        refine wl_val ha99 rfl rfl rfl (op_assign ha99 rfl rfl) ?_
        intro a101 ha101; clear ha99 a99
        refine wpList_nil ?_
        refine then_n ?_
        refine wp_ret ?_
        refine ret1 ha101 rfl rfl ?_
        clear ha101 a101
        exact ret_mk hx98 (congrArg Value.bool (by first | rfl | omega | (simp at c100; done) | (simp at c74; done) | (exact absurd rfl c20)))
      ·
        rw [c100] at ha99
        refine cond_t ha99 rfl ?_
        refine wp_seq ?_
        refine wp_region_lit ?_
        refine wl_val ha99 rfl rfl rfl (op_assign ha99 rfl rfl) ?_
        intro a102 ha102; clear ha99 a99
        refine wpList_nil ?_
        refine then_n ?_
        refine wp_ret ?_
        refine then_r ?_
        refine ret1 ha102 rfl rfl ?_
        clear ha102 a102
        exact ret_mk hx98 (congrArg Value.bool (by first | rfl | omega | (exact absurd rfl c100) | (simp at c100; done) | (simp at c74; done) | (exact absurd rfl c20)))
    ·
      rw [c74] at ha73
      refine cond_t ha73 rfl ?_
      refine wp_seq ?_
      refine wp_region_lit ?_
      refine wl_val ha73 rfl rfl rfl (op_assign ha73 rfl rfl) ?_
      intro a103 ha103; clear ha73 a73
      refine wpList_nil ?_
      refine then_n ?_
      refine wp_ret ?_
      refine then_r ?_
      refine ret1 ha103 rfl rfl ?_
      clear ha103 a103
      exact ret_mk hx69 (congrArg Value.bool (by first | rfl | omega | (exact absurd rfl c74) | (simp at c74; done) | (exact absurd rfl c20)))


end Go.Proofs.Ythbehhhblchhhaa
