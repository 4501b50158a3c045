/- The law SortRows, walked. -/
import Derived.Test.YtjpldgicibnkcaaW6
import Derived.Test.YtjpldgicibnkcaaL3
namespace Go.Proofs.Ytjpldgicibnkcaa
open Go Go.RowKit

theorem costL_ins {α : Type} (f : α → Nat) (key : α → Int) (x : α) : ∀ xs : List α, costL f (insK key x xs) = costL f (x :: xs)
  | [] => rfl
  | y :: ys => by
    have h := costL_ins f key x ys
    rw [insK]
    split
    · rfl
    · unfold costL at h ⊢
      simp only [sumC, List.length_cons] at h ⊢; omega
theorem srGo_cost (c : Int) : ∀ rs acc : List (List Int), costL costRow (srGo c rs acc) = costL costRow rs + costL costRow acc
  | [], acc => by rw [srGo]; unfold costL; simp [sumC]
  | r :: rs, acc => by
    rw [srGo, srGo_cost c rs, costL_ins]
    unfold costL; simp only [sumC, List.length_cons]; omega
theorem srT_cost (t : Tab) (c : Int) : costT (srT t c) ≤ costT t := by
  unfold srT
  split
  · have h := srGo_cost c t.2 []
    have e : costL costRow [] = 0 := rfl
    unfold costT; show costL costS t.1 + costL costRow (srGo c t.2 []) ≤ _; omega
  · exact Nat.zero_le _

theorem c_laws_FnExactSortRows (w0 : World) (v_aT0 : Value) (v_aT1 : Value) (aT : List Str × List (List Int)) {S_aT0 : Nat → Prop} {S_aT1 : Nat → Prop} (aColumn : Int) (h_aT0 : Rds shStr S_aT0 w0 v_aT0 aT.1) (h_aT1 : Rds shRow S_aT1 w0 v_aT1 aT.2) (g0 : I64 aColumn) :
    Calls Try.prog 7 #[.agg #[v_aT0, v_aT1], .int .i64 aColumn] w0 (Ret w0 (fun v _ => v = .bool (true))) := by
  refine enter (N := 101) Try.func7 rfl rfl rfl ?_
  intro a0 ha0
  have hx0 := Ext.rfl' w0
  have hl_aT0 := h_aT0.length_le
  have hl_aT1 := h_aT1.length_le
  have hcl : costT aT = costL costS aT.1 + costL costRow aT.2 := rfl
  have hc1 := costL_len costS aT.1
  have hc2 := costL_len costRow aT.2
  have hkk := kkT_le aT 1
  have hkg := kkT_ge aT 1
  have hkk2 : kkT (aT.1, aT.2) 1 ≤ 1 + (costT aT : Nat) := hkk
  have hkg2 : 1 ≤ kkT (aT.1, aT.2) 1 := hkg
  have hq1 := kkT_le (srT aT aColumn) 1
  have hq2 := srT_cost aT aColumn
  have hq3 : kkT ((srT aT aColumn).1, (srT aT aColumn).2) 1 ≤ 1 + (costT (srT aT aColumn) : Nat) := hq1
  have hq4 : 1 ≤ kkT ((srT aT aColumn).1, (srT aT aColumn).2) 1 := kkT_ge (srT aT aColumn) 1
  have hq5 := costL_len costRow (srT aT aColumn).2
  have hq6 : costT (srT aT aColumn) = costL costS (srT aT aColumn).1 + costL costRow (srT aT aColumn).2 := rfl
  refine wp_seq ?_
  refine wp_region_lit ?_
  refine wl_eff ha0 rfl rfl rfl (op_box' ha0 rfl rfl rfl) ?_
  rintro _ w2 ⟨rfl, he3, hb4, hz5⟩ a6 ha6; clear ha0 a0
  have hx7 := hx0.trans' he3
  have hzhx7 := he3.size
  refine wl_val ha6 rfl rfl rfl (op_assign ha6 rfl rfl) ?_
  intro a8 ha8; clear ha6 a6
  refine wpList_nil ?_
  refine then_n ?_
  refine wp_seq ?_
  refine wp_region_lit ?_
  refine wl_val ha8 rfl rfl rfl (op_assign ha8 rfl rfl) ?_
  intro a9 ha9; clear ha8 a8
  refine wpList_nil ?_
  refine then_n ?_
  refine wp_seq ?_
  refine wp_region_lit ?_
  refine wl_val ha9 rfl rfl rfl (op_loadS ha9 rfl Try.underlying25 ti25 rfl rfl hb4.cells) ?_
  intro a10 ha10; clear ha9 a9
  refine wl_val ha10 rfl rfl rfl (op_move ha10 rfl rfl) ?_
  intro a11 ha11; clear ha10 a10
  refine wl_callR ha11 rfl rfl rfl (op_call ha11 rfl cb16 rfl) (c_laws_szTable _ v_aT0 v_aT1 aT (1048576 : Int) (h_aT0.ext pos_shStr hx7) (h_aT1.ext pos_shRow hx7) (by first | assumption | omega | (simp; omega)) (by first | assumption | omega | (simp; omega))) ?_
  rintro v12 w13 he14 rfl a15 ha15; clear ha11 a11
  have hx16 := hx7.trans' he14
  have hzhx16 := he14.size
  replace hb4 := hb4.ext he14
  refine wl_val ha15 rfl rfl rfl (op_assign ha15 rfl rfl) ?_
  intro a17 ha17; clear ha15 a15
  refine wpList_nil ?_
  refine then_n ?_
  refine wp_seq ?_
  refine wp_seq ?_
  refine wp_region_lit ?_
  refine wl_val ha17 rfl rfl rfl (op_move ha17 rfl rfl) ?_
  intro a18 ha18; clear ha17 a17
  refine wl_val ha18 rfl rfl rfl (op_lss ha18 rfl rfl rfl) ?_
  intro a19 ha19; clear ha18 a18
  refine wpList_nil ?_
  refine then_n ?_
  by_cases c20 : (szR (1048576 : Int) (costT aT) : Int) < (0 : Int)
  ·
    rw [decide_eq_true c20] at ha19
    refine cond_t ha19 rfl ?_
    refine wp_seq ?_
    refine wp_region_lit ?_
    refine wl_val ha19 rfl rfl rfl (op_assign ha19 rfl rfl) ?_
    intro a21 ha21; clear ha19 a19
    refine wpList_nil ?_
    refine then_n ?_
    refine wp_ret ?_
    refine then_r ?_
    refine ret1 ha21 rfl rfl ?_
    clear ha21 a21
    exact ret_mk hx16 (congrArg Value.bool (by first | rfl | omega))
  ·
    rw [decide_eq_false c20] at ha19
    have hzc20 := szR_ok c20
    refine cond_f ha19 rfl ?_
    refine wp_skip ?_
    refine then_n ?_
    refine wp_seq ?_
    refine wp_region_lit ?_
    refine wl_val ha19 rfl rfl rfl (op_loadS ha19 rfl Try.underlying25 ti25 rfl rfl hb4.cells) ?_
    intro a22 ha22; clear ha19 a19
    refine wl_callR ha22 rfl rfl rfl (op_call ha22 rfl cb18 rfl) (c_laws_toTable _ v_aT0 v_aT1 aT (h_aT0.ext pos_shStr hx16) (h_aT1.ext pos_shRow hx16) (by first | assumption | omega | (simp; omega))) ?_
    rintro v23 w24 he25 ⟨u26, u28, z30, rfl, ho27, ho29, hN31, hE32⟩ a33 ha33; clear ha22 a22
    have hx34 := hx16.trans' he25
    have hzhx34 := he25.size
    replace hb4 := hb4.ext he25
    have hlhE32 := absLen hE32
    refine wl_val ha33 rfl rfl rfl (op_move ha33 rfl rfl) ?_
    intro a35 ha35; clear ha33 a33
    refine wl_callR ha35 rfl rfl rfl (op_call ha35 rfl cb34 rfl) (c_spec_SortRows _ u26 u28 ((aT)) aColumn (ho27.rds pos_shStr) ((rds_shRowN (ho29.fin (by omega) (by omega) (by omega)) hN31).cast hE32)) ?_
    rintro v36 w37 he38 ⟨u39, u41, z43, rfl, ho40, ho42, hN44, hE45⟩ a46 ha46; clear ha35 a35
    have hx47 := hx34.trans' he38
    have hzhx47 := he38.size
    replace hb4 := hb4.ext he38
    replace ho27 := ho27.ext he38
    replace ho29 := ho29.ext he38
    replace hN31 := hN31.ext he38
    have hlhE45 := absLen hE45
    refine wl_val ha46 rfl rfl rfl (op_move ha46 rfl rfl) ?_
    intro a48 ha48; clear ha46 a46
    refine wl_val ha48 rfl rfl rfl (op_extract ha48 rfl rfl rfl) ?_
    intro a49 ha49; clear ha48 a48
    refine wl_val ha49 rfl rfl rfl (op_extract ha49 rfl rfl rfl) ?_
    intro a50 ha50; clear ha49 a49
    refine wl_eff ha50 rfl rfl rfl (op_alloc' rfl ti28 rfl) ?_
    rintro _ w52 ⟨rfl, he53, hb54, hz55⟩ a56 ha56; clear ha50 a50
    have hx57 := hx47.trans' he53
    have hzhx57 := he53.size
    replace hb4 := hb4.ext he53
    replace ho27 := ho27.ext he53
    replace ho29 := ho29.ext he53
    replace hN31 := hN31.ext he53
    replace ho40 := ho40.ext he53
    replace ho42 := ho42.ext he53
    replace hN44 := hN44.ext he53
    refine wl_effS ha56 rfl rfl (op_storeAll' ha56 rfl ti28 rfl rfl hb54 rfl rfl (by intro u hu; have hu : u ∈ ([u39, u41] : List Value) := hu; simp only [List.mem_cons, List.mem_nil_iff, or_false] at hu; rcases hu with rfl | rfl <;> first | rfl | exact ho40.one | exact ho42.one) rfl) ?_
    rintro w58 ⟨hb60, hst59, hz61⟩
    have hx62 := hx57.stp hst59 (by intro q hq; cases hq; exact (by omega))
    have hzhx62 := hst59.size
    replace hb4 := hb4.stp hst59 (by intro q hq; cases hq; omega)
    replace ho27 : Own shStr 9 w13.heap.size w13.heap.size w24.heap.size w58 u26 (((aT).1)) := by first | exact ho27.stp hst59 (by intro q hq; cases hq; omega) | exact ho27.stpF flat_shStr hst59 (by intro q hq; cases hq; exact ho27.ne_box (by assumption) rfl)
    replace ho29 : Own shRowN 41 w13.heap.size w13.heap.size w24.heap.size w58 u28 z30 := by first | exact ho29.stp hst59 (by intro q hq; cases hq; omega) | exact ho29.stpF flat_shRowN hst59 (by intro q hq; cases hq; exact ho29.ne_box (by assumption) rfl)
    replace hN31 : Nst shI64 2 (fun x : List Int => x) w13.heap.size w24.heap.size w58 z30 := by first | exact hN31.stp hst59 (by intro q hq; cases hq; omega) | exact hN31.stpB flat_shI64 hst59 (by assumption) rfl
    replace ho40 : Own shStr 9 w24.heap.size w24.heap.size w37.heap.size w58 u39 (((srT ((aT)) aColumn).1)) := by first | exact ho40.stp hst59 (by intro q hq; cases hq; omega) | exact ho40.stpF flat_shStr hst59 (by intro q hq; cases hq; exact ho40.ne_box (by assumption) rfl)
    replace ho42 : Own shRowN 41 w24.heap.size w24.heap.size w37.heap.size w58 u41 z43 := by first | exact ho42.stp hst59 (by intro q hq; cases hq; omega) | exact ho42.stpF flat_shRowN hst59 (by intro q hq; cases hq; exact ho42.ne_box (by assumption) rfl)
    replace hN44 : Nst shI64 2 (fun x : List Int => x) w24.heap.size w37.heap.size w58 z43 := by first | exact hN44.stp hst59 (by intro q hq; cases hq; omega) | exact hN44.stpB flat_shI64 hst59 (by assumption) rfl
    clear hb54
    refine wl_val ha56 rfl rfl rfl (op_assign ha56 rfl rfl) ?_
    intro a63 ha63; clear ha56 a56
    refine wpList_nil ?_
    refine then_n ?_
    refine wp_seq ?_
    refine wp_region_lit ?_
    refine wl_val ha63 rfl rfl rfl (op_loadS ha63 rfl Try.underlying25 ti25 rfl rfl hb4.cells) ?_
    intro a64 ha64; clear ha63 a63
    refine wl_callR ha64 rfl rfl rfl (op_call ha64 rfl cb18 rfl) (c_laws_toTable _ v_aT0 v_aT1 aT (h_aT0.ext pos_shStr hx62) (h_aT1.ext pos_shRow hx62) (by first | assumption | omega | (simp; omega))) ?_
    rintro v65 w66 he67 ⟨u68, u70, z72, rfl, ho69, ho71, hN73, hE74⟩ a75 ha75; clear ha64 a64
    have hx76 := hx62.trans' he67
    have hzhx76 := he67.size
    replace hb4 := hb4.ext he67
    replace ho27 := ho27.ext he67
    replace ho29 := ho29.ext he67
    replace hN31 := hN31.ext he67
    replace ho40 := ho40.ext he67
    replace ho42 := ho42.ext he67
    replace hN44 := hN44.ext he67
    replace hb60 := hb60.ext he67
    have hlhE74 := absLen hE74
    refine wl_eff ha75 rfl rfl rfl (op_alloc' rfl ti28 rfl) ?_
    rintro _ w78 ⟨rfl, he79, hb80, hz81⟩ a82 ha82; clear ha75 a75
    have hx83 := hx76.trans' he79
    have hzhx83 := he79.size
    replace hb4 := hb4.ext he79
    replace ho27 := ho27.ext he79
    replace ho29 := ho29.ext he79
    replace hN31 := hN31.ext he79
    replace ho40 := ho40.ext he79
    replace ho42 := ho42.ext he79
    replace hN44 := hN44.ext he79
    replace hb60 := hb60.ext he79
    replace ho69 := ho69.ext he79
    replace ho71 := ho71.ext he79
    replace hN73 := hN73.ext he79
    refine wl_effS ha82 rfl rfl (op_storeAll' ha82 rfl ti28 rfl rfl hb80 rfl rfl (by intro u hu; have hu : u ∈ ([u68, u70] : List Value) := hu; simp only [List.mem_cons, List.mem_nil_iff, or_false] at hu; rcases hu with rfl | rfl <;> first | rfl | exact ho69.one | exact ho71.one) rfl) ?_
    rintro w84 ⟨hb86, hst85, hz87⟩
    have hx88 := hx83.stp hst85 (by intro q hq; cases hq; exact (by omega))
    have hzhx88 := hst85.size
    replace hb4 := hb4.stp hst85 (by intro q hq; cases hq; omega)
    replace ho27 : Own shStr 9 w13.heap.size w13.heap.size w24.heap.size w84 u26 (((aT).1)) := by first | exact ho27.stp hst85 (by intro q hq; cases hq; omega) | exact ho27.stpF flat_shStr hst85 (by intro q hq; cases hq; exact ho27.ne_box (by assumption) rfl)
    replace ho29 : Own shRowN 41 w13.heap.size w13.heap.size w24.heap.size w84 u28 z30 := by first | exact ho29.stp hst85 (by intro q hq; cases hq; omega) | exact ho29.stpF flat_shRowN hst85 (by intro q hq; cases hq; exact ho29.ne_box (by assumption) rfl)
    replace hN31 : Nst shI64 2 (fun x : List Int => x) w13.heap.size w24.heap.size w84 z30 := by first | exact hN31.stp hst85 (by intro q hq; cases hq; omega) | exact hN31.stpB flat_shI64 hst85 (by assumption) rfl
    replace ho40 : Own shStr 9 w24.heap.size w24.heap.size w37.heap.size w84 u39 (((srT ((aT)) aColumn).1)) := by first | exact ho40.stp hst85 (by intro q hq; cases hq; omega) | exact ho40.stpF flat_shStr hst85 (by intro q hq; cases hq; exact ho40.ne_box (by assumption) rfl)
    replace ho42 : Own shRowN 41 w24.heap.size w24.heap.size w37.heap.size w84 u41 z43 := by first | exact ho42.stp hst85 (by intro q hq; cases hq; omega) | exact ho42.stpF flat_shRowN hst85 (by intro q hq; cases hq; exact ho42.ne_box (by assumption) rfl)
    replace hN44 : Nst shI64 2 (fun x : List Int => x) w24.heap.size w37.heap.size w84 z43 := by first | exact hN44.stp hst85 (by intro q hq; cases hq; omega) | exact hN44.stpB flat_shI64 hst85 (by assumption) rfl
    replace hb60 := hb60.stp hst85 (by intro q hq; cases hq; omega)
    replace ho69 : Own shStr 9 w58.heap.size w58.heap.size w66.heap.size w84 u68 (((aT).1)) := by first | exact ho69.stp hst85 (by intro q hq; cases hq; omega) | exact ho69.stpF flat_shStr hst85 (by intro q hq; cases hq; exact ho69.ne_box (by assumption) rfl)
    replace ho71 : Own shRowN 41 w58.heap.size w58.heap.size w66.heap.size w84 u70 z72 := by first | exact ho71.stp hst85 (by intro q hq; cases hq; omega) | exact ho71.stpF flat_shRowN hst85 (by intro q hq; cases hq; exact ho71.ne_box (by assumption) rfl)
    replace hN73 : Nst shI64 2 (fun x : List Int => x) w58.heap.size w66.heap.size w84 z72 := by first | exact hN73.stp hst85 (by intro q hq; cases hq; omega) | exact hN73.stpB flat_shI64 hst85 (by assumption) rfl
    clear hb80
    refine wpList_nil ?_
    refine then_n ?_
    refine wp_seq ?_
    refine wp_region_lit ?_
    refine wl_val ha82 rfl rfl rfl (op_loadS ha82 rfl Try.underlying28 ti28 rfl rfl hb86.cells) ?_
    intro a89 ha89; clear ha82 a82
    refine wl_val ha89 rfl rfl rfl (op_move ha89 rfl rfl) ?_
    intro a90 ha90; clear ha89 a89
    refine wl_callR ha90 rfl rfl rfl (op_call ha90 rfl cb35 rfl) (c_impl_SortRows _ u68 u70 ((aT)) aColumn (ho69.rds pos_shStr) ((rds_shRowN (ho71.fin (by omega) (by omega) (by omega)) hN73).cast hE74)) ?_
    rintro v91 w92 he93 ⟨u94, u96, z98, rfl, ho95, ho97, hN99, hE100⟩ a101 ha101; clear ha90 a90
    have hx102 := hx88.trans' he93
    have hzhx102 := he93.size
    replace hb4 := hb4.ext he93
    replace ho27 := ho27.ext he93
    replace ho29 := ho29.ext he93
    replace hN31 := hN31.ext he93
    replace ho40 := ho40.ext he93
    replace ho42 := ho42.ext he93
    replace hN44 := hN44.ext he93
    replace hb60 := hb60.ext he93
    replace ho69 := ho69.ext he93
    replace ho71 := ho71.ext he93
    replace hN73 := hN73.ext he93
    replace hb86 := hb86.ext he93
    have hlhE100 := absLen hE100
    refine wl_val ha101 rfl rfl rfl (op_move ha101 rfl rfl) ?_
    intro a103 ha103; clear ha101 a101
    refine wl_val ha103 rfl rfl rfl (op_extract ha103 rfl rfl rfl) ?_
    intro a104 ha104; clear ha103 a103
    refine wl_val ha104 rfl rfl rfl (op_extract ha104 rfl rfl rfl) ?_
    intro a105 ha105; clear ha104 a104
    refine wl_eff ha105 rfl rfl rfl (op_alloc' rfl ti28 rfl) ?_
    rintro _ w107 ⟨rfl, he108, hb109, hz110⟩ a111 ha111; clear ha105 a105
    have hx112 := hx102.trans' he108
    have hzhx112 := he108.size
    replace hb4 := hb4.ext he108
    replace ho27 := ho27.ext he108
    replace ho29 := ho29.ext he108
    replace hN31 := hN31.ext he108
    replace ho40 := ho40.ext he108
    replace ho42 := ho42.ext he108
    replace hN44 := hN44.ext he108
    replace hb60 := hb60.ext he108
    replace ho69 := ho69.ext he108
    replace ho71 := ho71.ext he108
    replace hN73 := hN73.ext he108
    replace hb86 := hb86.ext he108
    replace ho95 := ho95.ext he108
    replace ho97 := ho97.ext he108
    replace hN99 := hN99.ext he108
    refine wl_effS ha111 rfl rfl (op_storeAll' ha111 rfl ti28 rfl rfl hb109 rfl rfl (by intro u hu; have hu : u ∈ ([u94, u96] : List Value) := hu; simp only [List.mem_cons, List.mem_nil_iff, or_false] at hu; rcases hu with rfl | rfl <;> first | rfl | exact ho95.one | exact ho97.one) rfl) ?_
    rintro w113 ⟨hb115, hst114, hz116⟩
    have hx117 := hx112.stp hst114 (by intro q hq; cases hq; exact (by omega))
    have hzhx117 := hst114.size
    replace hb4 := hb4.stp hst114 (by intro q hq; cases hq; omega)
    replace ho27 : Own shStr 9 w13.heap.size w13.heap.size w24.heap.size w113 u26 (((aT).1)) := by first | exact ho27.stp hst114 (by intro q hq; cases hq; omega) | exact ho27.stpF flat_shStr hst114 (by intro q hq; cases hq; exact ho27.ne_box (by assumption) rfl)
    replace ho29 : Own shRowN 41 w13.heap.size w13.heap.size w24.heap.size w113 u28 z30 := by first | exact ho29.stp hst114 (by intro q hq; cases hq; omega) | exact ho29.stpF flat_shRowN hst114 (by intro q hq; cases hq; exact ho29.ne_box (by assumption) rfl)
    replace hN31 : Nst shI64 2 (fun x : List Int => x) w13.heap.size w24.heap.size w113 z30 := by first | exact hN31.stp hst114 (by intro q hq; cases hq; omega) | exact hN31.stpB flat_shI64 hst114 (by assumption) rfl
    replace ho40 : Own shStr 9 w24.heap.size w24.heap.size w37.heap.size w113 u39 (((srT ((aT)) aColumn).1)) := by first | exact ho40.stp hst114 (by intro q hq; cases hq; omega) | exact ho40.stpF flat_shStr hst114 (by intro q hq; cases hq; exact ho40.ne_box (by assumption) rfl)
    replace ho42 : Own shRowN 41 w24.heap.size w24.heap.size w37.heap.size w113 u41 z43 := by first | exact ho42.stp hst114 (by intro q hq; cases hq; omega) | exact ho42.stpF flat_shRowN hst114 (by intro q hq; cases hq; exact ho42.ne_box (by assumption) rfl)
    replace hN44 : Nst shI64 2 (fun x : List Int => x) w24.heap.size w37.heap.size w113 z43 := by first | exact hN44.stp hst114 (by intro q hq; cases hq; omega) | exact hN44.stpB flat_shI64 hst114 (by assumption) rfl
    replace hb60 := hb60.stp hst114 (by intro q hq; cases hq; omega)
    replace ho69 : Own shStr 9 w58.heap.size w58.heap.size w66.heap.size w113 u68 (((aT).1)) := by first | exact ho69.stp hst114 (by intro q hq; cases hq; omega) | exact ho69.stpF flat_shStr hst114 (by intro q hq; cases hq; exact ho69.ne_box (by assumption) rfl)
    replace ho71 : Own shRowN 41 w58.heap.size w58.heap.size w66.heap.size w113 u70 z72 := by first | exact ho71.stp hst114 (by intro q hq; cases hq; omega) | exact ho71.stpF flat_shRowN hst114 (by intro q hq; cases hq; exact ho71.ne_box (by assumption) rfl)
    replace hN73 : Nst shI64 2 (fun x : List Int => x) w58.heap.size w66.heap.size w113 z72 := by first | exact hN73.stp hst114 (by intro q hq; cases hq; omega) | exact hN73.stpB flat_shI64 hst114 (by assumption) rfl
    replace hb86 := hb86.stp hst114 (by intro q hq; cases hq; omega)
    replace ho95 : Own shStr 9 w84.heap.size w84.heap.size w92.heap.size w113 u94 (((srT ((aT)) aColumn).1)) := by first | exact ho95.stp hst114 (by intro q hq; cases hq; omega) | exact ho95.stpF flat_shStr hst114 (by intro q hq; cases hq; exact ho95.ne_box (by assumption) rfl)
    replace ho97 : Own shRowN 41 w84.heap.size w84.heap.size w92.heap.size w113 u96 z98 := by first | exact ho97.stp hst114 (by intro q hq; cases hq; omega) | exact ho97.stpF flat_shRowN hst114 (by intro q hq; cases hq; exact ho97.ne_box (by assumption) rfl)
    replace hN99 : Nst shI64 2 (fun x : List Int => x) w84.heap.size w92.heap.size w113 z98 := by first | exact hN99.stp hst114 (by intro q hq; cases hq; omega) | exact hN99.stpB flat_shI64 hst114 (by assumption) rfl
    clear hb109
    refine wl_val ha111 rfl rfl rfl (op_assign ha111 rfl rfl) ?_
    intro a118 ha118; clear ha111 a111
    refine wpList_nil ?_
    refine then_n ?_
    refine wp_seq ?_
    refine wp_seq ?_
    refine wp_region_lit ?_
    refine wl_val ha118 rfl rfl rfl (op_loadS ha118 rfl Try.underlying28 ti28 rfl rfl hb115.cells) ?_
    intro a119 ha119; clear ha118 a118
    refine wl_val ha119 rfl rfl rfl (op_loadS ha119 rfl Try.underlying28 ti28 rfl rfl hb60.cells) ?_
    intro a120 ha120; clear ha119 a119
    refine wl_callR ha120 rfl rfl rfl (op_call ha120 rfl cb20 rfl) (c_laws_eqTable _ u94 u96 ((srT ((aT)) aColumn)) u39 u41 ((srT ((aT)) aColumn)) (ho95.rds pos_shStr) ((rds_shRowN (ho97.fin (by omega) (by omega) (by omega)) hN99).cast hE100) (ho40.rds pos_shStr) ((rds_shRowN (ho42.fin (by omega) (by omega) (by omega)) hN44).cast hE45)) ?_
    rintro v121 w122 he123 rfl a124 ha124; clear ha120 a120
    have hx125 := hx117.trans' he123
    have hzhx125 := he123.size
    replace hb4 := hb4.ext he123
    replace ho27 := ho27.ext he123
    replace ho29 := ho29.ext he123
    replace hN31 := hN31.ext he123
    replace ho40 := ho40.ext he123
    replace ho42 := ho42.ext he123
    replace hN44 := hN44.ext he123
    replace hb60 := hb60.ext he123
    replace ho69 := ho69.ext he123
    replace ho71 := ho71.ext he123
    replace hN73 := hN73.ext he123
    replace hb86 := hb86.ext he123
    replace ho95 := ho95.ext he123
    replace ho97 := ho97.ext he123
    replace hN99 := hN99.ext he123
    replace hb115 := hb115.ext he123
    refine wl_val ha124 rfl rfl rfl (op_not ha124 rfl rfl) ?_
    intro a126 ha126; clear ha124 a124
    refine wl_val ha126 rfl rfl rfl (op_move ha126 rfl rfl) ?_
    intro a127 ha127; clear ha126 a126
    rcases Bool.eq_false_or_eq_true (decide (((srT ((aT)) aColumn)) = ((srT ((aT)) aColumn)))) with c128 | c128
    ·
      rw [c128] at ha127
      refine wl_val ha127 rfl rfl rfl (op_move ha127 rfl rfl) ?_
      intro a129 ha129; clear ha127 a127
      refine wl_val ha129 rfl rfl rfl (op_move ha129 rfl rfl) ?_
      intro a130 ha130; clear ha129 a129
      refine wl_val ha130 rfl rfl rfl ((op_neq ha130 rfl rfl rfl).to (congrArg Value.bool decide_not)) ?_
      intro a131 ha131; clear ha130 a130
      refine wl_val ha131 rfl rfl rfl (op_pick_f ha131 rfl rfl rfl) ?_
      intro a132 ha132; clear ha131 a131
      refine wpList_nil ?_
      refine then_n ?_
      by_cases c133 : (cdT ((aT)) aColumn : Int) = (cdT ((aT)) aColumn : Int)
      ·
        rw [decide_eq_true c133] at ha132
        refine cond_f ha132 rfl ?_
        refine wp_skip ?_
        refine then_n ?_
        refine wp_seq ?_
        refine wp_seq ?_
        refine dr_enter Ext follows_mixed ?_
        intro w134 he135
        have hx136 := hx125.trans' he135
        have hzhx136 := he135.size
        replace hb4 := hb4.ext he135
        replace ho27 := ho27.ext he135
        replace ho29 := ho29.ext he135
        replace hN31 := hN31.ext he135
        replace ho40 := ho40.ext he135
        replace ho42 := ho42.ext he135
        replace hN44 := hN44.ext he135
        replace hb60 := hb60.ext he135
        replace ho69 := ho69.ext he135
        replace ho71 := ho71.ext he135
        replace hN73 := hN73.ext he135
        replace hb86 := hb86.ext he135
        replace ho95 := ho95.ext he135
        replace ho97 := ho97.ext he135
        replace hN99 := hN99.ext he135
        replace hb115 := hb115.ext he135
        have hs137 : Ext w134 w134 := Ext.rfl' _
        refine dr_val (i := 0) ha132 rfl (by kernel_rfl) (by kernel_rfl) (by kernel_rfl) rfl rfl rfl hs137 (fun w' hw' => op_loadS ha132 rfl Try.underlying28 ti28 rfl rfl (hb86.ext hw').cells) ?_
        intro a138 ha138; clear ha132 a132
        refine dr_val (i := 1) ha138 rfl (by kernel_rfl) (by kernel_rfl) (by kernel_rfl) rfl rfl rfl hs137 (fun w' hw' => op_loadS ha138 rfl Try.underlying25 ti25 rfl rfl (hb4.ext hw').cells) ?_
        intro a139 ha139; clear ha138 a138
        refine dr_one (i := 2) (by kernel_rfl) ?_
        refine po_callR ha139 rfl rfl rfl rfl (op_call ha139 rfl cb18 rfl) (c_laws_toTable _ v_aT0 v_aT1 aT (h_aT0.ext pos_shStr (hx136.trans' hs137)) (h_aT1.ext pos_shRow (hx136.trans' hs137)) (by first | assumption | omega | (simp; omega))) ?_
        rintro v140 w141 he142 ⟨u143, u145, z147, rfl, ho144, ho146, hN148, hE149⟩ a150 ha150; clear ha139 a139
        have hs151 := hs137.trans' he142
        have hx152 := hx136.trans' he142
        have hzhx152 := he142.size
        refine ⟨hs151, ?_⟩
        have hlhE149 := absLen hE149
        refine dr_one (i := 3) (by kernel_rfl) ?_
        refine po_callR ha150 rfl rfl rfl rfl (op_call ha150 rfl cb20 rfl) (c_laws_eqTable _ u68 u70 ((aT)) u143 u145 ((aT)) ((ho69.rds pos_shStr).ext pos_shStr hs151) (((rds_shRowN (ho71.fin (by omega) (by omega) (by omega)) hN73).ext pos_shRow hs151).cast hE74) (ho144.rds pos_shStr) ((rds_shRowN (ho146.fin (by omega) (by omega) (by omega)) hN148).cast hE149)) ?_
        rintro v153 w154 he155 rfl a156 ha156; clear ha150 a150
        have hs157 := hs151.trans' he155
        have hx158 := hx152.trans' he155
        have hzhx158 := he155.size
        replace ho144 := ho144.ext he155
        replace ho146 := ho146.ext he155
        replace hN148 := hN148.ext he155
        refine ⟨hs157, ?_⟩
        refine dr_val (i := 4) ha156 rfl (by kernel_rfl) (by kernel_rfl) (by kernel_rfl) rfl rfl rfl hs157 (fun w' hw' => op_not ha156 rfl rfl) ?_
        intro a159 ha159; clear ha156 a156
        refine dr_end (by kernel_rfl) ?_
        replace hb4 := hb4.ext hs157
        replace ho27 := ho27.ext hs157
        replace ho29 := ho29.ext hs157
        replace hN31 := hN31.ext hs157
        replace ho40 := ho40.ext hs157
        replace ho42 := ho42.ext hs157
        replace hN44 := hN44.ext hs157
        replace hb60 := hb60.ext hs157
        replace ho69 := ho69.ext hs157
        replace ho71 := ho71.ext hs157
        replace hN73 := hN73.ext hs157
        replace hb86 := hb86.ext hs157
        replace ho95 := ho95.ext hs157
        replace ho97 := ho97.ext hs157
        replace hN99 := hN99.ext hs157
        replace hb115 := hb115.ext hs157
        refine then_n ?_
        rcases Bool.eq_false_or_eq_true (decide (((aT)) = ((aT)))) with c160 | c160
        ·
          rw [c160] at ha159
          refine cond_f ha159 rfl ?_
          refine wp_skip ?_
          refine then_n ?_
          refine wp_seq ?_
          refine wp_region_lit ?_
          refine wl_val ha159 rfl rfl rfl (op_assign ha159 rfl rfl) ?_
          intro a161 ha161; clear ha159 a159
          refine wpList_nil ?_
          refine then_n ?_
          refine wp_seq ?_
          refine wp_region_lit ?_
          refine wl_val ha161 rfl rfl rfl (op_loadS ha161 rfl Try.underlying28 ti28 rfl rfl hb86.cells) ?_
          intro a162 ha162; clear ha161 a161
          refine wl_val ha162 rfl rfl rfl (op_move ha162 rfl rfl) ?_
          intro a163 ha163; clear ha162 a162
          have hm172 := c_laws_markTable (lo_a := w58.heap.size) (hi_a := w66.heap.size) _ u68 (((aT).1)) u70 z72 (1 : Int) (ho69.fin (by omega) (by omega) (by omega)) (ho71.fin (by omega) (by omega) (by omega)) (hN73.fin (by omega) (by omega)) (by omega) (by (try rw [hE74]); first | assumption | omega | (simp; omega)) (by (try rw [hE74]); first | assumption | omega | (simp; omega)) (by (try rw [hE74]); first | assumption | omega | (simp; omega))
          try rw [hE74] at hm172
          refine wl_callI ha163 rfl rfl rfl (op_call ha163 rfl cb26 rfl) (hm172) ?_
          rintro v164 w165 he166 ⟨z169, rfl, ho167, ho168, hN170, hE171⟩ a173 ha173; clear ha163 a163
          have hx174 := hx158.stpI he166 (by omega)
          have hzhx174 := he166.size
          replace hb4 := hb4.stpI he166 (by omega)
          replace ho27 := ho27.stpI he166 (by omega)
          replace ho29 := ho29.stpI he166 (by omega)
          replace hN31 := hN31.stpI he166 (by omega)
          replace ho40 := ho40.stpI he166 (by omega)
          replace ho42 := ho42.stpI he166 (by omega)
          replace hN44 := hN44.stpI he166 (by omega)
          replace hb60 := hb60.stpI he166 (by omega)
          replace hb86 := hb86.stpI he166 (by omega)
          replace ho95 := ho95.stpI he166 (by omega)
          replace ho97 := ho97.stpI he166 (by omega)
          replace hN99 := hN99.stpI he166 (by omega)
          replace hb115 := hb115.stpI he166 (by omega)
          replace ho144 := ho144.stpI he166 (by omega)
          replace ho146 := ho146.stpI he166 (by omega)
          replace hN148 := hN148.stpI he166 (by omega)
          clear ho69 ho71 hN73
          refine wl_val ha173 rfl rfl rfl (op_assign ha173 rfl rfl) ?_
          intro a175 ha175; clear ha173 a173
          refine wpList_nil ?_
          refine then_n ?_
          refine wp_seq ?_
          refine wp_seq ?_
          refine wp_region_lit ?_
          refine wl_val ha175 rfl rfl rfl (op_move ha175 rfl rfl) ?_
          intro a176 ha176; clear ha175 a175
          refine wl_val ha176 rfl rfl rfl (op_lss ha176 rfl rfl rfl) ?_
          intro a177 ha177; clear ha176 a176
          refine wl_val ha177 rfl rfl rfl (op_move ha177 rfl rfl) ?_
          intro a178 ha178; clear ha177 a177
          by_cases c179 : (kkT ((((aT).1), ((aT).2)) : List Str × List (List Int)) ((1 : Int)) : Int) < (0 : Int)
          ·
            rw [decide_eq_true c179] at ha178
            refine wl_skip ha178 rfl rfl rfl ?_
            intro a180 ha180; clear ha178 a178
            refine wl_skip ha180 rfl rfl rfl ?_
            intro a181 ha181; clear ha180 a180
            refine wl_skip ha181 rfl rfl rfl ?_
            intro a182 ha182; clear ha181 a181
            refine wl_skip ha182 rfl rfl rfl ?_
            intro a183 ha183; clear ha182 a182
            refine wl_val ha183 rfl rfl rfl (op_pick_t ha183 rfl rfl rfl) ?_
            intro a184 ha184; clear ha183 a183
            refine wl_val ha184 rfl rfl rfl (op_move ha184 rfl rfl) ?_
            intro a185 ha185; clear ha184 a184
            refine wl_skip ha185 rfl rfl rfl ?_
            intro a186 ha186; clear ha185 a185
            refine wl_skip ha186 rfl rfl rfl ?_
            intro a187 ha187; clear ha186 a186
            refine wl_skip ha187 rfl rfl rfl ?_
            intro a188 ha188; clear ha187 a187
            refine wl_val ha188 rfl rfl rfl (op_pick_t ha188 rfl rfl rfl) ?_
            intro a189 ha189; clear ha188 a188
            refine wpList_nil ?_
            refine then_n ?_
            refine cond_t ha189 rfl ?_
            refine wp_seq ?_
            refine wp_region_lit ?_
            refine wl_val ha189 rfl rfl rfl (op_assign ha189 rfl rfl) ?_
            intro a190 ha190; clear ha189 a189
            refine wpList_nil ?_
            refine then_n ?_
            refine wp_ret ?_
            refine then_r ?_
            refine ret1 ha190 rfl rfl ?_
            clear ha190 a190
            exact ret_mk hx174 (congrArg Value.bool (by first | rfl | omega | (simp at c160; done) | (simp at c128; done) | (exact absurd rfl c20)))
          ·
            rw [decide_eq_false c179] at ha178
            refine wl_val ha178 rfl rfl rfl (op_loadS ha178 rfl Try.underlying28 ti28 rfl rfl hb115.cells) ?_
            intro a191 ha191; clear ha178 a178
            refine wl_val ha191 rfl rfl rfl (op_loadS ha191 rfl Try.underlying28 ti28 rfl rfl hb60.cells) ?_
            intro a192 ha192; clear ha191 a191
            refine wl_callR ha192 rfl rfl rfl (op_call ha192 rfl cb20 rfl) (c_laws_eqTable _ u94 u96 ((srT ((aT)) aColumn)) u39 u41 ((srT ((aT)) aColumn)) (ho95.rds pos_shStr) ((rds_shRowN (ho97.fin (by omega) (by omega) (by omega)) hN99).cast hE100) (ho40.rds pos_shStr) ((rds_shRowN (ho42.fin (by omega) (by omega) (by omega)) hN44).cast hE45)) ?_
            rintro v193 w194 he195 rfl a196 ha196; clear ha192 a192
            have hx197 := hx174.trans' he195
            have hzhx197 := he195.size
            replace hb4 := hb4.ext he195
            replace ho27 := ho27.ext he195
            replace ho29 := ho29.ext he195
            replace hN31 := hN31.ext he195
            replace ho40 := ho40.ext he195
            replace ho42 := ho42.ext he195
            replace hN44 := hN44.ext he195
            replace hb60 := hb60.ext he195
            replace hb86 := hb86.ext he195
            replace ho95 := ho95.ext he195
            replace ho97 := ho97.ext he195
            replace hN99 := hN99.ext he195
            replace hb115 := hb115.ext he195
            replace ho144 := ho144.ext he195
            replace ho146 := ho146.ext he195
            replace hN148 := hN148.ext he195
            replace ho167 := ho167.ext he195
            replace ho168 := ho168.ext he195
            replace hN170 := hN170.ext he195
            refine wl_val ha196 rfl rfl rfl (op_not ha196 rfl rfl) ?_
            intro a198 ha198; clear ha196 a196
            refine wl_val ha198 rfl rfl rfl (op_pick_f ha198 rfl rfl rfl) ?_
            intro a199 ha199; clear ha198 a198
            refine wl_val ha199 rfl rfl rfl (op_move ha199 rfl rfl) ?_
            intro a200 ha200; clear ha199 a199
            rw [c128] at ha200
            refine wl_val ha200 rfl rfl rfl (op_move ha200 rfl rfl) ?_
            intro a201 ha201; clear ha200 a200
            refine wl_val ha201 rfl rfl rfl (op_move ha201 rfl rfl) ?_
            intro a202 ha202; clear ha201 a201
            refine wl_val ha202 rfl rfl rfl ((op_neq ha202 rfl rfl rfl).to (congrArg Value.bool decide_not)) ?_
            intro a203 ha203; clear ha202 a202
            refine wl_val ha203 rfl rfl rfl (op_pick_f ha203 rfl rfl rfl) ?_
            intro a204 ha204; clear ha203 a203
            refine wpList_nil ?_
            refine then_n ?_
            rw [decide_eq_true c133] at ha204
            refine cond_f ha204 rfl ?_
            refine wp_skip ?_
            refine then_n ?_
            refine wp_seq ?_
            refine wp_region_lit ?_
            refine wl_val ha204 rfl rfl rfl (op_assign ha204 rfl rfl) ?_
            intro a205 ha205; clear ha204 a204
            refine wpList_nil ?_
            refine then_n ?_
            refine wp_seq ?_
            refine wp_region_lit ?_
            refine wl_val ha205 rfl rfl rfl (op_loadS ha205 rfl Try.underlying28 ti28 rfl rfl hb115.cells) ?_
            intro a206 ha206; clear ha205 a205
            refine wl_val ha206 rfl rfl rfl (op_move ha206 rfl rfl) ?_
            intro a207 ha207; clear ha206 a206
            have hm216 := c_laws_markTable (lo_a := w84.heap.size) (hi_a := w92.heap.size) _ u94 (((srT ((aT)) aColumn).1)) u96 z98 (1 : Int) (ho95.fin (by omega) (by omega) (by omega)) (ho97.fin (by omega) (by omega) (by omega)) (hN99.fin (by omega) (by omega)) (by omega) (by (try rw [hE100]); first | assumption | omega | (simp; omega)) (by (try rw [hE100]); first | assumption | omega | (simp; omega)) (by (try rw [hE100]); first | assumption | omega | (simp; omega))
            try rw [hE100] at hm216
            refine wl_callI ha207 rfl rfl rfl (op_call ha207 rfl cb26 rfl) (hm216) ?_
            rintro v208 w209 he210 ⟨z213, rfl, ho211, ho212, hN214, hE215⟩ a217 ha217; clear ha207 a207
            have hx218 := hx197.stpI he210 (by omega)
            have hzhx218 := he210.size
            replace hb4 := hb4.stpI he210 (by omega)
            replace ho27 := ho27.stpI he210 (by omega)
            replace ho29 := ho29.stpI he210 (by omega)
            replace hN31 := hN31.stpI he210 (by omega)
            replace ho40 := ho40.stpI he210 (by omega)
            replace ho42 := ho42.stpI he210 (by omega)
            replace hN44 := hN44.stpI he210 (by omega)
            replace hb60 := hb60.stpI he210 (by omega)
            replace hb86 := hb86.stpI he210 (by omega)
            replace hb115 := hb115.stpI he210 (by omega)
            replace ho144 := ho144.stpI he210 (by omega)
            replace ho146 := ho146.stpI he210 (by omega)
            replace hN148 := hN148.stpI he210 (by omega)
            replace ho167 := ho167.stpI he210 (by omega)
            replace ho168 := ho168.stpI he210 (by omega)
            replace hN170 := hN170.stpI he210 (by omega)
            clear ho95 ho97 hN99
            refine wl_val ha217 rfl rfl rfl (op_assign ha217 rfl rfl) ?_
            intro a219 ha219; clear ha217 a217
            refine wpList_nil ?_
            refine then_n ?_
            refine wp_seq ?_
            refine wp_region_lit ?_
            refine wl_val ha219 rfl rfl rfl (op_assign ha219 rfl rfl) ?_
            intro a220 ha220; clear ha219 a219
            refine wpList_nil ?_
            refine then_n ?_
            refine wp_seq ?_
            refine wp_region_lit ?_
            refine wl_val ha220 rfl rfl rfl (op_loadS ha220 rfl Try.underlying28 ti28 rfl rfl hb115.cells) ?_
            intro a221 ha221; clear ha220 a220
            refine wl_val ha221 rfl rfl rfl (op_move ha221 rfl rfl) ?_
            intro a222 ha222; clear ha221 a221
            refine wl_callR ha222 rfl rfl rfl (op_call ha222 rfl cb36 rfl) (c_laws_heldTable _ u94 u96 ((mkT2 ((((srT ((aT)) aColumn).1), ((srT ((aT)) aColumn).2)) : List Str × List (List Int)) ((1 : Int)))) (1 : Int) (ho211.rds pos_shStr) ((rds_shRowN (ho212.fin (by omega) (by omega) (by omega)) hN214).cast hE215) (by first | assumption | omega | (simp; omega)) (by first | assumption | omega | (simp; omega) | (simp [kk_mkT]; omega))) ?_
            rintro v223 w224 he225 rfl a226 ha226; clear ha222 a222
            have hx227 := hx218.trans' he225
            have hzhx227 := he225.size
            replace hb4 := hb4.ext he225
            replace ho27 := ho27.ext he225
            replace ho29 := ho29.ext he225
            replace hN31 := hN31.ext he225
            replace ho40 := ho40.ext he225
            replace ho42 := ho42.ext he225
            replace hN44 := hN44.ext he225
            replace hb60 := hb60.ext he225
            replace hb86 := hb86.ext he225
            replace hb115 := hb115.ext he225
            replace ho144 := ho144.ext he225
            replace ho146 := ho146.ext he225
            replace hN148 := hN148.ext he225
            replace ho167 := ho167.ext he225
            replace ho168 := ho168.ext he225
            replace hN170 := hN170.ext he225
            replace ho211 := ho211.ext he225
            replace ho212 := ho212.ext he225
            replace hN214 := hN214.ext he225
            refine wl_val ha226 rfl rfl rfl (op_assign ha226 rfl rfl) ?_
            intro a228 ha228; clear ha226 a226
            refine wpList_nil ?_
            refine then_n ?_
            refine wp_seq ?_
            refine wp_seq ?_
            refine wp_region_lit ?_
            refine wl_val ha228 rfl rfl rfl (op_move ha228 rfl rfl) ?_
            intro a229 ha229; clear ha228 a228
            refine wl_val ha229 rfl rfl rfl (op_lss ha229 rfl rfl rfl) ?_
            intro a230 ha230; clear ha229 a229
            refine wpList_nil ?_
            refine then_n ?_
            by_cases c231 : (heldT ((mkT2 ((((srT ((aT)) aColumn).1), ((srT ((aT)) aColumn).2)) : List Str × List (List Int)) ((1 : Int)))) (1 : Int) : Int) < (0 : Int)
            ·
              rw [decide_eq_true c231] at ha230
              refine cond_t ha230 rfl ?_
              refine wp_seq ?_
              refine wp_region_lit ?_
              refine wl_val ha230 rfl rfl rfl (op_assign ha230 rfl rfl) ?_
              intro a232 ha232; clear ha230 a230
              refine wpList_nil ?_
              refine then_n ?_
              refine wp_ret ?_
              refine then_r ?_
              refine ret1 ha232 rfl rfl ?_
              clear ha232 a232
              exact ret_mk hx227 (congrArg Value.bool (by first | rfl | omega | (simp [held_mkT] at c231; done) | (simp [held_mkT] at c231; omega) | (exact absurd rfl c179) | (simp at c160; done) | (simp at c128; done) | (exact absurd rfl c20)))
            ·
              rw [decide_eq_false c231] at ha230
              refine cond_f ha230 rfl ?_
              refine wp_skip ?_
              refine then_n ?_
              refine wp_seq ?_
              refine wp_seq ?_
              refine wp_region_lit ?_
              refine wl_val ha230 rfl rfl rfl (op_move ha230 rfl rfl) ?_
              intro a233 ha233; clear ha230 a230
              refine wl_val ha233 rfl rfl rfl (op_move ha233 rfl rfl) ?_
              intro a234 ha234; clear ha233 a233
              refine wl_val ha234 rfl rfl rfl ((op_neq ha234 rfl rfl rfl).to (congrArg Value.bool decide_not)) ?_
              intro a235 ha235; clear ha234 a234
              refine wpList_nil ?_
              refine then_n ?_
              by_cases c236 : (heldT ((mkT2 ((((srT ((aT)) aColumn).1), ((srT ((aT)) aColumn).2)) : List Str × List (List Int)) ((1 : Int)))) (1 : Int) : Int) = (kkT ((((srT ((aT)) aColumn).1), ((srT ((aT)) aColumn).2)) : List Str × List (List Int)) ((1 : Int)) : Int)
              ·
                rw [decide_eq_true c236] at ha235
                refine cond_f ha235 rfl ?_
                refine wp_skip ?_
                refine then_n ?_
                refine wp_seq ?_
                refine wp_region_lit ?_
                refine wl_val ha235 rfl rfl rfl (op_loadS ha235 rfl Try.underlying25 ti25 rfl rfl hb4.cells) ?_
                intro a237 ha237; clear ha235 a235
                refine wl_callR ha237 rfl rfl rfl (op_call ha237 rfl cb18 rfl) (c_laws_toTable _ v_aT0 v_aT1 aT (h_aT0.ext pos_shStr hx227) (h_aT1.ext pos_shRow hx227) (by first | assumption | omega | (simp; omega))) ?_
                rintro v238 w239 he240 ⟨u241, u243, z245, rfl, ho242, ho244, hN246, hE247⟩ a248 ha248; clear ha237 a237
                have hx249 := hx227.trans' he240
                have hzhx249 := he240.size
                replace hb4 := hb4.ext he240
                replace ho27 := ho27.ext he240
                replace ho29 := ho29.ext he240
                replace hN31 := hN31.ext he240
                replace ho40 := ho40.ext he240
                replace ho42 := ho42.ext he240
                replace hN44 := hN44.ext he240
                replace hb60 := hb60.ext he240
                replace hb86 := hb86.ext he240
                replace hb115 := hb115.ext he240
                replace ho144 := ho144.ext he240
                replace ho146 := ho146.ext he240
                replace hN148 := hN148.ext he240
                replace ho167 := ho167.ext he240
                replace ho168 := ho168.ext he240
                replace hN170 := hN170.ext he240
                replace ho211 := ho211.ext he240
                replace ho212 := ho212.ext he240
                replace hN214 := hN214.ext he240
                have hlhE247 := absLen hE247
                refine wl_val ha248 rfl rfl rfl (op_move ha248 rfl rfl) ?_
                intro a250 ha250; clear ha248 a248
                refine wl_callR ha250 rfl rfl rfl (op_call ha250 rfl cb35 rfl) (c_impl_SortRows _ u241 u243 ((aT)) aColumn (ho242.rds pos_shStr) ((rds_shRowN (ho244.fin (by omega) (by omega) (by omega)) hN246).cast hE247)) ?_
                rintro v251 w252 he253 ⟨u254, u256, z258, rfl, ho255, ho257, hN259, hE260⟩ a261 ha261; clear ha250 a250
                have hx262 := hx249.trans' he253
                have hzhx262 := he253.size
                replace hb4 := hb4.ext he253
                replace ho27 := ho27.ext he253
                replace ho29 := ho29.ext he253
                replace hN31 := hN31.ext he253
                replace ho40 := ho40.ext he253
                replace ho42 := ho42.ext he253
                replace hN44 := hN44.ext he253
                replace hb60 := hb60.ext he253
                replace hb86 := hb86.ext he253
                replace hb115 := hb115.ext he253
                replace ho144 := ho144.ext he253
                replace ho146 := ho146.ext he253
                replace hN148 := hN148.ext he253
                replace ho167 := ho167.ext he253
                replace ho168 := ho168.ext he253
                replace hN170 := hN170.ext he253
                replace ho211 := ho211.ext he253
                replace ho212 := ho212.ext he253
                replace hN214 := hN214.ext he253
                replace ho242 := ho242.ext he253
                replace ho244 := ho244.ext he253
                replace hN246 := hN246.ext he253
                have hlhE260 := absLen hE260
                refine wl_val ha261 rfl rfl rfl (op_move ha261 rfl rfl) ?_
                intro a263 ha263; clear ha261 a261
                refine wl_val ha263 rfl rfl rfl (op_extract ha263 rfl rfl rfl) ?_
                intro a264 ha264; clear ha263 a263
                refine wl_val ha264 rfl rfl rfl (op_extract ha264 rfl rfl rfl) ?_
                intro a265 ha265; clear ha264 a264
                refine wl_eff ha265 rfl rfl rfl (op_alloc' rfl ti28 rfl) ?_
                rintro _ w267 ⟨rfl, he268, hb269, hz270⟩ a271 ha271; clear ha265 a265
                have hx272 := hx262.trans' he268
                have hzhx272 := he268.size
                replace hb4 := hb4.ext he268
                replace ho27 := ho27.ext he268
                replace ho29 := ho29.ext he268
                replace hN31 := hN31.ext he268
                replace ho40 := ho40.ext he268
                replace ho42 := ho42.ext he268
                replace hN44 := hN44.ext he268
                replace hb60 := hb60.ext he268
                replace hb86 := hb86.ext he268
                replace hb115 := hb115.ext he268
                replace ho144 := ho144.ext he268
                replace ho146 := ho146.ext he268
                replace hN148 := hN148.ext he268
                replace ho167 := ho167.ext he268
                replace ho168 := ho168.ext he268
                replace hN170 := hN170.ext he268
                replace ho211 := ho211.ext he268
                replace ho212 := ho212.ext he268
                replace hN214 := hN214.ext he268
                replace ho242 := ho242.ext he268
                replace ho244 := ho244.ext he268
                replace hN246 := hN246.ext he268
                replace ho255 := ho255.ext he268
                replace ho257 := ho257.ext he268
                replace hN259 := hN259.ext he268
                refine wl_effS ha271 rfl rfl (op_storeAll' ha271 rfl ti28 rfl rfl hb269 rfl rfl (by intro u hu; have hu : u ∈ ([u254, u256] : List Value) := hu; simp only [List.mem_cons, List.mem_nil_iff, or_false] at hu; rcases hu with rfl | rfl <;> first | rfl | exact ho255.one | exact ho257.one) rfl) ?_
                rintro w273 ⟨hb275, hst274, hz276⟩
                have hx277 := hx272.stp hst274 (by intro q hq; cases hq; exact (by omega))
                have hzhx277 := hst274.size
                replace hb4 := hb4.stp hst274 (by intro q hq; cases hq; omega)
                replace ho27 : Own shStr 9 w13.heap.size w13.heap.size w24.heap.size w273 u26 (((aT).1)) := by first | exact ho27.stp hst274 (by intro q hq; cases hq; omega) | exact ho27.stpF flat_shStr hst274 (by intro q hq; cases hq; exact ho27.ne_box (by assumption) rfl)
                replace ho29 : Own shRowN 41 w13.heap.size w13.heap.size w24.heap.size w273 u28 z30 := by first | exact ho29.stp hst274 (by intro q hq; cases hq; omega) | exact ho29.stpF flat_shRowN hst274 (by intro q hq; cases hq; exact ho29.ne_box (by assumption) rfl)
                replace hN31 : Nst shI64 2 (fun x : List Int => x) w13.heap.size w24.heap.size w273 z30 := by first | exact hN31.stp hst274 (by intro q hq; cases hq; omega) | exact hN31.stpB flat_shI64 hst274 (by assumption) rfl
                replace ho40 : Own shStr 9 w24.heap.size w24.heap.size w37.heap.size w273 u39 (((srT ((aT)) aColumn).1)) := by first | exact ho40.stp hst274 (by intro q hq; cases hq; omega) | exact ho40.stpF flat_shStr hst274 (by intro q hq; cases hq; exact ho40.ne_box (by assumption) rfl)
                replace ho42 : Own shRowN 41 w24.heap.size w24.heap.size w37.heap.size w273 u41 z43 := by first | exact ho42.stp hst274 (by intro q hq; cases hq; omega) | exact ho42.stpF flat_shRowN hst274 (by intro q hq; cases hq; exact ho42.ne_box (by assumption) rfl)
                replace hN44 : Nst shI64 2 (fun x : List Int => x) w24.heap.size w37.heap.size w273 z43 := by first | exact hN44.stp hst274 (by intro q hq; cases hq; omega) | exact hN44.stpB flat_shI64 hst274 (by assumption) rfl
                replace hb60 := hb60.stp hst274 (by intro q hq; cases hq; omega)
                replace hb86 := hb86.stp hst274 (by intro q hq; cases hq; omega)
                replace hb115 := hb115.stp hst274 (by intro q hq; cases hq; omega)
                replace ho144 : Own shStr 9 w134.heap.size w134.heap.size w141.heap.size w273 u143 (((aT).1)) := by first | exact ho144.stp hst274 (by intro q hq; cases hq; omega) | exact ho144.stpF flat_shStr hst274 (by intro q hq; cases hq; exact ho144.ne_box (by assumption) rfl)
                replace ho146 : Own shRowN 41 w134.heap.size w134.heap.size w141.heap.size w273 u145 z147 := by first | exact ho146.stp hst274 (by intro q hq; cases hq; omega) | exact ho146.stpF flat_shRowN hst274 (by intro q hq; cases hq; exact ho146.ne_box (by assumption) rfl)
                replace hN148 : Nst shI64 2 (fun x : List Int => x) w134.heap.size w141.heap.size w273 z147 := by first | exact hN148.stp hst274 (by intro q hq; cases hq; omega) | exact hN148.stpB flat_shI64 hst274 (by assumption) rfl
                replace ho167 : Own shStr 9 w58.heap.size w58.heap.size w66.heap.size w273 u68 ((mkN mkS 1 ((((aT).1), ((aT).2)) : List Str × List (List Int)).1.length ((1 : Int)))) := by first | exact ho167.stp hst274 (by intro q hq; cases hq; omega) | exact ho167.stpF flat_shStr hst274 (by intro q hq; cases hq; exact ho167.ne_box (by assumption) rfl)
                replace ho168 : Own shRowN 41 w58.heap.size w58.heap.size w66.heap.size w273 u70 z169 := by first | exact ho168.stp hst274 (by intro q hq; cases hq; omega) | exact ho168.stpF flat_shRowN hst274 (by intro q hq; cases hq; exact ho168.ne_box (by assumption) rfl)
                replace hN170 : Nst shI64 2 (fun x : List Int => x) w58.heap.size w66.heap.size w273 z169 := by first | exact hN170.stp hst274 (by intro q hq; cases hq; omega) | exact hN170.stpB flat_shI64 hst274 (by assumption) rfl
                replace ho211 : Own shStr 9 w84.heap.size w84.heap.size w92.heap.size w273 u94 ((mkN mkS 1 ((((srT ((aT)) aColumn).1), ((srT ((aT)) aColumn).2)) : List Str × List (List Int)).1.length ((1 : Int)))) := by first | exact ho211.stp hst274 (by intro q hq; cases hq; omega) | exact ho211.stpF flat_shStr hst274 (by intro q hq; cases hq; exact ho211.ne_box (by assumption) rfl)
                replace ho212 : Own shRowN 41 w84.heap.size w84.heap.size w92.heap.size w273 u96 z213 := by first | exact ho212.stp hst274 (by intro q hq; cases hq; omega) | exact ho212.stpF flat_shRowN hst274 (by intro q hq; cases hq; exact ho212.ne_box (by assumption) rfl)
                replace hN214 : Nst shI64 2 (fun x : List Int => x) w84.heap.size w92.heap.size w273 z213 := by first | exact hN214.stp hst274 (by intro q hq; cases hq; omega) | exact hN214.stpB flat_shI64 hst274 (by assumption) rfl
                replace ho242 : Own shStr 9 w224.heap.size w224.heap.size w239.heap.size w273 u241 (((aT).1)) := by first | exact ho242.stp hst274 (by intro q hq; cases hq; omega) | exact ho242.stpF flat_shStr hst274 (by intro q hq; cases hq; exact ho242.ne_box (by assumption) rfl)
                replace ho244 : Own shRowN 41 w224.heap.size w224.heap.size w239.heap.size w273 u243 z245 := by first | exact ho244.stp hst274 (by intro q hq; cases hq; omega) | exact ho244.stpF flat_shRowN hst274 (by intro q hq; cases hq; exact ho244.ne_box (by assumption) rfl)
                replace hN246 : Nst shI64 2 (fun x : List Int => x) w224.heap.size w239.heap.size w273 z245 := by first | exact hN246.stp hst274 (by intro q hq; cases hq; omega) | exact hN246.stpB flat_shI64 hst274 (by assumption) rfl
                replace ho255 : Own shStr 9 w239.heap.size w239.heap.size w252.heap.size w273 u254 (((srT ((aT)) aColumn).1)) := by first | exact ho255.stp hst274 (by intro q hq; cases hq; omega) | exact ho255.stpF flat_shStr hst274 (by intro q hq; cases hq; exact ho255.ne_box (by assumption) rfl)
                replace ho257 : Own shRowN 41 w239.heap.size w239.heap.size w252.heap.size w273 u256 z258 := by first | exact ho257.stp hst274 (by intro q hq; cases hq; omega) | exact ho257.stpF flat_shRowN hst274 (by intro q hq; cases hq; exact ho257.ne_box (by assumption) rfl)
                replace hN259 : Nst shI64 2 (fun x : List Int => x) w239.heap.size w252.heap.size w273 z258 := by first | exact hN259.stp hst274 (by intro q hq; cases hq; omega) | exact hN259.stpB flat_shI64 hst274 (by assumption) rfl
                clear hb269
                refine wl_val ha271 rfl rfl rfl (op_assign ha271 rfl rfl) ?_
                intro a278 ha278; clear ha271 a271
                refine wpList_nil ?_
                refine then_n ?_
                refine wp_seq ?_
                refine wp_seq ?_
                refine wp_region_lit ?_
                refine wl_val ha278 rfl rfl rfl (op_loadS ha278 rfl Try.underlying28 ti28 rfl rfl hb275.cells) ?_
                intro a279 ha279; clear ha278 a278
                refine wl_val ha279 rfl rfl rfl (op_loadS ha279 rfl Try.underlying28 ti28 rfl rfl hb60.cells) ?_
                intro a280 ha280; clear ha279 a279
                refine wl_callR ha280 rfl rfl rfl (op_call ha280 rfl cb20 rfl) (c_laws_eqTable _ u254 u256 ((srT ((aT)) aColumn)) u39 u41 ((srT ((aT)) aColumn)) (ho255.rds pos_shStr) ((rds_shRowN (ho257.fin (by omega) (by omega) (by omega)) hN259).cast hE260) (ho40.rds pos_shStr) ((rds_shRowN (ho42.fin (by omega) (by omega) (by omega)) hN44).cast hE45)) ?_
                rintro v281 w282 he283 rfl a284 ha284; clear ha280 a280
                have hx285 := hx277.trans' he283
                have hzhx285 := he283.size
                replace hb4 := hb4.ext he283
                replace ho27 := ho27.ext he283
                replace ho29 := ho29.ext he283
                replace hN31 := hN31.ext he283
                replace ho40 := ho40.ext he283
                replace ho42 := ho42.ext he283
                replace hN44 := hN44.ext he283
                replace hb60 := hb60.ext he283
                replace hb86 := hb86.ext he283
                replace hb115 := hb115.ext he283
                replace ho144 := ho144.ext he283
                replace ho146 := ho146.ext he283
                replace hN148 := hN148.ext he283
                replace ho167 := ho167.ext he283
                replace ho168 := ho168.ext he283
                replace hN170 := hN170.ext he283
                replace ho211 := ho211.ext he283
                replace ho212 := ho212.ext he283
                replace hN214 := hN214.ext he283
                replace ho242 := ho242.ext he283
                replace ho244 := ho244.ext he283
                replace hN246 := hN246.ext he283
                replace ho255 := ho255.ext he283
                replace ho257 := ho257.ext he283
                replace hN259 := hN259.ext he283
                replace hb275 := hb275.ext he283
                refine wl_val ha284 rfl rfl rfl (op_not ha284 rfl rfl) ?_
                intro a286 ha286; clear ha284 a284
                refine wl_val ha286 rfl rfl rfl (op_move ha286 rfl rfl) ?_
                intro a287 ha287; clear ha286 a286
                rw [c128] at ha287
                refine wl_val ha287 rfl rfl rfl (op_move ha287 rfl rfl) ?_
                intro a288 ha288; clear ha287 a287
                refine wl_val ha288 rfl rfl rfl (op_move ha288 rfl rfl) ?_
                intro a289 ha289; clear ha288 a288
                refine wl_val ha289 rfl rfl rfl ((op_neq ha289 rfl rfl rfl).to (congrArg Value.bool decide_not)) ?_
                intro a290 ha290; clear ha289 a289
                refine wl_val ha290 rfl rfl rfl (op_pick_f ha290 rfl rfl rfl) ?_
                intro a291 ha291; clear ha290 a290
                refine wpList_nil ?_
                refine then_n ?_
                rw [decide_eq_true c133] at ha291
                refine cond_f ha291 rfl ?_
                refine wp_skip ?_
                refine then_n ?_
                refine wp_seq ?_
                refine wp_region_lit ?_
                refine wl_val ha291 rfl rfl rfl (op_assign ha291 rfl rfl) ?_
                intro a292 ha292; clear ha291 a291
                refine wpList_nil ?_
                refine then_n ?_
                refine wp_seq ?_
                refine wp_region_lit ?_
                refine wl_val ha292 rfl rfl rfl (op_loadS ha292 rfl Try.underlying28 ti28 rfl rfl hb115.cells) ?_
                intro a293 ha293; clear ha292 a292
                refine wl_val ha293 rfl rfl rfl (op_move ha293 rfl rfl) ?_
                intro a294 ha294; clear ha293 a293
                refine wl_callR ha294 rfl rfl rfl (op_call ha294 rfl cb36 rfl) (c_laws_heldTable _ u94 u96 ((mkT2 ((((srT ((aT)) aColumn).1), ((srT ((aT)) aColumn).2)) : List Str × List (List Int)) ((1 : Int)))) (1 : Int) (ho211.rds pos_shStr) ((rds_shRowN (ho212.fin (by omega) (by omega) (by omega)) hN214).cast hE215) (by first | assumption | omega | (simp; omega)) (by first | assumption | omega | (simp; omega) | (simp [kk_mkT]; omega))) ?_
                rintro v295 w296 he297 rfl a298 ha298; clear ha294 a294
                have hx299 := hx285.trans' he297
                have hzhx299 := he297.size
                replace hb4 := hb4.ext he297
                replace ho27 := ho27.ext he297
                replace ho29 := ho29.ext he297
                replace hN31 := hN31.ext he297
                replace ho40 := ho40.ext he297
                replace ho42 := ho42.ext he297
                replace hN44 := hN44.ext he297
                replace hb60 := hb60.ext he297
                replace hb86 := hb86.ext he297
                replace hb115 := hb115.ext he297
                replace ho144 := ho144.ext he297
                replace ho146 := ho146.ext he297
                replace hN148 := hN148.ext he297
                replace ho167 := ho167.ext he297
                replace ho168 := ho168.ext he297
                replace hN170 := hN170.ext he297
                replace ho211 := ho211.ext he297
                replace ho212 := ho212.ext he297
                replace hN214 := hN214.ext he297
                replace ho242 := ho242.ext he297
                replace ho244 := ho244.ext he297
                replace hN246 := hN246.ext he297
                replace ho255 := ho255.ext he297
                replace ho257 := ho257.ext he297
                replace hN259 := hN259.ext he297
                replace hb275 := hb275.ext he297
                refine wl_val ha298 rfl rfl rfl (op_assign ha298 rfl rfl) ?_
                intro a300 ha300; clear ha298 a298
                refine wpList_nil ?_
                refine then_n ?_
                refine wp_seq ?_
                refine wp_seq ?_
                refine wp_region_lit ?_
                refine wl_val ha300 rfl rfl rfl (op_move ha300 rfl rfl) ?_
                intro a301 ha301; clear ha300 a300
                refine wl_val ha301 rfl rfl rfl (op_lss ha301 rfl rfl rfl) ?_
                intro a302 ha302; clear ha301 a301
                refine wpList_nil ?_
                refine then_n ?_
                rw [decide_eq_false c231] at ha302
                refine cond_f ha302 rfl ?_
                refine wp_skip ?_
                refine then_n ?_
                refine wp_seq ?_
                refine wp_seq ?_
                refine wp_region_lit ?_
                refine wl_val ha302 rfl rfl rfl (op_move ha302 rfl rfl) ?_
                intro a303 ha303; clear ha302 a302
                refine wl_val ha303 rfl rfl rfl (op_move ha303 rfl rfl) ?_
                intro a304 ha304; clear ha303 a303
                refine wl_val ha304 rfl rfl rfl ((op_neq ha304 rfl rfl rfl).to (congrArg Value.bool decide_not)) ?_
                intro a305 ha305; clear ha304 a304
                refine wpList_nil ?_
                refine then_n ?_
                rw [decide_eq_true c236] at ha305
                refine cond_f ha305 rfl ?_
                refine wp_skip ?_
                refine then_n ?_
                refine wp_seq ?_
                refine wp_region_lit ?_
                refine wl_val ha305 rfl rfl rfl (op_assign ha305 rfl rfl) ?_
                intro a306 ha306; clear ha305 a305
                refine wpList_nil ?_
                refine then_n ?_
                refine wp_ret ?_
                refine ret1 ha306 rfl rfl ?_
                clear ha306 a306
                exact ret_mk hx299 (congrArg Value.bool (by first | rfl | omega | (simp [held_mkT] at c236; done) | (simp [held_mkT] at c236; omega) | (simp [held_mkT] at c231; done) | (simp [held_mkT] at c231; omega) | (exact absurd rfl c231) | (exact absurd rfl c179) | (simp at c160; done) | (simp at c128; done) | (exact absurd rfl c20)))
              ·
                rw [decide_eq_false c236] at ha235
                refine cond_t ha235 rfl ?_
                refine wp_seq ?_
                refine wp_region_lit ?_
                refine wl_val ha235 rfl rfl rfl (op_assign ha235 rfl rfl) ?_
                intro a307 ha307; clear ha235 a235
                refine wpList_nil ?_
                refine then_n ?_
                refine wp_ret ?_
                refine then_r ?_
                refine ret1 ha307 rfl rfl ?_
                clear ha307 a307
                exact ret_mk hx227 (congrArg Value.bool (by first | rfl | omega | (simp [held_mkT] at c236; done) | (simp [held_mkT] at c236; omega) | (simp [held_mkT] at c231; done) | (simp [held_mkT] at c231; omega) | (exact absurd rfl c236) | (exact absurd rfl c231) | (exact absurd rfl c179) | (simp at c160; done) | (simp at c128; done) | (exact absurd rfl c20)))
        ·
          rw [c160] at ha159
          refine cond_t ha159 rfl ?_
          refine wp_seq ?_
          refine wp_region_lit ?_
          refine wl_val ha159 rfl rfl rfl (op_assign ha159 rfl rfl) ?_
          intro a308 ha308; clear ha159 a159
          refine wpList_nil ?_
          refine then_n ?_
          refine wp_ret ?_
          refine then_r ?_
          refine ret1 ha308 rfl rfl ?_
          clear ha308 a308
          exact ret_mk hx158 (congrArg Value.bool (by first | rfl | omega | (exact absurd rfl c160) | (simp at c160; done) | (simp at c128; done) | (exact absurd rfl c20)))
      ·
        rw [decide_eq_false c133] at ha132
        refine cond_t ha132 rfl ?_
        refine wp_seq ?_
        refine wp_region_lit ?_
        refine wl_val ha132 rfl rfl rfl (op_assign ha132 rfl rfl) ?_
        intro a309 ha309; clear ha132 a132
        refine wpList_nil ?_
        refine then_n ?_
        refine wp_ret ?_
        refine then_r ?_
        refine ret1 ha309 rfl rfl ?_
        clear ha309 a309
        exact ret_mk hx125 (congrArg Value.bool (by first | rfl | omega | (exact absurd rfl c133) | (simp at c128; done) | (exact absurd rfl c20)))
    ·
      rw [c128] at ha127
      refine wl_skip ha127 rfl rfl rfl ?_
      intro a310 ha310; clear ha127 a127
      refine wl_skip ha310 rfl rfl rfl ?_
      intro a311 ha311; clear ha310 a310
      refine wl_skip ha311 rfl rfl rfl ?_
      intro a312 ha312; clear ha311 a311
      refine wl_val ha312 rfl rfl rfl (op_pick_t ha312 rfl rfl rfl) ?_
      intro a313 ha313; clear ha312 a312
      refine wpList_nil ?_
      refine then_n ?_
      refine cond_t ha313 rfl ?_
      refine wp_seq ?_
      refine wp_region_lit ?_
      refine wl_val ha313 rfl rfl rfl (op_assign ha313 rfl rfl) ?_
      intro a314 ha314; clear ha313 a313
      refine wpList_nil ?_
      refine then_n ?_
      refine wp_ret ?_
      refine then_r ?_
      refine ret1 ha314 rfl rfl ?_
      clear ha314 a314
      exact ret_mk hx125 (congrArg Value.bool (by first | rfl | omega | (exact absurd rfl c128) | (simp at c128; done) | (exact absurd rfl c20)))


end Go.Proofs.Ytjpldgicibnkcaa
