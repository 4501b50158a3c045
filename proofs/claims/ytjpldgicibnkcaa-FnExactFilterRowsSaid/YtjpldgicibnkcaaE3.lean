/- The law FilterRows, walked. -/
import Derived.Test.YtjpldgicibnkcaaW5
import Derived.Test.YtjpldgicibnkcaaL3
namespace Go.Proofs.Ytjpldgicibnkcaa
open Go Go.RowKit

theorem sumC_filter {α : Type} (c : α → Nat) (p : α → Bool) : ∀ l : List α, sumC c (l.filter p) ≤ sumC c l
  | [] => Nat.le_refl _
  | a :: l => by
    have := sumC_filter c p l
    rw [List.filter_cons]
    split <;> simp only [sumC] <;> omega
theorem costL_filter {α : Type} (c : α → Nat) (p : α → Bool) (l : List α) : costL c (l.filter p) ≤ costL c l := by
  have h1 := sumC_filter c p l
  have h2 := List.length_filter_le p l
  unfold costL; omega
theorem flT_cost (t : Tab) (c lo hi : Int) : costT (flT t c lo hi) ≤ costT t := by
  unfold flT
  split
  · have := costL_filter costRow (inC c lo hi) t.2
    unfold costT; show costL costS t.1 + costL costRow (t.2.filter (inC c lo hi)) ≤ _; omega
  · exact Nat.zero_le _

theorem c_laws_FnExactFilterRows (w0 : World) (v_aT0 : Value) (v_aT1 : Value) (aT : List Str × List (List Int)) {S_aT0 : Nat → Prop} {S_aT1 : Nat → Prop} (aColumn : Int) (aLow : Int) (aHigh : Int) (h_aT0 : Rds shStr S_aT0 w0 v_aT0 aT.1) (h_aT1 : Rds shRow S_aT1 w0 v_aT1 aT.2) (g0 : I64 aColumn) (g1 : I64 aLow) (g2 : I64 aHigh) :
    Calls Try.prog 8 #[.agg #[v_aT0, v_aT1], .int .i64 aColumn, .int .i64 aLow, .int .i64 aHigh] w0 (Ret w0 (fun v _ => v = .bool (true))) := by
  refine enter (N := 111) Try.func8 rfl rfl rfl ?_
  intro a0 ha0
  have hx0 := Ext.rfl' w0
  have hl_aT0 := h_aT0.length_le
  have hl_aT1 := h_aT1.length_le
  have hcl : costT aT = costL costS aT.1 + costL costRow aT.2 := rfl
  have hc1 := costL_len costS aT.1
  have hc2 := costL_len costRow aT.2
  have hkk := kkT_le aT 1
  have hkg := kkT_ge aT 1
  have hkk2 : kkT (aT.1, aT.2) 1 ≤ 1 + (costT aT : Nat) := hkk
  have hkg2 : 1 ≤ kkT (aT.1, aT.2) 1 := hkg
  have hq1 := kkT_le (flT aT aColumn aLow aHigh) 1
  have hq2 := flT_cost aT aColumn aLow aHigh
  have hq3 : kkT ((flT aT aColumn aLow aHigh).1, (flT aT aColumn aLow aHigh).2) 1 ≤ 1 + (costT (flT aT aColumn aLow aHigh) : Nat) := hq1
  have hq4 : 1 ≤ kkT ((flT aT aColumn aLow aHigh).1, (flT aT aColumn aLow aHigh).2) 1 := kkT_ge (flT aT aColumn aLow aHigh) 1
  have hq5 := costL_len costRow (flT aT aColumn aLow aHigh).2
  have hq6 : costT (flT aT aColumn aLow aHigh) = costL costS (flT aT aColumn aLow aHigh).1 + costL costRow (flT aT aColumn aLow aHigh).2 := rfl
  refine wp_seq ?_
  refine wp_region_lit ?_
  refine wl_eff ha0 rfl rfl rfl (op_box' ha0 rfl rfl rfl) ?_
  rintro _ w2 ⟨rfl, he3, hb4, hz5⟩ a6 ha6; clear ha0 a0
  have hx7 := hx0.trans' he3
  have hzhx7 := he3.size
  refine wl_val ha6 rfl rfl rfl (op_assign ha6 rfl rfl) ?_
  intro a8 ha8; clear ha6 a6
  refine wpList_nil ?_
  refine then_n ?_
  refine wp_seq ?_
  refine wp_region_lit ?_
  refine wl_val ha8 rfl rfl rfl (op_assign ha8 rfl rfl) ?_
  intro a9 ha9; clear ha8 a8
  refine wpList_nil ?_
  refine then_n ?_
  refine wp_seq ?_
  refine wp_region_lit ?_
  refine wl_val ha9 rfl rfl rfl (op_loadS ha9 rfl Try.underlying25 ti25 rfl rfl hb4.cells) ?_
  intro a10 ha10; clear ha9 a9
  refine wl_val ha10 rfl rfl rfl (op_move ha10 rfl rfl) ?_
  intro a11 ha11; clear ha10 a10
  refine wl_callR ha11 rfl rfl rfl (op_call ha11 rfl cb16 rfl) (c_laws_szTable _ v_aT0 v_aT1 aT (1048576 : Int) (h_aT0.ext pos_shStr hx7) (h_aT1.ext pos_shRow hx7) (by first | assumption | omega | (simp; omega)) (by first | assumption | omega | (simp; omega))) ?_
  rintro v12 w13 he14 rfl a15 ha15; clear ha11 a11
  have hx16 := hx7.trans' he14
  have hzhx16 := he14.size
  replace hb4 := hb4.ext he14
  refine wl_val ha15 rfl rfl rfl (op_assign ha15 rfl rfl) ?_
  intro a17 ha17; clear ha15 a15
  refine wpList_nil ?_
  refine then_n ?_
  refine wp_seq ?_
  refine wp_seq ?_
  refine wp_region_lit ?_
  refine wl_val ha17 rfl rfl rfl (op_move ha17 rfl rfl) ?_
  intro a18 ha18; clear ha17 a17
  refine wl_val ha18 rfl rfl rfl (op_lss ha18 rfl rfl rfl) ?_
  intro a19 ha19; clear ha18 a18
  refine wpList_nil ?_
  refine then_n ?_
  by_cases c20 : (szR (1048576 : Int) (costT aT) : Int) < (0 : Int)
  ·
    rw [decide_eq_true c20] at ha19
    refine cond_t ha19 rfl ?_
    refine wp_seq ?_
    refine wp_region_lit ?_
    refine wl_val ha19 rfl rfl rfl (op_assign ha19 rfl rfl) ?_
    intro a21 ha21; clear ha19 a19
    refine wpList_nil ?_
    refine then_n ?_
    refine wp_ret ?_
    refine then_r ?_
    refine ret1 ha21 rfl rfl ?_
    clear ha21 a21
    exact ret_mk hx16 (congrArg Value.bool (by first | rfl | omega))
  ·
    rw [decide_eq_false c20] at ha19
    have hzc20 := szR_ok c20
    refine cond_f ha19 rfl ?_
    refine wp_skip ?_
    refine then_n ?_
    refine wp_seq ?_
    refine wp_region_lit ?_
    refine wl_val ha19 rfl rfl rfl (op_loadS ha19 rfl Try.underlying25 ti25 rfl rfl hb4.cells) ?_
    intro a22 ha22; clear ha19 a19
    refine wl_callR ha22 rfl rfl rfl (op_call ha22 rfl cb18 rfl) (c_laws_toTable _ v_aT0 v_aT1 aT (h_aT0.ext pos_shStr hx16) (h_aT1.ext pos_shRow hx16) (by first | assumption | omega | (simp; omega))) ?_
    rintro v23 w24 he25 ⟨u26, u28, z30, rfl, ho27, ho29, hN31, hE32⟩ a33 ha33; clear ha22 a22
    have hx34 := hx16.trans' he25
    have hzhx34 := he25.size
    replace hb4 := hb4.ext he25
    have hlhE32 := absLen hE32
    refine wl_val ha33 rfl rfl rfl (op_move ha33 rfl rfl) ?_
    intro a35 ha35; clear ha33 a33
    refine wl_val ha35 rfl rfl rfl (op_move ha35 rfl rfl) ?_
    intro a36 ha36; clear ha35 a35
    refine wl_val ha36 rfl rfl rfl (op_move ha36 rfl rfl) ?_
    intro a37 ha37; clear ha36 a36
    refine wl_callR ha37 rfl rfl rfl (op_call ha37 rfl cb37 rfl) (c_spec_FilterRows _ u26 u28 ((aT)) aColumn aLow aHigh (ho27.rds pos_shStr) ((rds_shRowN (ho29.fin (by omega) (by omega) (by omega)) hN31).cast hE32)) ?_
    rintro v38 w39 he40 ⟨u41, u43, z45, rfl, ho42, ho44, hN46, hE47⟩ a48 ha48; clear ha37 a37
    have hx49 := hx34.trans' he40
    have hzhx49 := he40.size
    replace hb4 := hb4.ext he40
    replace ho27 := ho27.ext he40
    replace ho29 := ho29.ext he40
    replace hN31 := hN31.ext he40
    have hlhE47 := absLen hE47
    refine wl_val ha48 rfl rfl rfl (op_move ha48 rfl rfl) ?_
    intro a50 ha50; clear ha48 a48
    refine wl_val ha50 rfl rfl rfl (op_extract ha50 rfl rfl rfl) ?_
    intro a51 ha51; clear ha50 a50
    refine wl_val ha51 rfl rfl rfl (op_extract ha51 rfl rfl rfl) ?_
    intro a52 ha52; clear ha51 a51
    refine wl_eff ha52 rfl rfl rfl (op_alloc' rfl ti28 rfl) ?_
    rintro _ w54 ⟨rfl, he55, hb56, hz57⟩ a58 ha58; clear ha52 a52
    have hx59 := hx49.trans' he55
    have hzhx59 := he55.size
    replace hb4 := hb4.ext he55
    replace ho27 := ho27.ext he55
    replace ho29 := ho29.ext he55
    replace hN31 := hN31.ext he55
    replace ho42 := ho42.ext he55
    replace ho44 := ho44.ext he55
    replace hN46 := hN46.ext he55
    refine wl_effS ha58 rfl rfl (op_storeAll' ha58 rfl ti28 rfl rfl hb56 rfl rfl (by intro u hu; have hu : u ∈ ([u41, u43] : List Value) := hu; simp only [List.mem_cons, List.mem_nil_iff, or_false] at hu; rcases hu with rfl | rfl <;> first | rfl | exact ho42.one | exact ho44.one) rfl) ?_
    rintro w60 ⟨hb62, hst61, hz63⟩
    have hx64 := hx59.stp hst61 (by intro q hq; cases hq; exact (by omega))
    have hzhx64 := hst61.size
    replace hb4 := hb4.stp hst61 (by intro q hq; cases hq; omega)
    replace ho27 : Own shStr 9 w13.heap.size w13.heap.size w24.heap.size w60 u26 (((aT).1)) := by first | exact ho27.stp hst61 (by intro q hq; cases hq; omega) | exact ho27.stpF flat_shStr hst61 (by intro q hq; cases hq; exact ho27.ne_box (by assumption) rfl)
    replace ho29 : Own shRowN 41 w13.heap.size w13.heap.size w24.heap.size w60 u28 z30 := by first | exact ho29.stp hst61 (by intro q hq; cases hq; omega) | exact ho29.stpF flat_shRowN hst61 (by intro q hq; cases hq; exact ho29.ne_box (by assumption) rfl)
    replace hN31 : Nst shI64 2 (fun x : List Int => x) w13.heap.size w24.heap.size w60 z30 := by first | exact hN31.stp hst61 (by intro q hq; cases hq; omega) | exact hN31.stpB flat_shI64 hst61 (by assumption) rfl
    replace ho42 : Own shStr 9 w24.heap.size w24.heap.size w39.heap.size w60 u41 (((flT ((aT)) aColumn aLow aHigh).1)) := by first | exact ho42.stp hst61 (by intro q hq; cases hq; omega) | exact ho42.stpF flat_shStr hst61 (by intro q hq; cases hq; exact ho42.ne_box (by assumption) rfl)
    replace ho44 : Own shRowN 41 w24.heap.size w24.heap.size w39.heap.size w60 u43 z45 := by first | exact ho44.stp hst61 (by intro q hq; cases hq; omega) | exact ho44.stpF flat_shRowN hst61 (by intro q hq; cases hq; exact ho44.ne_box (by assumption) rfl)
    replace hN46 : Nst shI64 2 (fun x : List Int => x) w24.heap.size w39.heap.size w60 z45 := by first | exact hN46.stp hst61 (by intro q hq; cases hq; omega) | exact hN46.stpB flat_shI64 hst61 (by assumption) rfl
    clear hb56
    refine wl_val ha58 rfl rfl rfl (op_assign ha58 rfl rfl) ?_
    intro a65 ha65; clear ha58 a58
    refine wpList_nil ?_
    refine then_n ?_
    refine wp_seq ?_
    refine wp_region_lit ?_
    refine wl_val ha65 rfl rfl rfl (op_loadS ha65 rfl Try.underlying25 ti25 rfl rfl hb4.cells) ?_
    intro a66 ha66; clear ha65 a65
    refine wl_callR ha66 rfl rfl rfl (op_call ha66 rfl cb18 rfl) (c_laws_toTable _ v_aT0 v_aT1 aT (h_aT0.ext pos_shStr hx64) (h_aT1.ext pos_shRow hx64) (by first | assumption | omega | (simp; omega))) ?_
    rintro v67 w68 he69 ⟨u70, u72, z74, rfl, ho71, ho73, hN75, hE76⟩ a77 ha77; clear ha66 a66
    have hx78 := hx64.trans' he69
    have hzhx78 := he69.size
    replace hb4 := hb4.ext he69
    replace ho27 := ho27.ext he69
    replace ho29 := ho29.ext he69
    replace hN31 := hN31.ext he69
    replace ho42 := ho42.ext he69
    replace ho44 := ho44.ext he69
    replace hN46 := hN46.ext he69
    replace hb62 := hb62.ext he69
    have hlhE76 := absLen hE76
    refine wl_eff ha77 rfl rfl rfl (op_alloc' rfl ti28 rfl) ?_
    rintro _ w80 ⟨rfl, he81, hb82, hz83⟩ a84 ha84; clear ha77 a77
    have hx85 := hx78.trans' he81
    have hzhx85 := he81.size
    replace hb4 := hb4.ext he81
    replace ho27 := ho27.ext he81
    replace ho29 := ho29.ext he81
    replace hN31 := hN31.ext he81
    replace ho42 := ho42.ext he81
    replace ho44 := ho44.ext he81
    replace hN46 := hN46.ext he81
    replace hb62 := hb62.ext he81
    replace ho71 := ho71.ext he81
    replace ho73 := ho73.ext he81
    replace hN75 := hN75.ext he81
    refine wl_effS ha84 rfl rfl (op_storeAll' ha84 rfl ti28 rfl rfl hb82 rfl rfl (by intro u hu; have hu : u ∈ ([u70, u72] : List Value) := hu; simp only [List.mem_cons, List.mem_nil_iff, or_false] at hu; rcases hu with rfl | rfl <;> first | rfl | exact ho71.one | exact ho73.one) rfl) ?_
    rintro w86 ⟨hb88, hst87, hz89⟩
    have hx90 := hx85.stp hst87 (by intro q hq; cases hq; exact (by omega))
    have hzhx90 := hst87.size
    replace hb4 := hb4.stp hst87 (by intro q hq; cases hq; omega)
    replace ho27 : Own shStr 9 w13.heap.size w13.heap.size w24.heap.size w86 u26 (((aT).1)) := by first | exact ho27.stp hst87 (by intro q hq; cases hq; omega) | exact ho27.stpF flat_shStr hst87 (by intro q hq; cases hq; exact ho27.ne_box (by assumption) rfl)
    replace ho29 : Own shRowN 41 w13.heap.size w13.heap.size w24.heap.size w86 u28 z30 := by first | exact ho29.stp hst87 (by intro q hq; cases hq; omega) | exact ho29.stpF flat_shRowN hst87 (by intro q hq; cases hq; exact ho29.ne_box (by assumption) rfl)
    replace hN31 : Nst shI64 2 (fun x : List Int => x) w13.heap.size w24.heap.size w86 z30 := by first | exact hN31.stp hst87 (by intro q hq; cases hq; omega) | exact hN31.stpB flat_shI64 hst87 (by assumption) rfl
    replace ho42 : Own shStr 9 w24.heap.size w24.heap.size w39.heap.size w86 u41 (((flT ((aT)) aColumn aLow aHigh).1)) := by first | exact ho42.stp hst87 (by intro q hq; cases hq; omega) | exact ho42.stpF flat_shStr hst87 (by intro q hq; cases hq; exact ho42.ne_box (by assumption) rfl)
    replace ho44 : Own shRowN 41 w24.heap.size w24.heap.size w39.heap.size w86 u43 z45 := by first | exact ho44.stp hst87 (by intro q hq; cases hq; omega) | exact ho44.stpF flat_shRowN hst87 (by intro q hq; cases hq; exact ho44.ne_box (by assumption) rfl)
    replace hN46 : Nst shI64 2 (fun x : List Int => x) w24.heap.size w39.heap.size w86 z45 := by first | exact hN46.stp hst87 (by intro q hq; cases hq; omega) | exact hN46.stpB flat_shI64 hst87 (by assumption) rfl
    replace hb62 := hb62.stp hst87 (by intro q hq; cases hq; omega)
    replace ho71 : Own shStr 9 w60.heap.size w60.heap.size w68.heap.size w86 u70 (((aT).1)) := by first | exact ho71.stp hst87 (by intro q hq; cases hq; omega) | exact ho71.stpF flat_shStr hst87 (by intro q hq; cases hq; exact ho71.ne_box (by assumption) rfl)
    replace ho73 : Own shRowN 41 w60.heap.size w60.heap.size w68.heap.size w86 u72 z74 := by first | exact ho73.stp hst87 (by intro q hq; cases hq; omega) | exact ho73.stpF flat_shRowN hst87 (by intro q hq; cases hq; exact ho73.ne_box (by assumption) rfl)
    replace hN75 : Nst shI64 2 (fun x : List Int => x) w60.heap.size w68.heap.size w86 z74 := by first | exact hN75.stp hst87 (by intro q hq; cases hq; omega) | exact hN75.stpB flat_shI64 hst87 (by assumption) rfl
    clear hb82
    refine wpList_nil ?_
    refine then_n ?_
    refine wp_seq ?_
    refine wp_region_lit ?_
    refine wl_val ha84 rfl rfl rfl (op_loadS ha84 rfl Try.underlying28 ti28 rfl rfl hb88.cells) ?_
    intro a91 ha91; clear ha84 a84
    refine wl_val ha91 rfl rfl rfl (op_move ha91 rfl rfl) ?_
    intro a92 ha92; clear ha91 a91
    refine wl_val ha92 rfl rfl rfl (op_move ha92 rfl rfl) ?_
    intro a93 ha93; clear ha92 a92
    refine wl_val ha93 rfl rfl rfl (op_move ha93 rfl rfl) ?_
    intro a94 ha94; clear ha93 a93
    refine wl_callR ha94 rfl rfl rfl (op_call ha94 rfl cb38 rfl) (c_impl_FilterRows _ u70 u72 ((aT)) aColumn aLow aHigh (ho71.rds pos_shStr) ((rds_shRowN (ho73.fin (by omega) (by omega) (by omega)) hN75).cast hE76)) ?_
    rintro v95 w96 he97 ⟨u98, u100, z102, rfl, ho99, ho101, hN103, hE104⟩ a105 ha105; clear ha94 a94
    have hx106 := hx90.trans' he97
    have hzhx106 := he97.size
    replace hb4 := hb4.ext he97
    replace ho27 := ho27.ext he97
    replace ho29 := ho29.ext he97
    replace hN31 := hN31.ext he97
    replace ho42 := ho42.ext he97
    replace ho44 := ho44.ext he97
    replace hN46 := hN46.ext he97
    replace hb62 := hb62.ext he97
    replace ho71 := ho71.ext he97
    replace ho73 := ho73.ext he97
    replace hN75 := hN75.ext he97
    replace hb88 := hb88.ext he97
    have hlhE104 := absLen hE104
    refine wl_val ha105 rfl rfl rfl (op_move ha105 rfl rfl) ?_
    intro a107 ha107; clear ha105 a105
    refine wl_val ha107 rfl rfl rfl (op_extract ha107 rfl rfl rfl) ?_
    intro a108 ha108; clear ha107 a107
    refine wl_val ha108 rfl rfl rfl (op_extract ha108 rfl rfl rfl) ?_
    intro a109 ha109; clear ha108 a108
    refine wl_eff ha109 rfl rfl rfl (op_alloc' rfl ti28 rfl) ?_
    rintro _ w111 ⟨rfl, he112, hb113, hz114⟩ a115 ha115; clear ha109 a109
    have hx116 := hx106.trans' he112
    have hzhx116 := he112.size
    replace hb4 := hb4.ext he112
    replace ho27 := ho27.ext he112
    replace ho29 := ho29.ext he112
    replace hN31 := hN31.ext he112
    replace ho42 := ho42.ext he112
    replace ho44 := ho44.ext he112
    replace hN46 := hN46.ext he112
    replace hb62 := hb62.ext he112
    replace ho71 := ho71.ext he112
    replace ho73 := ho73.ext he112
    replace hN75 := hN75.ext he112
    replace hb88 := hb88.ext he112
    replace ho99 := ho99.ext he112
    replace ho101 := ho101.ext he112
    replace hN103 := hN103.ext he112
    refine wl_effS ha115 rfl rfl (op_storeAll' ha115 rfl ti28 rfl rfl hb113 rfl rfl (by intro u hu; have hu : u ∈ ([u98, u100] : List Value) := hu; simp only [List.mem_cons, List.mem_nil_iff, or_false] at hu; rcases hu with rfl | rfl <;> first | rfl | exact ho99.one | exact ho101.one) rfl) ?_
    rintro w117 ⟨hb119, hst118, hz120⟩
    have hx121 := hx116.stp hst118 (by intro q hq; cases hq; exact (by omega))
    have hzhx121 := hst118.size
    replace hb4 := hb4.stp hst118 (by intro q hq; cases hq; omega)
    replace ho27 : Own shStr 9 w13.heap.size w13.heap.size w24.heap.size w117 u26 (((aT).1)) := by first | exact ho27.stp hst118 (by intro q hq; cases hq; omega) | exact ho27.stpF flat_shStr hst118 (by intro q hq; cases hq; exact ho27.ne_box (by assumption) rfl)
    replace ho29 : Own shRowN 41 w13.heap.size w13.heap.size w24.heap.size w117 u28 z30 := by first | exact ho29.stp hst118 (by intro q hq; cases hq; omega) | exact ho29.stpF flat_shRowN hst118 (by intro q hq; cases hq; exact ho29.ne_box (by assumption) rfl)
    replace hN31 : Nst shI64 2 (fun x : List Int => x) w13.heap.size w24.heap.size w117 z30 := by first | exact hN31.stp hst118 (by intro q hq; cases hq; omega) | exact hN31.stpB flat_shI64 hst118 (by assumption) rfl
    replace ho42 : Own shStr 9 w24.heap.size w24.heap.size w39.heap.size w117 u41 (((flT ((aT)) aColumn aLow aHigh).1)) := by first | exact ho42.stp hst118 (by intro q hq; cases hq; omega) | exact ho42.stpF flat_shStr hst118 (by intro q hq; cases hq; exact ho42.ne_box (by assumption) rfl)
    replace ho44 : Own shRowN 41 w24.heap.size w24.heap.size w39.heap.size w117 u43 z45 := by first | exact ho44.stp hst118 (by intro q hq; cases hq; omega) | exact ho44.stpF flat_shRowN hst118 (by intro q hq; cases hq; exact ho44.ne_box (by assumption) rfl)
    replace hN46 : Nst shI64 2 (fun x : List Int => x) w24.heap.size w39.heap.size w117 z45 := by first | exact hN46.stp hst118 (by intro q hq; cases hq; omega) | exact hN46.stpB flat_shI64 hst118 (by assumption) rfl
    replace hb62 := hb62.stp hst118 (by intro q hq; cases hq; omega)
    replace ho71 : Own shStr 9 w60.heap.size w60.heap.size w68.heap.size w117 u70 (((aT).1)) := by first | exact ho71.stp hst118 (by intro q hq; cases hq; omega) | exact ho71.stpF flat_shStr hst118 (by intro q hq; cases hq; exact ho71.ne_box (by assumption) rfl)
    replace ho73 : Own shRowN 41 w60.heap.size w60.heap.size w68.heap.size w117 u72 z74 := by first | exact ho73.stp hst118 (by intro q hq; cases hq; omega) | exact ho73.stpF flat_shRowN hst118 (by intro q hq; cases hq; exact ho73.ne_box (by assumption) rfl)
    replace hN75 : Nst shI64 2 (fun x : List Int => x) w60.heap.size w68.heap.size w117 z74 := by first | exact hN75.stp hst118 (by intro q hq; cases hq; omega) | exact hN75.stpB flat_shI64 hst118 (by assumption) rfl
    replace hb88 := hb88.stp hst118 (by intro q hq; cases hq; omega)
    replace ho99 : Own shStr 9 w86.heap.size w86.heap.size w96.heap.size w117 u98 (((flT ((aT)) aColumn aLow aHigh).1)) := by first | exact ho99.stp hst118 (by intro q hq; cases hq; omega) | exact ho99.stpF flat_shStr hst118 (by intro q hq; cases hq; exact ho99.ne_box (by assumption) rfl)
    replace ho101 : Own shRowN 41 w86.heap.size w86.heap.size w96.heap.size w117 u100 z102 := by first | exact ho101.stp hst118 (by intro q hq; cases hq; omega) | exact ho101.stpF flat_shRowN hst118 (by intro q hq; cases hq; exact ho101.ne_box (by assumption) rfl)
    replace hN103 : Nst shI64 2 (fun x : List Int => x) w86.heap.size w96.heap.size w117 z102 := by first | exact hN103.stp hst118 (by intro q hq; cases hq; omega) | exact hN103.stpB flat_shI64 hst118 (by assumption) rfl
    clear hb113
    refine wl_val ha115 rfl rfl rfl (op_assign ha115 rfl rfl) ?_
    intro a122 ha122; clear ha115 a115
    refine wpList_nil ?_
    refine then_n ?_
    refine wp_seq ?_
    refine wp_seq ?_
    refine wp_region_lit ?_
    refine wl_val ha122 rfl rfl rfl (op_loadS ha122 rfl Try.underlying28 ti28 rfl rfl hb119.cells) ?_
    intro a123 ha123; clear ha122 a122
    refine wl_val ha123 rfl rfl rfl (op_loadS ha123 rfl Try.underlying28 ti28 rfl rfl hb62.cells) ?_
    intro a124 ha124; clear ha123 a123
    refine wl_callR ha124 rfl rfl rfl (op_call ha124 rfl cb20 rfl) (c_laws_eqTable _ u98 u100 ((flT ((aT)) aColumn aLow aHigh)) u41 u43 ((flT ((aT)) aColumn aLow aHigh)) (ho99.rds pos_shStr) ((rds_shRowN (ho101.fin (by omega) (by omega) (by omega)) hN103).cast hE104) (ho42.rds pos_shStr) ((rds_shRowN (ho44.fin (by omega) (by omega) (by omega)) hN46).cast hE47)) ?_
    rintro v125 w126 he127 rfl a128 ha128; clear ha124 a124
    have hx129 := hx121.trans' he127
    have hzhx129 := he127.size
    replace hb4 := hb4.ext he127
    replace ho27 := ho27.ext he127
    replace ho29 := ho29.ext he127
    replace hN31 := hN31.ext he127
    replace ho42 := ho42.ext he127
    replace ho44 := ho44.ext he127
    replace hN46 := hN46.ext he127
    replace hb62 := hb62.ext he127
    replace ho71 := ho71.ext he127
    replace ho73 := ho73.ext he127
    replace hN75 := hN75.ext he127
    replace hb88 := hb88.ext he127
    replace ho99 := ho99.ext he127
    replace ho101 := ho101.ext he127
    replace hN103 := hN103.ext he127
    replace hb119 := hb119.ext he127
    refine wl_val ha128 rfl rfl rfl (op_not ha128 rfl rfl) ?_
    intro a130 ha130; clear ha128 a128
    refine wl_val ha130 rfl rfl rfl (op_move ha130 rfl rfl) ?_
    intro a131 ha131; clear ha130 a130
    rcases Bool.eq_false_or_eq_true (decide (((flT ((aT)) aColumn aLow aHigh)) = ((flT ((aT)) aColumn aLow aHigh)))) with c132 | c132
    ·
      rw [c132] at ha131
      refine wl_val ha131 rfl rfl rfl (op_move ha131 rfl rfl) ?_
      intro a133 ha133; clear ha131 a131
      refine wl_val ha133 rfl rfl rfl (op_move ha133 rfl rfl) ?_
      intro a134 ha134; clear ha133 a133
      refine wl_val ha134 rfl rfl rfl ((op_neq ha134 rfl rfl rfl).to (congrArg Value.bool decide_not)) ?_
      intro a135 ha135; clear ha134 a134
      refine wl_val ha135 rfl rfl rfl (op_pick_f ha135 rfl rfl rfl) ?_
      intro a136 ha136; clear ha135 a135
      refine wpList_nil ?_
      refine then_n ?_
      by_cases c137 : (cdR ((aT)) aColumn aLow aHigh : Int) = (cdR ((aT)) aColumn aLow aHigh : Int)
      ·
        rw [decide_eq_true c137] at ha136
        refine cond_f ha136 rfl ?_
        refine wp_skip ?_
        refine then_n ?_
        refine wp_seq ?_
        refine wp_seq ?_
        refine dr_enter Ext follows_mixed ?_
        intro w138 he139
        have hx140 := hx129.trans' he139
        have hzhx140 := he139.size
        replace hb4 := hb4.ext he139
        replace ho27 := ho27.ext he139
        replace ho29 := ho29.ext he139
        replace hN31 := hN31.ext he139
        replace ho42 := ho42.ext he139
        replace ho44 := ho44.ext he139
        replace hN46 := hN46.ext he139
        replace hb62 := hb62.ext he139
        replace ho71 := ho71.ext he139
        replace ho73 := ho73.ext he139
        replace hN75 := hN75.ext he139
        replace hb88 := hb88.ext he139
        replace ho99 := ho99.ext he139
        replace ho101 := ho101.ext he139
        replace hN103 := hN103.ext he139
        replace hb119 := hb119.ext he139
        have hs141 : Ext w138 w138 := Ext.rfl' _
        refine dr_val (i := 0) ha136 rfl (by kernel_rfl) (by kernel_rfl) (by kernel_rfl) rfl rfl rfl hs141 (fun w' hw' => op_loadS ha136 rfl Try.underlying28 ti28 rfl rfl (hb88.ext hw').cells) ?_
        intro a142 ha142; clear ha136 a136
        refine dr_val (i := 1) ha142 rfl (by kernel_rfl) (by kernel_rfl) (by kernel_rfl) rfl rfl rfl hs141 (fun w' hw' => op_loadS ha142 rfl Try.underlying25 ti25 rfl rfl (hb4.ext hw').cells) ?_
        intro a143 ha143; clear ha142 a142
        refine dr_one (i := 2) (by kernel_rfl) ?_
        refine po_callR ha143 rfl rfl rfl rfl (op_call ha143 rfl cb18 rfl) (c_laws_toTable _ v_aT0 v_aT1 aT (h_aT0.ext pos_shStr (hx140.trans' hs141)) (h_aT1.ext pos_shRow (hx140.trans' hs141)) (by first | assumption | omega | (simp; omega))) ?_
        rintro v144 w145 he146 ⟨u147, u149, z151, rfl, ho148, ho150, hN152, hE153⟩ a154 ha154; clear ha143 a143
        have hs155 := hs141.trans' he146
        have hx156 := hx140.trans' he146
        have hzhx156 := he146.size
        refine ⟨hs155, ?_⟩
        have hlhE153 := absLen hE153
        refine dr_one (i := 3) (by kernel_rfl) ?_
        refine po_callR ha154 rfl rfl rfl rfl (op_call ha154 rfl cb20 rfl) (c_laws_eqTable _ u70 u72 ((aT)) u147 u149 ((aT)) ((ho71.rds pos_shStr).ext pos_shStr hs155) (((rds_shRowN (ho73.fin (by omega) (by omega) (by omega)) hN75).ext pos_shRow hs155).cast hE76) (ho148.rds pos_shStr) ((rds_shRowN (ho150.fin (by omega) (by omega) (by omega)) hN152).cast hE153)) ?_
        rintro v157 w158 he159 rfl a160 ha160; clear ha154 a154
        have hs161 := hs155.trans' he159
        have hx162 := hx156.trans' he159
        have hzhx162 := he159.size
        replace ho148 := ho148.ext he159
        replace ho150 := ho150.ext he159
        replace hN152 := hN152.ext he159
        refine ⟨hs161, ?_⟩
        refine dr_val (i := 4) ha160 rfl (by kernel_rfl) (by kernel_rfl) (by kernel_rfl) rfl rfl rfl hs161 (fun w' hw' => op_not ha160 rfl rfl) ?_
        intro a163 ha163; clear ha160 a160
        refine dr_end (by kernel_rfl) ?_
        replace hb4 := hb4.ext hs161
        replace ho27 := ho27.ext hs161
        replace ho29 := ho29.ext hs161
        replace hN31 := hN31.ext hs161
        replace ho42 := ho42.ext hs161
        replace ho44 := ho44.ext hs161
        replace hN46 := hN46.ext hs161
        replace hb62 := hb62.ext hs161
        replace ho71 := ho71.ext hs161
        replace ho73 := ho73.ext hs161
        replace hN75 := hN75.ext hs161
        replace hb88 := hb88.ext hs161
        replace ho99 := ho99.ext hs161
        replace ho101 := ho101.ext hs161
        replace hN103 := hN103.ext hs161
        replace hb119 := hb119.ext hs161
        refine then_n ?_
        rcases Bool.eq_false_or_eq_true (decide (((aT)) = ((aT)))) with c164 | c164
        ·
          rw [c164] at ha163
          refine cond_f ha163 rfl ?_
          refine wp_skip ?_
          refine then_n ?_
          refine wp_seq ?_
          refine wp_region_lit ?_
          refine wl_val ha163 rfl rfl rfl (op_assign ha163 rfl rfl) ?_
          intro a165 ha165; clear ha163 a163
          refine wpList_nil ?_
          refine then_n ?_
          refine wp_seq ?_
          refine wp_region_lit ?_
          refine wl_val ha165 rfl rfl rfl (op_loadS ha165 rfl Try.underlying28 ti28 rfl rfl hb88.cells) ?_
          intro a166 ha166; clear ha165 a165
          refine wl_val ha166 rfl rfl rfl (op_move ha166 rfl rfl) ?_
          intro a167 ha167; clear ha166 a166
          have hm176 := c_laws_markTable (lo_a := w60.heap.size) (hi_a := w68.heap.size) _ u70 (((aT).1)) u72 z74 (1 : Int) (ho71.fin (by omega) (by omega) (by omega)) (ho73.fin (by omega) (by omega) (by omega)) (hN75.fin (by omega) (by omega)) (by omega) (by (try rw [hE76]); first | assumption | omega | (simp; omega)) (by (try rw [hE76]); first | assumption | omega | (simp; omega)) (by (try rw [hE76]); first | assumption | omega | (simp; omega))
          try rw [hE76] at hm176
          refine wl_callI ha167 rfl rfl rfl (op_call ha167 rfl cb26 rfl) (hm176) ?_
          rintro v168 w169 he170 ⟨z173, rfl, ho171, ho172, hN174, hE175⟩ a177 ha177; clear ha167 a167
          have hx178 := hx162.stpI he170 (by omega)
          have hzhx178 := he170.size
          replace hb4 := hb4.stpI he170 (by omega)
          replace ho27 := ho27.stpI he170 (by omega)
          replace ho29 := ho29.stpI he170 (by omega)
          replace hN31 := hN31.stpI he170 (by omega)
          replace ho42 := ho42.stpI he170 (by omega)
          replace ho44 := ho44.stpI he170 (by omega)
          replace hN46 := hN46.stpI he170 (by omega)
          replace hb62 := hb62.stpI he170 (by omega)
          replace hb88 := hb88.stpI he170 (by omega)
          replace ho99 := ho99.stpI he170 (by omega)
          replace ho101 := ho101.stpI he170 (by omega)
          replace hN103 := hN103.stpI he170 (by omega)
          replace hb119 := hb119.stpI he170 (by omega)
          replace ho148 := ho148.stpI he170 (by omega)
          replace ho150 := ho150.stpI he170 (by omega)
          replace hN152 := hN152.stpI he170 (by omega)
          clear ho71 ho73 hN75
          refine wl_val ha177 rfl rfl rfl (op_assign ha177 rfl rfl) ?_
          intro a179 ha179; clear ha177 a177
          refine wpList_nil ?_
          refine then_n ?_
          refine wp_seq ?_
          refine wp_seq ?_
          refine wp_region_lit ?_
          refine wl_val ha179 rfl rfl rfl (op_move ha179 rfl rfl) ?_
          intro a180 ha180; clear ha179 a179
          refine wl_val ha180 rfl rfl rfl (op_lss ha180 rfl rfl rfl) ?_
          intro a181 ha181; clear ha180 a180
          refine wl_val ha181 rfl rfl rfl (op_move ha181 rfl rfl) ?_
          intro a182 ha182; clear ha181 a181
          by_cases c183 : (kkT ((((aT).1), ((aT).2)) : List Str × List (List Int)) ((1 : Int)) : Int) < (0 : Int)
          ·
            rw [decide_eq_true c183] at ha182
            refine wl_skip ha182 rfl rfl rfl ?_
            intro a184 ha184; clear ha182 a182
            refine wl_skip ha184 rfl rfl rfl ?_
            intro a185 ha185; clear ha184 a184
            refine wl_skip ha185 rfl rfl rfl ?_
            intro a186 ha186; clear ha185 a185
            refine wl_skip ha186 rfl rfl rfl ?_
            intro a187 ha187; clear ha186 a186
            refine wl_val ha187 rfl rfl rfl (op_pick_t ha187 rfl rfl rfl) ?_
            intro a188 ha188; clear ha187 a187
            refine wl_val ha188 rfl rfl rfl (op_move ha188 rfl rfl) ?_
            intro a189 ha189; clear ha188 a188
            refine wl_skip ha189 rfl rfl rfl ?_
            intro a190 ha190; clear ha189 a189
            refine wl_skip ha190 rfl rfl rfl ?_
            intro a191 ha191; clear ha190 a190
            refine wl_skip ha191 rfl rfl rfl ?_
            intro a192 ha192; clear ha191 a191
            refine wl_val ha192 rfl rfl rfl (op_pick_t ha192 rfl rfl rfl) ?_
            intro a193 ha193; clear ha192 a192
            refine wpList_nil ?_
            refine then_n ?_
            refine cond_t ha193 rfl ?_
            refine wp_seq ?_
            refine wp_region_lit ?_
            refine wl_val ha193 rfl rfl rfl (op_assign ha193 rfl rfl) ?_
            intro a194 ha194; clear ha193 a193
            refine wpList_nil ?_
            refine then_n ?_
            refine wp_ret ?_
            refine then_r ?_
            refine ret1 ha194 rfl rfl ?_
            clear ha194 a194
            exact ret_mk hx178 (congrArg Value.bool (by first | rfl | omega | (simp at c164; done) | (simp at c132; done) | (exact absurd rfl c20)))
          ·
            rw [decide_eq_false c183] at ha182
            refine wl_val ha182 rfl rfl rfl (op_loadS ha182 rfl Try.underlying28 ti28 rfl rfl hb119.cells) ?_
            intro a195 ha195; clear ha182 a182
            refine wl_val ha195 rfl rfl rfl (op_loadS ha195 rfl Try.underlying28 ti28 rfl rfl hb62.cells) ?_
            intro a196 ha196; clear ha195 a195
            refine wl_callR ha196 rfl rfl rfl (op_call ha196 rfl cb20 rfl) (c_laws_eqTable _ u98 u100 ((flT ((aT)) aColumn aLow aHigh)) u41 u43 ((flT ((aT)) aColumn aLow aHigh)) (ho99.rds pos_shStr) ((rds_shRowN (ho101.fin (by omega) (by omega) (by omega)) hN103).cast hE104) (ho42.rds pos_shStr) ((rds_shRowN (ho44.fin (by omega) (by omega) (by omega)) hN46).cast hE47)) ?_
            rintro v197 w198 he199 rfl a200 ha200; clear ha196 a196
            have hx201 := hx178.trans' he199
            have hzhx201 := he199.size
            replace hb4 := hb4.ext he199
            replace ho27 := ho27.ext he199
            replace ho29 := ho29.ext he199
            replace hN31 := hN31.ext he199
            replace ho42 := ho42.ext he199
            replace ho44 := ho44.ext he199
            replace hN46 := hN46.ext he199
            replace hb62 := hb62.ext he199
            replace hb88 := hb88.ext he199
            replace ho99 := ho99.ext he199
            replace ho101 := ho101.ext he199
            replace hN103 := hN103.ext he199
            replace hb119 := hb119.ext he199
            replace ho148 := ho148.ext he199
            replace ho150 := ho150.ext he199
            replace hN152 := hN152.ext he199
            replace ho171 := ho171.ext he199
            replace ho172 := ho172.ext he199
            replace hN174 := hN174.ext he199
            refine wl_val ha200 rfl rfl rfl (op_not ha200 rfl rfl) ?_
            intro a202 ha202; clear ha200 a200
            refine wl_val ha202 rfl rfl rfl (op_pick_f ha202 rfl rfl rfl) ?_
            intro a203 ha203; clear ha202 a202
            refine wl_val ha203 rfl rfl rfl (op_move ha203 rfl rfl) ?_
            intro a204 ha204; clear ha203 a203
            rw [c132] at ha204
            refine wl_val ha204 rfl rfl rfl (op_move ha204 rfl rfl) ?_
            intro a205 ha205; clear ha204 a204
            refine wl_val ha205 rfl rfl rfl (op_move ha205 rfl rfl) ?_
            intro a206 ha206; clear ha205 a205
            refine wl_val ha206 rfl rfl rfl ((op_neq ha206 rfl rfl rfl).to (congrArg Value.bool decide_not)) ?_
            intro a207 ha207; clear ha206 a206
            refine wl_val ha207 rfl rfl rfl (op_pick_f ha207 rfl rfl rfl) ?_
            intro a208 ha208; clear ha207 a207
            refine wpList_nil ?_
            refine then_n ?_
            rw [decide_eq_true c137] at ha208
            refine cond_f ha208 rfl ?_
            refine wp_skip ?_
            refine then_n ?_
            refine wp_seq ?_
            refine wp_region_lit ?_
            refine wl_val ha208 rfl rfl rfl (op_assign ha208 rfl rfl) ?_
            intro a209 ha209; clear ha208 a208
            refine wpList_nil ?_
            refine then_n ?_
            refine wp_seq ?_
            refine wp_region_lit ?_
            refine wl_val ha209 rfl rfl rfl (op_loadS ha209 rfl Try.underlying28 ti28 rfl rfl hb119.cells) ?_
            intro a210 ha210; clear ha209 a209
            refine wl_val ha210 rfl rfl rfl (op_move ha210 rfl rfl) ?_
            intro a211 ha211; clear ha210 a210
            have hm220 := c_laws_markTable (lo_a := w86.heap.size) (hi_a := w96.heap.size) _ u98 (((flT ((aT)) aColumn aLow aHigh).1)) u100 z102 (1 : Int) (ho99.fin (by omega) (by omega) (by omega)) (ho101.fin (by omega) (by omega) (by omega)) (hN103.fin (by omega) (by omega)) (by omega) (by (try rw [hE104]); first | assumption | omega | (simp; omega)) (by (try rw [hE104]); first | assumption | omega | (simp; omega)) (by (try rw [hE104]); first | assumption | omega | (simp; omega))
            try rw [hE104] at hm220
            refine wl_callI ha211 rfl rfl rfl (op_call ha211 rfl cb26 rfl) (hm220) ?_
            rintro v212 w213 he214 ⟨z217, rfl, ho215, ho216, hN218, hE219⟩ a221 ha221; clear ha211 a211
            have hx222 := hx201.stpI he214 (by omega)
            have hzhx222 := he214.size
            replace hb4 := hb4.stpI he214 (by omega)
            replace ho27 := ho27.stpI he214 (by omega)
            replace ho29 := ho29.stpI he214 (by omega)
            replace hN31 := hN31.stpI he214 (by omega)
            replace ho42 := ho42.stpI he214 (by omega)
            replace ho44 := ho44.stpI he214 (by omega)
            replace hN46 := hN46.stpI he214 (by omega)
            replace hb62 := hb62.stpI he214 (by omega)
            replace hb88 := hb88.stpI he214 (by omega)
            replace hb119 := hb119.stpI he214 (by omega)
            replace ho148 := ho148.stpI he214 (by omega)
            replace ho150 := ho150.stpI he214 (by omega)
            replace hN152 := hN152.stpI he214 (by omega)
            replace ho171 := ho171.stpI he214 (by omega)
            replace ho172 := ho172.stpI he214 (by omega)
            replace hN174 := hN174.stpI he214 (by omega)
            clear ho99 ho101 hN103
            refine wl_val ha221 rfl rfl rfl (op_assign ha221 rfl rfl) ?_
            intro a223 ha223; clear ha221 a221
            refine wpList_nil ?_
            refine then_n ?_
            refine wp_seq ?_
            refine wp_region_lit ?_
            refine wl_val ha223 rfl rfl rfl (op_assign ha223 rfl rfl) ?_
            intro a224 ha224; clear ha223 a223
            refine wpList_nil ?_
            refine then_n ?_
            refine wp_seq ?_
            refine wp_region_lit ?_
            refine wl_val ha224 rfl rfl rfl (op_loadS ha224 rfl Try.underlying28 ti28 rfl rfl hb119.cells) ?_
            intro a225 ha225; clear ha224 a224
            refine wl_val ha225 rfl rfl rfl (op_move ha225 rfl rfl) ?_
            intro a226 ha226; clear ha225 a225
            refine wl_callR ha226 rfl rfl rfl (op_call ha226 rfl cb36 rfl) (c_laws_heldTable _ u98 u100 ((mkT2 ((((flT ((aT)) aColumn aLow aHigh).1), ((flT ((aT)) aColumn aLow aHigh).2)) : List Str × List (List Int)) ((1 : Int)))) (1 : Int) (ho215.rds pos_shStr) ((rds_shRowN (ho216.fin (by omega) (by omega) (by omega)) hN218).cast hE219) (by first | assumption | omega | (simp; omega)) (by first | assumption | omega | (simp; omega) | (simp [kk_mkT]; omega))) ?_
            rintro v227 w228 he229 rfl a230 ha230; clear ha226 a226
            have hx231 := hx222.trans' he229
            have hzhx231 := he229.size
            replace hb4 := hb4.ext he229
            replace ho27 := ho27.ext he229
            replace ho29 := ho29.ext he229
            replace hN31 := hN31.ext he229
            replace ho42 := ho42.ext he229
            replace ho44 := ho44.ext he229
            replace hN46 := hN46.ext he229
            replace hb62 := hb62.ext he229
            replace hb88 := hb88.ext he229
            replace hb119 := hb119.ext he229
            replace ho148 := ho148.ext he229
            replace ho150 := ho150.ext he229
            replace hN152 := hN152.ext he229
            replace ho171 := ho171.ext he229
            replace ho172 := ho172.ext he229
            replace hN174 := hN174.ext he229
            replace ho215 := ho215.ext he229
            replace ho216 := ho216.ext he229
            replace hN218 := hN218.ext he229
            refine wl_val ha230 rfl rfl rfl (op_assign ha230 rfl rfl) ?_
            intro a232 ha232; clear ha230 a230
            refine wpList_nil ?_
            refine then_n ?_
            refine wp_seq ?_
            refine wp_seq ?_
            refine wp_region_lit ?_
            refine wl_val ha232 rfl rfl rfl (op_move ha232 rfl rfl) ?_
            intro a233 ha233; clear ha232 a232
            refine wl_val ha233 rfl rfl rfl (op_lss ha233 rfl rfl rfl) ?_
            intro a234 ha234; clear ha233 a233
            refine wpList_nil ?_
            refine then_n ?_
            by_cases c235 : (heldT ((mkT2 ((((flT ((aT)) aColumn aLow aHigh).1), ((flT ((aT)) aColumn aLow aHigh).2)) : List Str × List (List Int)) ((1 : Int)))) (1 : Int) : Int) < (0 : Int)
            ·
              rw [decide_eq_true c235] at ha234
              refine cond_t ha234 rfl ?_
              refine wp_seq ?_
              refine wp_region_lit ?_
              refine wl_val ha234 rfl rfl rfl (op_assign ha234 rfl rfl) ?_
              intro a236 ha236; clear ha234 a234
              refine wpList_nil ?_
              refine then_n ?_
              refine wp_ret ?_
              refine then_r ?_
              refine ret1 ha236 rfl rfl ?_
              clear ha236 a236
              exact ret_mk hx231 (congrArg Value.bool (by first | rfl | omega | (simp [held_mkT] at c235; done) | (simp [held_mkT] at c235; omega) | (exact absurd rfl c183) | (simp at c164; done) | (simp at c132; done) | (exact absurd rfl c20)))
            ·
              rw [decide_eq_false c235] at ha234
              refine cond_f ha234 rfl ?_
              refine wp_skip ?_
              refine then_n ?_
              refine wp_seq ?_
              refine wp_seq ?_
              refine wp_region_lit ?_
              refine wl_val ha234 rfl rfl rfl (op_move ha234 rfl rfl) ?_
              intro a237 ha237; clear ha234 a234
              refine wl_val ha237 rfl rfl rfl (op_move ha237 rfl rfl) ?_
              intro a238 ha238; clear ha237 a237
              refine wl_val ha238 rfl rfl rfl ((op_neq ha238 rfl rfl rfl).to (congrArg Value.bool decide_not)) ?_
              intro a239 ha239; clear ha238 a238
              refine wpList_nil ?_
              refine then_n ?_
              by_cases c240 : (heldT ((mkT2 ((((flT ((aT)) aColumn aLow aHigh).1), ((flT ((aT)) aColumn aLow aHigh).2)) : List Str × List (List Int)) ((1 : Int)))) (1 : Int) : Int) = (kkT ((((flT ((aT)) aColumn aLow aHigh).1), ((flT ((aT)) aColumn aLow aHigh).2)) : List Str × List (List Int)) ((1 : Int)) : Int)
              ·
                rw [decide_eq_true c240] at ha239
                refine cond_f ha239 rfl ?_
                refine wp_skip ?_
                refine then_n ?_
                refine wp_seq ?_
                refine wp_region_lit ?_
                refine wl_val ha239 rfl rfl rfl (op_loadS ha239 rfl Try.underlying25 ti25 rfl rfl hb4.cells) ?_
                intro a241 ha241; clear ha239 a239
                refine wl_callR ha241 rfl rfl rfl (op_call ha241 rfl cb18 rfl) (c_laws_toTable _ v_aT0 v_aT1 aT (h_aT0.ext pos_shStr hx231) (h_aT1.ext pos_shRow hx231) (by first | assumption | omega | (simp; omega))) ?_
                rintro v242 w243 he244 ⟨u245, u247, z249, rfl, ho246, ho248, hN250, hE251⟩ a252 ha252; clear ha241 a241
                have hx253 := hx231.trans' he244
                have hzhx253 := he244.size
                replace hb4 := hb4.ext he244
                replace ho27 := ho27.ext he244
                replace ho29 := ho29.ext he244
                replace hN31 := hN31.ext he244
                replace ho42 := ho42.ext he244
                replace ho44 := ho44.ext he244
                replace hN46 := hN46.ext he244
                replace hb62 := hb62.ext he244
                replace hb88 := hb88.ext he244
                replace hb119 := hb119.ext he244
                replace ho148 := ho148.ext he244
                replace ho150 := ho150.ext he244
                replace hN152 := hN152.ext he244
                replace ho171 := ho171.ext he244
                replace ho172 := ho172.ext he244
                replace hN174 := hN174.ext he244
                replace ho215 := ho215.ext he244
                replace ho216 := ho216.ext he244
                replace hN218 := hN218.ext he244
                have hlhE251 := absLen hE251
                refine wl_val ha252 rfl rfl rfl (op_move ha252 rfl rfl) ?_
                intro a254 ha254; clear ha252 a252
                refine wl_val ha254 rfl rfl rfl (op_move ha254 rfl rfl) ?_
                intro a255 ha255; clear ha254 a254
                refine wl_val ha255 rfl rfl rfl (op_move ha255 rfl rfl) ?_
                intro a256 ha256; clear ha255 a255
                refine wl_callR ha256 rfl rfl rfl (op_call ha256 rfl cb38 rfl) (c_impl_FilterRows _ u245 u247 ((aT)) aColumn aLow aHigh (ho246.rds pos_shStr) ((rds_shRowN (ho248.fin (by omega) (by omega) (by omega)) hN250).cast hE251)) ?_
                rintro v257 w258 he259 ⟨u260, u262, z264, rfl, ho261, ho263, hN265, hE266⟩ a267 ha267; clear ha256 a256
                have hx268 := hx253.trans' he259
                have hzhx268 := he259.size
                replace hb4 := hb4.ext he259
                replace ho27 := ho27.ext he259
                replace ho29 := ho29.ext he259
                replace hN31 := hN31.ext he259
                replace ho42 := ho42.ext he259
                replace ho44 := ho44.ext he259
                replace hN46 := hN46.ext he259
                replace hb62 := hb62.ext he259
                replace hb88 := hb88.ext he259
                replace hb119 := hb119.ext he259
                replace ho148 := ho148.ext he259
                replace ho150 := ho150.ext he259
                replace hN152 := hN152.ext he259
                replace ho171 := ho171.ext he259
                replace ho172 := ho172.ext he259
                replace hN174 := hN174.ext he259
                replace ho215 := ho215.ext he259
                replace ho216 := ho216.ext he259
                replace hN218 := hN218.ext he259
                replace ho246 := ho246.ext he259
                replace ho248 := ho248.ext he259
                replace hN250 := hN250.ext he259
                have hlhE266 := absLen hE266
                refine wl_val ha267 rfl rfl rfl (op_move ha267 rfl rfl) ?_
                intro a269 ha269; clear ha267 a267
                refine wl_val ha269 rfl rfl rfl (op_extract ha269 rfl rfl rfl) ?_
                intro a270 ha270; clear ha269 a269
                refine wl_val ha270 rfl rfl rfl (op_extract ha270 rfl rfl rfl) ?_
                intro a271 ha271; clear ha270 a270
                refine wl_eff ha271 rfl rfl rfl (op_alloc' rfl ti28 rfl) ?_
                rintro _ w273 ⟨rfl, he274, hb275, hz276⟩ a277 ha277; clear ha271 a271
                have hx278 := hx268.trans' he274
                have hzhx278 := he274.size
                replace hb4 := hb4.ext he274
                replace ho27 := ho27.ext he274
                replace ho29 := ho29.ext he274
                replace hN31 := hN31.ext he274
                replace ho42 := ho42.ext he274
                replace ho44 := ho44.ext he274
                replace hN46 := hN46.ext he274
                replace hb62 := hb62.ext he274
                replace hb88 := hb88.ext he274
                replace hb119 := hb119.ext he274
                replace ho148 := ho148.ext he274
                replace ho150 := ho150.ext he274
                replace hN152 := hN152.ext he274
                replace ho171 := ho171.ext he274
                replace ho172 := ho172.ext he274
                replace hN174 := hN174.ext he274
                replace ho215 := ho215.ext he274
                replace ho216 := ho216.ext he274
                replace hN218 := hN218.ext he274
                replace ho246 := ho246.ext he274
                replace ho248 := ho248.ext he274
                replace hN250 := hN250.ext he274
                replace ho261 := ho261.ext he274
                replace ho263 := ho263.ext he274
                replace hN265 := hN265.ext he274
                refine wl_effS ha277 rfl rfl (op_storeAll' ha277 rfl ti28 rfl rfl hb275 rfl rfl (by intro u hu; have hu : u ∈ ([u260, u262] : List Value) := hu; simp only [List.mem_cons, List.mem_nil_iff, or_false] at hu; rcases hu with rfl | rfl <;> first | rfl | exact ho261.one | exact ho263.one) rfl) ?_
                rintro w279 ⟨hb281, hst280, hz282⟩
                have hx283 := hx278.stp hst280 (by intro q hq; cases hq; exact (by omega))
                have hzhx283 := hst280.size
                replace hb4 := hb4.stp hst280 (by intro q hq; cases hq; omega)
                replace ho27 : Own shStr 9 w13.heap.size w13.heap.size w24.heap.size w279 u26 (((aT).1)) := by first | exact ho27.stp hst280 (by intro q hq; cases hq; omega) | exact ho27.stpF flat_shStr hst280 (by intro q hq; cases hq; exact ho27.ne_box (by assumption) rfl)
                replace ho29 : Own shRowN 41 w13.heap.size w13.heap.size w24.heap.size w279 u28 z30 := by first | exact ho29.stp hst280 (by intro q hq; cases hq; omega) | exact ho29.stpF flat_shRowN hst280 (by intro q hq; cases hq; exact ho29.ne_box (by assumption) rfl)
                replace hN31 : Nst shI64 2 (fun x : List Int => x) w13.heap.size w24.heap.size w279 z30 := by first | exact hN31.stp hst280 (by intro q hq; cases hq; omega) | exact hN31.stpB flat_shI64 hst280 (by assumption) rfl
                replace ho42 : Own shStr 9 w24.heap.size w24.heap.size w39.heap.size w279 u41 (((flT ((aT)) aColumn aLow aHigh).1)) := by first | exact ho42.stp hst280 (by intro q hq; cases hq; omega) | exact ho42.stpF flat_shStr hst280 (by intro q hq; cases hq; exact ho42.ne_box (by assumption) rfl)
                replace ho44 : Own shRowN 41 w24.heap.size w24.heap.size w39.heap.size w279 u43 z45 := by first | exact ho44.stp hst280 (by intro q hq; cases hq; omega) | exact ho44.stpF flat_shRowN hst280 (by intro q hq; cases hq; exact ho44.ne_box (by assumption) rfl)
                replace hN46 : Nst shI64 2 (fun x : List Int => x) w24.heap.size w39.heap.size w279 z45 := by first | exact hN46.stp hst280 (by intro q hq; cases hq; omega) | exact hN46.stpB flat_shI64 hst280 (by assumption) rfl
                replace hb62 := hb62.stp hst280 (by intro q hq; cases hq; omega)
                replace hb88 := hb88.stp hst280 (by intro q hq; cases hq; omega)
                replace hb119 := hb119.stp hst280 (by intro q hq; cases hq; omega)
                replace ho148 : Own shStr 9 w138.heap.size w138.heap.size w145.heap.size w279 u147 (((aT).1)) := by first | exact ho148.stp hst280 (by intro q hq; cases hq; omega) | exact ho148.stpF flat_shStr hst280 (by intro q hq; cases hq; exact ho148.ne_box (by assumption) rfl)
                replace ho150 : Own shRowN 41 w138.heap.size w138.heap.size w145.heap.size w279 u149 z151 := by first | exact ho150.stp hst280 (by intro q hq; cases hq; omega) | exact ho150.stpF flat_shRowN hst280 (by intro q hq; cases hq; exact ho150.ne_box (by assumption) rfl)
                replace hN152 : Nst shI64 2 (fun x : List Int => x) w138.heap.size w145.heap.size w279 z151 := by first | exact hN152.stp hst280 (by intro q hq; cases hq; omega) | exact hN152.stpB flat_shI64 hst280 (by assumption) rfl
                replace ho171 : Own shStr 9 w60.heap.size w60.heap.size w68.heap.size w279 u70 ((mkN mkS 1 ((((aT).1), ((aT).2)) : List Str × List (List Int)).1.length ((1 : Int)))) := by first | exact ho171.stp hst280 (by intro q hq; cases hq; omega) | exact ho171.stpF flat_shStr hst280 (by intro q hq; cases hq; exact ho171.ne_box (by assumption) rfl)
                replace ho172 : Own shRowN 41 w60.heap.size w60.heap.size w68.heap.size w279 u72 z173 := by first | exact ho172.stp hst280 (by intro q hq; cases hq; omega) | exact ho172.stpF flat_shRowN hst280 (by intro q hq; cases hq; exact ho172.ne_box (by assumption) rfl)
                replace hN174 : Nst shI64 2 (fun x : List Int => x) w60.heap.size w68.heap.size w279 z173 := by first | exact hN174.stp hst280 (by intro q hq; cases hq; omega) | exact hN174.stpB flat_shI64 hst280 (by assumption) rfl
                replace ho215 : Own shStr 9 w86.heap.size w86.heap.size w96.heap.size w279 u98 ((mkN mkS 1 ((((flT ((aT)) aColumn aLow aHigh).1), ((flT ((aT)) aColumn aLow aHigh).2)) : List Str × List (List Int)).1.length ((1 : Int)))) := by first | exact ho215.stp hst280 (by intro q hq; cases hq; omega) | exact ho215.stpF flat_shStr hst280 (by intro q hq; cases hq; exact ho215.ne_box (by assumption) rfl)
                replace ho216 : Own shRowN 41 w86.heap.size w86.heap.size w96.heap.size w279 u100 z217 := by first | exact ho216.stp hst280 (by intro q hq; cases hq; omega) | exact ho216.stpF flat_shRowN hst280 (by intro q hq; cases hq; exact ho216.ne_box (by assumption) rfl)
                replace hN218 : Nst shI64 2 (fun x : List Int => x) w86.heap.size w96.heap.size w279 z217 := by first | exact hN218.stp hst280 (by intro q hq; cases hq; omega) | exact hN218.stpB flat_shI64 hst280 (by assumption) rfl
                replace ho246 : Own shStr 9 w228.heap.size w228.heap.size w243.heap.size w279 u245 (((aT).1)) := by first | exact ho246.stp hst280 (by intro q hq; cases hq; omega) | exact ho246.stpF flat_shStr hst280 (by intro q hq; cases hq; exact ho246.ne_box (by assumption) rfl)
                replace ho248 : Own shRowN 41 w228.heap.size w228.heap.size w243.heap.size w279 u247 z249 := by first | exact ho248.stp hst280 (by intro q hq; cases hq; omega) | exact ho248.stpF flat_shRowN hst280 (by intro q hq; cases hq; exact ho248.ne_box (by assumption) rfl)
                replace hN250 : Nst shI64 2 (fun x : List Int => x) w228.heap.size w243.heap.size w279 z249 := by first | exact hN250.stp hst280 (by intro q hq; cases hq; omega) | exact hN250.stpB flat_shI64 hst280 (by assumption) rfl
                replace ho261 : Own shStr 9 w243.heap.size w243.heap.size w258.heap.size w279 u260 (((flT ((aT)) aColumn aLow aHigh).1)) := by first | exact ho261.stp hst280 (by intro q hq; cases hq; omega) | exact ho261.stpF flat_shStr hst280 (by intro q hq; cases hq; exact ho261.ne_box (by assumption) rfl)
                replace ho263 : Own shRowN 41 w243.heap.size w243.heap.size w258.heap.size w279 u262 z264 := by first | exact ho263.stp hst280 (by intro q hq; cases hq; omega) | exact ho263.stpF flat_shRowN hst280 (by intro q hq; cases hq; exact ho263.ne_box (by assumption) rfl)
                replace hN265 : Nst shI64 2 (fun x : List Int => x) w243.heap.size w258.heap.size w279 z264 := by first | exact hN265.stp hst280 (by intro q hq; cases hq; omega) | exact hN265.stpB flat_shI64 hst280 (by assumption) rfl
                clear hb275
                refine wl_val ha277 rfl rfl rfl (op_assign ha277 rfl rfl) ?_
                intro a284 ha284; clear ha277 a277
                refine wpList_nil ?_
                refine then_n ?_
                refine wp_seq ?_
                refine wp_seq ?_
                refine wp_region_lit ?_
                refine wl_val ha284 rfl rfl rfl (op_loadS ha284 rfl Try.underlying28 ti28 rfl rfl hb281.cells) ?_
                intro a285 ha285; clear ha284 a284
                refine wl_val ha285 rfl rfl rfl (op_loadS ha285 rfl Try.underlying28 ti28 rfl rfl hb62.cells) ?_
                intro a286 ha286; clear ha285 a285
                refine wl_callR ha286 rfl rfl rfl (op_call ha286 rfl cb20 rfl) (c_laws_eqTable _ u260 u262 ((flT ((aT)) aColumn aLow aHigh)) u41 u43 ((flT ((aT)) aColumn aLow aHigh)) (ho261.rds pos_shStr) ((rds_shRowN (ho263.fin (by omega) (by omega) (by omega)) hN265).cast hE266) (ho42.rds pos_shStr) ((rds_shRowN (ho44.fin (by omega) (by omega) (by omega)) hN46).cast hE47)) ?_
                rintro v287 w288 he289 rfl a290 ha290; clear ha286 a286
                have hx291 := hx283.trans' he289
                have hzhx291 := he289.size
                replace hb4 := hb4.ext he289
                replace ho27 := ho27.ext he289
                replace ho29 := ho29.ext he289
                replace hN31 := hN31.ext he289
                replace ho42 := ho42.ext he289
                replace ho44 := ho44.ext he289
                replace hN46 := hN46.ext he289
                replace hb62 := hb62.ext he289
                replace hb88 := hb88.ext he289
                replace hb119 := hb119.ext he289
                replace ho148 := ho148.ext he289
                replace ho150 := ho150.ext he289
                replace hN152 := hN152.ext he289
                replace ho171 := ho171.ext he289
                replace ho172 := ho172.ext he289
                replace hN174 := hN174.ext he289
                replace ho215 := ho215.ext he289
                replace ho216 := ho216.ext he289
                replace hN218 := hN218.ext he289
                replace ho246 := ho246.ext he289
                replace ho248 := ho248.ext he289
                replace hN250 := hN250.ext he289
                replace ho261 := ho261.ext he289
                replace ho263 := ho263.ext he289
                replace hN265 := hN265.ext he289
                replace hb281 := hb281.ext he289
                refine wl_val ha290 rfl rfl rfl (op_not ha290 rfl rfl) ?_
                intro a292 ha292; clear ha290 a290
                refine wl_val ha292 rfl rfl rfl (op_move ha292 rfl rfl) ?_
                intro a293 ha293; clear ha292 a292
                rw [c132] at ha293
                refine wl_val ha293 rfl rfl rfl (op_move ha293 rfl rfl) ?_
                intro a294 ha294; clear ha293 a293
                refine wl_val ha294 rfl rfl rfl (op_move ha294 rfl rfl) ?_
                intro a295 ha295; clear ha294 a294
                refine wl_val ha295 rfl rfl rfl ((op_neq ha295 rfl rfl rfl).to (congrArg Value.bool decide_not)) ?_
                intro a296 ha296; clear ha295 a295
                refine wl_val ha296 rfl rfl rfl (op_pick_f ha296 rfl rfl rfl) ?_
                intro a297 ha297; clear ha296 a296
                refine wpList_nil ?_
                refine then_n ?_
                rw [decide_eq_true c137] at ha297
                refine cond_f ha297 rfl ?_
                refine wp_skip ?_
                refine then_n ?_
                refine wp_seq ?_
                refine wp_region_lit ?_
                refine wl_val ha297 rfl rfl rfl (op_assign ha297 rfl rfl) ?_
                intro a298 ha298; clear ha297 a297
                refine wpList_nil ?_
                refine then_n ?_
                refine wp_seq ?_
                refine wp_region_lit ?_
                refine wl_val ha298 rfl rfl rfl (op_loadS ha298 rfl Try.underlying28 ti28 rfl rfl hb119.cells) ?_
                intro a299 ha299; clear ha298 a298
                refine wl_val ha299 rfl rfl rfl (op_move ha299 rfl rfl) ?_
                intro a300 ha300; clear ha299 a299
                refine wl_callR ha300 rfl rfl rfl (op_call ha300 rfl cb36 rfl) (c_laws_heldTable _ u98 u100 ((mkT2 ((((flT ((aT)) aColumn aLow aHigh).1), ((flT ((aT)) aColumn aLow aHigh).2)) : List Str × List (List Int)) ((1 : Int)))) (1 : Int) (ho215.rds pos_shStr) ((rds_shRowN (ho216.fin (by omega) (by omega) (by omega)) hN218).cast hE219) (by first | assumption | omega | (simp; omega)) (by first | assumption | omega | (simp; omega) | (simp [kk_mkT]; omega))) ?_
                rintro v301 w302 he303 rfl a304 ha304; clear ha300 a300
                have hx305 := hx291.trans' he303
                have hzhx305 := he303.size
                replace hb4 := hb4.ext he303
                replace ho27 := ho27.ext he303
                replace ho29 := ho29.ext he303
                replace hN31 := hN31.ext he303
                replace ho42 := ho42.ext he303
                replace ho44 := ho44.ext he303
                replace hN46 := hN46.ext he303
                replace hb62 := hb62.ext he303
                replace hb88 := hb88.ext he303
                replace hb119 := hb119.ext he303
                replace ho148 := ho148.ext he303
                replace ho150 := ho150.ext he303
                replace hN152 := hN152.ext he303
                replace ho171 := ho171.ext he303
                replace ho172 := ho172.ext he303
                replace hN174 := hN174.ext he303
                replace ho215 := ho215.ext he303
                replace ho216 := ho216.ext he303
                replace hN218 := hN218.ext he303
                replace ho246 := ho246.ext he303
                replace ho248 := ho248.ext he303
                replace hN250 := hN250.ext he303
                replace ho261 := ho261.ext he303
                replace ho263 := ho263.ext he303
                replace hN265 := hN265.ext he303
                replace hb281 := hb281.ext he303
                refine wl_val ha304 rfl rfl rfl (op_assign ha304 rfl rfl) ?_
                intro a306 ha306; clear ha304 a304
                refine wpList_nil ?_
                refine then_n ?_
                refine wp_seq ?_
                refine wp_seq ?_
                refine wp_region_lit ?_
                refine wl_val ha306 rfl rfl rfl (op_move ha306 rfl rfl) ?_
                intro a307 ha307; clear ha306 a306
                refine wl_val ha307 rfl rfl rfl (op_lss ha307 rfl rfl rfl) ?_
                intro a308 ha308; clear ha307 a307
                refine wpList_nil ?_
                refine then_n ?_
                rw [decide_eq_false c235] at ha308
                refine cond_f ha308 rfl ?_
                refine wp_skip ?_
                refine then_n ?_
                refine wp_seq ?_
                refine wp_seq ?_
                refine wp_region_lit ?_
                refine wl_val ha308 rfl rfl rfl (op_move ha308 rfl rfl) ?_
                intro a309 ha309; clear ha308 a308
                refine wl_val ha309 rfl rfl rfl (op_move ha309 rfl rfl) ?_
                intro a310 ha310; clear ha309 a309
                refine wl_val ha310 rfl rfl rfl ((op_neq ha310 rfl rfl rfl).to (congrArg Value.bool decide_not)) ?_
                intro a311 ha311; clear ha310 a310
                refine wpList_nil ?_
                refine then_n ?_
                rw [decide_eq_true c240] at ha311
                refine cond_f ha311 rfl ?_
                refine wp_skip ?_
                refine then_n ?_
                refine wp_seq ?_
                refine wp_region_lit ?_
                refine wl_val ha311 rfl rfl rfl (op_assign ha311 rfl rfl) ?_
                intro a312 ha312; clear ha311 a311
                refine wpList_nil ?_
                refine then_n ?_
                refine wp_ret ?_
                refine ret1 ha312 rfl rfl ?_
                clear ha312 a312
                exact ret_mk hx305 (congrArg Value.bool (by first | rfl | omega | (simp [held_mkT] at c240; done) | (simp [held_mkT] at c240; omega) | (simp [held_mkT] at c235; done) | (simp [held_mkT] at c235; omega) | (exact absurd rfl c235) | (exact absurd rfl c183) | (simp at c164; done) | (simp at c132; done) | (exact absurd rfl c20)))
              ·
                rw [decide_eq_false c240] at ha239
                refine cond_t ha239 rfl ?_
                refine wp_seq ?_
                refine wp_region_lit ?_
                refine wl_val ha239 rfl rfl rfl (op_assign ha239 rfl rfl) ?_
                intro a313 ha313; clear ha239 a239
                refine wpList_nil ?_
                refine then_n ?_
                refine wp_ret ?_
                refine then_r ?_
                refine ret1 ha313 rfl rfl ?_
                clear ha313 a313
                exact ret_mk hx231 (congrArg Value.bool (by first | rfl | omega | (simp [held_mkT] at c240; done) | (simp [held_mkT] at c240; omega) | (simp [held_mkT] at c235; done) | (simp [held_mkT] at c235; omega) | (exact absurd rfl c240) | (exact absurd rfl c235) | (exact absurd rfl c183) | (simp at c164; done) | (simp at c132; done) | (exact absurd rfl c20)))
        ·
          rw [c164] at ha163
          refine cond_t ha163 rfl ?_
          refine wp_seq ?_
          refine wp_region_lit ?_
          refine wl_val ha163 rfl rfl rfl (op_assign ha163 rfl rfl) ?_
          intro a314 ha314; clear ha163 a163
          refine wpList_nil ?_
          refine then_n ?_
          refine wp_ret ?_
          refine then_r ?_
          refine ret1 ha314 rfl rfl ?_
          clear ha314 a314
          exact ret_mk hx162 (congrArg Value.bool (by first | rfl | omega | (exact absurd rfl c164) | (simp at c164; done) | (simp at c132; done) | (exact absurd rfl c20)))
      ·
        rw [decide_eq_false c137] at ha136
        refine cond_t ha136 rfl ?_
        refine wp_seq ?_
        refine wp_region_lit ?_
        refine wl_val ha136 rfl rfl rfl (op_assign ha136 rfl rfl) ?_
        intro a315 ha315; clear ha136 a136
        refine wpList_nil ?_
        refine then_n ?_
        refine wp_ret ?_
        refine then_r ?_
        refine ret1 ha315 rfl rfl ?_
        clear ha315 a315
        exact ret_mk hx129 (congrArg Value.bool (by first | rfl | omega | (exact absurd rfl c137) | (simp at c132; done) | (exact absurd rfl c20)))
    ·
      rw [c132] at ha131
      refine wl_skip ha131 rfl rfl rfl ?_
      intro a316 ha316; clear ha131 a131
      refine wl_skip ha316 rfl rfl rfl ?_
      intro a317 ha317; clear ha316 a316
      refine wl_skip ha317 rfl rfl rfl ?_
      intro a318 ha318; clear ha317 a317
      refine wl_val ha318 rfl rfl rfl (op_pick_t ha318 rfl rfl rfl) ?_
      intro a319 ha319; clear ha318 a318
      refine wpList_nil ?_
      refine then_n ?_
      refine cond_t ha319 rfl ?_
      refine wp_seq ?_
      refine wp_region_lit ?_
      refine wl_val ha319 rfl rfl rfl (op_assign ha319 rfl rfl) ?_
      intro a320 ha320; clear ha319 a319
      refine wpList_nil ?_
      refine then_n ?_
      refine wp_ret ?_
      refine then_r ?_
      refine ret1 ha320 rfl rfl ?_
      clear ha320 a320
      exact ret_mk hx129 (congrArg Value.bool (by first | rfl | omega | (exact absurd rfl c132) | (simp at c132; done) | (exact absurd rfl c20)))


end Go.Proofs.Ytjpldgicibnkcaa
