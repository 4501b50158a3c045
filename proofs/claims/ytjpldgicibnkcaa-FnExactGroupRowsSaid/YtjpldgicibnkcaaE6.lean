/- The law GroupRows, walked. -/
import Derived.Test.YtjpldgicibnkcaaW11
import Derived.Test.YtjpldgicibnkcaaL3
namespace Go.Proofs.Ytjpldgicibnkcaa
open Go Go.RowKit

theorem grT_bd (t : Tab) (c a : Int) : (grT t c a).length ≤ 20 ∧ ∀ z ∈ grT t c a, z.length = 2 := by
  by_cases e : cdG t c a = 0
  · rw [grT_ok e]
    have h1 := grGo_len c a t.2 []
    have h2 : tabB t = true := by
      unfold cdG at e; split at e
      · exact (cdT_ok e).1
      · exact absurd e ‹_›
    have h3 := tab_bd h2
    exact ⟨by simp only [List.length_nil] at h1; omega, grGo_two c a t.2 [] (fun z hz => by cases hz)⟩
  · rw [grT_no e]; exact ⟨by simp, fun z hz => by cases hz⟩
theorem grT_kk (t : Tab) (c a : Int) : kkRow (grT t c a) 1 ≤ 1000 := by
  have h := grT_bd t c a
  have h2 := kkRow_bd (grT t c a) 1 fun z hz => by have := h.2 z hz; omega
  omega

theorem c_laws_FnExactGroupRows (w0 : World) (v_aT0 : Value) (v_aT1 : Value) (aT : List Str × List (List Int)) {S_aT0 : Nat → Prop} {S_aT1 : Nat → Prop} (aColumn : Int) (aAdd : Int) (h_aT0 : Rds shStr S_aT0 w0 v_aT0 aT.1) (h_aT1 : Rds shRow S_aT1 w0 v_aT1 aT.2) (g0 : I64 aColumn) (g1 : I64 aAdd) :
    Calls Try.prog 5 #[.agg #[v_aT0, v_aT1], .int .i64 aColumn, .int .i64 aAdd] w0 (Ret w0 (fun v _ => v = .bool (true))) := by
  refine enter (N := 106) Try.func5 rfl rfl rfl ?_
  intro a0 ha0
  have hx0 := Ext.rfl' w0
  have hl_aT0 := h_aT0.length_le
  have hl_aT1 := h_aT1.length_le
  have hcl : costT aT = costL costS aT.1 + costL costRow aT.2 := rfl
  have hc1 := costL_len costS aT.1
  have hc2 := costL_len costRow aT.2
  have hkk := kkT_le aT 1
  have hkg := kkT_ge aT 1
  have hkk2 : kkT (aT.1, aT.2) 1 ≤ 1 + (costT aT : Nat) := hkk
  have hkg2 : 1 ≤ kkT (aT.1, aT.2) 1 := hkg
  have hq1 := grT_kk aT aColumn aAdd
  have hq2 := (grT_bd aT aColumn aAdd).1
  have hq3 := kkRow_ge (grT aT aColumn aAdd) 1
  refine wp_seq ?_
  refine wp_region_lit ?_
  refine wl_eff ha0 rfl rfl rfl (op_box' ha0 rfl rfl rfl) ?_
  rintro _ w2 ⟨rfl, he3, hb4, hz5⟩ a6 ha6; clear ha0 a0
  have hx7 := hx0.trans' he3
  have hzhx7 := he3.size
  refine wl_val ha6 rfl rfl rfl (op_assign ha6 rfl rfl) ?_
  intro a8 ha8; clear ha6 a6
  refine wpList_nil ?_
  refine then_n ?_
  refine wp_seq ?_
  refine wp_region_lit ?_
  refine wl_val ha8 rfl rfl rfl (op_assign ha8 rfl rfl) ?_
  intro a9 ha9; clear ha8 a8
  refine wpList_nil ?_
  refine then_n ?_
  refine wp_seq ?_
  refine wp_region_lit ?_
  refine wl_val ha9 rfl rfl rfl (op_loadS ha9 rfl Try.underlying25 ti25 rfl rfl hb4.cells) ?_
  intro a10 ha10; clear ha9 a9
  refine wl_val ha10 rfl rfl rfl (op_move ha10 rfl rfl) ?_
  intro a11 ha11; clear ha10 a10
  refine wl_callR ha11 rfl rfl rfl (op_call ha11 rfl cb16 rfl) (c_laws_szTable _ v_aT0 v_aT1 aT (1048576 : Int) (h_aT0.ext pos_shStr hx7) (h_aT1.ext pos_shRow hx7) (by first | assumption | omega | (simp; omega)) (by first | assumption | omega | (simp; omega))) ?_
  rintro v12 w13 he14 rfl a15 ha15; clear ha11 a11
  have hx16 := hx7.trans' he14
  have hzhx16 := he14.size
  replace hb4 := hb4.ext he14
  refine wl_val ha15 rfl rfl rfl (op_assign ha15 rfl rfl) ?_
  intro a17 ha17; clear ha15 a15
  refine wpList_nil ?_
  refine then_n ?_
  refine wp_seq ?_
  refine wp_seq ?_
  refine wp_region_lit ?_
  refine wl_val ha17 rfl rfl rfl (op_move ha17 rfl rfl) ?_
  intro a18 ha18; clear ha17 a17
  refine wl_val ha18 rfl rfl rfl (op_lss ha18 rfl rfl rfl) ?_
  intro a19 ha19; clear ha18 a18
  refine wpList_nil ?_
  refine then_n ?_
  by_cases c20 : (szR (1048576 : Int) (costT aT) : Int) < (0 : Int)
  ·
    rw [decide_eq_true c20] at ha19
    refine cond_t ha19 rfl ?_
    refine wp_seq ?_
    refine wp_region_lit ?_
    refine wl_val ha19 rfl rfl rfl (op_assign ha19 rfl rfl) ?_
    intro a21 ha21; clear ha19 a19
    refine wpList_nil ?_
    refine then_n ?_
    refine wp_ret ?_
    refine then_r ?_
    refine ret1 ha21 rfl rfl ?_
    clear ha21 a21
    exact ret_mk hx16 (congrArg Value.bool (by first | rfl | omega))
  ·
    rw [decide_eq_false c20] at ha19
    have hzc20 := szR_ok c20
    refine cond_f ha19 rfl ?_
    refine wp_skip ?_
    refine then_n ?_
    refine wp_seq ?_
    refine wp_region_lit ?_
    refine wl_val ha19 rfl rfl rfl (op_loadS ha19 rfl Try.underlying25 ti25 rfl rfl hb4.cells) ?_
    intro a22 ha22; clear ha19 a19
    refine wl_callR ha22 rfl rfl rfl (op_call ha22 rfl cb18 rfl) (c_laws_toTable _ v_aT0 v_aT1 aT (h_aT0.ext pos_shStr hx16) (h_aT1.ext pos_shRow hx16) (by first | assumption | omega | (simp; omega))) ?_
    rintro v23 w24 he25 ⟨u26, u28, z30, rfl, ho27, ho29, hN31, hE32⟩ a33 ha33; clear ha22 a22
    have hx34 := hx16.trans' he25
    have hzhx34 := he25.size
    replace hb4 := hb4.ext he25
    have hlhE32 := absLen hE32
    refine wl_val ha33 rfl rfl rfl (op_move ha33 rfl rfl) ?_
    intro a35 ha35; clear ha33 a33
    refine wl_val ha35 rfl rfl rfl (op_move ha35 rfl rfl) ?_
    intro a36 ha36; clear ha35 a35
    refine wl_callR ha36 rfl rfl rfl (op_call ha36 rfl cb23 rfl) (c_spec_GroupRows _ u26 u28 ((aT)) aColumn aAdd (ho27.rds pos_shStr) ((rds_shRowN (ho29.fin (by omega) (by omega) (by omega)) hN31).cast hE32)) ?_
    rintro v37 w38 he39 ⟨u40, z42, rfl, ho41, hN43, hE44⟩ a45 ha45; clear ha36 a36
    have hx46 := hx34.trans' he39
    have hzhx46 := he39.size
    replace hb4 := hb4.ext he39
    replace ho27 := ho27.ext he39
    replace ho29 := ho29.ext he39
    replace hN31 := hN31.ext he39
    have hlhE44 := absLen hE44
    refine wl_val ha45 rfl rfl rfl (op_move ha45 rfl rfl) ?_
    intro a47 ha47; clear ha45 a45
    refine wl_val ha47 rfl rfl rfl (op_extract ha47 rfl rfl rfl) ?_
    intro a48 ha48; clear ha47 a47
    refine wl_val ha48 rfl rfl rfl (op_extract ha48 rfl rfl rfl) ?_
    intro a49 ha49; clear ha48 a48
    refine wl_val ha49 rfl rfl rfl (op_assign ha49 rfl rfl) ?_
    intro a50 ha50; clear ha49 a49
    refine wl_val ha50 rfl rfl rfl (op_assign ha50 rfl rfl) ?_
    intro a51 ha51; clear ha50 a50
    refine wpList_nil ?_
    refine then_n ?_
    refine wp_seq ?_
    refine wp_region_lit ?_
    refine wl_val ha51 rfl rfl rfl (op_loadS ha51 rfl Try.underlying25 ti25 rfl rfl hb4.cells) ?_
    intro a52 ha52; clear ha51 a51
    refine wl_callR ha52 rfl rfl rfl (op_call ha52 rfl cb18 rfl) (c_laws_toTable _ v_aT0 v_aT1 aT (h_aT0.ext pos_shStr hx46) (h_aT1.ext pos_shRow hx46) (by first | assumption | omega | (simp; omega))) ?_
    rintro v53 w54 he55 ⟨u56, u58, z60, rfl, ho57, ho59, hN61, hE62⟩ a63 ha63; clear ha52 a52
    have hx64 := hx46.trans' he55
    have hzhx64 := he55.size
    replace hb4 := hb4.ext he55
    replace ho27 := ho27.ext he55
    replace ho29 := ho29.ext he55
    replace hN31 := hN31.ext he55
    replace ho41 := ho41.ext he55
    replace hN43 := hN43.ext he55
    have hlhE62 := absLen hE62
    refine wl_eff ha63 rfl rfl rfl (op_alloc' rfl ti28 rfl) ?_
    rintro _ w66 ⟨rfl, he67, hb68, hz69⟩ a70 ha70; clear ha63 a63
    have hx71 := hx64.trans' he67
    have hzhx71 := he67.size
    replace hb4 := hb4.ext he67
    replace ho27 := ho27.ext he67
    replace ho29 := ho29.ext he67
    replace hN31 := hN31.ext he67
    replace ho41 := ho41.ext he67
    replace hN43 := hN43.ext he67
    replace ho57 := ho57.ext he67
    replace ho59 := ho59.ext he67
    replace hN61 := hN61.ext he67
    refine wl_effS ha70 rfl rfl (op_storeAll' ha70 rfl ti28 rfl rfl hb68 rfl rfl (by intro u hu; have hu : u ∈ ([u56, u58] : List Value) := hu; simp only [List.mem_cons, List.mem_nil_iff, or_false] at hu; rcases hu with rfl | rfl <;> first | rfl | exact ho57.one | exact ho59.one) rfl) ?_
    rintro w72 ⟨hb74, hst73, hz75⟩
    have hx76 := hx71.stp hst73 (by intro q hq; cases hq; exact (by omega))
    have hzhx76 := hst73.size
    replace hb4 := hb4.stp hst73 (by intro q hq; cases hq; omega)
    replace ho27 : Own shStr 9 w13.heap.size w13.heap.size w24.heap.size w72 u26 (((aT).1)) := by first | exact ho27.stp hst73 (by intro q hq; cases hq; omega) | exact ho27.stpF flat_shStr hst73 (by intro q hq; cases hq; exact ho27.ne_box (by assumption) rfl)
    replace ho29 : Own shRowN 41 w13.heap.size w13.heap.size w24.heap.size w72 u28 z30 := by first | exact ho29.stp hst73 (by intro q hq; cases hq; omega) | exact ho29.stpF flat_shRowN hst73 (by intro q hq; cases hq; exact ho29.ne_box (by assumption) rfl)
    replace hN31 : Nst shI64 2 (fun x : List Int => x) w13.heap.size w24.heap.size w72 z30 := by first | exact hN31.stp hst73 (by intro q hq; cases hq; omega) | exact hN31.stpB flat_shI64 hst73 (by assumption) rfl
    replace ho41 : Own shRowN 41 w24.heap.size w24.heap.size w38.heap.size w72 u40 z42 := by first | exact ho41.stp hst73 (by intro q hq; cases hq; omega) | exact ho41.stpF flat_shRowN hst73 (by intro q hq; cases hq; exact ho41.ne_box (by assumption) rfl)
    replace hN43 : Nst shI64 2 (fun x : List Int => x) w24.heap.size w38.heap.size w72 z42 := by first | exact hN43.stp hst73 (by intro q hq; cases hq; omega) | exact hN43.stpB flat_shI64 hst73 (by assumption) rfl
    replace ho57 : Own shStr 9 w38.heap.size w38.heap.size w54.heap.size w72 u56 (((aT).1)) := by first | exact ho57.stp hst73 (by intro q hq; cases hq; omega) | exact ho57.stpF flat_shStr hst73 (by intro q hq; cases hq; exact ho57.ne_box (by assumption) rfl)
    replace ho59 : Own shRowN 41 w38.heap.size w38.heap.size w54.heap.size w72 u58 z60 := by first | exact ho59.stp hst73 (by intro q hq; cases hq; omega) | exact ho59.stpF flat_shRowN hst73 (by intro q hq; cases hq; exact ho59.ne_box (by assumption) rfl)
    replace hN61 : Nst shI64 2 (fun x : List Int => x) w38.heap.size w54.heap.size w72 z60 := by first | exact hN61.stp hst73 (by intro q hq; cases hq; omega) | exact hN61.stpB flat_shI64 hst73 (by assumption) rfl
    clear hb68
    refine wpList_nil ?_
    refine then_n ?_
    refine wp_seq ?_
    refine wp_region_lit ?_
    refine wl_val ha70 rfl rfl rfl (op_loadS ha70 rfl Try.underlying28 ti28 rfl rfl hb74.cells) ?_
    intro a77 ha77; clear ha70 a70
    refine wl_val ha77 rfl rfl rfl (op_move ha77 rfl rfl) ?_
    intro a78 ha78; clear ha77 a77
    refine wl_val ha78 rfl rfl rfl (op_move ha78 rfl rfl) ?_
    intro a79 ha79; clear ha78 a78
    refine wl_callR ha79 rfl rfl rfl (op_call ha79 rfl cb24 rfl) (c_impl_GroupRows _ u56 u58 ((aT)) aColumn aAdd (ho57.rds pos_shStr) ((rds_shRowN (ho59.fin (by omega) (by omega) (by omega)) hN61).cast hE62)) ?_
    rintro v80 w81 he82 ⟨u83, z85, rfl, ho84, hN86, hE87⟩ a88 ha88; clear ha79 a79
    have hx89 := hx76.trans' he82
    have hzhx89 := he82.size
    replace hb4 := hb4.ext he82
    replace ho27 := ho27.ext he82
    replace ho29 := ho29.ext he82
    replace hN31 := hN31.ext he82
    replace ho41 := ho41.ext he82
    replace hN43 := hN43.ext he82
    replace ho57 := ho57.ext he82
    replace ho59 := ho59.ext he82
    replace hN61 := hN61.ext he82
    replace hb74 := hb74.ext he82
    have hlhE87 := absLen hE87
    refine wl_val ha88 rfl rfl rfl (op_move ha88 rfl rfl) ?_
    intro a90 ha90; clear ha88 a88
    refine wl_val ha90 rfl rfl rfl (op_extract ha90 rfl rfl rfl) ?_
    intro a91 ha91; clear ha90 a90
    refine wl_val ha91 rfl rfl rfl (op_extract ha91 rfl rfl rfl) ?_
    intro a92 ha92; clear ha91 a91
    refine wl_val ha92 rfl rfl rfl (op_assign ha92 rfl rfl) ?_
    intro a93 ha93; clear ha92 a92
    refine wl_val ha93 rfl rfl rfl (op_assign ha93 rfl rfl) ?_
    intro a94 ha94; clear ha93 a93
    refine wpList_nil ?_
    refine then_n ?_
    refine wp_seq ?_
    refine wp_seq ?_
    refine wp_region_lit ?_
    refine wl_val ha94 rfl rfl rfl (op_move ha94 rfl rfl) ?_
    intro a95 ha95; clear ha94 a94
    refine wl_val ha95 rfl rfl rfl (op_move ha95 rfl rfl) ?_
    intro a96 ha96; clear ha95 a95
    refine wl_callR ha96 rfl rfl rfl (op_call ha96 rfl cb25 rfl) (c_laws_eqInt64SS _ u83 ((grT ((aT)) aColumn aAdd)) u40 ((grT ((aT)) aColumn aAdd)) ((rds_shRowN (ho84.fin (by omega) (by omega) (by omega)) hN86).cast hE87) ((rds_shRowN (ho41.fin (by omega) (by omega) (by omega)) hN43).cast hE44)) ?_
    rintro v97 w98 he99 rfl a100 ha100; clear ha96 a96
    have hx101 := hx89.trans' he99
    have hzhx101 := he99.size
    replace hb4 := hb4.ext he99
    replace ho27 := ho27.ext he99
    replace ho29 := ho29.ext he99
    replace hN31 := hN31.ext he99
    replace ho41 := ho41.ext he99
    replace hN43 := hN43.ext he99
    replace ho57 := ho57.ext he99
    replace ho59 := ho59.ext he99
    replace hN61 := hN61.ext he99
    replace hb74 := hb74.ext he99
    replace ho84 := ho84.ext he99
    replace hN86 := hN86.ext he99
    refine wl_val ha100 rfl rfl rfl (op_not ha100 rfl rfl) ?_
    intro a102 ha102; clear ha100 a100
    refine wl_val ha102 rfl rfl rfl (op_move ha102 rfl rfl) ?_
    intro a103 ha103; clear ha102 a102
    rcases Bool.eq_false_or_eq_true (eqL ((grT ((aT)) aColumn aAdd)) ((grT ((aT)) aColumn aAdd))) with c104 | c104
    ·
      rw [c104] at ha103
      refine wl_val ha103 rfl rfl rfl (op_move ha103 rfl rfl) ?_
      intro a105 ha105; clear ha103 a103
      refine wl_val ha105 rfl rfl rfl (op_move ha105 rfl rfl) ?_
      intro a106 ha106; clear ha105 a105
      refine wl_val ha106 rfl rfl rfl ((op_neq ha106 rfl rfl rfl).to (congrArg Value.bool decide_not)) ?_
      intro a107 ha107; clear ha106 a106
      refine wl_val ha107 rfl rfl rfl (op_pick_f ha107 rfl rfl rfl) ?_
      intro a108 ha108; clear ha107 a107
      refine wpList_nil ?_
      refine then_n ?_
      by_cases c109 : (cdG ((aT)) aColumn aAdd : Int) = (cdG ((aT)) aColumn aAdd : Int)
      ·
        rw [decide_eq_true c109] at ha108
        refine cond_f ha108 rfl ?_
        refine wp_skip ?_
        refine then_n ?_
        refine wp_seq ?_
        refine wp_seq ?_
        refine dr_enter Ext follows_mixed ?_
        intro w110 he111
        have hx112 := hx101.trans' he111
        have hzhx112 := he111.size
        replace hb4 := hb4.ext he111
        replace ho27 := ho27.ext he111
        replace ho29 := ho29.ext he111
        replace hN31 := hN31.ext he111
        replace ho41 := ho41.ext he111
        replace hN43 := hN43.ext he111
        replace ho57 := ho57.ext he111
        replace ho59 := ho59.ext he111
        replace hN61 := hN61.ext he111
        replace hb74 := hb74.ext he111
        replace ho84 := ho84.ext he111
        replace hN86 := hN86.ext he111
        have hs113 : Ext w110 w110 := Ext.rfl' _
        refine dr_val (i := 0) ha108 rfl (by kernel_rfl) (by kernel_rfl) (by kernel_rfl) rfl rfl rfl hs113 (fun w' hw' => op_loadS ha108 rfl Try.underlying28 ti28 rfl rfl (hb74.ext hw').cells) ?_
        intro a114 ha114; clear ha108 a108
        refine dr_val (i := 1) ha114 rfl (by kernel_rfl) (by kernel_rfl) (by kernel_rfl) rfl rfl rfl hs113 (fun w' hw' => op_loadS ha114 rfl Try.underlying25 ti25 rfl rfl (hb4.ext hw').cells) ?_
        intro a115 ha115; clear ha114 a114
        refine dr_one (i := 2) (by kernel_rfl) ?_
        refine po_callR ha115 rfl rfl rfl rfl (op_call ha115 rfl cb18 rfl) (c_laws_toTable _ v_aT0 v_aT1 aT (h_aT0.ext pos_shStr (hx112.trans' hs113)) (h_aT1.ext pos_shRow (hx112.trans' hs113)) (by first | assumption | omega | (simp; omega))) ?_
        rintro v116 w117 he118 ⟨u119, u121, z123, rfl, ho120, ho122, hN124, hE125⟩ a126 ha126; clear ha115 a115
        have hs127 := hs113.trans' he118
        have hx128 := hx112.trans' he118
        have hzhx128 := he118.size
        refine ⟨hs127, ?_⟩
        have hlhE125 := absLen hE125
        refine dr_one (i := 3) (by kernel_rfl) ?_
        refine po_callR ha126 rfl rfl rfl rfl (op_call ha126 rfl cb20 rfl) (c_laws_eqTable _ u56 u58 ((aT)) u119 u121 ((aT)) ((ho57.rds pos_shStr).ext pos_shStr hs127) (((rds_shRowN (ho59.fin (by omega) (by omega) (by omega)) hN61).ext pos_shRow hs127).cast hE62) (ho120.rds pos_shStr) ((rds_shRowN (ho122.fin (by omega) (by omega) (by omega)) hN124).cast hE125)) ?_
        rintro v129 w130 he131 rfl a132 ha132; clear ha126 a126
        have hs133 := hs127.trans' he131
        have hx134 := hx128.trans' he131
        have hzhx134 := he131.size
        replace ho120 := ho120.ext he131
        replace ho122 := ho122.ext he131
        replace hN124 := hN124.ext he131
        refine ⟨hs133, ?_⟩
        refine dr_val (i := 4) ha132 rfl (by kernel_rfl) (by kernel_rfl) (by kernel_rfl) rfl rfl rfl hs133 (fun w' hw' => op_not ha132 rfl rfl) ?_
        intro a135 ha135; clear ha132 a132
        refine dr_end (by kernel_rfl) ?_
        replace hb4 := hb4.ext hs133
        replace ho27 := ho27.ext hs133
        replace ho29 := ho29.ext hs133
        replace hN31 := hN31.ext hs133
        replace ho41 := ho41.ext hs133
        replace hN43 := hN43.ext hs133
        replace ho57 := ho57.ext hs133
        replace ho59 := ho59.ext hs133
        replace hN61 := hN61.ext hs133
        replace hb74 := hb74.ext hs133
        replace ho84 := ho84.ext hs133
        replace hN86 := hN86.ext hs133
        refine then_n ?_
        rcases Bool.eq_false_or_eq_true (decide (((aT)) = ((aT)))) with c136 | c136
        ·
          rw [c136] at ha135
          refine cond_f ha135 rfl ?_
          refine wp_skip ?_
          refine then_n ?_
          refine wp_seq ?_
          refine wp_region_lit ?_
          refine wl_val ha135 rfl rfl rfl (op_assign ha135 rfl rfl) ?_
          intro a137 ha137; clear ha135 a135
          refine wpList_nil ?_
          refine then_n ?_
          refine wp_seq ?_
          refine wp_region_lit ?_
          refine wl_val ha137 rfl rfl rfl (op_loadS ha137 rfl Try.underlying28 ti28 rfl rfl hb74.cells) ?_
          intro a138 ha138; clear ha137 a137
          refine wl_val ha138 rfl rfl rfl (op_move ha138 rfl rfl) ?_
          intro a139 ha139; clear ha138 a138
          have hm148 := c_laws_markTable (lo_a := w38.heap.size) (hi_a := w54.heap.size) _ u56 (((aT).1)) u58 z60 (1 : Int) (ho57.fin (by omega) (by omega) (by omega)) (ho59.fin (by omega) (by omega) (by omega)) (hN61.fin (by omega) (by omega)) (by omega) (by (try rw [hE62]); first | assumption | omega | (simp; omega)) (by (try rw [hE62]); first | assumption | omega | (simp; omega)) (by (try rw [hE62]); first | assumption | omega | (simp; omega))
          try rw [hE62] at hm148
          refine wl_callI ha139 rfl rfl rfl (op_call ha139 rfl cb26 rfl) (hm148) ?_
          rintro v140 w141 he142 ⟨z145, rfl, ho143, ho144, hN146, hE147⟩ a149 ha149; clear ha139 a139
          have hx150 := hx134.stpI he142 (by omega)
          have hzhx150 := he142.size
          replace hb4 := hb4.stpI he142 (by omega)
          replace ho27 := ho27.stpI he142 (by omega)
          replace ho29 := ho29.stpI he142 (by omega)
          replace hN31 := hN31.stpI he142 (by omega)
          replace ho41 := ho41.stpI he142 (by omega)
          replace hN43 := hN43.stpI he142 (by omega)
          replace hb74 := hb74.stpI he142 (by omega)
          replace ho84 := ho84.stpI he142 (by omega)
          replace hN86 := hN86.stpI he142 (by omega)
          replace ho120 := ho120.stpI he142 (by omega)
          replace ho122 := ho122.stpI he142 (by omega)
          replace hN124 := hN124.stpI he142 (by omega)
          clear ho57 ho59 hN61
          refine wl_val ha149 rfl rfl rfl (op_assign ha149 rfl rfl) ?_
          intro a151 ha151; clear ha149 a149
          refine wpList_nil ?_
          refine then_n ?_
          refine wp_seq ?_
          refine wp_seq ?_
          refine wp_region_lit ?_
          refine wl_val ha151 rfl rfl rfl (op_move ha151 rfl rfl) ?_
          intro a152 ha152; clear ha151 a151
          refine wl_val ha152 rfl rfl rfl (op_lss ha152 rfl rfl rfl) ?_
          intro a153 ha153; clear ha152 a152
          refine wl_val ha153 rfl rfl rfl (op_move ha153 rfl rfl) ?_
          intro a154 ha154; clear ha153 a153
          by_cases c155 : (kkT ((((aT).1), ((aT).2)) : List Str × List (List Int)) ((1 : Int)) : Int) < (0 : Int)
          ·
            rw [decide_eq_true c155] at ha154
            refine wl_skip ha154 rfl rfl rfl ?_
            intro a156 ha156; clear ha154 a154
            refine wl_skip ha156 rfl rfl rfl ?_
            intro a157 ha157; clear ha156 a156
            refine wl_skip ha157 rfl rfl rfl ?_
            intro a158 ha158; clear ha157 a157
            refine wl_skip ha158 rfl rfl rfl ?_
            intro a159 ha159; clear ha158 a158
            refine wl_val ha159 rfl rfl rfl (op_pick_t ha159 rfl rfl rfl) ?_
            intro a160 ha160; clear ha159 a159
            refine wl_val ha160 rfl rfl rfl (op_move ha160 rfl rfl) ?_
            intro a161 ha161; clear ha160 a160
            refine wl_skip ha161 rfl rfl rfl ?_
            intro a162 ha162; clear ha161 a161
            refine wl_skip ha162 rfl rfl rfl ?_
            intro a163 ha163; clear ha162 a162
            refine wl_skip ha163 rfl rfl rfl ?_
            intro a164 ha164; clear ha163 a163
            refine wl_val ha164 rfl rfl rfl (op_pick_t ha164 rfl rfl rfl) ?_
            intro a165 ha165; clear ha164 a164
            refine wpList_nil ?_
            refine then_n ?_
            refine cond_t ha165 rfl ?_
            refine wp_seq ?_
            refine wp_region_lit ?_
            refine wl_val ha165 rfl rfl rfl (op_assign ha165 rfl rfl) ?_
            intro a166 ha166; clear ha165 a165
            refine wpList_nil ?_
            refine then_n ?_
            refine wp_ret ?_
            refine then_r ?_
            refine ret1 ha166 rfl rfl ?_
            clear ha166 a166
            exact ret_mk hx150 (congrArg Value.bool (by first | rfl | omega | (simp at c136; done) | (exact absurd rfl c20)))
          ·
            rw [decide_eq_false c155] at ha154
            refine wl_val ha154 rfl rfl rfl (op_move ha154 rfl rfl) ?_
            intro a167 ha167; clear ha154 a154
            refine wl_val ha167 rfl rfl rfl (op_move ha167 rfl rfl) ?_
            intro a168 ha168; clear ha167 a167
            refine wl_callR ha168 rfl rfl rfl (op_call ha168 rfl cb25 rfl) (c_laws_eqInt64SS _ u83 ((grT ((aT)) aColumn aAdd)) u40 ((grT ((aT)) aColumn aAdd)) ((rds_shRowN (ho84.fin (by omega) (by omega) (by omega)) hN86).cast hE87) ((rds_shRowN (ho41.fin (by omega) (by omega) (by omega)) hN43).cast hE44)) ?_
            rintro v169 w170 he171 rfl a172 ha172; clear ha168 a168
            have hx173 := hx150.trans' he171
            have hzhx173 := he171.size
            replace hb4 := hb4.ext he171
            replace ho27 := ho27.ext he171
            replace ho29 := ho29.ext he171
            replace hN31 := hN31.ext he171
            replace ho41 := ho41.ext he171
            replace hN43 := hN43.ext he171
            replace hb74 := hb74.ext he171
            replace ho84 := ho84.ext he171
            replace hN86 := hN86.ext he171
            replace ho120 := ho120.ext he171
            replace ho122 := ho122.ext he171
            replace hN124 := hN124.ext he171
            replace ho143 := ho143.ext he171
            replace ho144 := ho144.ext he171
            replace hN146 := hN146.ext he171
            refine wl_val ha172 rfl rfl rfl (op_not ha172 rfl rfl) ?_
            intro a174 ha174; clear ha172 a172
            refine wl_val ha174 rfl rfl rfl (op_pick_f ha174 rfl rfl rfl) ?_
            intro a175 ha175; clear ha174 a174
            refine wl_val ha175 rfl rfl rfl (op_move ha175 rfl rfl) ?_
            intro a176 ha176; clear ha175 a175
            rw [c104] at ha176
            refine wl_val ha176 rfl rfl rfl (op_move ha176 rfl rfl) ?_
            intro a177 ha177; clear ha176 a176
            refine wl_val ha177 rfl rfl rfl (op_move ha177 rfl rfl) ?_
            intro a178 ha178; clear ha177 a177
            refine wl_val ha178 rfl rfl rfl ((op_neq ha178 rfl rfl rfl).to (congrArg Value.bool decide_not)) ?_
            intro a179 ha179; clear ha178 a178
            refine wl_val ha179 rfl rfl rfl (op_pick_f ha179 rfl rfl rfl) ?_
            intro a180 ha180; clear ha179 a179
            refine wpList_nil ?_
            refine then_n ?_
            rw [decide_eq_true c109] at ha180
            refine cond_f ha180 rfl ?_
            refine wp_skip ?_
            refine then_n ?_
            refine wp_seq ?_
            refine wp_region_lit ?_
            refine wl_val ha180 rfl rfl rfl (op_assign ha180 rfl rfl) ?_
            intro a181 ha181; clear ha180 a180
            refine wpList_nil ?_
            refine then_n ?_
            refine wp_seq ?_
            refine wp_region_lit ?_
            refine wl_val ha181 rfl rfl rfl (op_move ha181 rfl rfl) ?_
            intro a182 ha182; clear ha181 a181
            refine wl_val ha182 rfl rfl rfl (op_move ha182 rfl rfl) ?_
            intro a183 ha183; clear ha182 a182
            have hm191 := c_laws_markInt64SS _ u83 z85 (1 : Int) (ho84.fin (by omega) (by omega) (by omega)) hN86 (by omega) (by (try rw [hE87]); first | assumption | omega | (simp; omega)) (by (try rw [hE87]); first | assumption | omega | (simp; omega)) (by (try rw [hE87]); first | assumption | omega | (simp; omega))
            rw [hE87] at hm191
            refine wl_callT ha183 rfl rfl rfl (op_call ha183 rfl cb27 rfl) (hm191) ?_
            rintro v184 w185 he186 ⟨z188, rfl, ho187, hN189, hE190⟩ a192 ha192; clear ha183 a183
            have he193 := he186.toI
            have hx194 := hx173.stpI he193 (by omega)
            have hzhx194 := he193.size
            replace hb4 := hb4.stpI he193 (by omega)
            replace ho27 : Own shStr 9 w13.heap.size w13.heap.size w24.heap.size w185 u26 (((aT).1)) := by first | exact ho27.stpI he193 (by omega) | exact ho27.stpT flat_shStr he186 rfl
            replace ho29 : Own shRowN 41 w13.heap.size w13.heap.size w24.heap.size w185 u28 z30 := by first | exact ho29.stpI he193 (by omega) | exact ho29.stpT flat_shRowN he186 rfl
            replace hN31 := hN31.stpI he193 (by omega)
            replace ho41 : Own shRowN 41 w24.heap.size w24.heap.size w38.heap.size w185 u40 z42 := by first | exact ho41.stpI he193 (by omega) | exact ho41.stpT flat_shRowN he186 rfl
            replace hN43 := hN43.stpI he193 (by omega)
            replace hb74 := hb74.stpI he193 (by omega)
            replace ho120 : Own shStr 9 w110.heap.size w110.heap.size w117.heap.size w185 u119 (((aT).1)) := by first | exact ho120.stpI he193 (by omega) | exact ho120.stpT flat_shStr he186 rfl
            replace ho122 : Own shRowN 41 w110.heap.size w110.heap.size w117.heap.size w185 u121 z123 := by first | exact ho122.stpI he193 (by omega) | exact ho122.stpT flat_shRowN he186 rfl
            replace hN124 := hN124.stpI he193 (by omega)
            replace ho143 : Own shStr 9 w38.heap.size w38.heap.size w54.heap.size w185 u56 ((mkN mkS 1 ((((aT).1), ((aT).2)) : List Str × List (List Int)).1.length ((1 : Int)))) := by first | exact ho143.stpI he193 (by omega) | exact ho143.stpT flat_shStr he186 rfl
            replace ho144 : Own shRowN 41 w38.heap.size w38.heap.size w54.heap.size w185 u58 z145 := by first | exact ho144.stpI he193 (by omega) | exact ho144.stpT flat_shRowN he186 rfl
            replace hN146 := hN146.stpI he193 (by omega)
            clear ho84 hN86
            refine wl_val ha192 rfl rfl rfl (op_assign ha192 rfl rfl) ?_
            intro a195 ha195; clear ha192 a192
            refine wpList_nil ?_
            refine then_n ?_
            refine wp_seq ?_
            refine wp_region_lit ?_
            refine wl_val ha195 rfl rfl rfl (op_assign ha195 rfl rfl) ?_
            intro a196 ha196; clear ha195 a195
            refine wpList_nil ?_
            refine then_n ?_
            refine wp_seq ?_
            refine wp_region_lit ?_
            refine wl_val ha196 rfl rfl rfl (op_move ha196 rfl rfl) ?_
            intro a197 ha197; clear ha196 a196
            refine wl_val ha197 rfl rfl rfl (op_move ha197 rfl rfl) ?_
            intro a198 ha198; clear ha197 a197
            refine wl_callR ha198 rfl rfl rfl (op_call ha198 rfl cb28 rfl) (c_laws_heldInt64SS _ u83 ((mkRow ((grT ((aT)) aColumn aAdd)) ((1 : Int)))) (1 : Int) ((rds_shRowN (ho187.fin (by omega) (by omega) (by omega)) hN189).cast hE190) (by first | assumption | omega | (simp; omega)) (by first | assumption | omega | (simp; omega) | (simp [mkRow_length, kk_mkRow]; omega))) ?_
            rintro v199 w200 he201 rfl a202 ha202; clear ha198 a198
            have hx203 := hx194.trans' he201
            have hzhx203 := he201.size
            replace hb4 := hb4.ext he201
            replace ho27 := ho27.ext he201
            replace ho29 := ho29.ext he201
            replace hN31 := hN31.ext he201
            replace ho41 := ho41.ext he201
            replace hN43 := hN43.ext he201
            replace hb74 := hb74.ext he201
            replace ho120 := ho120.ext he201
            replace ho122 := ho122.ext he201
            replace hN124 := hN124.ext he201
            replace ho143 := ho143.ext he201
            replace ho144 := ho144.ext he201
            replace hN146 := hN146.ext he201
            replace ho187 := ho187.ext he201
            replace hN189 := hN189.ext he201
            refine wl_val ha202 rfl rfl rfl (op_assign ha202 rfl rfl) ?_
            intro a204 ha204; clear ha202 a202
            refine wpList_nil ?_
            refine then_n ?_
            refine wp_seq ?_
            refine wp_seq ?_
            refine wp_region_lit ?_
            refine wl_val ha204 rfl rfl rfl (op_move ha204 rfl rfl) ?_
            intro a205 ha205; clear ha204 a204
            refine wl_val ha205 rfl rfl rfl (op_lss ha205 rfl rfl rfl) ?_
            intro a206 ha206; clear ha205 a205
            refine wpList_nil ?_
            refine then_n ?_
            by_cases c207 : (heldRow ((mkRow ((grT ((aT)) aColumn aAdd)) ((1 : Int)))) (1 : Int) : Int) < (0 : Int)
            ·
              rw [decide_eq_true c207] at ha206
              refine cond_t ha206 rfl ?_
              refine wp_seq ?_
              refine wp_region_lit ?_
              refine wl_val ha206 rfl rfl rfl (op_assign ha206 rfl rfl) ?_
              intro a208 ha208; clear ha206 a206
              refine wpList_nil ?_
              refine then_n ?_
              refine wp_ret ?_
              refine then_r ?_
              refine ret1 ha208 rfl rfl ?_
              clear ha208 a208
              exact ret_mk hx203 (congrArg Value.bool (by first | rfl | omega | (simp [held_mkRow, mkRow_length] at c207; done) | (simp [held_mkRow, mkRow_length] at c207; omega) | (exact absurd rfl c155) | (simp at c136; done) | (exact absurd rfl c20)))
            ·
              rw [decide_eq_false c207] at ha206
              refine cond_f ha206 rfl ?_
              refine wp_skip ?_
              refine then_n ?_
              refine wp_seq ?_
              refine wp_seq ?_
              refine wp_region_lit ?_
              refine wl_val ha206 rfl rfl rfl (op_move ha206 rfl rfl) ?_
              intro a209 ha209; clear ha206 a206
              refine wl_val ha209 rfl rfl rfl (op_move ha209 rfl rfl) ?_
              intro a210 ha210; clear ha209 a209
              refine wl_val ha210 rfl rfl rfl ((op_neq ha210 rfl rfl rfl).to (congrArg Value.bool decide_not)) ?_
              intro a211 ha211; clear ha210 a210
              refine wpList_nil ?_
              refine then_n ?_
              by_cases c212 : (heldRow ((mkRow ((grT ((aT)) aColumn aAdd)) ((1 : Int)))) (1 : Int) : Int) = (kkRow ((grT ((aT)) aColumn aAdd)) ((1 : Int)) : Int)
              ·
                rw [decide_eq_true c212] at ha211
                refine cond_f ha211 rfl ?_
                refine wp_skip ?_
                refine then_n ?_
                refine wp_seq ?_
                refine wp_region_lit ?_
                refine wl_val ha211 rfl rfl rfl (op_loadS ha211 rfl Try.underlying25 ti25 rfl rfl hb4.cells) ?_
                intro a213 ha213; clear ha211 a211
                refine wl_callR ha213 rfl rfl rfl (op_call ha213 rfl cb18 rfl) (c_laws_toTable _ v_aT0 v_aT1 aT (h_aT0.ext pos_shStr hx203) (h_aT1.ext pos_shRow hx203) (by first | assumption | omega | (simp; omega))) ?_
                rintro v214 w215 he216 ⟨u217, u219, z221, rfl, ho218, ho220, hN222, hE223⟩ a224 ha224; clear ha213 a213
                have hx225 := hx203.trans' he216
                have hzhx225 := he216.size
                replace hb4 := hb4.ext he216
                replace ho27 := ho27.ext he216
                replace ho29 := ho29.ext he216
                replace hN31 := hN31.ext he216
                replace ho41 := ho41.ext he216
                replace hN43 := hN43.ext he216
                replace hb74 := hb74.ext he216
                replace ho120 := ho120.ext he216
                replace ho122 := ho122.ext he216
                replace hN124 := hN124.ext he216
                replace ho143 := ho143.ext he216
                replace ho144 := ho144.ext he216
                replace hN146 := hN146.ext he216
                replace ho187 := ho187.ext he216
                replace hN189 := hN189.ext he216
                have hlhE223 := absLen hE223
                refine wl_val ha224 rfl rfl rfl (op_move ha224 rfl rfl) ?_
                intro a226 ha226; clear ha224 a224
                refine wl_val ha226 rfl rfl rfl (op_move ha226 rfl rfl) ?_
                intro a227 ha227; clear ha226 a226
                refine wl_callR ha227 rfl rfl rfl (op_call ha227 rfl cb24 rfl) (c_impl_GroupRows _ u217 u219 ((aT)) aColumn aAdd (ho218.rds pos_shStr) ((rds_shRowN (ho220.fin (by omega) (by omega) (by omega)) hN222).cast hE223)) ?_
                rintro v228 w229 he230 ⟨u231, z233, rfl, ho232, hN234, hE235⟩ a236 ha236; clear ha227 a227
                have hx237 := hx225.trans' he230
                have hzhx237 := he230.size
                replace hb4 := hb4.ext he230
                replace ho27 := ho27.ext he230
                replace ho29 := ho29.ext he230
                replace hN31 := hN31.ext he230
                replace ho41 := ho41.ext he230
                replace hN43 := hN43.ext he230
                replace hb74 := hb74.ext he230
                replace ho120 := ho120.ext he230
                replace ho122 := ho122.ext he230
                replace hN124 := hN124.ext he230
                replace ho143 := ho143.ext he230
                replace ho144 := ho144.ext he230
                replace hN146 := hN146.ext he230
                replace ho187 := ho187.ext he230
                replace hN189 := hN189.ext he230
                replace ho218 := ho218.ext he230
                replace ho220 := ho220.ext he230
                replace hN222 := hN222.ext he230
                have hlhE235 := absLen hE235
                refine wl_val ha236 rfl rfl rfl (op_move ha236 rfl rfl) ?_
                intro a238 ha238; clear ha236 a236
                refine wl_val ha238 rfl rfl rfl (op_extract ha238 rfl rfl rfl) ?_
                intro a239 ha239; clear ha238 a238
                refine wl_val ha239 rfl rfl rfl (op_extract ha239 rfl rfl rfl) ?_
                intro a240 ha240; clear ha239 a239
                refine wl_val ha240 rfl rfl rfl (op_assign ha240 rfl rfl) ?_
                intro a241 ha241; clear ha240 a240
                refine wl_val ha241 rfl rfl rfl (op_assign ha241 rfl rfl) ?_
                intro a242 ha242; clear ha241 a241
                refine wpList_nil ?_
                refine then_n ?_
                refine wp_seq ?_
                refine wp_seq ?_
                refine wp_region_lit ?_
                refine wl_val ha242 rfl rfl rfl (op_move ha242 rfl rfl) ?_
                intro a243 ha243; clear ha242 a242
                refine wl_val ha243 rfl rfl rfl (op_move ha243 rfl rfl) ?_
                intro a244 ha244; clear ha243 a243
                refine wl_callR ha244 rfl rfl rfl (op_call ha244 rfl cb25 rfl) (c_laws_eqInt64SS _ u231 ((grT ((aT)) aColumn aAdd)) u40 ((grT ((aT)) aColumn aAdd)) ((rds_shRowN (ho232.fin (by omega) (by omega) (by omega)) hN234).cast hE235) ((rds_shRowN (ho41.fin (by omega) (by omega) (by omega)) hN43).cast hE44)) ?_
                rintro v245 w246 he247 rfl a248 ha248; clear ha244 a244
                have hx249 := hx237.trans' he247
                have hzhx249 := he247.size
                replace hb4 := hb4.ext he247
                replace ho27 := ho27.ext he247
                replace ho29 := ho29.ext he247
                replace hN31 := hN31.ext he247
                replace ho41 := ho41.ext he247
                replace hN43 := hN43.ext he247
                replace hb74 := hb74.ext he247
                replace ho120 := ho120.ext he247
                replace ho122 := ho122.ext he247
                replace hN124 := hN124.ext he247
                replace ho143 := ho143.ext he247
                replace ho144 := ho144.ext he247
                replace hN146 := hN146.ext he247
                replace ho187 := ho187.ext he247
                replace hN189 := hN189.ext he247
                replace ho218 := ho218.ext he247
                replace ho220 := ho220.ext he247
                replace hN222 := hN222.ext he247
                replace ho232 := ho232.ext he247
                replace hN234 := hN234.ext he247
                refine wl_val ha248 rfl rfl rfl (op_not ha248 rfl rfl) ?_
                intro a250 ha250; clear ha248 a248
                refine wl_val ha250 rfl rfl rfl (op_move ha250 rfl rfl) ?_
                intro a251 ha251; clear ha250 a250
                rw [c104] at ha251
                refine wl_val ha251 rfl rfl rfl (op_move ha251 rfl rfl) ?_
                intro a252 ha252; clear ha251 a251
                refine wl_val ha252 rfl rfl rfl (op_move ha252 rfl rfl) ?_
                intro a253 ha253; clear ha252 a252
                refine wl_val ha253 rfl rfl rfl ((op_neq ha253 rfl rfl rfl).to (congrArg Value.bool decide_not)) ?_
                intro a254 ha254; clear ha253 a253
                refine wl_val ha254 rfl rfl rfl (op_pick_f ha254 rfl rfl rfl) ?_
                intro a255 ha255; clear ha254 a254
                refine wpList_nil ?_
                refine then_n ?_
                rw [decide_eq_true c109] at ha255
                refine cond_f ha255 rfl ?_
                refine wp_skip ?_
                refine then_n ?_
                refine wp_seq ?_
                refine wp_region_lit ?_
                refine wl_val ha255 rfl rfl rfl (op_assign ha255 rfl rfl) ?_
                intro a256 ha256; clear ha255 a255
                refine wpList_nil ?_
                refine then_n ?_
                refine wp_seq ?_
                refine wp_region_lit ?_
                refine wl_val ha256 rfl rfl rfl (op_move ha256 rfl rfl) ?_
                intro a257 ha257; clear ha256 a256
                refine wl_val ha257 rfl rfl rfl (op_move ha257 rfl rfl) ?_
                intro a258 ha258; clear ha257 a257
                refine wl_callR ha258 rfl rfl rfl (op_call ha258 rfl cb28 rfl) (c_laws_heldInt64SS _ u83 ((mkRow ((grT ((aT)) aColumn aAdd)) ((1 : Int)))) (1 : Int) ((rds_shRowN (ho187.fin (by omega) (by omega) (by omega)) hN189).cast hE190) (by first | assumption | omega | (simp; omega)) (by first | assumption | omega | (simp; omega) | (simp [mkRow_length, kk_mkRow]; omega))) ?_
                rintro v259 w260 he261 rfl a262 ha262; clear ha258 a258
                have hx263 := hx249.trans' he261
                have hzhx263 := he261.size
                replace hb4 := hb4.ext he261
                replace ho27 := ho27.ext he261
                replace ho29 := ho29.ext he261
                replace hN31 := hN31.ext he261
                replace ho41 := ho41.ext he261
                replace hN43 := hN43.ext he261
                replace hb74 := hb74.ext he261
                replace ho120 := ho120.ext he261
                replace ho122 := ho122.ext he261
                replace hN124 := hN124.ext he261
                replace ho143 := ho143.ext he261
                replace ho144 := ho144.ext he261
                replace hN146 := hN146.ext he261
                replace ho187 := ho187.ext he261
                replace hN189 := hN189.ext he261
                replace ho218 := ho218.ext he261
                replace ho220 := ho220.ext he261
                replace hN222 := hN222.ext he261
                replace ho232 := ho232.ext he261
                replace hN234 := hN234.ext he261
                refine wl_val ha262 rfl rfl rfl (op_assign ha262 rfl rfl) ?_
                intro a264 ha264; clear ha262 a262
                refine wpList_nil ?_
                refine then_n ?_
                refine wp_seq ?_
                refine wp_seq ?_
                refine wp_region_lit ?_
                refine wl_val ha264 rfl rfl rfl (op_move ha264 rfl rfl) ?_
                intro a265 ha265; clear ha264 a264
                refine wl_val ha265 rfl rfl rfl (op_lss ha265 rfl rfl rfl) ?_
                intro a266 ha266; clear ha265 a265
                refine wpList_nil ?_
                refine then_n ?_
                rw [decide_eq_false c207] at ha266
                refine cond_f ha266 rfl ?_
                refine wp_skip ?_
                refine then_n ?_
                refine wp_seq ?_
                refine wp_seq ?_
                refine wp_region_lit ?_
                refine wl_val ha266 rfl rfl rfl (op_move ha266 rfl rfl) ?_
                intro a267 ha267; clear ha266 a266
                refine wl_val ha267 rfl rfl rfl (op_move ha267 rfl rfl) ?_
                intro a268 ha268; clear ha267 a267
                refine wl_val ha268 rfl rfl rfl ((op_neq ha268 rfl rfl rfl).to (congrArg Value.bool decide_not)) ?_
                intro a269 ha269; clear ha268 a268
                refine wpList_nil ?_
                refine then_n ?_
                rw [decide_eq_true c212] at ha269
                refine cond_f ha269 rfl ?_
                refine wp_skip ?_
                refine then_n ?_
                refine wp_seq ?_
                refine wp_region_lit ?_
                refine wl_val ha269 rfl rfl rfl (op_assign ha269 rfl rfl) ?_
                intro a270 ha270; clear ha269 a269
                refine wpList_nil ?_
                refine then_n ?_
                refine wp_ret ?_
                refine ret1 ha270 rfl rfl ?_
                clear ha270 a270
                exact ret_mk hx263 (congrArg Value.bool (by first | rfl | omega | (simp [held_mkRow, mkRow_length] at c212; done) | (simp [held_mkRow, mkRow_length] at c212; omega) | (simp [held_mkRow, mkRow_length] at c207; done) | (simp [held_mkRow, mkRow_length] at c207; omega) | (exact absurd rfl c207) | (exact absurd rfl c155) | (simp at c136; done) | (exact absurd rfl c20)))
              ·
                rw [decide_eq_false c212] at ha211
                refine cond_t ha211 rfl ?_
                refine wp_seq ?_
                refine wp_region_lit ?_
                refine wl_val ha211 rfl rfl rfl (op_assign ha211 rfl rfl) ?_
                intro a271 ha271; clear ha211 a211
                refine wpList_nil ?_
                refine then_n ?_
                refine wp_ret ?_
                refine then_r ?_
                refine ret1 ha271 rfl rfl ?_
                clear ha271 a271
                exact ret_mk hx203 (congrArg Value.bool (by first | rfl | omega | (simp [held_mkRow, mkRow_length] at c212; done) | (simp [held_mkRow, mkRow_length] at c212; omega) | (simp [held_mkRow, mkRow_length] at c207; done) | (simp [held_mkRow, mkRow_length] at c207; omega) | (exact absurd rfl c212) | (exact absurd rfl c207) | (exact absurd rfl c155) | (simp at c136; done) | (exact absurd rfl c20)))
        ·
          rw [c136] at ha135
          refine cond_t ha135 rfl ?_
          refine wp_seq ?_
          refine wp_region_lit ?_
          refine wl_val ha135 rfl rfl rfl (op_assign ha135 rfl rfl) ?_
          intro a272 ha272; clear ha135 a135
          refine wpList_nil ?_
          refine then_n ?_
          refine wp_ret ?_
          refine then_r ?_
          refine ret1 ha272 rfl rfl ?_
          clear ha272 a272
          exact ret_mk hx134 (congrArg Value.bool (by first | rfl | omega | (exact absurd rfl c136) | (simp at c136; done) | (exact absurd rfl c20)))
      ·
        rw [decide_eq_false c109] at ha108
        refine cond_t ha108 rfl ?_
        refine wp_seq ?_
        refine wp_region_lit ?_
        refine wl_val ha108 rfl rfl rfl (op_assign ha108 rfl rfl) ?_
        intro a273 ha273; clear ha108 a108
        refine wpList_nil ?_
        refine then_n ?_
        refine wp_ret ?_
        refine then_r ?_
        refine ret1 ha273 rfl rfl ?_
        clear ha273 a273
        exact ret_mk hx101 (congrArg Value.bool (by first | rfl | omega | (exact absurd rfl c109) | (exact absurd rfl c20)))
    ·
      rw [c104] at ha103
      refine wl_skip ha103 rfl rfl rfl ?_
      intro a274 ha274; clear ha103 a103
      refine wl_skip ha274 rfl rfl rfl ?_
      intro a275 ha275; clear ha274 a274
      refine wl_skip ha275 rfl rfl rfl ?_
      intro a276 ha276; clear ha275 a275
      refine wl_val ha276 rfl rfl rfl (op_pick_t ha276 rfl rfl rfl) ?_
      intro a277 ha277; clear ha276 a276
      refine wpList_nil ?_
      refine then_n ?_
      refine cond_t ha277 rfl ?_
      refine wp_seq ?_
      refine wp_region_lit ?_
      refine wl_val ha277 rfl rfl rfl (op_assign ha277 rfl rfl) ?_
      intro a278 ha278; clear ha277 a277
      refine wpList_nil ?_
      refine then_n ?_
      refine wp_ret ?_
      refine then_r ?_
      refine ret1 ha278 rfl rfl ?_
      clear ha278 a278
      exact ret_mk hx101 (congrArg Value.bool (by first | rfl | omega | (rw [eqL_self] at c104; cases c104) | (exact absurd rfl c104) | (exact absurd rfl c20)))


end Go.Proofs.Ytjpldgicibnkcaa
