/- Tables with columns and bounds drawn. -/
import Derived.Test.YtjpldgicibnkcaaR2
namespace Go.Proofs.Ytjpldgicibnkcaa
open Go Go.RowKit

set_option maxHeartbeats 4000000 in
theorem c_spec_DrawSortRows (w0 : World) (v_code : Value) (code : List UInt8) {S_code : Nat → Prop} (h_code : Rds shU8 S_code w0 v_code code) :
  Calls Try.prog 50 #[v_code] w0 (Ret w0 (fun v w1 => ∃ (t : Tab) (c : Int), (fun v w1 => ∃ r0_0 r0_1 z0_1, v = .tuple #[.agg #[r0_0, r0_1], .int .i64 (c)] ∧ Own shStr 9 w0.heap.size w0.heap.size w1.heap.size w1 r0_0 ((t).1) ∧ Own shRowN 41 w0.heap.size w0.heap.size w1.heap.size w1 r0_1 z0_1 ∧ Nst shI64 2 (fun x : List Int => x) w0.heap.size w1.heap.size w1 z0_1 ∧ z0_1.map (·.1) = ((t).2)) v w1)) := by
 refine enter (N := 9) Try.func50 rfl rfl rfl ?_
 intro a0 ha0
 have hx0 := Ext.rfl' w0
 have hl_code := h_code.length_le
 refine wp_seq ?_
 refine wp_region_lit ?_
 refine wl_eff ha0 rfl rfl rfl (op_alloc' rfl ti28 rfl) ?_
 rintro _ w2 ⟨rfl, he3, hb4, hz5⟩ a6 ha6; clear ha0 a0
 have hx7 := hx0.trans' he3
 have hzhx7 := he3.size
 refine wl_val ha6 rfl rfl rfl (op_assign ha6 rfl rfl) ?_
 intro a8 ha8; clear ha6 a6
 refine wpList_nil ?_
 refine then_n ?_
 refine wp_seq ?_
 refine wp_region_lit ?_
 refine wl_val ha8 rfl rfl rfl (op_move ha8 rfl rfl) ?_
 intro a9 ha9; clear ha8 a8
 refine wl_callR ha9 rfl rfl rfl (op_call ha9 rfl cb79 rfl) (c_spec_l01From _ v_code code (h_code.low pos_shU8 hx7 (Nat.le_refl _)) (by omega)) ?_
 rintro v10 w11 he12 ⟨g13, rfl, hg14, hS15⟩ a16 ha16; clear ha9 a9
 have hx17 := hx7.trans' he12
 have hzhx17 := he12.size
 replace hb4 := hb4.ext he12
 have hSlhS15 := hS15.lt
 refine wl_callS ha16 rfl rfl rfl (op_call ha16 rfl cb80 rfl) (c_spec_l31Some _ g13 w0.heap.size hS15) ?_
 rintro v18 w19 he20 ⟨hS21, ⟨q22, q23, hq24, hq25, hq26, hq27, hq28, hq29, ⟨u30, u32, z34, rfl, ho31, ho33, hN35, hE36⟩⟩⟩ a37 ha37; clear ha16 a16
 have hx38 := hx17.stp he20 (by intro q hq; cases hq; exact (by omega))
 have hzhx38 := he20.size
 replace hb4 := hb4.stp he20 (by intro q hq; cases hq; omega)
 clear hS15
 have hSlhS21 := hS21.lt
 have hlhE36 := absLen hE36
 refine wl_val ha37 rfl rfl rfl (op_extract ha37 rfl rfl rfl) ?_
 intro a39 ha39; clear ha37 a37
 refine wl_val ha39 rfl rfl rfl (op_extract ha39 rfl rfl rfl) ?_
 intro a40 ha40; clear ha39 a39
 refine wl_effS ha40 rfl rfl (op_storeAll' ha40 rfl ti28 rfl rfl hb4 rfl rfl (by intro u hu; have hu : u ∈ ([u30, u32] : List Value) := hu; simp only [List.mem_cons, List.mem_nil_iff, or_false] at hu; rcases hu with rfl | rfl <;> first | rfl | exact ho31.one | exact ho33.one) rfl) ?_
 rintro w41 ⟨hb43, hst42, hz44⟩
 have hx45 := hx38.stp hst42 (by intro q hq; cases hq; exact (by omega))
 have hzhx45 := hst42.size
 replace hS21 := hS21.stp hst42 (by intro q hq; cases hq; omega)
 replace ho31 := ho31.stp hst42 (by intro q hq; cases hq; omega)
 replace ho33 := ho33.stp hst42 (by intro q hq; cases hq; omega)
 replace hN35 := hN35.stp hst42 (by intro q hq; cases hq; omega)
 clear hb4
 refine wl_val ha40 rfl rfl rfl (op_assign ha40 rfl rfl) ?_
 intro a46 ha46; clear ha40 a40
 refine wpList_nil ?_
 refine then_n ?_
 refine wp_ret ?_
 refine retct ha46 rfl rfl rfl Try.underlying28 ti28 rfl hb43.cells ?_
 clear ha46 a46
 refine ret_mk hx45 ?_
 refine ⟨((((q22).1), ((q22).2)) : Tab), (q23 : Int), ?_⟩
 refine ⟨u30, u32, z34, (tup2_eq (by rfl) (int_eq (by rfl))), ?_, ho33.fin (by omega) (by omega) (by omega), hN35.fin (by omega) (by omega), ?_⟩
 ·
  refine (ho31.fin (by omega) (by omega) (by omega)).cast ?_
  rfl
 ·
  exact hE36

set_option maxHeartbeats 4000000 in
theorem c_spec_DrawFilterRows (w0 : World) (v_code : Value) (code : List UInt8) {S_code : Nat → Prop} (h_code : Rds shU8 S_code w0 v_code code) :
  Calls Try.prog 51 #[v_code] w0 (Ret w0 (fun v w1 => ∃ (t : Tab) (c : Int) (low : Int) (high : Int), (fun v w1 => ∃ r0_0 r0_1 z0_1, v = .tuple #[.agg #[r0_0, r0_1], .int .i64 (c), .int .i64 (low), .int .i64 (high)] ∧ Own shStr 9 w0.heap.size w0.heap.size w1.heap.size w1 r0_0 ((t).1) ∧ Own shRowN 41 w0.heap.size w0.heap.size w1.heap.size w1 r0_1 z0_1 ∧ Nst shI64 2 (fun x : List Int => x) w0.heap.size w1.heap.size w1 z0_1 ∧ z0_1.map (·.1) = ((t).2)) v w1)) := by
 refine enter (N := 35) Try.func51 rfl rfl rfl ?_
 intro a0 ha0
 have hx0 := Ext.rfl' w0
 have hl_code := h_code.length_le
 refine wp_seq ?_
 refine wp_region_lit ?_
 refine wl_eff ha0 rfl rfl rfl (op_alloc' rfl ti28 rfl) ?_
 rintro _ w2 ⟨rfl, he3, hb4, hz5⟩ a6 ha6; clear ha0 a0
 have hx7 := hx0.trans' he3
 have hzhx7 := he3.size
 refine wl_val ha6 rfl rfl rfl (op_assign ha6 rfl rfl) ?_
 intro a8 ha8; clear ha6 a6
 refine wl_val ha8 rfl rfl rfl (op_assign ha8 rfl rfl) ?_
 intro a9 ha9; clear ha8 a8
 refine wl_val ha9 rfl rfl rfl (op_assign ha9 rfl rfl) ?_
 intro a10 ha10; clear ha9 a9
 refine wpList_nil ?_
 refine then_n ?_
 refine wp_seq ?_
 refine wp_region_lit ?_
 refine wl_val ha10 rfl rfl rfl (op_move ha10 rfl rfl) ?_
 intro a11 ha11; clear ha10 a10
 refine wl_callR ha11 rfl rfl rfl (op_call ha11 rfl cb79 rfl) (c_spec_l01From _ v_code code (h_code.low pos_shU8 hx7 (Nat.le_refl _)) (by omega)) ?_
 rintro v12 w13 he14 ⟨g15, rfl, hg16, hS17⟩ a18 ha18; clear ha11 a11
 have hx19 := hx7.trans' he14
 have hzhx19 := he14.size
 replace hb4 := hb4.ext he14
 have hSlhS17 := hS17.lt
 refine wl_val ha18 rfl rfl rfl (op_assign ha18 rfl rfl) ?_
 intro a20 ha20; clear ha18 a18
 refine wpList_nil ?_
 refine then_n ?_
 refine wp_seq ?_
 refine wp_region_lit ?_
 refine wl_val ha20 rfl rfl rfl (op_move ha20 rfl rfl) ?_
 intro a21 ha21; clear ha20 a20
 refine wl_callS ha21 rfl rfl rfl (op_call ha21 rfl cb80 rfl) (c_spec_l31Some _ g15 w0.heap.size hS17) ?_
 rintro v22 w23 he24 ⟨hS25, ⟨q26, q27, hq28, hq29, hq30, hq31, hq32, hq33, ⟨u34, u36, z38, rfl, ho35, ho37, hN39, hE40⟩⟩⟩ a41 ha41; clear ha21 a21
 have hx42 := hx19.stp he24 (by intro q hq; cases hq; exact (by omega))
 have hzhx42 := he24.size
 replace hb4 := hb4.stp he24 (by intro q hq; cases hq; omega)
 clear hS17
 have hSlhS25 := hS25.lt
 have hlhE40 := absLen hE40
 refine wl_val ha41 rfl rfl rfl (op_move ha41 rfl rfl) ?_
 intro a43 ha43; clear ha41 a41
 refine wl_val ha43 rfl rfl rfl (op_extract ha43 rfl rfl rfl) ?_
 intro a44 ha44; clear ha43 a43
 refine wl_val ha44 rfl rfl rfl (op_extract ha44 rfl rfl rfl) ?_
 intro a45 ha45; clear ha44 a44
 refine wl_eff ha45 rfl rfl rfl (op_alloc' rfl ti28 rfl) ?_
 rintro _ w47 ⟨rfl, he48, hb49, hz50⟩ a51 ha51; clear ha45 a45
 have hx52 := hx42.trans' he48
 have hzhx52 := he48.size
 replace hb4 := hb4.ext he48
 replace hS25 := hS25.ext he48
 replace ho35 := ho35.ext he48
 replace ho37 := ho37.ext he48
 replace hN39 := hN39.ext he48
 refine wl_effS ha51 rfl rfl (op_storeAll' ha51 rfl ti28 rfl rfl hb49 rfl rfl (by intro u hu; have hu : u ∈ ([u34, u36] : List Value) := hu; simp only [List.mem_cons, List.mem_nil_iff, or_false] at hu; rcases hu with rfl | rfl <;> first | rfl | exact ho35.one | exact ho37.one) rfl) ?_
 rintro w53 ⟨hb55, hst54, hz56⟩
 have hx57 := hx52.stp hst54 (by intro q hq; cases hq; exact (by omega))
 have hzhx57 := hst54.size
 replace hb4 := hb4.stp hst54 (by intro q hq; cases hq; omega)
 replace hS25 := hS25.stp hst54 (by intro q hq; cases hq; omega)
 replace ho35 := ho35.stp hst54 (by intro q hq; cases hq; omega)
 replace ho37 := ho37.stp hst54 (by intro q hq; cases hq; omega)
 replace hN39 := hN39.stp hst54 (by intro q hq; cases hq; omega)
 clear hb49
 refine wl_val ha51 rfl rfl rfl (op_assign ha51 rfl rfl) ?_
 intro a58 ha58; clear ha51 a51
 refine wpList_nil ?_
 refine then_n ?_
 refine wp_seq ?_
 refine wp_region_lit ?_
 refine wl_val ha58 rfl rfl rfl (op_move ha58 rfl rfl) ?_
 intro a59 ha59; clear ha58 a58
 refine wl_val ha59 rfl rfl rfl (op_move ha59 rfl rfl) ?_
 intro a60 ha60; clear ha59 a59
 refine wl_callS ha60 rfl rfl rfl (op_call ha60 rfl cb81 rfl) (c_spec_l01Next _ g15 w0.heap.size (4 : Int) hS25) ?_
 rintro v61 w62 he63 ⟨hS64, ⟨q65, hq66, hq67, hq68, rfl⟩⟩ a69 ha69; clear ha60 a60
 have hx70 := hx57.stp he63 (by intro q hq; cases hq; exact (by omega))
 have hzhx70 := he63.size
 replace hb4 := hb4.stp he63 (by intro q hq; cases hq; omega)
 first | replace ho35 := ho35.stp he63 (by intro q hq; cases hq; omega) | replace ho35 := ho35.stpF flat_shStr he63 (by intro q hq; cases hq; exact ho35.ne_box (by assumption) rfl)
 first | replace ho37 := ho37.stp he63 (by intro q hq; cases hq; omega) | replace ho37 := ho37.stpF flat_shRowN he63 (by intro q hq; cases hq; exact ho37.ne_box (by assumption) rfl)
 first | replace hN39 := hN39.stp he63 (by intro q hq; cases hq; omega) | replace hN39 := hN39.stpB flat_shI64 he63 (by assumption) rfl
 replace hb55 := hb55.stp he63 (by intro q hq; cases hq; omega)
 clear hS25
 have hSlhS64 := hS64.lt
 refine wl_val ha69 rfl rfl rfl (op_move ha69 rfl rfl) ?_
 intro a71 ha71; clear ha69 a69
 refine wl_callS ha71 rfl rfl rfl (op_call ha71 rfl cb81 rfl) (c_spec_l01Next _ g15 w0.heap.size (60 : Int) hS64) ?_
 rintro v72 w73 he74 ⟨hS75, ⟨q76, hq77, hq78, hq79, rfl⟩⟩ a80 ha80; clear ha71 a71
 have hx81 := hx70.stp he74 (by intro q hq; cases hq; exact (by omega))
 have hzhx81 := he74.size
 replace hb4 := hb4.stp he74 (by intro q hq; cases hq; omega)
 first | replace ho35 := ho35.stp he74 (by intro q hq; cases hq; omega) | replace ho35 := ho35.stpF flat_shStr he74 (by intro q hq; cases hq; exact ho35.ne_box (by assumption) rfl)
 first | replace ho37 := ho37.stp he74 (by intro q hq; cases hq; omega) | replace ho37 := ho37.stpF flat_shRowN he74 (by intro q hq; cases hq; exact ho37.ne_box (by assumption) rfl)
 first | replace hN39 := hN39.stp he74 (by intro q hq; cases hq; omega) | replace hN39 := hN39.stpB flat_shI64 he74 (by assumption) rfl
 replace hb55 := hb55.stp he74 (by intro q hq; cases hq; omega)
 clear hS64
 have hSlhS75 := hS75.lt
 refine wl_val ha80 rfl rfl rfl ((op_sub ha80 rfl rfl rfl).int (IntWalk.i64_in _ (by omega))) ?_
 intro a82 ha82; clear ha80 a80
 refine wl_eff ha82 rfl rfl rfl (op_buildSlice (s := shI64) (xs := [(q65 : Int), ((q76 : Int) - (40 : Int)), (0 : Int), (1000000000001 : Int)]) (cs := [.int .i64 (q65 : Int), .int .i64 ((q76 : Int) - (40 : Int)), .int .i64 (0 : Int), .int .i64 (1000000000001 : Int)]) (vs := [(0, .int .i64 (q65 : Int)), (1, .int .i64 ((q76 : Int) - (40 : Int))), (2, .int .i64 (0 : Int)), (3, .int .i64 (1000000000001 : Int))]) (S := fun _ => False) (le := w73.heap.size) ha82 rfl pos_shI64 Try.underlying41 ti2 rfl rfl (by decide) (by kernel_rfl) ⟨mk_shI64 ((q65 : Int)) (by first | omega | simp), mk_shI64 (((q76 : Int) - (40 : Int))) (by first | omega | simp), mk_shI64 ((0 : Int)) (by first | omega | simp), mk_shI64 ((1000000000001 : Int)) (by first | omega | simp), rfl⟩ (fun _ h => h.elim)) ?_
 rintro v83 w84 ⟨ho85, he86, hob87⟩ a88 ha88; clear ha82 a82
 have hx89 := hx81.trans' he86
 have hzhx89 := he86.size
 replace hb4 := hb4.ext he86
 replace ho35 := ho35.ext he86
 replace ho37 := ho37.ext he86
 replace hN39 := hN39.ext he86
 replace hb55 := hb55.ext he86
 replace hS75 := hS75.ext he86
 refine wl_callS ha88 rfl rfl rfl (op_call ha88 rfl cb90 rfl) (c_spec_l01Pick _ g15 w0.heap.size v83 ([(q65 : Int), ((q76 : Int) - (40 : Int)), (0 : Int), (1000000000001 : Int)]) hS75 (ho85.rds pos_shI64) (by rintro ⟨_, _⟩; omega) (by first | assumption | omega | (simp; done) | (simp; omega))) ?_
 rintro v90 w91 he92 ⟨hS93, ⟨q94, hq95, rfl⟩⟩ a96 ha96; clear ha88 a88
 have hx97 := hx89.stp he92 (by intro q hq; cases hq; exact (by omega))
 have hzhx97 := he92.size
 replace hb4 := hb4.stp he92 (by intro q hq; cases hq; omega)
 first | replace ho35 := ho35.stp he92 (by intro q hq; cases hq; omega) | replace ho35 := ho35.stpF flat_shStr he92 (by intro q hq; cases hq; exact ho35.ne_box (by assumption) rfl)
 first | replace ho37 := ho37.stp he92 (by intro q hq; cases hq; omega) | replace ho37 := ho37.stpF flat_shRowN he92 (by intro q hq; cases hq; exact ho37.ne_box (by assumption) rfl)
 first | replace hN39 := hN39.stp he92 (by intro q hq; cases hq; omega) | replace hN39 := hN39.stpB flat_shI64 he92 (by assumption) rfl
 replace hb55 := hb55.stp he92 (by intro q hq; cases hq; omega)
 first | replace ho85 := ho85.stp he92 (by intro q hq; cases hq; omega) | replace ho85 := ho85.stpF flat_shI64 he92 (by intro q hq; cases hq; exact ho85.ne_box (by assumption) rfl)
 clear hS75
 have hSlhS93 := hS93.lt
 simp only [List.mem_cons, List.not_mem_nil, or_false] at hq95
 refine wl_val ha96 rfl rfl rfl (op_assign ha96 rfl rfl) ?_
 intro a98 ha98; clear ha96 a96
 refine wpList_nil ?_
 refine then_n ?_
 refine wp_seq ?_
 clear ho85
 refine dr_enter (fun wa_ wb_ => StpL wa_ wb_ (fun i => i = w0.heap.size ∨ i = g15)) follows_mixed ?_
 intro w99 he100
 have hx101 := hx97.trans' he100
 have hzhx101 := he100.size
 replace hb4 := hb4.ext he100
 replace ho35 := ho35.ext he100
 replace ho37 := ho37.ext he100
 replace hN39 := hN39.ext he100
 replace hb55 := hb55.ext he100
 replace hS93 := hS93.ext he100
 have hs102 : Ext w99 w99 := Ext.rfl' _
 refine dr_val (i := 0) ha98 rfl (by kernel_rfl) (by kernel_rfl) (by kernel_rfl) rfl rfl rfl (StpL.of_ext hs102) (fun w' hw' => op_loadS ha98 rfl Try.underlying28 ti28 rfl rfl (hb55.stpL hw' (by rintro (q | q) <;> first | omega)).cells) ?_
 intro a103 ha103; clear ha98 a98
 refine dr_val (i := 1) ha103 rfl (by kernel_rfl) (by kernel_rfl) (by kernel_rfl) rfl rfl rfl (StpL.of_ext hs102) (fun w' hw' => op_move ha103 rfl rfl) ?_
 intro a104 ha104; clear ha103 a103
 refine dr_val (i := 2) ha104 rfl (by kernel_rfl) (by kernel_rfl) (by kernel_rfl) rfl rfl rfl (StpL.of_ext hs102) (fun w' hw' => op_move ha104 rfl rfl) ?_
 intro a105 ha105; clear ha104 a104
 refine dr_val (i := 3) ha105 rfl (by kernel_rfl) (by kernel_rfl) (by kernel_rfl) rfl rfl rfl (StpL.of_ext hs102) (fun w' hw' => op_move ha105 rfl rfl) ?_
 intro a106 ha106; clear ha105 a105
 refine dr_val (i := 4) ha106 rfl (by kernel_rfl) (by kernel_rfl) (by kernel_rfl) rfl rfl rfl (StpL.of_ext hs102) (fun w' hw' => op_move ha106 rfl rfl) ?_
 intro a107 ha107; clear ha106 a106
 refine dr_val (i := 5) ha107 rfl (by kernel_rfl) (by kernel_rfl) (by kernel_rfl) rfl rfl rfl (StpL.of_ext hs102) (fun w' hw' => op_move ha107 rfl rfl) ?_
 intro a108 ha108; clear ha107 a107
 refine dr_one (i := 6) (by kernel_rfl) ?_
 replace hb4 := hb4.ext hs102
 replace ho35 := ho35.ext hs102
 replace ho37 := ho37.ext hs102
 replace hN39 := hN39.ext hs102
 replace hb55 := hb55.ext hs102
 replace hS93 := hS93.ext hs102
 refine po_callS ha108 rfl rfl rfl rfl (op_call ha108 rfl cb81 rfl) (c_spec_l01Next _ g15 w0.heap.size (60 : Int) hS93) ?_
 rintro v109 w110 he111 ⟨hS112, ⟨q113, hq114, hq115, hq116, rfl⟩⟩ a117 ha117; clear ha108 a108
 have hx118 := hx101.stp he111 (by intro q hq; cases hq; exact (by omega))
 have hzhx118 := he111.size
 replace hb4 := hb4.stp he111 (by intro q hq; cases hq; omega)
 first | replace ho35 := ho35.stp he111 (by intro q hq; cases hq; omega) | replace ho35 := ho35.stpF flat_shStr he111 (by intro q hq; cases hq; exact ho35.ne_box (by assumption) rfl)
 first | replace ho37 := ho37.stp he111 (by intro q hq; cases hq; omega) | replace ho37 := ho37.stpF flat_shRowN he111 (by intro q hq; cases hq; exact ho37.ne_box (by assumption) rfl)
 first | replace hN39 := hN39.stp he111 (by intro q hq; cases hq; omega) | replace hN39 := hN39.stpB flat_shI64 he111 (by assumption) rfl
 replace hb55 := hb55.stp he111 (by intro q hq; cases hq; omega)
 clear hS93
 have hSlhS112 := hS112.lt
 have hs119 := (StpL.of_ext (B := fun i => i = w0.heap.size ∨ i = g15) hs102).trans' (Stp.toL he111 (by intro q hq; cases hq; exact Or.inr (rfl)))
 refine ⟨hs119, ?_⟩
 refine dr_one (i := 7) (by kernel_rfl) ?_
 refine po_eff ha117 rfl rfl rfl rfl (op_buildSlice (s := shI64) (xs := [(q113 : Int), (0 : Int), (1 : Int), (-1 : Int)]) (cs := [.int .i64 (q113 : Int), .int .i64 (0 : Int), .int .i64 (1 : Int), .int .i64 (-1 : Int)]) (vs := [(0, .int .i64 (q113 : Int)), (1, .int .i64 (0 : Int)), (2, .int .i64 (1 : Int)), (3, .int .i64 (-1 : Int))]) (S := fun _ => False) (le := w110.heap.size) ha117 rfl pos_shI64 Try.underlying41 ti2 rfl rfl (by decide) (by kernel_rfl) ⟨mk_shI64 ((q113 : Int)) (by first | omega | simp), mk_shI64 ((0 : Int)) (by first | omega | simp), mk_shI64 ((1 : Int)) (by first | omega | simp), mk_shI64 ((-1 : Int)) (by first | omega | simp), rfl⟩ (fun _ h => h.elim)) ?_
 rintro v120 w121 ⟨ho122, he123, hob124⟩ a125 ha125; clear ha117 a117
 have hs126 := hs119.trans' (StpL.of_ext he123)
 have hx127 := hx118.trans' he123
 have hzhx127 := he123.size
 replace hb4 := hb4.ext he123
 replace ho35 := ho35.ext he123
 replace ho37 := ho37.ext he123
 replace hN39 := hN39.ext he123
 replace hb55 := hb55.ext he123
 replace hS112 := hS112.ext he123
 refine ⟨hs126, ?_⟩
 refine dr_one (i := 8) (by kernel_rfl) ?_
 refine po_callS ha125 rfl rfl rfl rfl (op_call ha125 rfl cb90 rfl) (c_spec_l01Pick _ g15 w0.heap.size v120 ([(q113 : Int), (0 : Int), (1 : Int), (-1 : Int)]) hS112 (ho122.rds pos_shI64) (by rintro ⟨_, _⟩; omega) (by first | assumption | omega | (simp; done) | (simp; omega))) ?_
 rintro v128 w129 he130 ⟨hS131, ⟨q132, hq133, rfl⟩⟩ a134 ha134; clear ha125 a125
 have hx135 := hx127.stp he130 (by intro q hq; cases hq; exact (by omega))
 have hzhx135 := he130.size
 replace hb4 := hb4.stp he130 (by intro q hq; cases hq; omega)
 first | replace ho35 := ho35.stp he130 (by intro q hq; cases hq; omega) | replace ho35 := ho35.stpF flat_shStr he130 (by intro q hq; cases hq; exact ho35.ne_box (by assumption) rfl)
 first | replace ho37 := ho37.stp he130 (by intro q hq; cases hq; omega) | replace ho37 := ho37.stpF flat_shRowN he130 (by intro q hq; cases hq; exact ho37.ne_box (by assumption) rfl)
 first | replace hN39 := hN39.stp he130 (by intro q hq; cases hq; omega) | replace hN39 := hN39.stpB flat_shI64 he130 (by assumption) rfl
 replace hb55 := hb55.stp he130 (by intro q hq; cases hq; omega)
 first | replace ho122 := ho122.stp he130 (by intro q hq; cases hq; omega) | replace ho122 := ho122.stpF flat_shI64 he130 (by intro q hq; cases hq; exact ho122.ne_box (by assumption) rfl)
 clear hS112
 have hSlhS131 := hS131.lt
 have hs136 := hs126.trans' (Stp.toL he130 (by intro q hq; cases hq; exact Or.inr (rfl)))
 refine ⟨hs136, ?_⟩
 simp only [List.mem_cons, List.not_mem_nil, or_false] at hq133
 refine dr_val (i := 9) ha134 rfl (by kernel_rfl) (by kernel_rfl) (by kernel_rfl) rfl rfl rfl hs136 (fun w' hw' => (op_add ha134 rfl rfl rfl).int (IntWalk.i64_in _ (by omega))) ?_
 intro a137 ha137; clear ha134 a134
 refine dr_one (i := 10) (by kernel_rfl) ?_
 refine po_effS ha137 rfl rfl rfl (op_storeAll' ha137 rfl ti28 rfl rfl hb4 rfl rfl (by intro u hu; have hu : u ∈ ([u34, u36] : List Value) := hu; simp only [List.mem_cons, List.mem_nil_iff, or_false] at hu; rcases hu with rfl | rfl <;> first | rfl | exact ho35.one | exact ho37.one) rfl) ?_
 rintro w138 ⟨hb140, hst139, hz141⟩
 have hx142 := hx135.stp hst139 (by intro q hq; cases hq; exact (by omega))
 have hzhx142 := hst139.size
 replace ho35 := ho35.stp hst139 (by intro q hq; cases hq; omega)
 replace ho37 := ho37.stp hst139 (by intro q hq; cases hq; omega)
 replace hN39 := hN39.stp hst139 (by intro q hq; cases hq; omega)
 replace hb55 := hb55.stp hst139 (by intro q hq; cases hq; omega)
 replace ho122 := ho122.stp hst139 (by intro q hq; cases hq; omega)
 replace hS131 := hS131.stp hst139 (by intro q hq; cases hq; omega)
 clear hb4
 have hs143 := hs136.trans' (Stp.toL hst139 (by intro q hq; cases hq; exact Or.inl rfl))
 refine ⟨hs143, ?_⟩
 refine dr_val (i := 11) ha137 rfl (by kernel_rfl) (by kernel_rfl) (by kernel_rfl) rfl rfl rfl hs143 (fun w' hw' => op_assign ha137 rfl rfl) ?_
 intro a144 ha144; clear ha137 a137
 refine dr_val (i := 12) ha144 rfl (by kernel_rfl) (by kernel_rfl) (by kernel_rfl) rfl rfl rfl hs143 (fun w' hw' => op_assign ha144 rfl rfl) ?_
 intro a145 ha145; clear ha144 a144
 refine dr_val (i := 13) ha145 rfl (by kernel_rfl) (by kernel_rfl) (by kernel_rfl) rfl rfl rfl hs143 (fun w' hw' => op_assign ha145 rfl rfl) ?_
 intro a146 ha146; clear ha145 a145
 refine dr_end (by kernel_rfl) ?_
 refine then_n ?_
 refine wp_ret ?_
 refine ret_cttt ha146 rfl rfl Try.underlying28 ti28 rfl hb140.cells rfl rfl rfl ?_
 clear ha146 a146
 refine ret_mk hx142 ?_
 refine ⟨((((q26).1), ((q26).2)) : Tab), (q27 : Int), (q94 : Int), ((q94 : Int) + (q132 : Int)), ?_⟩
 refine ⟨u34, u36, z38, (tup4_eq (by rfl) (int_eq (by rfl)) (int_eq (by rfl)) (int_eq (by rfl))), ?_, ho37.fin (by omega) (by omega) (by omega), hN39.fin (by omega) (by omega), ?_⟩
 ·
  refine (ho35.fin (by omega) (by omega) (by omega)).cast ?_
  rfl
 ·
  exact hE40


end Go.Proofs.Ytjpldgicibnkcaa
