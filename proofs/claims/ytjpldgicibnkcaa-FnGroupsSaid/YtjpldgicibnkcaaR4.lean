/- Two tables drawn. -/
import Derived.Test.YtjpldgicibnkcaaR2
namespace Go.Proofs.Ytjpldgicibnkcaa
open Go Go.RowKit

set_option maxHeartbeats 4000000 in
theorem c_spec_DrawJoinTables (w0 : World) (v_code : Value) (code : List UInt8) {S_code : Nat → Prop} (h_code : Rds shU8 S_code w0 v_code code) :
  Calls Try.prog 41 #[v_code] w0 (Ret w0 (fun v w1 => ∃ (a : Tab) (b : Tab), (fun v w1 => ∃ r0_0 r0_1 z0_1 r1_0 r1_1 z1_1, v = .tuple #[.agg #[r0_0, r0_1], .agg #[r1_0, r1_1]] ∧ Own shStr 9 w0.heap.size w0.heap.size w1.heap.size w1 r0_0 ((a).1) ∧ Own shRowN 41 w0.heap.size w0.heap.size w1.heap.size w1 r0_1 z0_1 ∧ Nst shI64 2 (fun x : List Int => x) w0.heap.size w1.heap.size w1 z0_1 ∧ z0_1.map (·.1) = ((a).2) ∧ Own shStr 9 w0.heap.size w0.heap.size w1.heap.size w1 r1_0 ((b).1) ∧ Own shRowN 41 w0.heap.size w0.heap.size w1.heap.size w1 r1_1 z1_1 ∧ Nst shI64 2 (fun x : List Int => x) w0.heap.size w1.heap.size w1 z1_1 ∧ z1_1.map (·.1) = ((b).2)) v w1)) := by
 refine enter (N := 53) Try.func41 rfl rfl rfl ?_
 intro a0 ha0
 have hx0 := Ext.rfl' w0
 have hl_code := h_code.length_le
 refine wp_seq ?_
 refine wp_region_lit ?_
 refine wl_eff ha0 rfl rfl rfl (op_alloc' rfl ti28 rfl) ?_
 rintro _ w2 ⟨rfl, he3, hb4, hz5⟩ a6 ha6; clear ha0 a0
 have hx7 := hx0.trans' he3
 have hzhx7 := he3.size
 refine wl_eff ha6 rfl rfl rfl (op_alloc' rfl ti28 rfl) ?_
 rintro _ w9 ⟨rfl, he10, hb11, hz12⟩ a13 ha13; clear ha6 a6
 have hx14 := hx7.trans' he10
 have hzhx14 := he10.size
 replace hb4 := hb4.ext he10
 refine wpList_nil ?_
 refine then_n ?_
 refine wp_seq ?_
 refine wp_region_lit ?_
 refine wl_val ha13 rfl rfl rfl (op_move ha13 rfl rfl) ?_
 intro a15 ha15; clear ha13 a13
 refine wl_callR ha15 rfl rfl rfl (op_call ha15 rfl cb79 rfl) (c_spec_l01From _ v_code code (h_code.low pos_shU8 hx14 (Nat.le_refl _)) (by omega)) ?_
 rintro v16 w17 he18 ⟨g19, rfl, hg20, hS21⟩ a22 ha22; clear ha15 a15
 have hx23 := hx14.trans' he18
 have hzhx23 := he18.size
 replace hb4 := hb4.ext he18
 replace hb11 := hb11.ext he18
 have hSlhS21 := hS21.lt
 refine wl_val ha22 rfl rfl rfl (op_assign ha22 rfl rfl) ?_
 intro a24 ha24; clear ha22 a22
 refine wpList_nil ?_
 refine then_n ?_
 refine wp_seq ?_
 refine wp_region_lit ?_
 refine wl_val ha24 rfl rfl rfl (op_move ha24 rfl rfl) ?_
 intro a25 ha25; clear ha24 a24
 refine wl_callS ha25 rfl rfl rfl (op_call ha25 rfl cb82 rfl) (c_spec_l31Draw _ g19 w0.heap.size hS21) ?_
 rintro v26 w27 he28 ⟨hS29, ⟨q30, hq31, hq32, hq33, hq34, ⟨u35, u37, z39, rfl, ho36, ho38, hN40, hE41⟩⟩⟩ a42 ha42; clear ha25 a25
 have hx43 := hx23.stp he28 (by intro q hq; cases hq; exact (by omega))
 have hzhx43 := he28.size
 replace hb4 := hb4.stp he28 (by intro q hq; cases hq; omega)
 replace hb11 := hb11.stp he28 (by intro q hq; cases hq; omega)
 clear hS21
 have hSlhS29 := hS29.lt
 have hlhE41 := absLen hE41
 refine wl_eff ha42 rfl rfl rfl (op_alloc' rfl ti28 rfl) ?_
 rintro _ w45 ⟨rfl, he46, hb47, hz48⟩ a49 ha49; clear ha42 a42
 have hx50 := hx43.trans' he46
 have hzhx50 := he46.size
 replace hb4 := hb4.ext he46
 replace hb11 := hb11.ext he46
 replace hS29 := hS29.ext he46
 replace ho36 := ho36.ext he46
 replace ho38 := ho38.ext he46
 replace hN40 := hN40.ext he46
 refine wl_effS ha49 rfl rfl (op_storeAll' ha49 rfl ti28 rfl rfl hb47 rfl rfl (by intro u hu; have hu : u ∈ ([u35, u37] : List Value) := hu; simp only [List.mem_cons, List.mem_nil_iff, or_false] at hu; rcases hu with rfl | rfl <;> first | rfl | exact ho36.one | exact ho38.one) rfl) ?_
 rintro w51 ⟨hb53, hst52, hz54⟩
 have hx55 := hx50.stp hst52 (by intro q hq; cases hq; exact (by omega))
 have hzhx55 := hst52.size
 replace hb4 := hb4.stp hst52 (by intro q hq; cases hq; omega)
 replace hb11 := hb11.stp hst52 (by intro q hq; cases hq; omega)
 replace hS29 := hS29.stp hst52 (by intro q hq; cases hq; omega)
 replace ho36 := ho36.stp hst52 (by intro q hq; cases hq; omega)
 replace ho38 := ho38.stp hst52 (by intro q hq; cases hq; omega)
 replace hN40 := hN40.stp hst52 (by intro q hq; cases hq; omega)
 clear hb47
 refine wpList_nil ?_
 refine then_n ?_
 refine wp_seq ?_
 refine wp_region_lit ?_
 refine wl_val ha49 rfl rfl rfl (op_move ha49 rfl rfl) ?_
 intro a56 ha56; clear ha49 a49
 refine wl_eff ha56 rfl rfl rfl (op_buildSlice (s := shStr) (xs := [([100, 97, 121] : Str), ([114, 97, 105, 110] : Str), ([119, 105, 110, 100] : Str)]) (cs := [St (([100, 97, 121] : Str)), St (([114, 97, 105, 110] : Str)), St (([119, 105, 110, 100] : Str))]) (vs := [(0, St (([100, 97, 121] : Str))), (1, St (([114, 97, 105, 110] : Str))), (2, St (([119, 105, 110, 100] : Str)))]) (S := fun _ => False) (le := w51.heap.size) ha56 rfl pos_shStr Try.underlying22 ti9 rfl rfl (by decide) (by kernel_rfl) ⟨mk_shStr (([100, 97, 121] : Str)) (by first | assumption | omega | (simp; done) | (simp; omega)), mk_shStr (([114, 97, 105, 110] : Str)) (by first | assumption | omega | (simp; done) | (simp; omega)), mk_shStr (([119, 105, 110, 100] : Str)) (by first | assumption | omega | (simp; done) | (simp; omega)), rfl⟩ (fun _ h => h.elim)) ?_
 rintro v57 w58 ⟨ho59, he60, hob61⟩ a62 ha62; clear ha56 a56
 have hx63 := hx55.trans' he60
 have hzhx63 := he60.size
 replace hb4 := hb4.ext he60
 replace hb11 := hb11.ext he60
 replace hS29 := hS29.ext he60
 replace ho36 := ho36.ext he60
 replace ho38 := ho38.ext he60
 replace hN40 := hN40.ext he60
 replace hb53 := hb53.ext he60
 refine wl_callS ha62 rfl rfl rfl (op_call ha62 rfl cb83 rfl) (c_spec_l31Good _ g19 w0.heap.size v57 ([([100, 97, 121] : Str), ([114, 97, 105, 110] : Str), ([119, 105, 110, 100] : Str)]) hS29 (ho59.rds pos_shStr) (by rintro ⟨_, _⟩; omega) (by first | assumption | omega | (simp; done) | (simp; omega)) (by first | assumption | omega | (simp; done) | (simp; omega))) ?_
 rintro v64 w65 he66 ⟨hS67, ⟨q68, hq69, hq70, hq71, hq72, hq73, ⟨u74, u76, z78, rfl, ho75, ho77, hN79, hE80⟩⟩⟩ a81 ha81; clear ha62 a62
 have hx82 := hx63.stp he66 (by intro q hq; cases hq; exact (by omega))
 have hzhx82 := he66.size
 replace hb4 := hb4.stp he66 (by intro q hq; cases hq; omega)
 replace hb11 := hb11.stp he66 (by intro q hq; cases hq; omega)
 replace ho36 : Own shStr 9 w17.heap.size w17.heap.size w27.heap.size w65 u35 (((q30).1)) := by first | exact ho36.stp he66 (by intro q hq; cases hq; omega) | exact ho36.stpF flat_shStr he66 (by intro q hq; cases hq; exact ho36.ne_box (by assumption) rfl)
 replace ho38 : Own shRowN 41 w17.heap.size w17.heap.size w27.heap.size w65 u37 z39 := by first | exact ho38.stp he66 (by intro q hq; cases hq; omega) | exact ho38.stpF flat_shRowN he66 (by intro q hq; cases hq; exact ho38.ne_box (by assumption) rfl)
 replace hN40 : Nst shI64 2 (fun x : List Int => x) w17.heap.size w27.heap.size w65 z39 := by first | exact hN40.stp he66 (by intro q hq; cases hq; omega) | exact hN40.stpB flat_shI64 he66 (by assumption) rfl
 replace hb53 := hb53.stp he66 (by intro q hq; cases hq; omega)
 replace ho59 : Own shStr 9 w51.heap.size w51.heap.size w58.heap.size w65 v57 ([([100, 97, 121] : Str), ([114, 97, 105, 110] : Str), ([119, 105, 110, 100] : Str)]) := by first | exact ho59.stp he66 (by intro q hq; cases hq; omega) | exact ho59.stpF flat_shStr he66 (by intro q hq; cases hq; exact ho59.ne_box (by assumption) rfl)
 clear hS29
 have hSlhS67 := hS67.lt
 have hlhE80 := absLen hE80
 try simp only [List.length_cons, List.length_nil] at hq70
 refine wl_eff ha81 rfl rfl rfl (op_alloc' rfl ti28 rfl) ?_
 rintro _ w84 ⟨rfl, he85, hb86, hz87⟩ a88 ha88; clear ha81 a81
 have hx89 := hx82.trans' he85
 have hzhx89 := he85.size
 replace hb4 := hb4.ext he85
 replace hb11 := hb11.ext he85
 replace ho36 := ho36.ext he85
 replace ho38 := ho38.ext he85
 replace hN40 := hN40.ext he85
 replace hb53 := hb53.ext he85
 replace ho59 := ho59.ext he85
 replace hS67 := hS67.ext he85
 replace ho75 := ho75.ext he85
 replace ho77 := ho77.ext he85
 replace hN79 := hN79.ext he85
 refine wl_effS ha88 rfl rfl (op_storeAll' ha88 rfl ti28 rfl rfl hb86 rfl rfl (by intro u hu; have hu : u ∈ ([u74, u76] : List Value) := hu; simp only [List.mem_cons, List.mem_nil_iff, or_false] at hu; rcases hu with rfl | rfl <;> first | rfl | exact ho75.one | exact ho77.one) rfl) ?_
 rintro w90 ⟨hb92, hst91, hz93⟩
 have hx94 := hx89.stp hst91 (by intro q hq; cases hq; exact (by omega))
 have hzhx94 := hst91.size
 replace hb4 := hb4.stp hst91 (by intro q hq; cases hq; omega)
 replace hb11 := hb11.stp hst91 (by intro q hq; cases hq; omega)
 replace ho36 := ho36.stp hst91 (by intro q hq; cases hq; omega)
 replace ho38 := ho38.stp hst91 (by intro q hq; cases hq; omega)
 replace hN40 := hN40.stp hst91 (by intro q hq; cases hq; omega)
 replace hb53 := hb53.stp hst91 (by intro q hq; cases hq; omega)
 replace ho59 := ho59.stp hst91 (by intro q hq; cases hq; omega)
 replace hS67 := hS67.stp hst91 (by intro q hq; cases hq; omega)
 replace ho75 := ho75.stp hst91 (by intro q hq; cases hq; omega)
 replace ho77 := ho77.stp hst91 (by intro q hq; cases hq; omega)
 replace hN79 := hN79.stp hst91 (by intro q hq; cases hq; omega)
 clear hb86
 refine wpList_nil ?_
 refine then_n ?_
 refine wp_seq ?_
 refine wp_seq ?_
 clear ho59
 refine wp_region_lit ?_
 refine wl_val ha88 rfl rfl rfl (op_move ha88 rfl rfl) ?_
 intro a95 ha95; clear ha88 a88
 refine wl_callS ha95 rfl rfl rfl (op_call ha95 rfl cb81 rfl) (c_spec_l01Next _ g19 w0.heap.size (12 : Int) hS67) ?_
 rintro v96 w97 he98 ⟨hS99, ⟨q100, hq101, hq102, hq103, rfl⟩⟩ a104 ha104; clear ha95 a95
 have hx105 := hx94.stp he98 (by intro q hq; cases hq; exact (by omega))
 have hzhx105 := he98.size
 replace hb4 := hb4.stp he98 (by intro q hq; cases hq; omega)
 replace hb11 := hb11.stp he98 (by intro q hq; cases hq; omega)
 replace ho36 : Own shStr 9 w17.heap.size w17.heap.size w27.heap.size w97 u35 (((q30).1)) := by first | exact ho36.stp he98 (by intro q hq; cases hq; omega) | exact ho36.stpF flat_shStr he98 (by intro q hq; cases hq; exact ho36.ne_box (by assumption) rfl)
 replace ho38 : Own shRowN 41 w17.heap.size w17.heap.size w27.heap.size w97 u37 z39 := by first | exact ho38.stp he98 (by intro q hq; cases hq; omega) | exact ho38.stpF flat_shRowN he98 (by intro q hq; cases hq; exact ho38.ne_box (by assumption) rfl)
 replace hN40 : Nst shI64 2 (fun x : List Int => x) w17.heap.size w27.heap.size w97 z39 := by first | exact hN40.stp he98 (by intro q hq; cases hq; omega) | exact hN40.stpB flat_shI64 he98 (by assumption) rfl
 replace hb53 := hb53.stp he98 (by intro q hq; cases hq; omega)
 replace ho75 : Own shStr 9 w58.heap.size w58.heap.size w65.heap.size w97 u74 (((q68).1)) := by first | exact ho75.stp he98 (by intro q hq; cases hq; omega) | exact ho75.stpF flat_shStr he98 (by intro q hq; cases hq; exact ho75.ne_box (by assumption) rfl)
 replace ho77 : Own shRowN 41 w58.heap.size w58.heap.size w65.heap.size w97 u76 z78 := by first | exact ho77.stp he98 (by intro q hq; cases hq; omega) | exact ho77.stpF flat_shRowN he98 (by intro q hq; cases hq; exact ho77.ne_box (by assumption) rfl)
 replace hN79 : Nst shI64 2 (fun x : List Int => x) w58.heap.size w65.heap.size w97 z78 := by first | exact hN79.stp he98 (by intro q hq; cases hq; omega) | exact hN79.stpB flat_shI64 he98 (by assumption) rfl
 replace hb92 := hb92.stp he98 (by intro q hq; cases hq; omega)
 clear hS67
 have hSlhS99 := hS99.lt
 refine wpList_nil ?_
 refine then_n ?_
 refine wp_block ?_
 refine wp_seq ?_
 refine wp_region_lit ?_
 refine wl_val ha104 rfl rfl rfl (op_eql ha104 rfl rfl rfl) ?_
 intro a106 ha106; clear ha104 a104
 refine wl_val ha106 rfl rfl rfl (op_assign ha106 rfl rfl) ?_
 intro a107 ha107; clear ha106 a106
 refine wpList_nil ?_
 refine then_n ?_
 by_cases c108 : (q100 : Int) = (0 : Int)
 ·
  rw [decide_eq_true c108] at ha107
  refine cond_t ha107 rfl ?_
  refine wp_region_lit ?_
  refine wl_val ha107 rfl rfl rfl (op_move ha107 rfl rfl) ?_
  intro a109 ha109; clear ha107 a107
  refine wl_callS ha109 rfl rfl rfl (op_call ha109 rfl cb82 rfl) (c_spec_l31Draw _ g19 w0.heap.size hS99) ?_
  rintro v110 w111 he112 ⟨hS113, ⟨q114, hq115, hq116, hq117, hq118, ⟨u119, u121, z123, rfl, ho120, ho122, hN124, hE125⟩⟩⟩ a126 ha126; clear ha109 a109
  have hx127 := hx105.stp he112 (by intro q hq; cases hq; exact (by omega))
  have hzhx127 := he112.size
  replace hb4 := hb4.stp he112 (by intro q hq; cases hq; omega)
  replace hb11 := hb11.stp he112 (by intro q hq; cases hq; omega)
  replace ho36 : Own shStr 9 w17.heap.size w17.heap.size w27.heap.size w111 u35 (((q30).1)) := by first | exact ho36.stp he112 (by intro q hq; cases hq; omega) | exact ho36.stpF flat_shStr he112 (by intro q hq; cases hq; exact ho36.ne_box (by assumption) rfl)
  replace ho38 : Own shRowN 41 w17.heap.size w17.heap.size w27.heap.size w111 u37 z39 := by first | exact ho38.stp he112 (by intro q hq; cases hq; omega) | exact ho38.stpF flat_shRowN he112 (by intro q hq; cases hq; exact ho38.ne_box (by assumption) rfl)
  replace hN40 : Nst shI64 2 (fun x : List Int => x) w17.heap.size w27.heap.size w111 z39 := by first | exact hN40.stp he112 (by intro q hq; cases hq; omega) | exact hN40.stpB flat_shI64 he112 (by assumption) rfl
  replace hb53 := hb53.stp he112 (by intro q hq; cases hq; omega)
  replace ho75 : Own shStr 9 w58.heap.size w58.heap.size w65.heap.size w111 u74 (((q68).1)) := by first | exact ho75.stp he112 (by intro q hq; cases hq; omega) | exact ho75.stpF flat_shStr he112 (by intro q hq; cases hq; exact ho75.ne_box (by assumption) rfl)
  replace ho77 : Own shRowN 41 w58.heap.size w58.heap.size w65.heap.size w111 u76 z78 := by first | exact ho77.stp he112 (by intro q hq; cases hq; omega) | exact ho77.stpF flat_shRowN he112 (by intro q hq; cases hq; exact ho77.ne_box (by assumption) rfl)
  replace hN79 : Nst shI64 2 (fun x : List Int => x) w58.heap.size w65.heap.size w111 z78 := by first | exact hN79.stp he112 (by intro q hq; cases hq; omega) | exact hN79.stpB flat_shI64 he112 (by assumption) rfl
  replace hb92 := hb92.stp he112 (by intro q hq; cases hq; omega)
  clear hS99
  have hSlhS113 := hS113.lt
  have hlhE125 := absLen hE125
  refine wl_effS ha126 rfl rfl (op_storeAll' ha126 rfl ti28 rfl rfl hb92 rfl rfl (by intro u hu; have hu : u ∈ ([u119, u121] : List Value) := hu; simp only [List.mem_cons, List.mem_nil_iff, or_false] at hu; rcases hu with rfl | rfl <;> first | rfl | exact ho120.one | exact ho122.one) rfl) ?_
  rintro w128 ⟨hb130, hst129, hz131⟩
  have hx132 := hx127.stp hst129 (by intro q hq; cases hq; exact (by omega))
  have hzhx132 := hst129.size
  replace hb4 := hb4.stp hst129 (by intro q hq; cases hq; omega)
  replace hb11 := hb11.stp hst129 (by intro q hq; cases hq; omega)
  replace ho36 := ho36.stp hst129 (by intro q hq; cases hq; omega)
  replace ho38 := ho38.stp hst129 (by intro q hq; cases hq; omega)
  replace hN40 := hN40.stp hst129 (by intro q hq; cases hq; omega)
  replace hb53 := hb53.stp hst129 (by intro q hq; cases hq; omega)
  replace ho75 := ho75.stp hst129 (by intro q hq; cases hq; omega)
  replace ho77 := ho77.stp hst129 (by intro q hq; cases hq; omega)
  replace hN79 := hN79.stp hst129 (by intro q hq; cases hq; omega)
  replace hS113 := hS113.stp hst129 (by intro q hq; cases hq; omega)
  replace ho120 := ho120.stp hst129 (by intro q hq; cases hq; omega)
  replace ho122 := ho122.stp hst129 (by intro q hq; cases hq; omega)
  replace hN124 := hN124.stp hst129 (by intro q hq; cases hq; omega)
  clear hb92
  refine wpList_nil ?_
  refine block_n ?_
  refine then_n ?_
  refine wp_seq ?_
  clear ho75 ho77 hN79 hS113
  refine dr_enter (fun wa_ wb_ => StpL wa_ wb_ (fun i => i = w0.heap.size ∨ i = w2.heap.size)) follows_mixed ?_
  intro w133 he134
  have hx135 := hx132.trans' he134
  have hzhx135 := he134.size
  replace hb4 := hb4.ext he134
  replace hb11 := hb11.ext he134
  replace ho36 := ho36.ext he134
  replace ho38 := ho38.ext he134
  replace hN40 := hN40.ext he134
  replace hb53 := hb53.ext he134
  replace ho120 := ho120.ext he134
  replace ho122 := ho122.ext he134
  replace hN124 := hN124.ext he134
  replace hb130 := hb130.ext he134
  have hs136 : Ext w133 w133 := Ext.rfl' _
  refine dr_val (i := 0) ha126 rfl (by kernel_rfl) (by kernel_rfl) (by kernel_rfl) rfl rfl rfl (StpL.of_ext hs136) (fun w' hw' => op_loadS ha126 rfl Try.underlying28 ti28 rfl rfl (hb53.stpL hw' (by rintro (q | q) <;> first | omega)).cells) ?_
  intro a137 ha137; clear ha126 a126
  refine dr_val (i := 1) ha137 rfl (by kernel_rfl) (by kernel_rfl) (by kernel_rfl) rfl rfl rfl (StpL.of_ext hs136) (fun w' hw' => op_loadS ha137 rfl Try.underlying28 ti28 rfl rfl (hb130.stpL hw' (by rintro (q | q) <;> first | omega)).cells) ?_
  intro a138 ha138; clear ha137 a137
  refine dr_one (i := 2) (by kernel_rfl) ?_
  replace hb4 := hb4.ext hs136
  replace hb11 := hb11.ext hs136
  replace ho36 := ho36.ext hs136
  replace ho38 := ho38.ext hs136
  replace hN40 := hN40.ext hs136
  replace hb53 := hb53.ext hs136
  replace ho120 := ho120.ext hs136
  replace ho122 := ho122.ext hs136
  replace hN124 := hN124.ext hs136
  replace hb130 := hb130.ext hs136
  refine po_effS ha138 rfl rfl rfl (op_storeAll' ha138 rfl ti28 rfl rfl hb4 rfl rfl (by intro u hu; have hu : u ∈ ([u35, u37] : List Value) := hu; simp only [List.mem_cons, List.mem_nil_iff, or_false] at hu; rcases hu with rfl | rfl <;> first | rfl | exact ho36.one | exact ho38.one) rfl) ?_
  rintro w139 ⟨hb141, hst140, hz142⟩
  have hx143 := hx135.stp hst140 (by intro q hq; cases hq; exact (by omega))
  have hzhx143 := hst140.size
  replace hb11 := hb11.stp hst140 (by intro q hq; cases hq; omega)
  replace ho36 := ho36.stp hst140 (by intro q hq; cases hq; omega)
  replace ho38 := ho38.stp hst140 (by intro q hq; cases hq; omega)
  replace hN40 := hN40.stp hst140 (by intro q hq; cases hq; omega)
  replace hb53 := hb53.stp hst140 (by intro q hq; cases hq; omega)
  replace ho120 := ho120.stp hst140 (by intro q hq; cases hq; omega)
  replace ho122 := ho122.stp hst140 (by intro q hq; cases hq; omega)
  replace hN124 := hN124.stp hst140 (by intro q hq; cases hq; omega)
  replace hb130 := hb130.stp hst140 (by intro q hq; cases hq; omega)
  clear hb4
  have hs144 := (StpL.of_ext (B := fun i => i = w0.heap.size ∨ i = w2.heap.size) hs136).trans' (Stp.toL hst140 (by intro q hq; cases hq; exact Or.inl rfl))
  refine ⟨hs144, ?_⟩
  refine dr_one (i := 3) (by kernel_rfl) ?_
  refine po_effS ha138 rfl rfl rfl (op_storeAll' ha138 rfl ti28 rfl rfl hb11 rfl rfl (by intro u hu; have hu : u ∈ ([u119, u121] : List Value) := hu; simp only [List.mem_cons, List.mem_nil_iff, or_false] at hu; rcases hu with rfl | rfl <;> first | rfl | exact ho120.one | exact ho122.one) rfl) ?_
  rintro w145 ⟨hb147, hst146, hz148⟩
  have hx149 := hx143.stp hst146 (by intro q hq; cases hq; exact (by omega))
  have hzhx149 := hst146.size
  replace ho36 := ho36.stp hst146 (by intro q hq; cases hq; omega)
  replace ho38 := ho38.stp hst146 (by intro q hq; cases hq; omega)
  replace hN40 := hN40.stp hst146 (by intro q hq; cases hq; omega)
  replace hb53 := hb53.stp hst146 (by intro q hq; cases hq; omega)
  replace ho120 := ho120.stp hst146 (by intro q hq; cases hq; omega)
  replace ho122 := ho122.stp hst146 (by intro q hq; cases hq; omega)
  replace hN124 := hN124.stp hst146 (by intro q hq; cases hq; omega)
  replace hb130 := hb130.stp hst146 (by intro q hq; cases hq; omega)
  replace hb141 := hb141.stp hst146 (by intro q hq; cases hq; omega)
  clear hb11
  have hs150 := hs144.trans' (Stp.toL hst146 (by intro q hq; cases hq; exact Or.inr (rfl)))
  refine ⟨hs150, ?_⟩
  refine dr_end (by kernel_rfl) ?_
  refine then_n ?_
  refine wp_ret ?_
  refine ret_cc ha138 rfl rfl Try.underlying28 ti28 rfl hb141.cells rfl Try.underlying28 ti28 rfl hb147.cells ?_
  clear ha138 a138
  refine ret_mk hx149 ?_
  refine ⟨((((q30).1), ((q30).2)) : Tab), ((((q114).1), ((q114).2)) : Tab), ?_⟩
  refine ⟨u35, u37, z39, u119, u121, z123, (tup2_eq (by rfl) (by rfl)), ?_, ho38.fin (by omega) (by omega) (by omega), hN40.fin (by omega) (by omega), ?_, ?_, ho122.fin (by omega) (by omega) (by omega), hN124.fin (by omega) (by omega), ?_⟩
  ·
   refine (ho36.fin (by omega) (by omega) (by omega)).cast ?_
   rfl
  ·
   exact hE41
  ·
   refine (ho120.fin (by omega) (by omega) (by omega)).cast ?_
   rfl
  ·
   exact hE125
 ·
  rw [decide_eq_false c108] at ha107
  refine cond_f ha107 rfl ?_
  refine wp_seq ?_
  clear hS99
  refine wp_region_lit ?_
  refine wl_val ha107 rfl rfl rfl (op_eql ha107 rfl rfl rfl) ?_
  intro a151 ha151; clear ha107 a107
  refine wl_val ha151 rfl rfl rfl (op_assign ha151 rfl rfl) ?_
  intro a152 ha152; clear ha151 a151
  refine wpList_nil ?_
  refine then_n ?_
  by_cases c153 : (q100 : Int) = (1 : Int)
  ·
   rw [decide_eq_true c153] at ha152
   refine cond_t ha152 rfl ?_
   refine wp_region_lit ?_
   refine wl_eff ha152 rfl rfl rfl (op_buildSlice (s := shStr) (xs := [([112] : Str), ([113] : Str), ([114] : Str), ([116] : Str)]) (cs := [St (([112] : Str)), St (([113] : Str)), St (([114] : Str)), St (([116] : Str))]) (vs := [(0, St (([112] : Str))), (1, St (([113] : Str))), (2, St (([114] : Str))), (3, St (([116] : Str)))]) (S := fun _ => False) (le := w97.heap.size) ha152 rfl pos_shStr Try.underlying22 ti9 rfl rfl (by decide) (by kernel_rfl) ⟨mk_shStr (([112] : Str)) (by first | assumption | omega | (simp; done) | (simp; omega)), mk_shStr (([113] : Str)) (by first | assumption | omega | (simp; done) | (simp; omega)), mk_shStr (([114] : Str)) (by first | assumption | omega | (simp; done) | (simp; omega)), mk_shStr (([116] : Str)) (by first | assumption | omega | (simp; done) | (simp; omega)), rfl⟩ (fun _ h => h.elim)) ?_
   rintro v154 w155 ⟨ho156, he157, hob158⟩ a159 ha159; clear ha152 a152
   have hx160 := hx105.trans' he157
   have hzhx160 := he157.size
   replace hb4 := hb4.ext he157
   replace hb11 := hb11.ext he157
   replace ho36 := ho36.ext he157
   replace ho38 := ho38.ext he157
   replace hN40 := hN40.ext he157
   replace hb53 := hb53.ext he157
   replace ho75 := ho75.ext he157
   replace ho77 := ho77.ext he157
   replace hN79 := hN79.ext he157
   replace hb92 := hb92.ext he157
   refine wl_val ha159 rfl rfl rfl (op_fieldAddr (sz := 0) ha159 rfl Try.underlying28 rfl rfl ti23 rfl) ?_
   intro a161 ha161; clear ha159 a159
   refine wl_val ha161 rfl rfl rfl (op_loadF (off := 1) ha161 rfl Try.underlying23 rfl rfl hb92.cells rfl) ?_
   intro a162 ha162; clear ha161 a161
   refine wl_val ha162 rfl rfl rfl (op_build (vs := [(0, v154), (1, u76)]) (cs := #[v154, u76]) ha162 rfl Try.underlying28 ti28 bp28 rfl ((fill_one ho156.cells1 rfl rfl).trans ((fill_one ho77.cells1 rfl rfl).trans rfl))) ?_
   intro a163 ha163; clear ha162 a162
   refine wl_effS ha163 rfl rfl (op_storeAll' ha163 rfl ti28 rfl rfl hb92 rfl rfl (by intro u hu; have hu : u ∈ ([v154, u76] : List Value) := hu; simp only [List.mem_cons, List.mem_nil_iff, or_false] at hu; rcases hu with rfl | rfl <;> first | rfl | exact ho156.one | exact ho77.one) rfl) ?_
   rintro w164 ⟨hb166, hst165, hz167⟩
   have hx168 := hx160.stp hst165 (by intro q hq; cases hq; exact (by omega))
   have hzhx168 := hst165.size
   replace hb4 := hb4.stp hst165 (by intro q hq; cases hq; omega)
   replace hb11 := hb11.stp hst165 (by intro q hq; cases hq; omega)
   replace ho36 := ho36.stp hst165 (by intro q hq; cases hq; omega)
   replace ho38 := ho38.stp hst165 (by intro q hq; cases hq; omega)
   replace hN40 := hN40.stp hst165 (by intro q hq; cases hq; omega)
   replace hb53 := hb53.stp hst165 (by intro q hq; cases hq; omega)
   replace ho75 := ho75.stp hst165 (by intro q hq; cases hq; omega)
   replace ho77 := ho77.stp hst165 (by intro q hq; cases hq; omega)
   replace hN79 := hN79.stp hst165 (by intro q hq; cases hq; omega)
   replace ho156 := ho156.stp hst165 (by intro q hq; cases hq; omega)
   clear hb92
   refine wpList_nil ?_
   refine block_n ?_
   refine then_n ?_
   refine wp_seq ?_
   clear ho75
   refine dr_enter (fun wa_ wb_ => StpL wa_ wb_ (fun i => i = w0.heap.size ∨ i = w2.heap.size)) follows_mixed ?_
   intro w169 he170
   have hx171 := hx168.trans' he170
   have hzhx171 := he170.size
   replace hb4 := hb4.ext he170
   replace hb11 := hb11.ext he170
   replace ho36 := ho36.ext he170
   replace ho38 := ho38.ext he170
   replace hN40 := hN40.ext he170
   replace hb53 := hb53.ext he170
   replace ho77 := ho77.ext he170
   replace hN79 := hN79.ext he170
   replace ho156 := ho156.ext he170
   replace hb166 := hb166.ext he170
   have hs172 : Ext w169 w169 := Ext.rfl' _
   refine dr_val (i := 0) ha163 rfl (by kernel_rfl) (by kernel_rfl) (by kernel_rfl) rfl rfl rfl (StpL.of_ext hs172) (fun w' hw' => op_loadS ha163 rfl Try.underlying28 ti28 rfl rfl (hb53.stpL hw' (by rintro (q | q) <;> first | omega)).cells) ?_
   intro a173 ha173; clear ha163 a163
   refine dr_val (i := 1) ha173 rfl (by kernel_rfl) (by kernel_rfl) (by kernel_rfl) rfl rfl rfl (StpL.of_ext hs172) (fun w' hw' => op_loadS ha173 rfl Try.underlying28 ti28 rfl rfl (hb166.stpL hw' (by rintro (q | q) <;> first | omega)).cells) ?_
   intro a174 ha174; clear ha173 a173
   refine dr_one (i := 2) (by kernel_rfl) ?_
   replace hb4 := hb4.ext hs172
   replace hb11 := hb11.ext hs172
   replace ho36 := ho36.ext hs172
   replace ho38 := ho38.ext hs172
   replace hN40 := hN40.ext hs172
   replace hb53 := hb53.ext hs172
   replace ho77 := ho77.ext hs172
   replace hN79 := hN79.ext hs172
   replace ho156 := ho156.ext hs172
   replace hb166 := hb166.ext hs172
   refine po_effS ha174 rfl rfl rfl (op_storeAll' ha174 rfl ti28 rfl rfl hb4 rfl rfl (by intro u hu; have hu : u ∈ ([u35, u37] : List Value) := hu; simp only [List.mem_cons, List.mem_nil_iff, or_false] at hu; rcases hu with rfl | rfl <;> first | rfl | exact ho36.one | exact ho38.one) rfl) ?_
   rintro w175 ⟨hb177, hst176, hz178⟩
   have hx179 := hx171.stp hst176 (by intro q hq; cases hq; exact (by omega))
   have hzhx179 := hst176.size
   replace hb11 := hb11.stp hst176 (by intro q hq; cases hq; omega)
   replace ho36 := ho36.stp hst176 (by intro q hq; cases hq; omega)
   replace ho38 := ho38.stp hst176 (by intro q hq; cases hq; omega)
   replace hN40 := hN40.stp hst176 (by intro q hq; cases hq; omega)
   replace hb53 := hb53.stp hst176 (by intro q hq; cases hq; omega)
   replace ho77 := ho77.stp hst176 (by intro q hq; cases hq; omega)
   replace hN79 := hN79.stp hst176 (by intro q hq; cases hq; omega)
   replace ho156 := ho156.stp hst176 (by intro q hq; cases hq; omega)
   replace hb166 := hb166.stp hst176 (by intro q hq; cases hq; omega)
   clear hb4
   have hs180 := (StpL.of_ext (B := fun i => i = w0.heap.size ∨ i = w2.heap.size) hs172).trans' (Stp.toL hst176 (by intro q hq; cases hq; exact Or.inl rfl))
   refine ⟨hs180, ?_⟩
   refine dr_one (i := 3) (by kernel_rfl) ?_
   refine po_effS ha174 rfl rfl rfl (op_storeAll' ha174 rfl ti28 rfl rfl hb11 rfl rfl (by intro u hu; have hu : u ∈ ([v154, u76] : List Value) := hu; simp only [List.mem_cons, List.mem_nil_iff, or_false] at hu; rcases hu with rfl | rfl <;> first | rfl | exact ho156.one | exact ho77.one) rfl) ?_
   rintro w181 ⟨hb183, hst182, hz184⟩
   have hx185 := hx179.stp hst182 (by intro q hq; cases hq; exact (by omega))
   have hzhx185 := hst182.size
   replace ho36 := ho36.stp hst182 (by intro q hq; cases hq; omega)
   replace ho38 := ho38.stp hst182 (by intro q hq; cases hq; omega)
   replace hN40 := hN40.stp hst182 (by intro q hq; cases hq; omega)
   replace hb53 := hb53.stp hst182 (by intro q hq; cases hq; omega)
   replace ho77 := ho77.stp hst182 (by intro q hq; cases hq; omega)
   replace hN79 := hN79.stp hst182 (by intro q hq; cases hq; omega)
   replace ho156 := ho156.stp hst182 (by intro q hq; cases hq; omega)
   replace hb166 := hb166.stp hst182 (by intro q hq; cases hq; omega)
   replace hb177 := hb177.stp hst182 (by intro q hq; cases hq; omega)
   clear hb11
   have hs186 := hs180.trans' (Stp.toL hst182 (by intro q hq; cases hq; exact Or.inr (rfl)))
   refine ⟨hs186, ?_⟩
   refine dr_end (by kernel_rfl) ?_
   refine then_n ?_
   refine wp_ret ?_
   refine ret_cc ha174 rfl rfl Try.underlying28 ti28 rfl hb177.cells rfl Try.underlying28 ti28 rfl hb183.cells ?_
   clear ha174 a174
   refine ret_mk hx185 ?_
   refine ⟨((((q30).1), ((q30).2)) : Tab), (([([112] : Str), ([113] : Str), ([114] : Str), ([116] : Str)], ((q68).2)) : Tab), ?_⟩
   refine ⟨u35, u37, z39, v154, u76, z78, (tup2_eq (by rfl) (by rfl)), ?_, ho38.fin (by omega) (by omega) (by omega), hN40.fin (by omega) (by omega), ?_, ?_, ho77.fin (by omega) (by omega) (by omega), hN79.fin (by omega) (by omega), ?_⟩
   ·
    refine (ho36.fin (by omega) (by omega) (by omega)).cast ?_
    rfl
   ·
    exact hE41
   ·
    refine (ho156.fin (by omega) (by omega) (by omega)).cast ?_
    rfl
   ·
    exact hE80
  ·
   rw [decide_eq_false c153] at ha152
   refine cond_f ha152 rfl ?_
   refine wp_seq ?_
   refine wp_region_lit ?_
   refine wl_val ha152 rfl rfl rfl (op_eql ha152 rfl rfl rfl) ?_
   intro a187 ha187; clear ha152 a152
   refine wl_val ha187 rfl rfl rfl (op_assign ha187 rfl rfl) ?_
   intro a188 ha188; clear ha187 a187
   refine wpList_nil ?_
   refine then_n ?_
   by_cases c189 : (q100 : Int) = (2 : Int)
   ·
    rw [decide_eq_true c189] at ha188
    refine cond_t ha188 rfl ?_
    refine wp_seq ?_
    refine wp_region_lit ?_
    refine wl_val ha188 rfl rfl rfl (op_assign ha188 rfl rfl) ?_
    intro a190 ha190; clear ha188 a188
    refine wpList_nil ?_
    refine then_n ?_
    refine wp_block ?_
    refine loop_inv (X := Nat × Value × (List (List Int × Value)) × Value × (List (List Int × Value))) (fun (⟨i, v1, zs, v2, ys⟩ : Nat × Value × (List (List Int × Value)) × Value × (List (List Int × Value))) fr wl => Sl 53 fr [(2, .pointer (some (⟨w0.heap.size, 0, none⟩ : Addr))), (3, .pointer (some (⟨w2.heap.size, 0, none⟩ : Addr))), (5, .pointer (some (⟨w27.heap.size, 0, none⟩ : Addr))), (6, .pointer (some (⟨w65.heap.size, 0, none⟩ : Addr))), (7, .int .i64 ((i : Nat) : Int))] ∧ Ext w0 wl ∧ Box wl w0.heap.size 28 [.slice none 0 0, .slice none 0 0] ∧ Box wl w2.heap.size 28 [.slice none 0 0, .slice none 0 0] ∧ Own shStr 9 w17.heap.size w17.heap.size w27.heap.size wl u35 (((q30).1)) ∧ Own shStr 9 w58.heap.size w58.heap.size w65.heap.size wl u74 (((q68).1)) ∧ Own shRowN 41 w17.heap.size w17.heap.size wl.heap.size wl v1 zs ∧ Nst shI64 2 (fun x : List Int => x) w17.heap.size wl.heap.size wl zs ∧ Box wl w27.heap.size 28 [u35, v1] ∧ Own shRowN 41 w58.heap.size w58.heap.size wl.heap.size wl v2 ys ∧ Nst shI64 2 (fun x : List Int => x) w58.heap.size wl.heap.size wl ys ∧ Box wl w65.heap.size 28 [u74, v2] ∧ w97.heap.size ≤ wl.heap.size ∧ (∀ q, Value.ownBlock v1 = some q → Value.ownBlock v2 ≠ some q) ∧ (i ≤ 6) ∧ (zs.length ≤ 30 + i) ∧ (ys.length ≤ 30 + i)) (fun (⟨i, v1, zs, v2, ys⟩ : Nat × Value × (List (List Int × Value)) × Value × (List (List Int × Value))) => 6 - i) (0, u37, z39, u76, z78) ?_ ?_
    ·
     exact ⟨(Sl.cons_ ha190 rfl rfl (Sl.cons_ ha190 rfl rfl (Sl.cons_ ha190 rfl rfl (Sl.cons_ ha190 rfl rfl (Sl.cons_ ha190 rfl (int_eq (by omega)) (Sl.nil_ ha190)))))), hx105, hb4, hb11, ho36, ho75, (ho38.fin (by omega) (by omega) (by omega)), (hN40.fin (by omega) (by omega)), hb53, (ho77.fin (by omega) (by omega) (by omega)), (hN79.fin (by omega) (by omega)), hb92, (by omega), (by intro q hq; first | (intro hb; have hq0 := ho38.lt q hq; have hq1 := ho77.lt q hb; omega)), (by omega), (by omega), (by omega)⟩
    ·
     clear ha190 a190
     rintro ⟨i, v1, zs, v2, ys⟩ a204 w191 ⟨ha204, hx192, hf193, hf194, hf195, hf199, hf196, hf197, hf198, hf200, hf201, hf202, hzl205, hsp203, hi, hl, hl2⟩
     have hzhx192 := hx192.size
     refine wp_seq ?_
     refine wp_seq ?_
     refine wp_region_lit ?_
     refine wl_val ha204 rfl rfl rfl (op_move ha204 rfl rfl) ?_
     intro a206 ha206; clear ha204 a204
     refine wl_val ha206 rfl rfl rfl (op_lss ha206 rfl rfl rfl) ?_
     intro a207 ha207; clear ha206 a206
     refine wpList_nil ?_
     refine then_n ?_
     by_cases c208 : ((i : Nat) : Int) < (6 : Int)
     ·
      rw [decide_eq_true c208] at ha207
      refine cond_t ha207 rfl ?_
      refine wp_skip ?_
      refine then_n ?_
      refine wp_seq ?_
      refine wp_block ?_
      refine wp_seq ?_
      refine dr_enter (fun wa_ wb_ => StpL wa_ wb_ (fun i => Value.ownBlock v1 = some i ∨ i = w27.heap.size)) follows_mixed ?_
      intro w209 he210
      have hx211 := hx192.trans' he210
      have hzhx211 := he210.size
      replace hf193 := hf193.ext he210
      replace hf194 := hf194.ext he210
      replace hf195 := hf195.ext he210
      replace hf199 := hf199.ext he210
      replace hf196 := hf196.ext he210
      replace hf197 := hf197.ext he210
      replace hf198 := hf198.ext he210
      replace hf200 := hf200.ext he210
      replace hf201 := hf201.ext he210
      replace hf202 := hf202.ext he210
      have hs212 : Ext w209 w209 := Ext.rfl' _
      refine dr_val (i := 0) ha207 rfl (by kernel_rfl) (by kernel_rfl) (by kernel_rfl) rfl rfl rfl (StpL.of_ext hs212) (fun w' hw' => op_fieldAddr (sz := 0) ha207 rfl Try.underlying28 rfl rfl ti23 rfl) ?_
      intro a213 ha213; clear ha207 a207
      refine dr_val (i := 2) ha213 rfl (by kernel_rfl) (by kernel_rfl) (by kernel_rfl) rfl rfl rfl (StpL.of_ext hs212) (fun w' hw' => op_fieldAddr (sz := 0) ha213 rfl Try.underlying28 rfl rfl ti22 rfl) ?_
      intro a214 ha214; clear ha213 a213
      refine dr_two (i := 1) (j := 3) (by kernel_rfl) ?_ ?_
      ·
       refine po_to ha214 rfl rfl rfl rfl (op_loadF (off := 1) ha214 rfl Try.underlying23 rfl rfl (hf198.ext hs212).cells rfl) ?_
       intro a215 ha215; clear ha214 a214
       refine ⟨(StpL.of_ext hs212), ?_⟩
       refine dr_one (i := 3) (by kernel_rfl) ?_
       refine po_to ha215 rfl rfl rfl rfl (op_loadF (off := 0) ha215 rfl Try.underlying22 rfl rfl (hf198.ext hs212).cells rfl) ?_
       intro a216 ha216; clear ha215 a215
       refine ⟨(StpL.of_ext hs212), ?_⟩
       refine dr_val (i := 4) ha216 rfl (by kernel_rfl) (by kernel_rfl) (by kernel_rfl) rfl rfl rfl (StpL.of_ext hs212) (fun w' hw' => op_len_sl ha216 rfl Try.underlying22 rfl (hf195.rds pos_shStr)) ?_
       intro a217 ha217; clear ha216 a216
       refine dr_one (i := 5) (by kernel_rfl) ?_
       refine po_eff ha217 rfl rfl rfl rfl (op_make (s := shI64) (n := (((q30).1)).length) (k' := .i64) ha217 rfl Try.underlying41 ti2 pos_shI64 rfl (by omega) zero_shI64 (by omega) (by omega)) ?_
       rintro v218 w219 ⟨ho220, he221⟩ a222 ha222; clear ha217 a217
       have hs223 := hs212.trans' he221
       have hx224 := hx211.trans' he221
       have hzhx224 := he221.size
       refine ⟨(StpL.of_ext hs223), ?_⟩
       refine dr_one (i := 6) (by kernel_rfl) ?_
       refine po_eff ha222 rfl rfl rfl rfl (op_buildSlice (s := shRowN) (xs := [(((List.replicate ((((q30).1)).length) (0 : Int)) : List Int), (v218 : Value))]) (cs := [v218]) (vs := [(0, v218)]) (S := fun _ => False) (le := w219.heap.size) ha222 rfl pos_shRowN Try.underlying23 ti41 rfl rfl (by decide) ((fill_one (off := 0) ho220.cells1 (by kernel_rfl) (by kernel_rfl)).trans (by kernel_rfl)) (Els.single (mk_shRowN ((((List.replicate ((((q30).1)).length) (0 : Int)) : List Int), (v218 : Value))) ho220.one)) (fun _ h => h.elim)) ?_
       rintro v225 w226 ⟨ho227, he228, hob229⟩ a230 ha230; clear ha222 a222
       have hs231 := hs223.trans' he228
       have hx232 := hx224.trans' he228
       have hzhx232 := he228.size
       replace ho220 := ho220.ext he228
       refine ⟨(StpL.of_ext hs231), ?_⟩
       have hN233 : Nst shI64 2 (fun x : List Int => x) w209.heap.size w226.heap.size w226 ([(((List.replicate ((((q30).1)).length) (0 : Int)) : List Int), (v218 : Value))]) := Nst.one (ho220.fin (by omega) (by omega) (by omega))
       refine dr_one (i := 7) (by kernel_rfl) ?_
       replace hf193 := hf193.ext hs231
       replace hf194 := hf194.ext hs231
       replace hf195 := hf195.ext hs231
       replace hf199 := hf199.ext hs231
       replace hf196 := hf196.ext hs231
       replace hf197 := hf197.ext hs231
       replace hf198 := hf198.ext hs231
       replace hf200 := hf200.ext hs231
       replace hf201 := hf201.ext hs231
       replace hf202 := hf202.ext hs231
       refine po_eff ha230 rfl rfl rfl rfl (op_append (ts := #[]) (s := shRowN) ha230 rfl Try.underlying23 ti41 rfl pos_shRowN rfl rfl hf196 (ho227.rds pos_shRowN) (by omega) (by omega) (by first | omega | (simp; omega) | (simp only [List.length_take]; omega)) (by first | omega | (simp; omega) | (simp only [List.length_take]; omega)) (.inl flat_shRowN)) ?_
       rintro v234 w235 ⟨ho236, hst237, hob238⟩ a239 ha239; clear ha230 a230
       have hx240 := hx232.stp hst237 (by intro q hq; have hq0 := hf196.lt q hq; omega)
       have hzhx240 := hst237.size
       replace hf193 := hf193.stp hst237 (by intro q hq; have hq0 := hf196.lt q hq; omega)
       replace hf194 := hf194.stp hst237 (by intro q hq; have hq0 := hf196.lt q hq; omega)
       replace hf195 : Own shStr 9 w17.heap.size w17.heap.size w27.heap.size w235 u35 (((q30).1)) := by first | exact hf195.stp hst237 (by intro q hq; have hq0 := hf196.lt q hq; omega) | exact hf195.stpF flat_shStr hst237 (hf195.ne hf196 rfl)
       replace hf199 : Own shStr 9 w58.heap.size w58.heap.size w65.heap.size w235 u74 (((q68).1)) := by first | exact hf199.stp hst237 (by intro q hq; have hq0 := hf196.lt q hq; omega) | exact hf199.stpF flat_shStr hst237 (hf199.ne hf196 rfl)
       replace hf197 : Nst shI64 2 (fun x : List Int => x) w17.heap.size w191.heap.size w235 zs := by first | exact hf197.stpF flat_shI64 hst237 hf196 rfl | exact hf197.stp hst237 (by intro q hq; have hq0 := hf196.lt q hq; omega)
       replace hf198 : Box w235 w27.heap.size 28 [u35, v1] := by first | exact hf198.stp hst237 (by intro q hq; have hq0 := hf196.lt q hq; omega) | exact hf198.stp hst237 (by intro q hq e; subst e; exact hf196.ne_box hf198 rfl hq)
       replace hf200 : Own shRowN 41 w58.heap.size w58.heap.size w191.heap.size w235 v2 ys := by first | exact hf200.stp hst237 (by intro q hq; have hq0 := hf196.lt q hq; omega) | exact hf200.stpF flat_shRowN hst237 (fun q hq => hsp203 q hq)
       replace hf201 : Nst shI64 2 (fun x : List Int => x) w58.heap.size w191.heap.size w235 ys := by first | exact hf201.stpF flat_shI64 hst237 hf196 rfl | exact hf201.stp hst237 (by intro q hq; have hq0 := hf196.lt q hq; omega)
       replace hf202 : Box w235 w65.heap.size 28 [u74, v2] := by first | exact hf202.stp hst237 (by intro q hq; have hq0 := hf196.lt q hq; omega) | exact hf202.stp hst237 (by intro q hq e; subst e; exact hf196.ne_box hf202 rfl hq)
       replace ho220 := ho220.stp hst237 (by intro q hq; have hq0 := hf196.lt q hq; omega)
       replace ho227 := ho227.stp hst237 (by intro q hq; have hq0 := hf196.lt q hq; omega)
       replace hN233 := hN233.stp hst237 (by intro q hq; have hq0 := hf196.lt q hq; omega)
       have hsp241 : ∀ q, Value.ownBlock v234 = some q → Value.ownBlock v2 ≠ some q := by intro q hq hb; have hq0 := hf200.lt q hb; rcases hob238 with h | h; (rw [h] at hq; first | (have hq1 := hf196.lt q hq; omega) | exact hsp203 q hq hb); (rw [h] at hq; cases hq; omega)
       have hsp242 : ∀ q, Value.ownBlock v234 = some q → Value.ownBlock v225 ≠ some q := by intro q hq hb; have hq0 := ho227.lt q hb; rcases hob238 with h | h; (rw [h] at hq; first | (have hq1 := hf196.lt q hq; omega)); (rw [h] at hq; cases hq; omega)
       have hN243 : Nst shI64 2 (fun x : List Int => x) w17.heap.size w235.heap.size w235 ((zs ++ [(((List.replicate ((((q30).1)).length) (0 : Int)) : List Int), (v218 : Value))])) := (hf197.app hN233 (by omega) (by omega) (by omega)).fin (by omega) (by omega)
       have hs244 := (StpL.of_ext (B := fun i => Value.ownBlock v1 = some i ∨ i = w27.heap.size) hs231).trans' (Stp.toL hst237 (by intro q hq; exact Or.inl hq))
       refine ⟨hs244, ?_⟩
       refine dr_val (i := 8) ha239 rfl (by kernel_rfl) (by kernel_rfl) (by kernel_rfl) rfl rfl rfl hs244 (fun w' hw' => op_fieldAddr (sz := 0) ha239 rfl Try.underlying28 rfl rfl ti23 rfl) ?_
       intro a245 ha245; clear ha239 a239
       refine dr_one (i := 9) (by kernel_rfl) ?_
       refine po_effS ha245 rfl rfl rfl (op_store' (off := 1) ha245 rfl ti23 rfl rfl hf198 ho236.cells1 rfl (by intro u hu; have hu : u ∈ ([v234] : List Value) := hu; simp only [List.mem_cons, List.mem_nil_iff, or_false] at hu; rcases hu with rfl <;> first | rfl | exact ho236.one) (Nat.le_of_ble_eq_true rfl)) ?_
       rintro w246 ⟨hb248, hst247, hz249⟩
       have hx250 := hx240.stp hst247 (by intro q hq; cases hq; exact (by omega))
       have hzhx250 := hst247.size
       replace hf193 := hf193.stp hst247 (by intro q hq; cases hq; omega)
       replace hf194 := hf194.stp hst247 (by intro q hq; cases hq; omega)
       replace hf195 := hf195.stp hst247 (by intro q hq; cases hq; omega)
       replace hf199 := hf199.stp hst247 (by intro q hq; cases hq; omega)
       replace hf200 := hf200.stp hst247 (by intro q hq; cases hq; omega)
       replace hf201 := hf201.stp hst247 (by intro q hq; cases hq; omega)
       replace hf202 := hf202.stp hst247 (by intro q hq; cases hq; omega)
       replace ho220 := ho220.stp hst247 (by intro q hq; cases hq; omega)
       replace ho227 := ho227.stp hst247 (by intro q hq; cases hq; omega)
       replace ho236 : Own shRowN 41 w17.heap.size w17.heap.size w235.heap.size w246 v234 ((zs ++ [(((List.replicate ((((q30).1)).length) (0 : Int)) : List Int), (v218 : Value))])) := by first | exact ho236.stp hst247 (by intro q hq; cases hq; omega) | exact ho236.stpF flat_shRowN hst247 (by intro q hq; cases hq; exact ho236.ne_box (by assumption) rfl)
       replace hN243 : Nst shI64 2 (fun x : List Int => x) w17.heap.size w235.heap.size w246 ((zs ++ [(((List.replicate ((((q30).1)).length) (0 : Int)) : List Int), (v218 : Value))])) := by first | exact hN243.stp hst247 (by intro q hq; cases hq; omega) | exact hN243.stpB flat_shI64 hst247 (by assumption) rfl
       clear hf198
       have hs251 := hs244.trans' (Stp.toL hst247 (by intro q hq; cases hq; exact Or.inr (rfl)))
       refine ⟨hs251, ?_⟩
       refine dr_end (by kernel_rfl) ?_
       refine then_n ?_
       clear ho220 ho227
       refine dr_enter (fun wa_ wb_ => StpL wa_ wb_ (fun i => Value.ownBlock v2 = some i ∨ i = w65.heap.size)) follows_mixed ?_
       intro w252 he253
       have hx254 := hx250.trans' he253
       have hzhx254 := he253.size
       replace hf193 := hf193.ext he253
       replace hf194 := hf194.ext he253
       replace hf195 := hf195.ext he253
       replace hf199 := hf199.ext he253
       replace hf200 := hf200.ext he253
       replace hf201 := hf201.ext he253
       replace hf202 := hf202.ext he253
       replace ho236 := ho236.ext he253
       replace hN243 := hN243.ext he253
       replace hb248 := hb248.ext he253
       have hs255 : Ext w252 w252 := Ext.rfl' _
       refine dr_val (i := 0) ha245 rfl (by kernel_rfl) (by kernel_rfl) (by kernel_rfl) rfl rfl rfl (StpL.of_ext hs255) (fun w' hw' => op_fieldAddr (sz := 0) ha245 rfl Try.underlying28 rfl rfl ti23 rfl) ?_
       intro a256 ha256; clear ha245 a245
       refine dr_val (i := 2) ha256 rfl (by kernel_rfl) (by kernel_rfl) (by kernel_rfl) rfl rfl rfl (StpL.of_ext hs255) (fun w' hw' => op_fieldAddr (sz := 0) ha256 rfl Try.underlying28 rfl rfl ti22 rfl) ?_
       intro a257 ha257; clear ha256 a256
       refine dr_two (i := 1) (j := 3) (by kernel_rfl) ?_ ?_
       ·
        refine po_to ha257 rfl rfl rfl rfl (op_loadF (off := 1) ha257 rfl Try.underlying23 rfl rfl (hf202.ext hs255).cells rfl) ?_
        intro a258 ha258; clear ha257 a257
        refine ⟨(StpL.of_ext hs255), ?_⟩
        refine dr_one (i := 3) (by kernel_rfl) ?_
        refine po_to ha258 rfl rfl rfl rfl (op_loadF (off := 0) ha258 rfl Try.underlying22 rfl rfl (hf202.ext hs255).cells rfl) ?_
        intro a259 ha259; clear ha258 a258
        refine ⟨(StpL.of_ext hs255), ?_⟩
        refine dr_val (i := 4) ha259 rfl (by kernel_rfl) (by kernel_rfl) (by kernel_rfl) rfl rfl rfl (StpL.of_ext hs255) (fun w' hw' => op_len_sl ha259 rfl Try.underlying22 rfl (hf199.rds pos_shStr)) ?_
        intro a260 ha260; clear ha259 a259
        refine dr_one (i := 5) (by kernel_rfl) ?_
        refine po_eff ha260 rfl rfl rfl rfl (op_make (s := shI64) (n := (((q68).1)).length) (k' := .i64) ha260 rfl Try.underlying41 ti2 pos_shI64 rfl (by omega) zero_shI64 (by omega) (by omega)) ?_
        rintro v261 w262 ⟨ho263, he264⟩ a265 ha265; clear ha260 a260
        have hs266 := hs255.trans' he264
        have hx267 := hx254.trans' he264
        have hzhx267 := he264.size
        refine ⟨(StpL.of_ext hs266), ?_⟩
        refine dr_one (i := 6) (by kernel_rfl) ?_
        refine po_eff ha265 rfl rfl rfl rfl (op_buildSlice (s := shRowN) (xs := [(((List.replicate ((((q68).1)).length) (0 : Int)) : List Int), (v261 : Value))]) (cs := [v261]) (vs := [(0, v261)]) (S := fun _ => False) (le := w262.heap.size) ha265 rfl pos_shRowN Try.underlying23 ti41 rfl rfl (by decide) ((fill_one (off := 0) ho263.cells1 (by kernel_rfl) (by kernel_rfl)).trans (by kernel_rfl)) (Els.single (mk_shRowN ((((List.replicate ((((q68).1)).length) (0 : Int)) : List Int), (v261 : Value))) ho263.one)) (fun _ h => h.elim)) ?_
        rintro v268 w269 ⟨ho270, he271, hob272⟩ a273 ha273; clear ha265 a265
        have hs274 := hs266.trans' he271
        have hx275 := hx267.trans' he271
        have hzhx275 := he271.size
        replace ho263 := ho263.ext he271
        refine ⟨(StpL.of_ext hs274), ?_⟩
        have hN276 : Nst shI64 2 (fun x : List Int => x) w252.heap.size w269.heap.size w269 ([(((List.replicate ((((q68).1)).length) (0 : Int)) : List Int), (v261 : Value))]) := Nst.one (ho263.fin (by omega) (by omega) (by omega))
        refine dr_one (i := 7) (by kernel_rfl) ?_
        replace hf193 := hf193.ext hs274
        replace hf194 := hf194.ext hs274
        replace hf195 := hf195.ext hs274
        replace hf199 := hf199.ext hs274
        replace hf200 := hf200.ext hs274
        replace hf201 := hf201.ext hs274
        replace hf202 := hf202.ext hs274
        replace ho236 := ho236.ext hs274
        replace hN243 := hN243.ext hs274
        replace hb248 := hb248.ext hs274
        refine po_eff ha273 rfl rfl rfl rfl (op_append (ts := #[]) (s := shRowN) ha273 rfl Try.underlying23 ti41 rfl pos_shRowN rfl rfl hf200 (ho270.rds pos_shRowN) (by omega) (by omega) (by first | omega | (simp; omega) | (simp only [List.length_take]; omega)) (by first | omega | (simp; omega) | (simp only [List.length_take]; omega)) (.inl flat_shRowN)) ?_
        rintro v277 w278 ⟨ho279, hst280, hob281⟩ a282 ha282; clear ha273 a273
        have hx283 := hx275.stp hst280 (by intro q hq; have hq0 := hf200.lt q hq; omega)
        have hzhx283 := hst280.size
        replace hf193 := hf193.stp hst280 (by intro q hq; have hq0 := hf200.lt q hq; omega)
        replace hf194 := hf194.stp hst280 (by intro q hq; have hq0 := hf200.lt q hq; omega)
        replace hf195 := hf195.stp hst280 (by intro q hq; have hq0 := hf200.lt q hq; omega)
        replace hf199 : Own shStr 9 w58.heap.size w58.heap.size w65.heap.size w278 u74 (((q68).1)) := by first | exact hf199.stp hst280 (by intro q hq; have hq0 := hf200.lt q hq; omega) | exact hf199.stpF flat_shStr hst280 (hf199.ne hf200 rfl)
        replace hf201 : Nst shI64 2 (fun x : List Int => x) w58.heap.size w191.heap.size w278 ys := by first | exact hf201.stpF flat_shI64 hst280 hf200 rfl | exact hf201.stp hst280 (by intro q hq; have hq0 := hf200.lt q hq; omega)
        replace hf202 : Box w278 w65.heap.size 28 [u74, v2] := by first | exact hf202.stp hst280 (by intro q hq; have hq0 := hf200.lt q hq; omega) | exact hf202.stp hst280 (by intro q hq e; subst e; exact hf200.ne_box hf202 rfl hq)
        replace ho236 : Own shRowN 41 w17.heap.size w17.heap.size w235.heap.size w278 v234 ((zs ++ [(((List.replicate ((((q30).1)).length) (0 : Int)) : List Int), (v218 : Value))])) := by first | exact ho236.stp hst280 (by intro q hq; have hq0 := hf200.lt q hq; omega) | exact ho236.stpF flat_shRowN hst280 (fun q hq => (fun q hq e => hsp241 q e hq) q hq)
        replace hN243 : Nst shI64 2 (fun x : List Int => x) w17.heap.size w235.heap.size w278 ((zs ++ [(((List.replicate ((((q30).1)).length) (0 : Int)) : List Int), (v218 : Value))])) := by first | exact hN243.stpF flat_shI64 hst280 hf200 rfl | exact hN243.stp hst280 (by intro q hq; have hq0 := hf200.lt q hq; omega)
        replace hb248 := hb248.stp hst280 (by intro q hq; have hq0 := hf200.lt q hq; omega)
        replace ho263 := ho263.stp hst280 (by intro q hq; have hq0 := hf200.lt q hq; omega)
        replace ho270 := ho270.stp hst280 (by intro q hq; have hq0 := hf200.lt q hq; omega)
        replace hN276 := hN276.stp hst280 (by intro q hq; have hq0 := hf200.lt q hq; omega)
        have hsp284 : ∀ q, Value.ownBlock v277 = some q → Value.ownBlock v234 ≠ some q := by intro q hq hb; have hq0 := ho236.lt q hb; rcases hob281 with h | h; (rw [h] at hq; first | (have hq1 := hf200.lt q hq; omega) | exact (fun q hq e => hsp241 q e hq) q hq hb); (rw [h] at hq; cases hq; omega)
        have hsp285 : ∀ q, Value.ownBlock v277 = some q → Value.ownBlock v268 ≠ some q := by intro q hq hb; have hq0 := ho270.lt q hb; rcases hob281 with h | h; (rw [h] at hq; first | (have hq1 := hf200.lt q hq; omega)); (rw [h] at hq; cases hq; omega)
        have hN286 : Nst shI64 2 (fun x : List Int => x) w58.heap.size w278.heap.size w278 ((ys ++ [(((List.replicate ((((q68).1)).length) (0 : Int)) : List Int), (v261 : Value))])) := (hf201.app hN276 (by omega) (by omega) (by omega)).fin (by omega) (by omega)
        have hs287 := (StpL.of_ext (B := fun i => Value.ownBlock v2 = some i ∨ i = w65.heap.size) hs274).trans' (Stp.toL hst280 (by intro q hq; exact Or.inl hq))
        refine ⟨hs287, ?_⟩
        refine dr_val (i := 8) ha282 rfl (by kernel_rfl) (by kernel_rfl) (by kernel_rfl) rfl rfl rfl hs287 (fun w' hw' => op_fieldAddr (sz := 0) ha282 rfl Try.underlying28 rfl rfl ti23 rfl) ?_
        intro a288 ha288; clear ha282 a282
        refine dr_one (i := 9) (by kernel_rfl) ?_
        refine po_effS ha288 rfl rfl rfl (op_store' (off := 1) ha288 rfl ti23 rfl rfl hf202 ho279.cells1 rfl (by intro u hu; have hu : u ∈ ([v277] : List Value) := hu; simp only [List.mem_cons, List.mem_nil_iff, or_false] at hu; rcases hu with rfl <;> first | rfl | exact ho279.one) (Nat.le_of_ble_eq_true rfl)) ?_
        rintro w289 ⟨hb291, hst290, hz292⟩
        have hx293 := hx283.stp hst290 (by intro q hq; cases hq; exact (by omega))
        have hzhx293 := hst290.size
        replace hf193 := hf193.stp hst290 (by intro q hq; cases hq; omega)
        replace hf194 := hf194.stp hst290 (by intro q hq; cases hq; omega)
        replace hf195 := hf195.stp hst290 (by intro q hq; cases hq; omega)
        replace hf199 := hf199.stp hst290 (by intro q hq; cases hq; omega)
        replace ho236 : Own shRowN 41 w17.heap.size w17.heap.size w235.heap.size w289 v234 ((zs ++ [(((List.replicate ((((q30).1)).length) (0 : Int)) : List Int), (v218 : Value))])) := by first | exact ho236.stp hst290 (by intro q hq; cases hq; omega) | exact ho236.stpF flat_shRowN hst290 (by intro q hq; cases hq; exact ho236.ne_box (by assumption) rfl)
        replace hN243 : Nst shI64 2 (fun x : List Int => x) w17.heap.size w235.heap.size w289 ((zs ++ [(((List.replicate ((((q30).1)).length) (0 : Int)) : List Int), (v218 : Value))])) := by first | exact hN243.stp hst290 (by intro q hq; cases hq; omega) | exact hN243.stpB flat_shI64 hst290 (by assumption) rfl
        replace hb248 := hb248.stp hst290 (by intro q hq; cases hq; omega)
        replace ho263 := ho263.stp hst290 (by intro q hq; cases hq; omega)
        replace ho270 := ho270.stp hst290 (by intro q hq; cases hq; omega)
        replace ho279 : Own shRowN 41 w58.heap.size w58.heap.size w278.heap.size w289 v277 ((ys ++ [(((List.replicate ((((q68).1)).length) (0 : Int)) : List Int), (v261 : Value))])) := by first | exact ho279.stp hst290 (by intro q hq; cases hq; omega) | exact ho279.stpF flat_shRowN hst290 (by intro q hq; cases hq; exact ho279.ne_box (by assumption) rfl)
        replace hN286 : Nst shI64 2 (fun x : List Int => x) w58.heap.size w278.heap.size w289 ((ys ++ [(((List.replicate ((((q68).1)).length) (0 : Int)) : List Int), (v261 : Value))])) := by first | exact hN286.stp hst290 (by intro q hq; cases hq; omega) | exact hN286.stpB flat_shI64 hst290 (by assumption) rfl
        clear hf202
        have hs294 := hs287.trans' (Stp.toL hst290 (by intro q hq; cases hq; exact Or.inr (rfl)))
        refine ⟨hs294, ?_⟩
        refine dr_end (by kernel_rfl) ?_
        refine block_n ?_
        refine then_n ?_
        clear ho263 ho270
        refine wp_region_lit ?_
        refine wl_val ha288 rfl rfl rfl (op_move ha288 rfl rfl) ?_
        intro a295 ha295; clear ha288 a288
        refine wl_val ha295 rfl rfl rfl ((op_add ha295 rfl rfl rfl).int (IntWalk.i64_in _ (by omega))) ?_
        intro a296 ha296; clear ha295 a295
        refine wl_val ha296 rfl rfl rfl (op_assign ha296 rfl rfl) ?_
        intro a297 ha297; clear ha296 a296
        refine wpList_nil ?_
        refine round_end (x := (i, v1, zs, v2, ys)) ((i + 1), v234, (zs ++ [(((List.replicate ((((q30).1)).length) (0 : Int)) : List Int), (v218 : Value))]), v277, (ys ++ [(((List.replicate ((((q68).1)).length) (0 : Int)) : List Int), (v261 : Value))])) ?_ ?_
        ·
         refine ⟨(Sl.cons_ ha297 rfl rfl (Sl.cons_ ha297 rfl rfl (Sl.cons_ ha297 rfl rfl (Sl.cons_ ha297 rfl rfl (Sl.cons_ ha297 rfl (int_eq (by omega)) (Sl.nil_ ha297)))))), hx293, hf193, hf194, hf195, hf199, (ho236.fin (by omega) (by omega) (by omega)), (hN243.fin (by omega) (by omega)), hb248, (ho279.fin (by omega) (by omega) (by omega)), (hN286.fin (by omega) (by omega)), hb291, (by omega), (by intro q hq; first | (intro hb; have hq0 := ho236.lt q hq; have hq1 := ho279.lt q hb; omega) | exact (fun q hq e => hsp284 q e hq) q hq), (by omega), (by first | omega | (simp; omega)), (by first | omega | (simp; omega))⟩
        ·show (6 - ((i + 1)) : Nat) < 6 - i; omega
       ·
        refine po_to ha257 rfl rfl rfl rfl (op_loadF (off := 0) ha257 rfl Try.underlying22 rfl rfl (hf202.ext hs255).cells rfl) ?_
        intro a298 ha298; clear ha257 a257
        refine ⟨(StpL.of_ext hs255), ?_⟩
        refine dr_val (i := 4) ha298 rfl (by kernel_rfl) (by kernel_rfl) (by kernel_rfl) rfl rfl rfl (StpL.of_ext hs255) (fun w' hw' => op_len_sl ha298 rfl Try.underlying22 rfl (hf199.rds pos_shStr)) ?_
        intro a299 ha299; clear ha298 a298
        refine dr_two (i := 1) (j := 5) (by kernel_rfl) ?_ ?_
        ·
         refine po_to ha299 rfl rfl rfl rfl (op_loadF (off := 1) ha299 rfl Try.underlying23 rfl rfl (hf202.ext hs255).cells rfl) ?_
         intro a300 ha300; clear ha299 a299
         refine ⟨(StpL.of_ext hs255), ?_⟩
         refine dr_one (i := 5) (by kernel_rfl) ?_
         refine po_eff ha300 rfl rfl rfl rfl (op_make (s := shI64) (n := (((q68).1)).length) (k' := .i64) ha300 rfl Try.underlying41 ti2 pos_shI64 rfl (by omega) zero_shI64 (by omega) (by omega)) ?_
         rintro v301 w302 ⟨ho303, he304⟩ a305 ha305; clear ha300 a300
         have hs306 := hs255.trans' he304
         have hx307 := hx254.trans' he304
         have hzhx307 := he304.size
         refine ⟨(StpL.of_ext hs306), ?_⟩
         refine dr_one (i := 6) (by kernel_rfl) ?_
         refine po_eff ha305 rfl rfl rfl rfl (op_buildSlice (s := shRowN) (xs := [(((List.replicate ((((q68).1)).length) (0 : Int)) : List Int), (v301 : Value))]) (cs := [v301]) (vs := [(0, v301)]) (S := fun _ => False) (le := w302.heap.size) ha305 rfl pos_shRowN Try.underlying23 ti41 rfl rfl (by decide) ((fill_one (off := 0) ho303.cells1 (by kernel_rfl) (by kernel_rfl)).trans (by kernel_rfl)) (Els.single (mk_shRowN ((((List.replicate ((((q68).1)).length) (0 : Int)) : List Int), (v301 : Value))) ho303.one)) (fun _ h => h.elim)) ?_
         rintro v308 w309 ⟨ho310, he311, hob312⟩ a313 ha313; clear ha305 a305
         have hs314 := hs306.trans' he311
         have hx315 := hx307.trans' he311
         have hzhx315 := he311.size
         replace ho303 := ho303.ext he311
         refine ⟨(StpL.of_ext hs314), ?_⟩
         have hN316 : Nst shI64 2 (fun x : List Int => x) w252.heap.size w309.heap.size w309 ([(((List.replicate ((((q68).1)).length) (0 : Int)) : List Int), (v301 : Value))]) := Nst.one (ho303.fin (by omega) (by omega) (by omega))
         refine dr_one (i := 7) (by kernel_rfl) ?_
         replace hf193 := hf193.ext hs314
         replace hf194 := hf194.ext hs314
         replace hf195 := hf195.ext hs314
         replace hf199 := hf199.ext hs314
         replace hf200 := hf200.ext hs314
         replace hf201 := hf201.ext hs314
         replace hf202 := hf202.ext hs314
         replace ho236 := ho236.ext hs314
         replace hN243 := hN243.ext hs314
         replace hb248 := hb248.ext hs314
         refine po_eff ha313 rfl rfl rfl rfl (op_append (ts := #[]) (s := shRowN) ha313 rfl Try.underlying23 ti41 rfl pos_shRowN rfl rfl hf200 (ho310.rds pos_shRowN) (by omega) (by omega) (by first | omega | (simp; omega) | (simp only [List.length_take]; omega)) (by first | omega | (simp; omega) | (simp only [List.length_take]; omega)) (.inl flat_shRowN)) ?_
         rintro v317 w318 ⟨ho319, hst320, hob321⟩ a322 ha322; clear ha313 a313
         have hx323 := hx315.stp hst320 (by intro q hq; have hq0 := hf200.lt q hq; omega)
         have hzhx323 := hst320.size
         replace hf193 := hf193.stp hst320 (by intro q hq; have hq0 := hf200.lt q hq; omega)
         replace hf194 := hf194.stp hst320 (by intro q hq; have hq0 := hf200.lt q hq; omega)
         replace hf195 := hf195.stp hst320 (by intro q hq; have hq0 := hf200.lt q hq; omega)
         replace hf199 : Own shStr 9 w58.heap.size w58.heap.size w65.heap.size w318 u74 (((q68).1)) := by first | exact hf199.stp hst320 (by intro q hq; have hq0 := hf200.lt q hq; omega) | exact hf199.stpF flat_shStr hst320 (hf199.ne hf200 rfl)
         replace hf201 : Nst shI64 2 (fun x : List Int => x) w58.heap.size w191.heap.size w318 ys := by first | exact hf201.stpF flat_shI64 hst320 hf200 rfl | exact hf201.stp hst320 (by intro q hq; have hq0 := hf200.lt q hq; omega)
         replace hf202 : Box w318 w65.heap.size 28 [u74, v2] := by first | exact hf202.stp hst320 (by intro q hq; have hq0 := hf200.lt q hq; omega) | exact hf202.stp hst320 (by intro q hq e; subst e; exact hf200.ne_box hf202 rfl hq)
         replace ho236 : Own shRowN 41 w17.heap.size w17.heap.size w235.heap.size w318 v234 ((zs ++ [(((List.replicate ((((q30).1)).length) (0 : Int)) : List Int), (v218 : Value))])) := by first | exact ho236.stp hst320 (by intro q hq; have hq0 := hf200.lt q hq; omega) | exact ho236.stpF flat_shRowN hst320 (fun q hq => (fun q hq e => hsp241 q e hq) q hq)
         replace hN243 : Nst shI64 2 (fun x : List Int => x) w17.heap.size w235.heap.size w318 ((zs ++ [(((List.replicate ((((q30).1)).length) (0 : Int)) : List Int), (v218 : Value))])) := by first | exact hN243.stpF flat_shI64 hst320 hf200 rfl | exact hN243.stp hst320 (by intro q hq; have hq0 := hf200.lt q hq; omega)
         replace hb248 := hb248.stp hst320 (by intro q hq; have hq0 := hf200.lt q hq; omega)
         replace ho303 := ho303.stp hst320 (by intro q hq; have hq0 := hf200.lt q hq; omega)
         replace ho310 := ho310.stp hst320 (by intro q hq; have hq0 := hf200.lt q hq; omega)
         replace hN316 := hN316.stp hst320 (by intro q hq; have hq0 := hf200.lt q hq; omega)
         have hsp324 : ∀ q, Value.ownBlock v317 = some q → Value.ownBlock v234 ≠ some q := by intro q hq hb; have hq0 := ho236.lt q hb; rcases hob321 with h | h; (rw [h] at hq; first | (have hq1 := hf200.lt q hq; omega) | exact (fun q hq e => hsp241 q e hq) q hq hb); (rw [h] at hq; cases hq; omega)
         have hsp325 : ∀ q, Value.ownBlock v317 = some q → Value.ownBlock v308 ≠ some q := by intro q hq hb; have hq0 := ho310.lt q hb; rcases hob321 with h | h; (rw [h] at hq; first | (have hq1 := hf200.lt q hq; omega)); (rw [h] at hq; cases hq; omega)
         have hN326 : Nst shI64 2 (fun x : List Int => x) w58.heap.size w318.heap.size w318 ((ys ++ [(((List.replicate ((((q68).1)).length) (0 : Int)) : List Int), (v301 : Value))])) := (hf201.app hN316 (by omega) (by omega) (by omega)).fin (by omega) (by omega)
         have hs327 := (StpL.of_ext (B := fun i => Value.ownBlock v2 = some i ∨ i = w65.heap.size) hs314).trans' (Stp.toL hst320 (by intro q hq; exact Or.inl hq))
         refine ⟨hs327, ?_⟩
         refine dr_val (i := 8) ha322 rfl (by kernel_rfl) (by kernel_rfl) (by kernel_rfl) rfl rfl rfl hs327 (fun w' hw' => op_fieldAddr (sz := 0) ha322 rfl Try.underlying28 rfl rfl ti23 rfl) ?_
         intro a328 ha328; clear ha322 a322
         refine dr_one (i := 9) (by kernel_rfl) ?_
         refine po_effS ha328 rfl rfl rfl (op_store' (off := 1) ha328 rfl ti23 rfl rfl hf202 ho319.cells1 rfl (by intro u hu; have hu : u ∈ ([v317] : List Value) := hu; simp only [List.mem_cons, List.mem_nil_iff, or_false] at hu; rcases hu with rfl <;> first | rfl | exact ho319.one) (Nat.le_of_ble_eq_true rfl)) ?_
         rintro w329 ⟨hb331, hst330, hz332⟩
         have hx333 := hx323.stp hst330 (by intro q hq; cases hq; exact (by omega))
         have hzhx333 := hst330.size
         replace hf193 := hf193.stp hst330 (by intro q hq; cases hq; omega)
         replace hf194 := hf194.stp hst330 (by intro q hq; cases hq; omega)
         replace hf195 := hf195.stp hst330 (by intro q hq; cases hq; omega)
         replace hf199 := hf199.stp hst330 (by intro q hq; cases hq; omega)
         replace ho236 : Own shRowN 41 w17.heap.size w17.heap.size w235.heap.size w329 v234 ((zs ++ [(((List.replicate ((((q30).1)).length) (0 : Int)) : List Int), (v218 : Value))])) := by first | exact ho236.stp hst330 (by intro q hq; cases hq; omega) | exact ho236.stpF flat_shRowN hst330 (by intro q hq; cases hq; exact ho236.ne_box (by assumption) rfl)
         replace hN243 : Nst shI64 2 (fun x : List Int => x) w17.heap.size w235.heap.size w329 ((zs ++ [(((List.replicate ((((q30).1)).length) (0 : Int)) : List Int), (v218 : Value))])) := by first | exact hN243.stp hst330 (by intro q hq; cases hq; omega) | exact hN243.stpB flat_shI64 hst330 (by assumption) rfl
         replace hb248 := hb248.stp hst330 (by intro q hq; cases hq; omega)
         replace ho303 := ho303.stp hst330 (by intro q hq; cases hq; omega)
         replace ho310 := ho310.stp hst330 (by intro q hq; cases hq; omega)
         replace ho319 : Own shRowN 41 w58.heap.size w58.heap.size w318.heap.size w329 v317 ((ys ++ [(((List.replicate ((((q68).1)).length) (0 : Int)) : List Int), (v301 : Value))])) := by first | exact ho319.stp hst330 (by intro q hq; cases hq; omega) | exact ho319.stpF flat_shRowN hst330 (by intro q hq; cases hq; exact ho319.ne_box (by assumption) rfl)
         replace hN326 : Nst shI64 2 (fun x : List Int => x) w58.heap.size w318.heap.size w329 ((ys ++ [(((List.replicate ((((q68).1)).length) (0 : Int)) : List Int), (v301 : Value))])) := by first | exact hN326.stp hst330 (by intro q hq; cases hq; omega) | exact hN326.stpB flat_shI64 hst330 (by assumption) rfl
         clear hf202
         have hs334 := hs327.trans' (Stp.toL hst330 (by intro q hq; cases hq; exact Or.inr (rfl)))
         refine ⟨hs334, ?_⟩
         refine dr_end (by kernel_rfl) ?_
         refine block_n ?_
         refine then_n ?_
         clear ho303 ho310
         refine wp_region_lit ?_
         refine wl_val ha328 rfl rfl rfl (op_move ha328 rfl rfl) ?_
         intro a335 ha335; clear ha328 a328
         refine wl_val ha335 rfl rfl rfl ((op_add ha335 rfl rfl rfl).int (IntWalk.i64_in _ (by omega))) ?_
         intro a336 ha336; clear ha335 a335
         refine wl_val ha336 rfl rfl rfl (op_assign ha336 rfl rfl) ?_
         intro a337 ha337; clear ha336 a336
         refine wpList_nil ?_
         refine round_end (x := (i, v1, zs, v2, ys)) ((i + 1), v234, (zs ++ [(((List.replicate ((((q30).1)).length) (0 : Int)) : List Int), (v218 : Value))]), v317, (ys ++ [(((List.replicate ((((q68).1)).length) (0 : Int)) : List Int), (v301 : Value))])) ?_ ?_
         ·
          refine ⟨(Sl.cons_ ha337 rfl rfl (Sl.cons_ ha337 rfl rfl (Sl.cons_ ha337 rfl rfl (Sl.cons_ ha337 rfl rfl (Sl.cons_ ha337 rfl (int_eq (by omega)) (Sl.nil_ ha337)))))), hx333, hf193, hf194, hf195, hf199, (ho236.fin (by omega) (by omega) (by omega)), (hN243.fin (by omega) (by omega)), hb248, (ho319.fin (by omega) (by omega) (by omega)), (hN326.fin (by omega) (by omega)), hb331, (by omega), (by intro q hq; first | (intro hb; have hq0 := ho236.lt q hq; have hq1 := ho319.lt q hb; omega) | exact (fun q hq e => hsp324 q e hq) q hq), (by omega), (by first | omega | (simp; omega)), (by first | omega | (simp; omega))⟩
         ·show (6 - ((i + 1)) : Nat) < 6 - i; omega
        ·
         refine po_eff ha299 rfl rfl rfl rfl (op_make (s := shI64) (n := (((q68).1)).length) (k' := .i64) ha299 rfl Try.underlying41 ti2 pos_shI64 rfl (by omega) zero_shI64 (by omega) (by omega)) ?_
         rintro v338 w339 ⟨ho340, he341⟩ a342 ha342; clear ha299 a299
         have hs343 := hs255.trans' he341
         have hx344 := hx254.trans' he341
         have hzhx344 := he341.size
         refine ⟨(StpL.of_ext hs343), ?_⟩
         refine dr_two (i := 1) (j := 6) (by kernel_rfl) ?_ ?_
         ·
          refine po_to ha342 rfl rfl rfl rfl (op_loadF (off := 1) ha342 rfl Try.underlying23 rfl rfl (hf202.ext hs343).cells rfl) ?_
          intro a345 ha345; clear ha342 a342
          refine ⟨(StpL.of_ext hs343), ?_⟩
          refine dr_one (i := 6) (by kernel_rfl) ?_
          refine po_eff ha345 rfl rfl rfl rfl (op_buildSlice (s := shRowN) (xs := [(((List.replicate ((((q68).1)).length) (0 : Int)) : List Int), (v338 : Value))]) (cs := [v338]) (vs := [(0, v338)]) (S := fun _ => False) (le := w339.heap.size) ha345 rfl pos_shRowN Try.underlying23 ti41 rfl rfl (by decide) ((fill_one (off := 0) ho340.cells1 (by kernel_rfl) (by kernel_rfl)).trans (by kernel_rfl)) (Els.single (mk_shRowN ((((List.replicate ((((q68).1)).length) (0 : Int)) : List Int), (v338 : Value))) ho340.one)) (fun _ h => h.elim)) ?_
          rintro v346 w347 ⟨ho348, he349, hob350⟩ a351 ha351; clear ha345 a345
          have hs352 := hs343.trans' he349
          have hx353 := hx344.trans' he349
          have hzhx353 := he349.size
          replace ho340 := ho340.ext he349
          refine ⟨(StpL.of_ext hs352), ?_⟩
          have hN354 : Nst shI64 2 (fun x : List Int => x) w252.heap.size w347.heap.size w347 ([(((List.replicate ((((q68).1)).length) (0 : Int)) : List Int), (v338 : Value))]) := Nst.one (ho340.fin (by omega) (by omega) (by omega))
          refine dr_one (i := 7) (by kernel_rfl) ?_
          replace hf193 := hf193.ext hs352
          replace hf194 := hf194.ext hs352
          replace hf195 := hf195.ext hs352
          replace hf199 := hf199.ext hs352
          replace hf200 := hf200.ext hs352
          replace hf201 := hf201.ext hs352
          replace hf202 := hf202.ext hs352
          replace ho236 := ho236.ext hs352
          replace hN243 := hN243.ext hs352
          replace hb248 := hb248.ext hs352
          refine po_eff ha351 rfl rfl rfl rfl (op_append (ts := #[]) (s := shRowN) ha351 rfl Try.underlying23 ti41 rfl pos_shRowN rfl rfl hf200 (ho348.rds pos_shRowN) (by omega) (by omega) (by first | omega | (simp; omega) | (simp only [List.length_take]; omega)) (by first | omega | (simp; omega) | (simp only [List.length_take]; omega)) (.inl flat_shRowN)) ?_
          rintro v355 w356 ⟨ho357, hst358, hob359⟩ a360 ha360; clear ha351 a351
          have hx361 := hx353.stp hst358 (by intro q hq; have hq0 := hf200.lt q hq; omega)
          have hzhx361 := hst358.size
          replace hf193 := hf193.stp hst358 (by intro q hq; have hq0 := hf200.lt q hq; omega)
          replace hf194 := hf194.stp hst358 (by intro q hq; have hq0 := hf200.lt q hq; omega)
          replace hf195 := hf195.stp hst358 (by intro q hq; have hq0 := hf200.lt q hq; omega)
          replace hf199 : Own shStr 9 w58.heap.size w58.heap.size w65.heap.size w356 u74 (((q68).1)) := by first | exact hf199.stp hst358 (by intro q hq; have hq0 := hf200.lt q hq; omega) | exact hf199.stpF flat_shStr hst358 (hf199.ne hf200 rfl)
          replace hf201 : Nst shI64 2 (fun x : List Int => x) w58.heap.size w191.heap.size w356 ys := by first | exact hf201.stpF flat_shI64 hst358 hf200 rfl | exact hf201.stp hst358 (by intro q hq; have hq0 := hf200.lt q hq; omega)
          replace hf202 : Box w356 w65.heap.size 28 [u74, v2] := by first | exact hf202.stp hst358 (by intro q hq; have hq0 := hf200.lt q hq; omega) | exact hf202.stp hst358 (by intro q hq e; subst e; exact hf200.ne_box hf202 rfl hq)
          replace ho236 : Own shRowN 41 w17.heap.size w17.heap.size w235.heap.size w356 v234 ((zs ++ [(((List.replicate ((((q30).1)).length) (0 : Int)) : List Int), (v218 : Value))])) := by first | exact ho236.stp hst358 (by intro q hq; have hq0 := hf200.lt q hq; omega) | exact ho236.stpF flat_shRowN hst358 (fun q hq => (fun q hq e => hsp241 q e hq) q hq)
          replace hN243 : Nst shI64 2 (fun x : List Int => x) w17.heap.size w235.heap.size w356 ((zs ++ [(((List.replicate ((((q30).1)).length) (0 : Int)) : List Int), (v218 : Value))])) := by first | exact hN243.stpF flat_shI64 hst358 hf200 rfl | exact hN243.stp hst358 (by intro q hq; have hq0 := hf200.lt q hq; omega)
          replace hb248 := hb248.stp hst358 (by intro q hq; have hq0 := hf200.lt q hq; omega)
          replace ho340 := ho340.stp hst358 (by intro q hq; have hq0 := hf200.lt q hq; omega)
          replace ho348 := ho348.stp hst358 (by intro q hq; have hq0 := hf200.lt q hq; omega)
          replace hN354 := hN354.stp hst358 (by intro q hq; have hq0 := hf200.lt q hq; omega)
          have hsp362 : ∀ q, Value.ownBlock v355 = some q → Value.ownBlock v234 ≠ some q := by intro q hq hb; have hq0 := ho236.lt q hb; rcases hob359 with h | h; (rw [h] at hq; first | (have hq1 := hf200.lt q hq; omega) | exact (fun q hq e => hsp241 q e hq) q hq hb); (rw [h] at hq; cases hq; omega)
          have hsp363 : ∀ q, Value.ownBlock v355 = some q → Value.ownBlock v346 ≠ some q := by intro q hq hb; have hq0 := ho348.lt q hb; rcases hob359 with h | h; (rw [h] at hq; first | (have hq1 := hf200.lt q hq; omega)); (rw [h] at hq; cases hq; omega)
          have hN364 : Nst shI64 2 (fun x : List Int => x) w58.heap.size w356.heap.size w356 ((ys ++ [(((List.replicate ((((q68).1)).length) (0 : Int)) : List Int), (v338 : Value))])) := (hf201.app hN354 (by omega) (by omega) (by omega)).fin (by omega) (by omega)
          have hs365 := (StpL.of_ext (B := fun i => Value.ownBlock v2 = some i ∨ i = w65.heap.size) hs352).trans' (Stp.toL hst358 (by intro q hq; exact Or.inl hq))
          refine ⟨hs365, ?_⟩
          refine dr_val (i := 8) ha360 rfl (by kernel_rfl) (by kernel_rfl) (by kernel_rfl) rfl rfl rfl hs365 (fun w' hw' => op_fieldAddr (sz := 0) ha360 rfl Try.underlying28 rfl rfl ti23 rfl) ?_
          intro a366 ha366; clear ha360 a360
          refine dr_one (i := 9) (by kernel_rfl) ?_
          refine po_effS ha366 rfl rfl rfl (op_store' (off := 1) ha366 rfl ti23 rfl rfl hf202 ho357.cells1 rfl (by intro u hu; have hu : u ∈ ([v355] : List Value) := hu; simp only [List.mem_cons, List.mem_nil_iff, or_false] at hu; rcases hu with rfl <;> first | rfl | exact ho357.one) (Nat.le_of_ble_eq_true rfl)) ?_
          rintro w367 ⟨hb369, hst368, hz370⟩
          have hx371 := hx361.stp hst368 (by intro q hq; cases hq; exact (by omega))
          have hzhx371 := hst368.size
          replace hf193 := hf193.stp hst368 (by intro q hq; cases hq; omega)
          replace hf194 := hf194.stp hst368 (by intro q hq; cases hq; omega)
          replace hf195 := hf195.stp hst368 (by intro q hq; cases hq; omega)
          replace hf199 := hf199.stp hst368 (by intro q hq; cases hq; omega)
          replace ho236 : Own shRowN 41 w17.heap.size w17.heap.size w235.heap.size w367 v234 ((zs ++ [(((List.replicate ((((q30).1)).length) (0 : Int)) : List Int), (v218 : Value))])) := by first | exact ho236.stp hst368 (by intro q hq; cases hq; omega) | exact ho236.stpF flat_shRowN hst368 (by intro q hq; cases hq; exact ho236.ne_box (by assumption) rfl)
          replace hN243 : Nst shI64 2 (fun x : List Int => x) w17.heap.size w235.heap.size w367 ((zs ++ [(((List.replicate ((((q30).1)).length) (0 : Int)) : List Int), (v218 : Value))])) := by first | exact hN243.stp hst368 (by intro q hq; cases hq; omega) | exact hN243.stpB flat_shI64 hst368 (by assumption) rfl
          replace hb248 := hb248.stp hst368 (by intro q hq; cases hq; omega)
          replace ho340 := ho340.stp hst368 (by intro q hq; cases hq; omega)
          replace ho348 := ho348.stp hst368 (by intro q hq; cases hq; omega)
          replace ho357 : Own shRowN 41 w58.heap.size w58.heap.size w356.heap.size w367 v355 ((ys ++ [(((List.replicate ((((q68).1)).length) (0 : Int)) : List Int), (v338 : Value))])) := by first | exact ho357.stp hst368 (by intro q hq; cases hq; omega) | exact ho357.stpF flat_shRowN hst368 (by intro q hq; cases hq; exact ho357.ne_box (by assumption) rfl)
          replace hN364 : Nst shI64 2 (fun x : List Int => x) w58.heap.size w356.heap.size w367 ((ys ++ [(((List.replicate ((((q68).1)).length) (0 : Int)) : List Int), (v338 : Value))])) := by first | exact hN364.stp hst368 (by intro q hq; cases hq; omega) | exact hN364.stpB flat_shI64 hst368 (by assumption) rfl
          clear hf202
          have hs372 := hs365.trans' (Stp.toL hst368 (by intro q hq; cases hq; exact Or.inr (rfl)))
          refine ⟨hs372, ?_⟩
          refine dr_end (by kernel_rfl) ?_
          refine block_n ?_
          refine then_n ?_
          clear ho340 ho348
          refine wp_region_lit ?_
          refine wl_val ha366 rfl rfl rfl (op_move ha366 rfl rfl) ?_
          intro a373 ha373; clear ha366 a366
          refine wl_val ha373 rfl rfl rfl ((op_add ha373 rfl rfl rfl).int (IntWalk.i64_in _ (by omega))) ?_
          intro a374 ha374; clear ha373 a373
          refine wl_val ha374 rfl rfl rfl (op_assign ha374 rfl rfl) ?_
          intro a375 ha375; clear ha374 a374
          refine wpList_nil ?_
          refine round_end (x := (i, v1, zs, v2, ys)) ((i + 1), v234, (zs ++ [(((List.replicate ((((q30).1)).length) (0 : Int)) : List Int), (v218 : Value))]), v355, (ys ++ [(((List.replicate ((((q68).1)).length) (0 : Int)) : List Int), (v338 : Value))])) ?_ ?_
          ·
           refine ⟨(Sl.cons_ ha375 rfl rfl (Sl.cons_ ha375 rfl rfl (Sl.cons_ ha375 rfl rfl (Sl.cons_ ha375 rfl rfl (Sl.cons_ ha375 rfl (int_eq (by omega)) (Sl.nil_ ha375)))))), hx371, hf193, hf194, hf195, hf199, (ho236.fin (by omega) (by omega) (by omega)), (hN243.fin (by omega) (by omega)), hb248, (ho357.fin (by omega) (by omega) (by omega)), (hN364.fin (by omega) (by omega)), hb369, (by omega), (by intro q hq; first | (intro hb; have hq0 := ho236.lt q hq; have hq1 := ho357.lt q hb; omega) | exact (fun q hq e => hsp362 q e hq) q hq), (by omega), (by first | omega | (simp; omega)), (by first | omega | (simp; omega))⟩
          ·show (6 - ((i + 1)) : Nat) < 6 - i; omega
         ·
          refine po_eff ha342 rfl rfl rfl rfl (op_buildSlice (s := shRowN) (xs := [(((List.replicate ((((q68).1)).length) (0 : Int)) : List Int), (v338 : Value))]) (cs := [v338]) (vs := [(0, v338)]) (S := fun _ => False) (le := w339.heap.size) ha342 rfl pos_shRowN Try.underlying23 ti41 rfl rfl (by decide) ((fill_one (off := 0) ho340.cells1 (by kernel_rfl) (by kernel_rfl)).trans (by kernel_rfl)) (Els.single (mk_shRowN ((((List.replicate ((((q68).1)).length) (0 : Int)) : List Int), (v338 : Value))) ho340.one)) (fun _ h => h.elim)) ?_
          rintro v376 w377 ⟨ho378, he379, hob380⟩ a381 ha381; clear ha342 a342
          have hs382 := hs343.trans' he379
          have hx383 := hx344.trans' he379
          have hzhx383 := he379.size
          replace ho340 := ho340.ext he379
          refine ⟨(StpL.of_ext hs382), ?_⟩
          have hN384 : Nst shI64 2 (fun x : List Int => x) w252.heap.size w377.heap.size w377 ([(((List.replicate ((((q68).1)).length) (0 : Int)) : List Int), (v338 : Value))]) := Nst.one (ho340.fin (by omega) (by omega) (by omega))
          refine dr_one (i := 1) (by kernel_rfl) ?_
          refine po_to ha381 rfl rfl rfl rfl (op_loadF (off := 1) ha381 rfl Try.underlying23 rfl rfl (hf202.ext hs382).cells rfl) ?_
          intro a385 ha385; clear ha381 a381
          refine ⟨(StpL.of_ext hs382), ?_⟩
          refine dr_one (i := 7) (by kernel_rfl) ?_
          replace hf193 := hf193.ext hs382
          replace hf194 := hf194.ext hs382
          replace hf195 := hf195.ext hs382
          replace hf199 := hf199.ext hs382
          replace hf200 := hf200.ext hs382
          replace hf201 := hf201.ext hs382
          replace hf202 := hf202.ext hs382
          replace ho236 := ho236.ext hs382
          replace hN243 := hN243.ext hs382
          replace hb248 := hb248.ext hs382
          refine po_eff ha385 rfl rfl rfl rfl (op_append (ts := #[]) (s := shRowN) ha385 rfl Try.underlying23 ti41 rfl pos_shRowN rfl rfl hf200 (ho378.rds pos_shRowN) (by omega) (by omega) (by first | omega | (simp; omega) | (simp only [List.length_take]; omega)) (by first | omega | (simp; omega) | (simp only [List.length_take]; omega)) (.inl flat_shRowN)) ?_
          rintro v386 w387 ⟨ho388, hst389, hob390⟩ a391 ha391; clear ha385 a385
          have hx392 := hx383.stp hst389 (by intro q hq; have hq0 := hf200.lt q hq; omega)
          have hzhx392 := hst389.size
          replace hf193 := hf193.stp hst389 (by intro q hq; have hq0 := hf200.lt q hq; omega)
          replace hf194 := hf194.stp hst389 (by intro q hq; have hq0 := hf200.lt q hq; omega)
          replace hf195 := hf195.stp hst389 (by intro q hq; have hq0 := hf200.lt q hq; omega)
          replace hf199 : Own shStr 9 w58.heap.size w58.heap.size w65.heap.size w387 u74 (((q68).1)) := by first | exact hf199.stp hst389 (by intro q hq; have hq0 := hf200.lt q hq; omega) | exact hf199.stpF flat_shStr hst389 (hf199.ne hf200 rfl)
          replace hf201 : Nst shI64 2 (fun x : List Int => x) w58.heap.size w191.heap.size w387 ys := by first | exact hf201.stpF flat_shI64 hst389 hf200 rfl | exact hf201.stp hst389 (by intro q hq; have hq0 := hf200.lt q hq; omega)
          replace hf202 : Box w387 w65.heap.size 28 [u74, v2] := by first | exact hf202.stp hst389 (by intro q hq; have hq0 := hf200.lt q hq; omega) | exact hf202.stp hst389 (by intro q hq e; subst e; exact hf200.ne_box hf202 rfl hq)
          replace ho236 : Own shRowN 41 w17.heap.size w17.heap.size w235.heap.size w387 v234 ((zs ++ [(((List.replicate ((((q30).1)).length) (0 : Int)) : List Int), (v218 : Value))])) := by first | exact ho236.stp hst389 (by intro q hq; have hq0 := hf200.lt q hq; omega) | exact ho236.stpF flat_shRowN hst389 (fun q hq => (fun q hq e => hsp241 q e hq) q hq)
          replace hN243 : Nst shI64 2 (fun x : List Int => x) w17.heap.size w235.heap.size w387 ((zs ++ [(((List.replicate ((((q30).1)).length) (0 : Int)) : List Int), (v218 : Value))])) := by first | exact hN243.stpF flat_shI64 hst389 hf200 rfl | exact hN243.stp hst389 (by intro q hq; have hq0 := hf200.lt q hq; omega)
          replace hb248 := hb248.stp hst389 (by intro q hq; have hq0 := hf200.lt q hq; omega)
          replace ho340 := ho340.stp hst389 (by intro q hq; have hq0 := hf200.lt q hq; omega)
          replace ho378 := ho378.stp hst389 (by intro q hq; have hq0 := hf200.lt q hq; omega)
          replace hN384 := hN384.stp hst389 (by intro q hq; have hq0 := hf200.lt q hq; omega)
          have hsp393 : ∀ q, Value.ownBlock v386 = some q → Value.ownBlock v234 ≠ some q := by intro q hq hb; have hq0 := ho236.lt q hb; rcases hob390 with h | h; (rw [h] at hq; first | (have hq1 := hf200.lt q hq; omega) | exact (fun q hq e => hsp241 q e hq) q hq hb); (rw [h] at hq; cases hq; omega)
          have hsp394 : ∀ q, Value.ownBlock v386 = some q → Value.ownBlock v376 ≠ some q := by intro q hq hb; have hq0 := ho378.lt q hb; rcases hob390 with h | h; (rw [h] at hq; first | (have hq1 := hf200.lt q hq; omega)); (rw [h] at hq; cases hq; omega)
          have hN395 : Nst shI64 2 (fun x : List Int => x) w58.heap.size w387.heap.size w387 ((ys ++ [(((List.replicate ((((q68).1)).length) (0 : Int)) : List Int), (v338 : Value))])) := (hf201.app hN384 (by omega) (by omega) (by omega)).fin (by omega) (by omega)
          have hs396 := (StpL.of_ext (B := fun i => Value.ownBlock v2 = some i ∨ i = w65.heap.size) hs382).trans' (Stp.toL hst389 (by intro q hq; exact Or.inl hq))
          refine ⟨hs396, ?_⟩
          refine dr_val (i := 8) ha391 rfl (by kernel_rfl) (by kernel_rfl) (by kernel_rfl) rfl rfl rfl hs396 (fun w' hw' => op_fieldAddr (sz := 0) ha391 rfl Try.underlying28 rfl rfl ti23 rfl) ?_
          intro a397 ha397; clear ha391 a391
          refine dr_one (i := 9) (by kernel_rfl) ?_
          refine po_effS ha397 rfl rfl rfl (op_store' (off := 1) ha397 rfl ti23 rfl rfl hf202 ho388.cells1 rfl (by intro u hu; have hu : u ∈ ([v386] : List Value) := hu; simp only [List.mem_cons, List.mem_nil_iff, or_false] at hu; rcases hu with rfl <;> first | rfl | exact ho388.one) (Nat.le_of_ble_eq_true rfl)) ?_
          rintro w398 ⟨hb400, hst399, hz401⟩
          have hx402 := hx392.stp hst399 (by intro q hq; cases hq; exact (by omega))
          have hzhx402 := hst399.size
          replace hf193 := hf193.stp hst399 (by intro q hq; cases hq; omega)
          replace hf194 := hf194.stp hst399 (by intro q hq; cases hq; omega)
          replace hf195 := hf195.stp hst399 (by intro q hq; cases hq; omega)
          replace hf199 := hf199.stp hst399 (by intro q hq; cases hq; omega)
          replace ho236 : Own shRowN 41 w17.heap.size w17.heap.size w235.heap.size w398 v234 ((zs ++ [(((List.replicate ((((q30).1)).length) (0 : Int)) : List Int), (v218 : Value))])) := by first | exact ho236.stp hst399 (by intro q hq; cases hq; omega) | exact ho236.stpF flat_shRowN hst399 (by intro q hq; cases hq; exact ho236.ne_box (by assumption) rfl)
          replace hN243 : Nst shI64 2 (fun x : List Int => x) w17.heap.size w235.heap.size w398 ((zs ++ [(((List.replicate ((((q30).1)).length) (0 : Int)) : List Int), (v218 : Value))])) := by first | exact hN243.stp hst399 (by intro q hq; cases hq; omega) | exact hN243.stpB flat_shI64 hst399 (by assumption) rfl
          replace hb248 := hb248.stp hst399 (by intro q hq; cases hq; omega)
          replace ho340 := ho340.stp hst399 (by intro q hq; cases hq; omega)
          replace ho378 := ho378.stp hst399 (by intro q hq; cases hq; omega)
          replace ho388 : Own shRowN 41 w58.heap.size w58.heap.size w387.heap.size w398 v386 ((ys ++ [(((List.replicate ((((q68).1)).length) (0 : Int)) : List Int), (v338 : Value))])) := by first | exact ho388.stp hst399 (by intro q hq; cases hq; omega) | exact ho388.stpF flat_shRowN hst399 (by intro q hq; cases hq; exact ho388.ne_box (by assumption) rfl)
          replace hN395 : Nst shI64 2 (fun x : List Int => x) w58.heap.size w387.heap.size w398 ((ys ++ [(((List.replicate ((((q68).1)).length) (0 : Int)) : List Int), (v338 : Value))])) := by first | exact hN395.stp hst399 (by intro q hq; cases hq; omega) | exact hN395.stpB flat_shI64 hst399 (by assumption) rfl
          clear hf202
          have hs403 := hs396.trans' (Stp.toL hst399 (by intro q hq; cases hq; exact Or.inr (rfl)))
          refine ⟨hs403, ?_⟩
          refine dr_end (by kernel_rfl) ?_
          refine block_n ?_
          refine then_n ?_
          clear ho340 ho378
          refine wp_region_lit ?_
          refine wl_val ha397 rfl rfl rfl (op_move ha397 rfl rfl) ?_
          intro a404 ha404; clear ha397 a397
          refine wl_val ha404 rfl rfl rfl ((op_add ha404 rfl rfl rfl).int (IntWalk.i64_in _ (by omega))) ?_
          intro a405 ha405; clear ha404 a404
          refine wl_val ha405 rfl rfl rfl (op_assign ha405 rfl rfl) ?_
          intro a406 ha406; clear ha405 a405
          refine wpList_nil ?_
          refine round_end (x := (i, v1, zs, v2, ys)) ((i + 1), v234, (zs ++ [(((List.replicate ((((q30).1)).length) (0 : Int)) : List Int), (v218 : Value))]), v386, (ys ++ [(((List.replicate ((((q68).1)).length) (0 : Int)) : List Int), (v338 : Value))])) ?_ ?_
          ·
           refine ⟨(Sl.cons_ ha406 rfl rfl (Sl.cons_ ha406 rfl rfl (Sl.cons_ ha406 rfl rfl (Sl.cons_ ha406 rfl rfl (Sl.cons_ ha406 rfl (int_eq (by omega)) (Sl.nil_ ha406)))))), hx402, hf193, hf194, hf195, hf199, (ho236.fin (by omega) (by omega) (by omega)), (hN243.fin (by omega) (by omega)), hb248, (ho388.fin (by omega) (by omega) (by omega)), (hN395.fin (by omega) (by omega)), hb400, (by omega), (by intro q hq; first | (intro hb; have hq0 := ho236.lt q hq; have hq1 := ho388.lt q hb; omega) | exact (fun q hq e => hsp393 q e hq) q hq), (by omega), (by first | omega | (simp; omega)), (by first | omega | (simp; omega))⟩
          ·show (6 - ((i + 1)) : Nat) < 6 - i; omega
      ·
       refine po_to ha214 rfl rfl rfl rfl (op_loadF (off := 0) ha214 rfl Try.underlying22 rfl rfl (hf198.ext hs212).cells rfl) ?_
       intro a407 ha407; clear ha214 a214
       refine ⟨(StpL.of_ext hs212), ?_⟩
       refine dr_val (i := 4) ha407 rfl (by kernel_rfl) (by kernel_rfl) (by kernel_rfl) rfl rfl rfl (StpL.of_ext hs212) (fun w' hw' => op_len_sl ha407 rfl Try.underlying22 rfl (hf195.rds pos_shStr)) ?_
       intro a408 ha408; clear ha407 a407
       refine dr_two (i := 1) (j := 5) (by kernel_rfl) ?_ ?_
       ·
        refine po_to ha408 rfl rfl rfl rfl (op_loadF (off := 1) ha408 rfl Try.underlying23 rfl rfl (hf198.ext hs212).cells rfl) ?_
        intro a409 ha409; clear ha408 a408
        refine ⟨(StpL.of_ext hs212), ?_⟩
        refine dr_one (i := 5) (by kernel_rfl) ?_
        refine po_eff ha409 rfl rfl rfl rfl (op_make (s := shI64) (n := (((q30).1)).length) (k' := .i64) ha409 rfl Try.underlying41 ti2 pos_shI64 rfl (by omega) zero_shI64 (by omega) (by omega)) ?_
        rintro v410 w411 ⟨ho412, he413⟩ a414 ha414; clear ha409 a409
        have hs415 := hs212.trans' he413
        have hx416 := hx211.trans' he413
        have hzhx416 := he413.size
        refine ⟨(StpL.of_ext hs415), ?_⟩
        refine dr_one (i := 6) (by kernel_rfl) ?_
        refine po_eff ha414 rfl rfl rfl rfl (op_buildSlice (s := shRowN) (xs := [(((List.replicate ((((q30).1)).length) (0 : Int)) : List Int), (v410 : Value))]) (cs := [v410]) (vs := [(0, v410)]) (S := fun _ => False) (le := w411.heap.size) ha414 rfl pos_shRowN Try.underlying23 ti41 rfl rfl (by decide) ((fill_one (off := 0) ho412.cells1 (by kernel_rfl) (by kernel_rfl)).trans (by kernel_rfl)) (Els.single (mk_shRowN ((((List.replicate ((((q30).1)).length) (0 : Int)) : List Int), (v410 : Value))) ho412.one)) (fun _ h => h.elim)) ?_
        rintro v417 w418 ⟨ho419, he420, hob421⟩ a422 ha422; clear ha414 a414
        have hs423 := hs415.trans' he420
        have hx424 := hx416.trans' he420
        have hzhx424 := he420.size
        replace ho412 := ho412.ext he420
        refine ⟨(StpL.of_ext hs423), ?_⟩
        have hN425 : Nst shI64 2 (fun x : List Int => x) w209.heap.size w418.heap.size w418 ([(((List.replicate ((((q30).1)).length) (0 : Int)) : List Int), (v410 : Value))]) := Nst.one (ho412.fin (by omega) (by omega) (by omega))
        refine dr_one (i := 7) (by kernel_rfl) ?_
        replace hf193 := hf193.ext hs423
        replace hf194 := hf194.ext hs423
        replace hf195 := hf195.ext hs423
        replace hf199 := hf199.ext hs423
        replace hf196 := hf196.ext hs423
        replace hf197 := hf197.ext hs423
        replace hf198 := hf198.ext hs423
        replace hf200 := hf200.ext hs423
        replace hf201 := hf201.ext hs423
        replace hf202 := hf202.ext hs423
        refine po_eff ha422 rfl rfl rfl rfl (op_append (ts := #[]) (s := shRowN) ha422 rfl Try.underlying23 ti41 rfl pos_shRowN rfl rfl hf196 (ho419.rds pos_shRowN) (by omega) (by omega) (by first | omega | (simp; omega) | (simp only [List.length_take]; omega)) (by first | omega | (simp; omega) | (simp only [List.length_take]; omega)) (.inl flat_shRowN)) ?_
        rintro v426 w427 ⟨ho428, hst429, hob430⟩ a431 ha431; clear ha422 a422
        have hx432 := hx424.stp hst429 (by intro q hq; have hq0 := hf196.lt q hq; omega)
        have hzhx432 := hst429.size
        replace hf193 := hf193.stp hst429 (by intro q hq; have hq0 := hf196.lt q hq; omega)
        replace hf194 := hf194.stp hst429 (by intro q hq; have hq0 := hf196.lt q hq; omega)
        replace hf195 : Own shStr 9 w17.heap.size w17.heap.size w27.heap.size w427 u35 (((q30).1)) := by first | exact hf195.stp hst429 (by intro q hq; have hq0 := hf196.lt q hq; omega) | exact hf195.stpF flat_shStr hst429 (hf195.ne hf196 rfl)
        replace hf199 : Own shStr 9 w58.heap.size w58.heap.size w65.heap.size w427 u74 (((q68).1)) := by first | exact hf199.stp hst429 (by intro q hq; have hq0 := hf196.lt q hq; omega) | exact hf199.stpF flat_shStr hst429 (hf199.ne hf196 rfl)
        replace hf197 : Nst shI64 2 (fun x : List Int => x) w17.heap.size w191.heap.size w427 zs := by first | exact hf197.stpF flat_shI64 hst429 hf196 rfl | exact hf197.stp hst429 (by intro q hq; have hq0 := hf196.lt q hq; omega)
        replace hf198 : Box w427 w27.heap.size 28 [u35, v1] := by first | exact hf198.stp hst429 (by intro q hq; have hq0 := hf196.lt q hq; omega) | exact hf198.stp hst429 (by intro q hq e; subst e; exact hf196.ne_box hf198 rfl hq)
        replace hf200 : Own shRowN 41 w58.heap.size w58.heap.size w191.heap.size w427 v2 ys := by first | exact hf200.stp hst429 (by intro q hq; have hq0 := hf196.lt q hq; omega) | exact hf200.stpF flat_shRowN hst429 (fun q hq => hsp203 q hq)
        replace hf201 : Nst shI64 2 (fun x : List Int => x) w58.heap.size w191.heap.size w427 ys := by first | exact hf201.stpF flat_shI64 hst429 hf196 rfl | exact hf201.stp hst429 (by intro q hq; have hq0 := hf196.lt q hq; omega)
        replace hf202 : Box w427 w65.heap.size 28 [u74, v2] := by first | exact hf202.stp hst429 (by intro q hq; have hq0 := hf196.lt q hq; omega) | exact hf202.stp hst429 (by intro q hq e; subst e; exact hf196.ne_box hf202 rfl hq)
        replace ho412 := ho412.stp hst429 (by intro q hq; have hq0 := hf196.lt q hq; omega)
        replace ho419 := ho419.stp hst429 (by intro q hq; have hq0 := hf196.lt q hq; omega)
        replace hN425 := hN425.stp hst429 (by intro q hq; have hq0 := hf196.lt q hq; omega)
        have hsp433 : ∀ q, Value.ownBlock v426 = some q → Value.ownBlock v2 ≠ some q := by intro q hq hb; have hq0 := hf200.lt q hb; rcases hob430 with h | h; (rw [h] at hq; first | (have hq1 := hf196.lt q hq; omega) | exact hsp203 q hq hb); (rw [h] at hq; cases hq; omega)
        have hsp434 : ∀ q, Value.ownBlock v426 = some q → Value.ownBlock v417 ≠ some q := by intro q hq hb; have hq0 := ho419.lt q hb; rcases hob430 with h | h; (rw [h] at hq; first | (have hq1 := hf196.lt q hq; omega)); (rw [h] at hq; cases hq; omega)
        have hN435 : Nst shI64 2 (fun x : List Int => x) w17.heap.size w427.heap.size w427 ((zs ++ [(((List.replicate ((((q30).1)).length) (0 : Int)) : List Int), (v410 : Value))])) := (hf197.app hN425 (by omega) (by omega) (by omega)).fin (by omega) (by omega)
        have hs436 := (StpL.of_ext (B := fun i => Value.ownBlock v1 = some i ∨ i = w27.heap.size) hs423).trans' (Stp.toL hst429 (by intro q hq; exact Or.inl hq))
        refine ⟨hs436, ?_⟩
        refine dr_val (i := 8) ha431 rfl (by kernel_rfl) (by kernel_rfl) (by kernel_rfl) rfl rfl rfl hs436 (fun w' hw' => op_fieldAddr (sz := 0) ha431 rfl Try.underlying28 rfl rfl ti23 rfl) ?_
        intro a437 ha437; clear ha431 a431
        refine dr_one (i := 9) (by kernel_rfl) ?_
        refine po_effS ha437 rfl rfl rfl (op_store' (off := 1) ha437 rfl ti23 rfl rfl hf198 ho428.cells1 rfl (by intro u hu; have hu : u ∈ ([v426] : List Value) := hu; simp only [List.mem_cons, List.mem_nil_iff, or_false] at hu; rcases hu with rfl <;> first | rfl | exact ho428.one) (Nat.le_of_ble_eq_true rfl)) ?_
        rintro w438 ⟨hb440, hst439, hz441⟩
        have hx442 := hx432.stp hst439 (by intro q hq; cases hq; exact (by omega))
        have hzhx442 := hst439.size
        replace hf193 := hf193.stp hst439 (by intro q hq; cases hq; omega)
        replace hf194 := hf194.stp hst439 (by intro q hq; cases hq; omega)
        replace hf195 := hf195.stp hst439 (by intro q hq; cases hq; omega)
        replace hf199 := hf199.stp hst439 (by intro q hq; cases hq; omega)
        replace hf200 := hf200.stp hst439 (by intro q hq; cases hq; omega)
        replace hf201 := hf201.stp hst439 (by intro q hq; cases hq; omega)
        replace hf202 := hf202.stp hst439 (by intro q hq; cases hq; omega)
        replace ho412 := ho412.stp hst439 (by intro q hq; cases hq; omega)
        replace ho419 := ho419.stp hst439 (by intro q hq; cases hq; omega)
        replace ho428 : Own shRowN 41 w17.heap.size w17.heap.size w427.heap.size w438 v426 ((zs ++ [(((List.replicate ((((q30).1)).length) (0 : Int)) : List Int), (v410 : Value))])) := by first | exact ho428.stp hst439 (by intro q hq; cases hq; omega) | exact ho428.stpF flat_shRowN hst439 (by intro q hq; cases hq; exact ho428.ne_box (by assumption) rfl)
        replace hN435 : Nst shI64 2 (fun x : List Int => x) w17.heap.size w427.heap.size w438 ((zs ++ [(((List.replicate ((((q30).1)).length) (0 : Int)) : List Int), (v410 : Value))])) := by first | exact hN435.stp hst439 (by intro q hq; cases hq; omega) | exact hN435.stpB flat_shI64 hst439 (by assumption) rfl
        clear hf198
        have hs443 := hs436.trans' (Stp.toL hst439 (by intro q hq; cases hq; exact Or.inr (rfl)))
        refine ⟨hs443, ?_⟩
        refine dr_end (by kernel_rfl) ?_
        refine then_n ?_
        clear ho412 ho419
        refine dr_enter (fun wa_ wb_ => StpL wa_ wb_ (fun i => Value.ownBlock v2 = some i ∨ i = w65.heap.size)) follows_mixed ?_
        intro w444 he445
        have hx446 := hx442.trans' he445
        have hzhx446 := he445.size
        replace hf193 := hf193.ext he445
        replace hf194 := hf194.ext he445
        replace hf195 := hf195.ext he445
        replace hf199 := hf199.ext he445
        replace hf200 := hf200.ext he445
        replace hf201 := hf201.ext he445
        replace hf202 := hf202.ext he445
        replace ho428 := ho428.ext he445
        replace hN435 := hN435.ext he445
        replace hb440 := hb440.ext he445
        have hs447 : Ext w444 w444 := Ext.rfl' _
        refine dr_val (i := 0) ha437 rfl (by kernel_rfl) (by kernel_rfl) (by kernel_rfl) rfl rfl rfl (StpL.of_ext hs447) (fun w' hw' => op_fieldAddr (sz := 0) ha437 rfl Try.underlying28 rfl rfl ti23 rfl) ?_
        intro a448 ha448; clear ha437 a437
        refine dr_val (i := 2) ha448 rfl (by kernel_rfl) (by kernel_rfl) (by kernel_rfl) rfl rfl rfl (StpL.of_ext hs447) (fun w' hw' => op_fieldAddr (sz := 0) ha448 rfl Try.underlying28 rfl rfl ti22 rfl) ?_
        intro a449 ha449; clear ha448 a448
        refine dr_two (i := 1) (j := 3) (by kernel_rfl) ?_ ?_
        ·
         refine po_to ha449 rfl rfl rfl rfl (op_loadF (off := 1) ha449 rfl Try.underlying23 rfl rfl (hf202.ext hs447).cells rfl) ?_
         intro a450 ha450; clear ha449 a449
         refine ⟨(StpL.of_ext hs447), ?_⟩
         refine dr_one (i := 3) (by kernel_rfl) ?_
         refine po_to ha450 rfl rfl rfl rfl (op_loadF (off := 0) ha450 rfl Try.underlying22 rfl rfl (hf202.ext hs447).cells rfl) ?_
         intro a451 ha451; clear ha450 a450
         refine ⟨(StpL.of_ext hs447), ?_⟩
         refine dr_val (i := 4) ha451 rfl (by kernel_rfl) (by kernel_rfl) (by kernel_rfl) rfl rfl rfl (StpL.of_ext hs447) (fun w' hw' => op_len_sl ha451 rfl Try.underlying22 rfl (hf199.rds pos_shStr)) ?_
         intro a452 ha452; clear ha451 a451
         refine dr_one (i := 5) (by kernel_rfl) ?_
         refine po_eff ha452 rfl rfl rfl rfl (op_make (s := shI64) (n := (((q68).1)).length) (k' := .i64) ha452 rfl Try.underlying41 ti2 pos_shI64 rfl (by omega) zero_shI64 (by omega) (by omega)) ?_
         rintro v453 w454 ⟨ho455, he456⟩ a457 ha457; clear ha452 a452
         have hs458 := hs447.trans' he456
         have hx459 := hx446.trans' he456
         have hzhx459 := he456.size
         refine ⟨(StpL.of_ext hs458), ?_⟩
         refine dr_one (i := 6) (by kernel_rfl) ?_
         refine po_eff ha457 rfl rfl rfl rfl (op_buildSlice (s := shRowN) (xs := [(((List.replicate ((((q68).1)).length) (0 : Int)) : List Int), (v453 : Value))]) (cs := [v453]) (vs := [(0, v453)]) (S := fun _ => False) (le := w454.heap.size) ha457 rfl pos_shRowN Try.underlying23 ti41 rfl rfl (by decide) ((fill_one (off := 0) ho455.cells1 (by kernel_rfl) (by kernel_rfl)).trans (by kernel_rfl)) (Els.single (mk_shRowN ((((List.replicate ((((q68).1)).length) (0 : Int)) : List Int), (v453 : Value))) ho455.one)) (fun _ h => h.elim)) ?_
         rintro v460 w461 ⟨ho462, he463, hob464⟩ a465 ha465; clear ha457 a457
         have hs466 := hs458.trans' he463
         have hx467 := hx459.trans' he463
         have hzhx467 := he463.size
         replace ho455 := ho455.ext he463
         refine ⟨(StpL.of_ext hs466), ?_⟩
         have hN468 : Nst shI64 2 (fun x : List Int => x) w444.heap.size w461.heap.size w461 ([(((List.replicate ((((q68).1)).length) (0 : Int)) : List Int), (v453 : Value))]) := Nst.one (ho455.fin (by omega) (by omega) (by omega))
         refine dr_one (i := 7) (by kernel_rfl) ?_
         replace hf193 := hf193.ext hs466
         replace hf194 := hf194.ext hs466
         replace hf195 := hf195.ext hs466
         replace hf199 := hf199.ext hs466
         replace hf200 := hf200.ext hs466
         replace hf201 := hf201.ext hs466
         replace hf202 := hf202.ext hs466
         replace ho428 := ho428.ext hs466
         replace hN435 := hN435.ext hs466
         replace hb440 := hb440.ext hs466
         refine po_eff ha465 rfl rfl rfl rfl (op_append (ts := #[]) (s := shRowN) ha465 rfl Try.underlying23 ti41 rfl pos_shRowN rfl rfl hf200 (ho462.rds pos_shRowN) (by omega) (by omega) (by first | omega | (simp; omega) | (simp only [List.length_take]; omega)) (by first | omega | (simp; omega) | (simp only [List.length_take]; omega)) (.inl flat_shRowN)) ?_
         rintro v469 w470 ⟨ho471, hst472, hob473⟩ a474 ha474; clear ha465 a465
         have hx475 := hx467.stp hst472 (by intro q hq; have hq0 := hf200.lt q hq; omega)
         have hzhx475 := hst472.size
         replace hf193 := hf193.stp hst472 (by intro q hq; have hq0 := hf200.lt q hq; omega)
         replace hf194 := hf194.stp hst472 (by intro q hq; have hq0 := hf200.lt q hq; omega)
         replace hf195 := hf195.stp hst472 (by intro q hq; have hq0 := hf200.lt q hq; omega)
         replace hf199 : Own shStr 9 w58.heap.size w58.heap.size w65.heap.size w470 u74 (((q68).1)) := by first | exact hf199.stp hst472 (by intro q hq; have hq0 := hf200.lt q hq; omega) | exact hf199.stpF flat_shStr hst472 (hf199.ne hf200 rfl)
         replace hf201 : Nst shI64 2 (fun x : List Int => x) w58.heap.size w191.heap.size w470 ys := by first | exact hf201.stpF flat_shI64 hst472 hf200 rfl | exact hf201.stp hst472 (by intro q hq; have hq0 := hf200.lt q hq; omega)
         replace hf202 : Box w470 w65.heap.size 28 [u74, v2] := by first | exact hf202.stp hst472 (by intro q hq; have hq0 := hf200.lt q hq; omega) | exact hf202.stp hst472 (by intro q hq e; subst e; exact hf200.ne_box hf202 rfl hq)
         replace ho428 : Own shRowN 41 w17.heap.size w17.heap.size w427.heap.size w470 v426 ((zs ++ [(((List.replicate ((((q30).1)).length) (0 : Int)) : List Int), (v410 : Value))])) := by first | exact ho428.stp hst472 (by intro q hq; have hq0 := hf200.lt q hq; omega) | exact ho428.stpF flat_shRowN hst472 (fun q hq => (fun q hq e => hsp433 q e hq) q hq)
         replace hN435 : Nst shI64 2 (fun x : List Int => x) w17.heap.size w427.heap.size w470 ((zs ++ [(((List.replicate ((((q30).1)).length) (0 : Int)) : List Int), (v410 : Value))])) := by first | exact hN435.stpF flat_shI64 hst472 hf200 rfl | exact hN435.stp hst472 (by intro q hq; have hq0 := hf200.lt q hq; omega)
         replace hb440 := hb440.stp hst472 (by intro q hq; have hq0 := hf200.lt q hq; omega)
         replace ho455 := ho455.stp hst472 (by intro q hq; have hq0 := hf200.lt q hq; omega)
         replace ho462 := ho462.stp hst472 (by intro q hq; have hq0 := hf200.lt q hq; omega)
         replace hN468 := hN468.stp hst472 (by intro q hq; have hq0 := hf200.lt q hq; omega)
         have hsp476 : ∀ q, Value.ownBlock v469 = some q → Value.ownBlock v426 ≠ some q := by intro q hq hb; have hq0 := ho428.lt q hb; rcases hob473 with h | h; (rw [h] at hq; first | (have hq1 := hf200.lt q hq; omega) | exact (fun q hq e => hsp433 q e hq) q hq hb); (rw [h] at hq; cases hq; omega)
         have hsp477 : ∀ q, Value.ownBlock v469 = some q → Value.ownBlock v460 ≠ some q := by intro q hq hb; have hq0 := ho462.lt q hb; rcases hob473 with h | h; (rw [h] at hq; first | (have hq1 := hf200.lt q hq; omega)); (rw [h] at hq; cases hq; omega)
         have hN478 : Nst shI64 2 (fun x : List Int => x) w58.heap.size w470.heap.size w470 ((ys ++ [(((List.replicate ((((q68).1)).length) (0 : Int)) : List Int), (v453 : Value))])) := (hf201.app hN468 (by omega) (by omega) (by omega)).fin (by omega) (by omega)
         have hs479 := (StpL.of_ext (B := fun i => Value.ownBlock v2 = some i ∨ i = w65.heap.size) hs466).trans' (Stp.toL hst472 (by intro q hq; exact Or.inl hq))
         refine ⟨hs479, ?_⟩
         refine dr_val (i := 8) ha474 rfl (by kernel_rfl) (by kernel_rfl) (by kernel_rfl) rfl rfl rfl hs479 (fun w' hw' => op_fieldAddr (sz := 0) ha474 rfl Try.underlying28 rfl rfl ti23 rfl) ?_
         intro a480 ha480; clear ha474 a474
         refine dr_one (i := 9) (by kernel_rfl) ?_
         refine po_effS ha480 rfl rfl rfl (op_store' (off := 1) ha480 rfl ti23 rfl rfl hf202 ho471.cells1 rfl (by intro u hu; have hu : u ∈ ([v469] : List Value) := hu; simp only [List.mem_cons, List.mem_nil_iff, or_false] at hu; rcases hu with rfl <;> first | rfl | exact ho471.one) (Nat.le_of_ble_eq_true rfl)) ?_
         rintro w481 ⟨hb483, hst482, hz484⟩
         have hx485 := hx475.stp hst482 (by intro q hq; cases hq; exact (by omega))
         have hzhx485 := hst482.size
         replace hf193 := hf193.stp hst482 (by intro q hq; cases hq; omega)
         replace hf194 := hf194.stp hst482 (by intro q hq; cases hq; omega)
         replace hf195 := hf195.stp hst482 (by intro q hq; cases hq; omega)
         replace hf199 := hf199.stp hst482 (by intro q hq; cases hq; omega)
         replace ho428 : Own shRowN 41 w17.heap.size w17.heap.size w427.heap.size w481 v426 ((zs ++ [(((List.replicate ((((q30).1)).length) (0 : Int)) : List Int), (v410 : Value))])) := by first | exact ho428.stp hst482 (by intro q hq; cases hq; omega) | exact ho428.stpF flat_shRowN hst482 (by intro q hq; cases hq; exact ho428.ne_box (by assumption) rfl)
         replace hN435 : Nst shI64 2 (fun x : List Int => x) w17.heap.size w427.heap.size w481 ((zs ++ [(((List.replicate ((((q30).1)).length) (0 : Int)) : List Int), (v410 : Value))])) := by first | exact hN435.stp hst482 (by intro q hq; cases hq; omega) | exact hN435.stpB flat_shI64 hst482 (by assumption) rfl
         replace hb440 := hb440.stp hst482 (by intro q hq; cases hq; omega)
         replace ho455 := ho455.stp hst482 (by intro q hq; cases hq; omega)
         replace ho462 := ho462.stp hst482 (by intro q hq; cases hq; omega)
         replace ho471 : Own shRowN 41 w58.heap.size w58.heap.size w470.heap.size w481 v469 ((ys ++ [(((List.replicate ((((q68).1)).length) (0 : Int)) : List Int), (v453 : Value))])) := by first | exact ho471.stp hst482 (by intro q hq; cases hq; omega) | exact ho471.stpF flat_shRowN hst482 (by intro q hq; cases hq; exact ho471.ne_box (by assumption) rfl)
         replace hN478 : Nst shI64 2 (fun x : List Int => x) w58.heap.size w470.heap.size w481 ((ys ++ [(((List.replicate ((((q68).1)).length) (0 : Int)) : List Int), (v453 : Value))])) := by first | exact hN478.stp hst482 (by intro q hq; cases hq; omega) | exact hN478.stpB flat_shI64 hst482 (by assumption) rfl
         clear hf202
         have hs486 := hs479.trans' (Stp.toL hst482 (by intro q hq; cases hq; exact Or.inr (rfl)))
         refine ⟨hs486, ?_⟩
         refine dr_end (by kernel_rfl) ?_
         refine block_n ?_
         refine then_n ?_
         clear ho455 ho462
         refine wp_region_lit ?_
         refine wl_val ha480 rfl rfl rfl (op_move ha480 rfl rfl) ?_
         intro a487 ha487; clear ha480 a480
         refine wl_val ha487 rfl rfl rfl ((op_add ha487 rfl rfl rfl).int (IntWalk.i64_in _ (by omega))) ?_
         intro a488 ha488; clear ha487 a487
         refine wl_val ha488 rfl rfl rfl (op_assign ha488 rfl rfl) ?_
         intro a489 ha489; clear ha488 a488
         refine wpList_nil ?_
         refine round_end (x := (i, v1, zs, v2, ys)) ((i + 1), v426, (zs ++ [(((List.replicate ((((q30).1)).length) (0 : Int)) : List Int), (v410 : Value))]), v469, (ys ++ [(((List.replicate ((((q68).1)).length) (0 : Int)) : List Int), (v453 : Value))])) ?_ ?_
         ·
          refine ⟨(Sl.cons_ ha489 rfl rfl (Sl.cons_ ha489 rfl rfl (Sl.cons_ ha489 rfl rfl (Sl.cons_ ha489 rfl rfl (Sl.cons_ ha489 rfl (int_eq (by omega)) (Sl.nil_ ha489)))))), hx485, hf193, hf194, hf195, hf199, (ho428.fin (by omega) (by omega) (by omega)), (hN435.fin (by omega) (by omega)), hb440, (ho471.fin (by omega) (by omega) (by omega)), (hN478.fin (by omega) (by omega)), hb483, (by omega), (by intro q hq; first | (intro hb; have hq0 := ho428.lt q hq; have hq1 := ho471.lt q hb; omega) | exact (fun q hq e => hsp476 q e hq) q hq), (by omega), (by first | omega | (simp; omega)), (by first | omega | (simp; omega))⟩
         ·show (6 - ((i + 1)) : Nat) < 6 - i; omega
        ·
         refine po_to ha449 rfl rfl rfl rfl (op_loadF (off := 0) ha449 rfl Try.underlying22 rfl rfl (hf202.ext hs447).cells rfl) ?_
         intro a490 ha490; clear ha449 a449
         refine ⟨(StpL.of_ext hs447), ?_⟩
         refine dr_val (i := 4) ha490 rfl (by kernel_rfl) (by kernel_rfl) (by kernel_rfl) rfl rfl rfl (StpL.of_ext hs447) (fun w' hw' => op_len_sl ha490 rfl Try.underlying22 rfl (hf199.rds pos_shStr)) ?_
         intro a491 ha491; clear ha490 a490
         refine dr_two (i := 1) (j := 5) (by kernel_rfl) ?_ ?_
         ·
          refine po_to ha491 rfl rfl rfl rfl (op_loadF (off := 1) ha491 rfl Try.underlying23 rfl rfl (hf202.ext hs447).cells rfl) ?_
          intro a492 ha492; clear ha491 a491
          refine ⟨(StpL.of_ext hs447), ?_⟩
          refine dr_one (i := 5) (by kernel_rfl) ?_
          refine po_eff ha492 rfl rfl rfl rfl (op_make (s := shI64) (n := (((q68).1)).length) (k' := .i64) ha492 rfl Try.underlying41 ti2 pos_shI64 rfl (by omega) zero_shI64 (by omega) (by omega)) ?_
          rintro v493 w494 ⟨ho495, he496⟩ a497 ha497; clear ha492 a492
          have hs498 := hs447.trans' he496
          have hx499 := hx446.trans' he496
          have hzhx499 := he496.size
          refine ⟨(StpL.of_ext hs498), ?_⟩
          refine dr_one (i := 6) (by kernel_rfl) ?_
          refine po_eff ha497 rfl rfl rfl rfl (op_buildSlice (s := shRowN) (xs := [(((List.replicate ((((q68).1)).length) (0 : Int)) : List Int), (v493 : Value))]) (cs := [v493]) (vs := [(0, v493)]) (S := fun _ => False) (le := w494.heap.size) ha497 rfl pos_shRowN Try.underlying23 ti41 rfl rfl (by decide) ((fill_one (off := 0) ho495.cells1 (by kernel_rfl) (by kernel_rfl)).trans (by kernel_rfl)) (Els.single (mk_shRowN ((((List.replicate ((((q68).1)).length) (0 : Int)) : List Int), (v493 : Value))) ho495.one)) (fun _ h => h.elim)) ?_
          rintro v500 w501 ⟨ho502, he503, hob504⟩ a505 ha505; clear ha497 a497
          have hs506 := hs498.trans' he503
          have hx507 := hx499.trans' he503
          have hzhx507 := he503.size
          replace ho495 := ho495.ext he503
          refine ⟨(StpL.of_ext hs506), ?_⟩
          have hN508 : Nst shI64 2 (fun x : List Int => x) w444.heap.size w501.heap.size w501 ([(((List.replicate ((((q68).1)).length) (0 : Int)) : List Int), (v493 : Value))]) := Nst.one (ho495.fin (by omega) (by omega) (by omega))
          refine dr_one (i := 7) (by kernel_rfl) ?_
          replace hf193 := hf193.ext hs506
          replace hf194 := hf194.ext hs506
          replace hf195 := hf195.ext hs506
          replace hf199 := hf199.ext hs506
          replace hf200 := hf200.ext hs506
          replace hf201 := hf201.ext hs506
          replace hf202 := hf202.ext hs506
          replace ho428 := ho428.ext hs506
          replace hN435 := hN435.ext hs506
          replace hb440 := hb440.ext hs506
          refine po_eff ha505 rfl rfl rfl rfl (op_append (ts := #[]) (s := shRowN) ha505 rfl Try.underlying23 ti41 rfl pos_shRowN rfl rfl hf200 (ho502.rds pos_shRowN) (by omega) (by omega) (by first | omega | (simp; omega) | (simp only [List.length_take]; omega)) (by first | omega | (simp; omega) | (simp only [List.length_take]; omega)) (.inl flat_shRowN)) ?_
          rintro v509 w510 ⟨ho511, hst512, hob513⟩ a514 ha514; clear ha505 a505
          have hx515 := hx507.stp hst512 (by intro q hq; have hq0 := hf200.lt q hq; omega)
          have hzhx515 := hst512.size
          replace hf193 := hf193.stp hst512 (by intro q hq; have hq0 := hf200.lt q hq; omega)
          replace hf194 := hf194.stp hst512 (by intro q hq; have hq0 := hf200.lt q hq; omega)
          replace hf195 := hf195.stp hst512 (by intro q hq; have hq0 := hf200.lt q hq; omega)
          replace hf199 : Own shStr 9 w58.heap.size w58.heap.size w65.heap.size w510 u74 (((q68).1)) := by first | exact hf199.stp hst512 (by intro q hq; have hq0 := hf200.lt q hq; omega) | exact hf199.stpF flat_shStr hst512 (hf199.ne hf200 rfl)
          replace hf201 : Nst shI64 2 (fun x : List Int => x) w58.heap.size w191.heap.size w510 ys := by first | exact hf201.stpF flat_shI64 hst512 hf200 rfl | exact hf201.stp hst512 (by intro q hq; have hq0 := hf200.lt q hq; omega)
          replace hf202 : Box w510 w65.heap.size 28 [u74, v2] := by first | exact hf202.stp hst512 (by intro q hq; have hq0 := hf200.lt q hq; omega) | exact hf202.stp hst512 (by intro q hq e; subst e; exact hf200.ne_box hf202 rfl hq)
          replace ho428 : Own shRowN 41 w17.heap.size w17.heap.size w427.heap.size w510 v426 ((zs ++ [(((List.replicate ((((q30).1)).length) (0 : Int)) : List Int), (v410 : Value))])) := by first | exact ho428.stp hst512 (by intro q hq; have hq0 := hf200.lt q hq; omega) | exact ho428.stpF flat_shRowN hst512 (fun q hq => (fun q hq e => hsp433 q e hq) q hq)
          replace hN435 : Nst shI64 2 (fun x : List Int => x) w17.heap.size w427.heap.size w510 ((zs ++ [(((List.replicate ((((q30).1)).length) (0 : Int)) : List Int), (v410 : Value))])) := by first | exact hN435.stpF flat_shI64 hst512 hf200 rfl | exact hN435.stp hst512 (by intro q hq; have hq0 := hf200.lt q hq; omega)
          replace hb440 := hb440.stp hst512 (by intro q hq; have hq0 := hf200.lt q hq; omega)
          replace ho495 := ho495.stp hst512 (by intro q hq; have hq0 := hf200.lt q hq; omega)
          replace ho502 := ho502.stp hst512 (by intro q hq; have hq0 := hf200.lt q hq; omega)
          replace hN508 := hN508.stp hst512 (by intro q hq; have hq0 := hf200.lt q hq; omega)
          have hsp516 : ∀ q, Value.ownBlock v509 = some q → Value.ownBlock v426 ≠ some q := by intro q hq hb; have hq0 := ho428.lt q hb; rcases hob513 with h | h; (rw [h] at hq; first | (have hq1 := hf200.lt q hq; omega) | exact (fun q hq e => hsp433 q e hq) q hq hb); (rw [h] at hq; cases hq; omega)
          have hsp517 : ∀ q, Value.ownBlock v509 = some q → Value.ownBlock v500 ≠ some q := by intro q hq hb; have hq0 := ho502.lt q hb; rcases hob513 with h | h; (rw [h] at hq; first | (have hq1 := hf200.lt q hq; omega)); (rw [h] at hq; cases hq; omega)
          have hN518 : Nst shI64 2 (fun x : List Int => x) w58.heap.size w510.heap.size w510 ((ys ++ [(((List.replicate ((((q68).1)).length) (0 : Int)) : List Int), (v493 : Value))])) := (hf201.app hN508 (by omega) (by omega) (by omega)).fin (by omega) (by omega)
          have hs519 := (StpL.of_ext (B := fun i => Value.ownBlock v2 = some i ∨ i = w65.heap.size) hs506).trans' (Stp.toL hst512 (by intro q hq; exact Or.inl hq))
          refine ⟨hs519, ?_⟩
          refine dr_val (i := 8) ha514 rfl (by kernel_rfl) (by kernel_rfl) (by kernel_rfl) rfl rfl rfl hs519 (fun w' hw' => op_fieldAddr (sz := 0) ha514 rfl Try.underlying28 rfl rfl ti23 rfl) ?_
          intro a520 ha520; clear ha514 a514
          refine dr_one (i := 9) (by kernel_rfl) ?_
          refine po_effS ha520 rfl rfl rfl (op_store' (off := 1) ha520 rfl ti23 rfl rfl hf202 ho511.cells1 rfl (by intro u hu; have hu : u ∈ ([v509] : List Value) := hu; simp only [List.mem_cons, List.mem_nil_iff, or_false] at hu; rcases hu with rfl <;> first | rfl | exact ho511.one) (Nat.le_of_ble_eq_true rfl)) ?_
          rintro w521 ⟨hb523, hst522, hz524⟩
          have hx525 := hx515.stp hst522 (by intro q hq; cases hq; exact (by omega))
          have hzhx525 := hst522.size
          replace hf193 := hf193.stp hst522 (by intro q hq; cases hq; omega)
          replace hf194 := hf194.stp hst522 (by intro q hq; cases hq; omega)
          replace hf195 := hf195.stp hst522 (by intro q hq; cases hq; omega)
          replace hf199 := hf199.stp hst522 (by intro q hq; cases hq; omega)
          replace ho428 : Own shRowN 41 w17.heap.size w17.heap.size w427.heap.size w521 v426 ((zs ++ [(((List.replicate ((((q30).1)).length) (0 : Int)) : List Int), (v410 : Value))])) := by first | exact ho428.stp hst522 (by intro q hq; cases hq; omega) | exact ho428.stpF flat_shRowN hst522 (by intro q hq; cases hq; exact ho428.ne_box (by assumption) rfl)
          replace hN435 : Nst shI64 2 (fun x : List Int => x) w17.heap.size w427.heap.size w521 ((zs ++ [(((List.replicate ((((q30).1)).length) (0 : Int)) : List Int), (v410 : Value))])) := by first | exact hN435.stp hst522 (by intro q hq; cases hq; omega) | exact hN435.stpB flat_shI64 hst522 (by assumption) rfl
          replace hb440 := hb440.stp hst522 (by intro q hq; cases hq; omega)
          replace ho495 := ho495.stp hst522 (by intro q hq; cases hq; omega)
          replace ho502 := ho502.stp hst522 (by intro q hq; cases hq; omega)
          replace ho511 : Own shRowN 41 w58.heap.size w58.heap.size w510.heap.size w521 v509 ((ys ++ [(((List.replicate ((((q68).1)).length) (0 : Int)) : List Int), (v493 : Value))])) := by first | exact ho511.stp hst522 (by intro q hq; cases hq; omega) | exact ho511.stpF flat_shRowN hst522 (by intro q hq; cases hq; exact ho511.ne_box (by assumption) rfl)
          replace hN518 : Nst shI64 2 (fun x : List Int => x) w58.heap.size w510.heap.size w521 ((ys ++ [(((List.replicate ((((q68).1)).length) (0 : Int)) : List Int), (v493 : Value))])) := by first | exact hN518.stp hst522 (by intro q hq; cases hq; omega) | exact hN518.stpB flat_shI64 hst522 (by assumption) rfl
          clear hf202
          have hs526 := hs519.trans' (Stp.toL hst522 (by intro q hq; cases hq; exact Or.inr (rfl)))
          refine ⟨hs526, ?_⟩
          refine dr_end (by kernel_rfl) ?_
          refine block_n ?_
          refine then_n ?_
          clear ho495 ho502
          refine wp_region_lit ?_
          refine wl_val ha520 rfl rfl rfl (op_move ha520 rfl rfl) ?_
          intro a527 ha527; clear ha520 a520
          refine wl_val ha527 rfl rfl rfl ((op_add ha527 rfl rfl rfl).int (IntWalk.i64_in _ (by omega))) ?_
          intro a528 ha528; clear ha527 a527
          refine wl_val ha528 rfl rfl rfl (op_assign ha528 rfl rfl) ?_
          intro a529 ha529; clear ha528 a528
          refine wpList_nil ?_
          refine round_end (x := (i, v1, zs, v2, ys)) ((i + 1), v426, (zs ++ [(((List.replicate ((((q30).1)).length) (0 : Int)) : List Int), (v410 : Value))]), v509, (ys ++ [(((List.replicate ((((q68).1)).length) (0 : Int)) : List Int), (v493 : Value))])) ?_ ?_
          ·
           refine ⟨(Sl.cons_ ha529 rfl rfl (Sl.cons_ ha529 rfl rfl (Sl.cons_ ha529 rfl rfl (Sl.cons_ ha529 rfl rfl (Sl.cons_ ha529 rfl (int_eq (by omega)) (Sl.nil_ ha529)))))), hx525, hf193, hf194, hf195, hf199, (ho428.fin (by omega) (by omega) (by omega)), (hN435.fin (by omega) (by omega)), hb440, (ho511.fin (by omega) (by omega) (by omega)), (hN518.fin (by omega) (by omega)), hb523, (by omega), (by intro q hq; first | (intro hb; have hq0 := ho428.lt q hq; have hq1 := ho511.lt q hb; omega) | exact (fun q hq e => hsp516 q e hq) q hq), (by omega), (by first | omega | (simp; omega)), (by first | omega | (simp; omega))⟩
          ·show (6 - ((i + 1)) : Nat) < 6 - i; omega
         ·
          refine po_eff ha491 rfl rfl rfl rfl (op_make (s := shI64) (n := (((q68).1)).length) (k' := .i64) ha491 rfl Try.underlying41 ti2 pos_shI64 rfl (by omega) zero_shI64 (by omega) (by omega)) ?_
          rintro v530 w531 ⟨ho532, he533⟩ a534 ha534; clear ha491 a491
          have hs535 := hs447.trans' he533
          have hx536 := hx446.trans' he533
          have hzhx536 := he533.size
          refine ⟨(StpL.of_ext hs535), ?_⟩
          refine dr_two (i := 1) (j := 6) (by kernel_rfl) ?_ ?_
          ·
           refine po_to ha534 rfl rfl rfl rfl (op_loadF (off := 1) ha534 rfl Try.underlying23 rfl rfl (hf202.ext hs535).cells rfl) ?_
           intro a537 ha537; clear ha534 a534
           refine ⟨(StpL.of_ext hs535), ?_⟩
           refine dr_one (i := 6) (by kernel_rfl) ?_
           refine po_eff ha537 rfl rfl rfl rfl (op_buildSlice (s := shRowN) (xs := [(((List.replicate ((((q68).1)).length) (0 : Int)) : List Int), (v530 : Value))]) (cs := [v530]) (vs := [(0, v530)]) (S := fun _ => False) (le := w531.heap.size) ha537 rfl pos_shRowN Try.underlying23 ti41 rfl rfl (by decide) ((fill_one (off := 0) ho532.cells1 (by kernel_rfl) (by kernel_rfl)).trans (by kernel_rfl)) (Els.single (mk_shRowN ((((List.replicate ((((q68).1)).length) (0 : Int)) : List Int), (v530 : Value))) ho532.one)) (fun _ h => h.elim)) ?_
           rintro v538 w539 ⟨ho540, he541, hob542⟩ a543 ha543; clear ha537 a537
           have hs544 := hs535.trans' he541
           have hx545 := hx536.trans' he541
           have hzhx545 := he541.size
           replace ho532 := ho532.ext he541
           refine ⟨(StpL.of_ext hs544), ?_⟩
           have hN546 : Nst shI64 2 (fun x : List Int => x) w444.heap.size w539.heap.size w539 ([(((List.replicate ((((q68).1)).length) (0 : Int)) : List Int), (v530 : Value))]) := Nst.one (ho532.fin (by omega) (by omega) (by omega))
           refine dr_one (i := 7) (by kernel_rfl) ?_
           replace hf193 := hf193.ext hs544
           replace hf194 := hf194.ext hs544
           replace hf195 := hf195.ext hs544
           replace hf199 := hf199.ext hs544
           replace hf200 := hf200.ext hs544
           replace hf201 := hf201.ext hs544
           replace hf202 := hf202.ext hs544
           replace ho428 := ho428.ext hs544
           replace hN435 := hN435.ext hs544
           replace hb440 := hb440.ext hs544
           refine po_eff ha543 rfl rfl rfl rfl (op_append (ts := #[]) (s := shRowN) ha543 rfl Try.underlying23 ti41 rfl pos_shRowN rfl rfl hf200 (ho540.rds pos_shRowN) (by omega) (by omega) (by first | omega | (simp; omega) | (simp only [List.length_take]; omega)) (by first | omega | (simp; omega) | (simp only [List.length_take]; omega)) (.inl flat_shRowN)) ?_
           rintro v547 w548 ⟨ho549, hst550, hob551⟩ a552 ha552; clear ha543 a543
           have hx553 := hx545.stp hst550 (by intro q hq; have hq0 := hf200.lt q hq; omega)
           have hzhx553 := hst550.size
           replace hf193 := hf193.stp hst550 (by intro q hq; have hq0 := hf200.lt q hq; omega)
           replace hf194 := hf194.stp hst550 (by intro q hq; have hq0 := hf200.lt q hq; omega)
           replace hf195 := hf195.stp hst550 (by intro q hq; have hq0 := hf200.lt q hq; omega)
           replace hf199 : Own shStr 9 w58.heap.size w58.heap.size w65.heap.size w548 u74 (((q68).1)) := by first | exact hf199.stp hst550 (by intro q hq; have hq0 := hf200.lt q hq; omega) | exact hf199.stpF flat_shStr hst550 (hf199.ne hf200 rfl)
           replace hf201 : Nst shI64 2 (fun x : List Int => x) w58.heap.size w191.heap.size w548 ys := by first | exact hf201.stpF flat_shI64 hst550 hf200 rfl | exact hf201.stp hst550 (by intro q hq; have hq0 := hf200.lt q hq; omega)
           replace hf202 : Box w548 w65.heap.size 28 [u74, v2] := by first | exact hf202.stp hst550 (by intro q hq; have hq0 := hf200.lt q hq; omega) | exact hf202.stp hst550 (by intro q hq e; subst e; exact hf200.ne_box hf202 rfl hq)
           replace ho428 : Own shRowN 41 w17.heap.size w17.heap.size w427.heap.size w548 v426 ((zs ++ [(((List.replicate ((((q30).1)).length) (0 : Int)) : List Int), (v410 : Value))])) := by first | exact ho428.stp hst550 (by intro q hq; have hq0 := hf200.lt q hq; omega) | exact ho428.stpF flat_shRowN hst550 (fun q hq => (fun q hq e => hsp433 q e hq) q hq)
           replace hN435 : Nst shI64 2 (fun x : List Int => x) w17.heap.size w427.heap.size w548 ((zs ++ [(((List.replicate ((((q30).1)).length) (0 : Int)) : List Int), (v410 : Value))])) := by first | exact hN435.stpF flat_shI64 hst550 hf200 rfl | exact hN435.stp hst550 (by intro q hq; have hq0 := hf200.lt q hq; omega)
           replace hb440 := hb440.stp hst550 (by intro q hq; have hq0 := hf200.lt q hq; omega)
           replace ho532 := ho532.stp hst550 (by intro q hq; have hq0 := hf200.lt q hq; omega)
           replace ho540 := ho540.stp hst550 (by intro q hq; have hq0 := hf200.lt q hq; omega)
           replace hN546 := hN546.stp hst550 (by intro q hq; have hq0 := hf200.lt q hq; omega)
           have hsp554 : ∀ q, Value.ownBlock v547 = some q → Value.ownBlock v426 ≠ some q := by intro q hq hb; have hq0 := ho428.lt q hb; rcases hob551 with h | h; (rw [h] at hq; first | (have hq1 := hf200.lt q hq; omega) | exact (fun q hq e => hsp433 q e hq) q hq hb); (rw [h] at hq; cases hq; omega)
           have hsp555 : ∀ q, Value.ownBlock v547 = some q → Value.ownBlock v538 ≠ some q := by intro q hq hb; have hq0 := ho540.lt q hb; rcases hob551 with h | h; (rw [h] at hq; first | (have hq1 := hf200.lt q hq; omega)); (rw [h] at hq; cases hq; omega)
           have hN556 : Nst shI64 2 (fun x : List Int => x) w58.heap.size w548.heap.size w548 ((ys ++ [(((List.replicate ((((q68).1)).length) (0 : Int)) : List Int), (v530 : Value))])) := (hf201.app hN546 (by omega) (by omega) (by omega)).fin (by omega) (by omega)
           have hs557 := (StpL.of_ext (B := fun i => Value.ownBlock v2 = some i ∨ i = w65.heap.size) hs544).trans' (Stp.toL hst550 (by intro q hq; exact Or.inl hq))
           refine ⟨hs557, ?_⟩
           refine dr_val (i := 8) ha552 rfl (by kernel_rfl) (by kernel_rfl) (by kernel_rfl) rfl rfl rfl hs557 (fun w' hw' => op_fieldAddr (sz := 0) ha552 rfl Try.underlying28 rfl rfl ti23 rfl) ?_
           intro a558 ha558; clear ha552 a552
           refine dr_one (i := 9) (by kernel_rfl) ?_
           refine po_effS ha558 rfl rfl rfl (op_store' (off := 1) ha558 rfl ti23 rfl rfl hf202 ho549.cells1 rfl (by intro u hu; have hu : u ∈ ([v547] : List Value) := hu; simp only [List.mem_cons, List.mem_nil_iff, or_false] at hu; rcases hu with rfl <;> first | rfl | exact ho549.one) (Nat.le_of_ble_eq_true rfl)) ?_
           rintro w559 ⟨hb561, hst560, hz562⟩
           have hx563 := hx553.stp hst560 (by intro q hq; cases hq; exact (by omega))
           have hzhx563 := hst560.size
           replace hf193 := hf193.stp hst560 (by intro q hq; cases hq; omega)
           replace hf194 := hf194.stp hst560 (by intro q hq; cases hq; omega)
           replace hf195 := hf195.stp hst560 (by intro q hq; cases hq; omega)
           replace hf199 := hf199.stp hst560 (by intro q hq; cases hq; omega)
           replace ho428 : Own shRowN 41 w17.heap.size w17.heap.size w427.heap.size w559 v426 ((zs ++ [(((List.replicate ((((q30).1)).length) (0 : Int)) : List Int), (v410 : Value))])) := by first | exact ho428.stp hst560 (by intro q hq; cases hq; omega) | exact ho428.stpF flat_shRowN hst560 (by intro q hq; cases hq; exact ho428.ne_box (by assumption) rfl)
           replace hN435 : Nst shI64 2 (fun x : List Int => x) w17.heap.size w427.heap.size w559 ((zs ++ [(((List.replicate ((((q30).1)).length) (0 : Int)) : List Int), (v410 : Value))])) := by first | exact hN435.stp hst560 (by intro q hq; cases hq; omega) | exact hN435.stpB flat_shI64 hst560 (by assumption) rfl
           replace hb440 := hb440.stp hst560 (by intro q hq; cases hq; omega)
           replace ho532 := ho532.stp hst560 (by intro q hq; cases hq; omega)
           replace ho540 := ho540.stp hst560 (by intro q hq; cases hq; omega)
           replace ho549 : Own shRowN 41 w58.heap.size w58.heap.size w548.heap.size w559 v547 ((ys ++ [(((List.replicate ((((q68).1)).length) (0 : Int)) : List Int), (v530 : Value))])) := by first | exact ho549.stp hst560 (by intro q hq; cases hq; omega) | exact ho549.stpF flat_shRowN hst560 (by intro q hq; cases hq; exact ho549.ne_box (by assumption) rfl)
           replace hN556 : Nst shI64 2 (fun x : List Int => x) w58.heap.size w548.heap.size w559 ((ys ++ [(((List.replicate ((((q68).1)).length) (0 : Int)) : List Int), (v530 : Value))])) := by first | exact hN556.stp hst560 (by intro q hq; cases hq; omega) | exact hN556.stpB flat_shI64 hst560 (by assumption) rfl
           clear hf202
           have hs564 := hs557.trans' (Stp.toL hst560 (by intro q hq; cases hq; exact Or.inr (rfl)))
           refine ⟨hs564, ?_⟩
           refine dr_end (by kernel_rfl) ?_
           refine block_n ?_
           refine then_n ?_
           clear ho532 ho540
           refine wp_region_lit ?_
           refine wl_val ha558 rfl rfl rfl (op_move ha558 rfl rfl) ?_
           intro a565 ha565; clear ha558 a558
           refine wl_val ha565 rfl rfl rfl ((op_add ha565 rfl rfl rfl).int (IntWalk.i64_in _ (by omega))) ?_
           intro a566 ha566; clear ha565 a565
           refine wl_val ha566 rfl rfl rfl (op_assign ha566 rfl rfl) ?_
           intro a567 ha567; clear ha566 a566
           refine wpList_nil ?_
           refine round_end (x := (i, v1, zs, v2, ys)) ((i + 1), v426, (zs ++ [(((List.replicate ((((q30).1)).length) (0 : Int)) : List Int), (v410 : Value))]), v547, (ys ++ [(((List.replicate ((((q68).1)).length) (0 : Int)) : List Int), (v530 : Value))])) ?_ ?_
           ·
            refine ⟨(Sl.cons_ ha567 rfl rfl (Sl.cons_ ha567 rfl rfl (Sl.cons_ ha567 rfl rfl (Sl.cons_ ha567 rfl rfl (Sl.cons_ ha567 rfl (int_eq (by omega)) (Sl.nil_ ha567)))))), hx563, hf193, hf194, hf195, hf199, (ho428.fin (by omega) (by omega) (by omega)), (hN435.fin (by omega) (by omega)), hb440, (ho549.fin (by omega) (by omega) (by omega)), (hN556.fin (by omega) (by omega)), hb561, (by omega), (by intro q hq; first | (intro hb; have hq0 := ho428.lt q hq; have hq1 := ho549.lt q hb; omega) | exact (fun q hq e => hsp554 q e hq) q hq), (by omega), (by first | omega | (simp; omega)), (by first | omega | (simp; omega))⟩
           ·show (6 - ((i + 1)) : Nat) < 6 - i; omega
          ·
           refine po_eff ha534 rfl rfl rfl rfl (op_buildSlice (s := shRowN) (xs := [(((List.replicate ((((q68).1)).length) (0 : Int)) : List Int), (v530 : Value))]) (cs := [v530]) (vs := [(0, v530)]) (S := fun _ => False) (le := w531.heap.size) ha534 rfl pos_shRowN Try.underlying23 ti41 rfl rfl (by decide) ((fill_one (off := 0) ho532.cells1 (by kernel_rfl) (by kernel_rfl)).trans (by kernel_rfl)) (Els.single (mk_shRowN ((((List.replicate ((((q68).1)).length) (0 : Int)) : List Int), (v530 : Value))) ho532.one)) (fun _ h => h.elim)) ?_
           rintro v568 w569 ⟨ho570, he571, hob572⟩ a573 ha573; clear ha534 a534
           have hs574 := hs535.trans' he571
           have hx575 := hx536.trans' he571
           have hzhx575 := he571.size
           replace ho532 := ho532.ext he571
           refine ⟨(StpL.of_ext hs574), ?_⟩
           have hN576 : Nst shI64 2 (fun x : List Int => x) w444.heap.size w569.heap.size w569 ([(((List.replicate ((((q68).1)).length) (0 : Int)) : List Int), (v530 : Value))]) := Nst.one (ho532.fin (by omega) (by omega) (by omega))
           refine dr_one (i := 1) (by kernel_rfl) ?_
           refine po_to ha573 rfl rfl rfl rfl (op_loadF (off := 1) ha573 rfl Try.underlying23 rfl rfl (hf202.ext hs574).cells rfl) ?_
           intro a577 ha577; clear ha573 a573
           refine ⟨(StpL.of_ext hs574), ?_⟩
           refine dr_one (i := 7) (by kernel_rfl) ?_
           replace hf193 := hf193.ext hs574
           replace hf194 := hf194.ext hs574
           replace hf195 := hf195.ext hs574
           replace hf199 := hf199.ext hs574
           replace hf200 := hf200.ext hs574
           replace hf201 := hf201.ext hs574
           replace hf202 := hf202.ext hs574
           replace ho428 := ho428.ext hs574
           replace hN435 := hN435.ext hs574
           replace hb440 := hb440.ext hs574
           refine po_eff ha577 rfl rfl rfl rfl (op_append (ts := #[]) (s := shRowN) ha577 rfl Try.underlying23 ti41 rfl pos_shRowN rfl rfl hf200 (ho570.rds pos_shRowN) (by omega) (by omega) (by first | omega | (simp; omega) | (simp only [List.length_take]; omega)) (by first | omega | (simp; omega) | (simp only [List.length_take]; omega)) (.inl flat_shRowN)) ?_
           rintro v578 w579 ⟨ho580, hst581, hob582⟩ a583 ha583; clear ha577 a577
           have hx584 := hx575.stp hst581 (by intro q hq; have hq0 := hf200.lt q hq; omega)
           have hzhx584 := hst581.size
           replace hf193 := hf193.stp hst581 (by intro q hq; have hq0 := hf200.lt q hq; omega)
           replace hf194 := hf194.stp hst581 (by intro q hq; have hq0 := hf200.lt q hq; omega)
           replace hf195 := hf195.stp hst581 (by intro q hq; have hq0 := hf200.lt q hq; omega)
           replace hf199 : Own shStr 9 w58.heap.size w58.heap.size w65.heap.size w579 u74 (((q68).1)) := by first | exact hf199.stp hst581 (by intro q hq; have hq0 := hf200.lt q hq; omega) | exact hf199.stpF flat_shStr hst581 (hf199.ne hf200 rfl)
           replace hf201 : Nst shI64 2 (fun x : List Int => x) w58.heap.size w191.heap.size w579 ys := by first | exact hf201.stpF flat_shI64 hst581 hf200 rfl | exact hf201.stp hst581 (by intro q hq; have hq0 := hf200.lt q hq; omega)
           replace hf202 : Box w579 w65.heap.size 28 [u74, v2] := by first | exact hf202.stp hst581 (by intro q hq; have hq0 := hf200.lt q hq; omega) | exact hf202.stp hst581 (by intro q hq e; subst e; exact hf200.ne_box hf202 rfl hq)
           replace ho428 : Own shRowN 41 w17.heap.size w17.heap.size w427.heap.size w579 v426 ((zs ++ [(((List.replicate ((((q30).1)).length) (0 : Int)) : List Int), (v410 : Value))])) := by first | exact ho428.stp hst581 (by intro q hq; have hq0 := hf200.lt q hq; omega) | exact ho428.stpF flat_shRowN hst581 (fun q hq => (fun q hq e => hsp433 q e hq) q hq)
           replace hN435 : Nst shI64 2 (fun x : List Int => x) w17.heap.size w427.heap.size w579 ((zs ++ [(((List.replicate ((((q30).1)).length) (0 : Int)) : List Int), (v410 : Value))])) := by first | exact hN435.stpF flat_shI64 hst581 hf200 rfl | exact hN435.stp hst581 (by intro q hq; have hq0 := hf200.lt q hq; omega)
           replace hb440 := hb440.stp hst581 (by intro q hq; have hq0 := hf200.lt q hq; omega)
           replace ho532 := ho532.stp hst581 (by intro q hq; have hq0 := hf200.lt q hq; omega)
           replace ho570 := ho570.stp hst581 (by intro q hq; have hq0 := hf200.lt q hq; omega)
           replace hN576 := hN576.stp hst581 (by intro q hq; have hq0 := hf200.lt q hq; omega)
           have hsp585 : ∀ q, Value.ownBlock v578 = some q → Value.ownBlock v426 ≠ some q := by intro q hq hb; have hq0 := ho428.lt q hb; rcases hob582 with h | h; (rw [h] at hq; first | (have hq1 := hf200.lt q hq; omega) | exact (fun q hq e => hsp433 q e hq) q hq hb); (rw [h] at hq; cases hq; omega)
           have hsp586 : ∀ q, Value.ownBlock v578 = some q → Value.ownBlock v568 ≠ some q := by intro q hq hb; have hq0 := ho570.lt q hb; rcases hob582 with h | h; (rw [h] at hq; first | (have hq1 := hf200.lt q hq; omega)); (rw [h] at hq; cases hq; omega)
           have hN587 : Nst shI64 2 (fun x : List Int => x) w58.heap.size w579.heap.size w579 ((ys ++ [(((List.replicate ((((q68).1)).length) (0 : Int)) : List Int), (v530 : Value))])) := (hf201.app hN576 (by omega) (by omega) (by omega)).fin (by omega) (by omega)
           have hs588 := (StpL.of_ext (B := fun i => Value.ownBlock v2 = some i ∨ i = w65.heap.size) hs574).trans' (Stp.toL hst581 (by intro q hq; exact Or.inl hq))
           refine ⟨hs588, ?_⟩
           refine dr_val (i := 8) ha583 rfl (by kernel_rfl) (by kernel_rfl) (by kernel_rfl) rfl rfl rfl hs588 (fun w' hw' => op_fieldAddr (sz := 0) ha583 rfl Try.underlying28 rfl rfl ti23 rfl) ?_
           intro a589 ha589; clear ha583 a583
           refine dr_one (i := 9) (by kernel_rfl) ?_
           refine po_effS ha589 rfl rfl rfl (op_store' (off := 1) ha589 rfl ti23 rfl rfl hf202 ho580.cells1 rfl (by intro u hu; have hu : u ∈ ([v578] : List Value) := hu; simp only [List.mem_cons, List.mem_nil_iff, or_false] at hu; rcases hu with rfl <;> first | rfl | exact ho580.one) (Nat.le_of_ble_eq_true rfl)) ?_
           rintro w590 ⟨hb592, hst591, hz593⟩
           have hx594 := hx584.stp hst591 (by intro q hq; cases hq; exact (by omega))
           have hzhx594 := hst591.size
           replace hf193 := hf193.stp hst591 (by intro q hq; cases hq; omega)
           replace hf194 := hf194.stp hst591 (by intro q hq; cases hq; omega)
           replace hf195 := hf195.stp hst591 (by intro q hq; cases hq; omega)
           replace hf199 := hf199.stp hst591 (by intro q hq; cases hq; omega)
           replace ho428 : Own shRowN 41 w17.heap.size w17.heap.size w427.heap.size w590 v426 ((zs ++ [(((List.replicate ((((q30).1)).length) (0 : Int)) : List Int), (v410 : Value))])) := by first | exact ho428.stp hst591 (by intro q hq; cases hq; omega) | exact ho428.stpF flat_shRowN hst591 (by intro q hq; cases hq; exact ho428.ne_box (by assumption) rfl)
           replace hN435 : Nst shI64 2 (fun x : List Int => x) w17.heap.size w427.heap.size w590 ((zs ++ [(((List.replicate ((((q30).1)).length) (0 : Int)) : List Int), (v410 : Value))])) := by first | exact hN435.stp hst591 (by intro q hq; cases hq; omega) | exact hN435.stpB flat_shI64 hst591 (by assumption) rfl
           replace hb440 := hb440.stp hst591 (by intro q hq; cases hq; omega)
           replace ho532 := ho532.stp hst591 (by intro q hq; cases hq; omega)
           replace ho570 := ho570.stp hst591 (by intro q hq; cases hq; omega)
           replace ho580 : Own shRowN 41 w58.heap.size w58.heap.size w579.heap.size w590 v578 ((ys ++ [(((List.replicate ((((q68).1)).length) (0 : Int)) : List Int), (v530 : Value))])) := by first | exact ho580.stp hst591 (by intro q hq; cases hq; omega) | exact ho580.stpF flat_shRowN hst591 (by intro q hq; cases hq; exact ho580.ne_box (by assumption) rfl)
           replace hN587 : Nst shI64 2 (fun x : List Int => x) w58.heap.size w579.heap.size w590 ((ys ++ [(((List.replicate ((((q68).1)).length) (0 : Int)) : List Int), (v530 : Value))])) := by first | exact hN587.stp hst591 (by intro q hq; cases hq; omega) | exact hN587.stpB flat_shI64 hst591 (by assumption) rfl
           clear hf202
           have hs595 := hs588.trans' (Stp.toL hst591 (by intro q hq; cases hq; exact Or.inr (rfl)))
           refine ⟨hs595, ?_⟩
           refine dr_end (by kernel_rfl) ?_
           refine block_n ?_
           refine then_n ?_
           clear ho532 ho570
           refine wp_region_lit ?_
           refine wl_val ha589 rfl rfl rfl (op_move ha589 rfl rfl) ?_
           intro a596 ha596; clear ha589 a589
           refine wl_val ha596 rfl rfl rfl ((op_add ha596 rfl rfl rfl).int (IntWalk.i64_in _ (by omega))) ?_
           intro a597 ha597; clear ha596 a596
           refine wl_val ha597 rfl rfl rfl (op_assign ha597 rfl rfl) ?_
           intro a598 ha598; clear ha597 a597
           refine wpList_nil ?_
           refine round_end (x := (i, v1, zs, v2, ys)) ((i + 1), v426, (zs ++ [(((List.replicate ((((q30).1)).length) (0 : Int)) : List Int), (v410 : Value))]), v578, (ys ++ [(((List.replicate ((((q68).1)).length) (0 : Int)) : List Int), (v530 : Value))])) ?_ ?_
           ·
            refine ⟨(Sl.cons_ ha598 rfl rfl (Sl.cons_ ha598 rfl rfl (Sl.cons_ ha598 rfl rfl (Sl.cons_ ha598 rfl rfl (Sl.cons_ ha598 rfl (int_eq (by omega)) (Sl.nil_ ha598)))))), hx594, hf193, hf194, hf195, hf199, (ho428.fin (by omega) (by omega) (by omega)), (hN435.fin (by omega) (by omega)), hb440, (ho580.fin (by omega) (by omega) (by omega)), (hN587.fin (by omega) (by omega)), hb592, (by omega), (by intro q hq; first | (intro hb; have hq0 := ho428.lt q hq; have hq1 := ho580.lt q hb; omega) | exact (fun q hq e => hsp585 q e hq) q hq), (by omega), (by first | omega | (simp; omega)), (by first | omega | (simp; omega))⟩
           ·show (6 - ((i + 1)) : Nat) < 6 - i; omega
       ·
        refine po_eff ha408 rfl rfl rfl rfl (op_make (s := shI64) (n := (((q30).1)).length) (k' := .i64) ha408 rfl Try.underlying41 ti2 pos_shI64 rfl (by omega) zero_shI64 (by omega) (by omega)) ?_
        rintro v599 w600 ⟨ho601, he602⟩ a603 ha603; clear ha408 a408
        have hs604 := hs212.trans' he602
        have hx605 := hx211.trans' he602
        have hzhx605 := he602.size
        refine ⟨(StpL.of_ext hs604), ?_⟩
        refine dr_two (i := 1) (j := 6) (by kernel_rfl) ?_ ?_
        ·
         refine po_to ha603 rfl rfl rfl rfl (op_loadF (off := 1) ha603 rfl Try.underlying23 rfl rfl (hf198.ext hs604).cells rfl) ?_
         intro a606 ha606; clear ha603 a603
         refine ⟨(StpL.of_ext hs604), ?_⟩
         refine dr_one (i := 6) (by kernel_rfl) ?_
         refine po_eff ha606 rfl rfl rfl rfl (op_buildSlice (s := shRowN) (xs := [(((List.replicate ((((q30).1)).length) (0 : Int)) : List Int), (v599 : Value))]) (cs := [v599]) (vs := [(0, v599)]) (S := fun _ => False) (le := w600.heap.size) ha606 rfl pos_shRowN Try.underlying23 ti41 rfl rfl (by decide) ((fill_one (off := 0) ho601.cells1 (by kernel_rfl) (by kernel_rfl)).trans (by kernel_rfl)) (Els.single (mk_shRowN ((((List.replicate ((((q30).1)).length) (0 : Int)) : List Int), (v599 : Value))) ho601.one)) (fun _ h => h.elim)) ?_
         rintro v607 w608 ⟨ho609, he610, hob611⟩ a612 ha612; clear ha606 a606
         have hs613 := hs604.trans' he610
         have hx614 := hx605.trans' he610
         have hzhx614 := he610.size
         replace ho601 := ho601.ext he610
         refine ⟨(StpL.of_ext hs613), ?_⟩
         have hN615 : Nst shI64 2 (fun x : List Int => x) w209.heap.size w608.heap.size w608 ([(((List.replicate ((((q30).1)).length) (0 : Int)) : List Int), (v599 : Value))]) := Nst.one (ho601.fin (by omega) (by omega) (by omega))
         refine dr_one (i := 7) (by kernel_rfl) ?_
         replace hf193 := hf193.ext hs613
         replace hf194 := hf194.ext hs613
         replace hf195 := hf195.ext hs613
         replace hf199 := hf199.ext hs613
         replace hf196 := hf196.ext hs613
         replace hf197 := hf197.ext hs613
         replace hf198 := hf198.ext hs613
         replace hf200 := hf200.ext hs613
         replace hf201 := hf201.ext hs613
         replace hf202 := hf202.ext hs613
         refine po_eff ha612 rfl rfl rfl rfl (op_append (ts := #[]) (s := shRowN) ha612 rfl Try.underlying23 ti41 rfl pos_shRowN rfl rfl hf196 (ho609.rds pos_shRowN) (by omega) (by omega) (by first | omega | (simp; omega) | (simp only [List.length_take]; omega)) (by first | omega | (simp; omega) | (simp only [List.length_take]; omega)) (.inl flat_shRowN)) ?_
         rintro v616 w617 ⟨ho618, hst619, hob620⟩ a621 ha621; clear ha612 a612
         have hx622 := hx614.stp hst619 (by intro q hq; have hq0 := hf196.lt q hq; omega)
         have hzhx622 := hst619.size
         replace hf193 := hf193.stp hst619 (by intro q hq; have hq0 := hf196.lt q hq; omega)
         replace hf194 := hf194.stp hst619 (by intro q hq; have hq0 := hf196.lt q hq; omega)
         replace hf195 : Own shStr 9 w17.heap.size w17.heap.size w27.heap.size w617 u35 (((q30).1)) := by first | exact hf195.stp hst619 (by intro q hq; have hq0 := hf196.lt q hq; omega) | exact hf195.stpF flat_shStr hst619 (hf195.ne hf196 rfl)
         replace hf199 : Own shStr 9 w58.heap.size w58.heap.size w65.heap.size w617 u74 (((q68).1)) := by first | exact hf199.stp hst619 (by intro q hq; have hq0 := hf196.lt q hq; omega) | exact hf199.stpF flat_shStr hst619 (hf199.ne hf196 rfl)
         replace hf197 : Nst shI64 2 (fun x : List Int => x) w17.heap.size w191.heap.size w617 zs := by first | exact hf197.stpF flat_shI64 hst619 hf196 rfl | exact hf197.stp hst619 (by intro q hq; have hq0 := hf196.lt q hq; omega)
         replace hf198 : Box w617 w27.heap.size 28 [u35, v1] := by first | exact hf198.stp hst619 (by intro q hq; have hq0 := hf196.lt q hq; omega) | exact hf198.stp hst619 (by intro q hq e; subst e; exact hf196.ne_box hf198 rfl hq)
         replace hf200 : Own shRowN 41 w58.heap.size w58.heap.size w191.heap.size w617 v2 ys := by first | exact hf200.stp hst619 (by intro q hq; have hq0 := hf196.lt q hq; omega) | exact hf200.stpF flat_shRowN hst619 (fun q hq => hsp203 q hq)
         replace hf201 : Nst shI64 2 (fun x : List Int => x) w58.heap.size w191.heap.size w617 ys := by first | exact hf201.stpF flat_shI64 hst619 hf196 rfl | exact hf201.stp hst619 (by intro q hq; have hq0 := hf196.lt q hq; omega)
         replace hf202 : Box w617 w65.heap.size 28 [u74, v2] := by first | exact hf202.stp hst619 (by intro q hq; have hq0 := hf196.lt q hq; omega) | exact hf202.stp hst619 (by intro q hq e; subst e; exact hf196.ne_box hf202 rfl hq)
         replace ho601 := ho601.stp hst619 (by intro q hq; have hq0 := hf196.lt q hq; omega)
         replace ho609 := ho609.stp hst619 (by intro q hq; have hq0 := hf196.lt q hq; omega)
         replace hN615 := hN615.stp hst619 (by intro q hq; have hq0 := hf196.lt q hq; omega)
         have hsp623 : ∀ q, Value.ownBlock v616 = some q → Value.ownBlock v2 ≠ some q := by intro q hq hb; have hq0 := hf200.lt q hb; rcases hob620 with h | h; (rw [h] at hq; first | (have hq1 := hf196.lt q hq; omega) | exact hsp203 q hq hb); (rw [h] at hq; cases hq; omega)
         have hsp624 : ∀ q, Value.ownBlock v616 = some q → Value.ownBlock v607 ≠ some q := by intro q hq hb; have hq0 := ho609.lt q hb; rcases hob620 with h | h; (rw [h] at hq; first | (have hq1 := hf196.lt q hq; omega)); (rw [h] at hq; cases hq; omega)
         have hN625 : Nst shI64 2 (fun x : List Int => x) w17.heap.size w617.heap.size w617 ((zs ++ [(((List.replicate ((((q30).1)).length) (0 : Int)) : List Int), (v599 : Value))])) := (hf197.app hN615 (by omega) (by omega) (by omega)).fin (by omega) (by omega)
         have hs626 := (StpL.of_ext (B := fun i => Value.ownBlock v1 = some i ∨ i = w27.heap.size) hs613).trans' (Stp.toL hst619 (by intro q hq; exact Or.inl hq))
         refine ⟨hs626, ?_⟩
         refine dr_val (i := 8) ha621 rfl (by kernel_rfl) (by kernel_rfl) (by kernel_rfl) rfl rfl rfl hs626 (fun w' hw' => op_fieldAddr (sz := 0) ha621 rfl Try.underlying28 rfl rfl ti23 rfl) ?_
         intro a627 ha627; clear ha621 a621
         refine dr_one (i := 9) (by kernel_rfl) ?_
         refine po_effS ha627 rfl rfl rfl (op_store' (off := 1) ha627 rfl ti23 rfl rfl hf198 ho618.cells1 rfl (by intro u hu; have hu : u ∈ ([v616] : List Value) := hu; simp only [List.mem_cons, List.mem_nil_iff, or_false] at hu; rcases hu with rfl <;> first | rfl | exact ho618.one) (Nat.le_of_ble_eq_true rfl)) ?_
         rintro w628 ⟨hb630, hst629, hz631⟩
         have hx632 := hx622.stp hst629 (by intro q hq; cases hq; exact (by omega))
         have hzhx632 := hst629.size
         replace hf193 := hf193.stp hst629 (by intro q hq; cases hq; omega)
         replace hf194 := hf194.stp hst629 (by intro q hq; cases hq; omega)
         replace hf195 := hf195.stp hst629 (by intro q hq; cases hq; omega)
         replace hf199 := hf199.stp hst629 (by intro q hq; cases hq; omega)
         replace hf200 := hf200.stp hst629 (by intro q hq; cases hq; omega)
         replace hf201 := hf201.stp hst629 (by intro q hq; cases hq; omega)
         replace hf202 := hf202.stp hst629 (by intro q hq; cases hq; omega)
         replace ho601 := ho601.stp hst629 (by intro q hq; cases hq; omega)
         replace ho609 := ho609.stp hst629 (by intro q hq; cases hq; omega)
         replace ho618 : Own shRowN 41 w17.heap.size w17.heap.size w617.heap.size w628 v616 ((zs ++ [(((List.replicate ((((q30).1)).length) (0 : Int)) : List Int), (v599 : Value))])) := by first | exact ho618.stp hst629 (by intro q hq; cases hq; omega) | exact ho618.stpF flat_shRowN hst629 (by intro q hq; cases hq; exact ho618.ne_box (by assumption) rfl)
         replace hN625 : Nst shI64 2 (fun x : List Int => x) w17.heap.size w617.heap.size w628 ((zs ++ [(((List.replicate ((((q30).1)).length) (0 : Int)) : List Int), (v599 : Value))])) := by first | exact hN625.stp hst629 (by intro q hq; cases hq; omega) | exact hN625.stpB flat_shI64 hst629 (by assumption) rfl
         clear hf198
         have hs633 := hs626.trans' (Stp.toL hst629 (by intro q hq; cases hq; exact Or.inr (rfl)))
         refine ⟨hs633, ?_⟩
         refine dr_end (by kernel_rfl) ?_
         refine then_n ?_
         clear ho601 ho609
         refine dr_enter (fun wa_ wb_ => StpL wa_ wb_ (fun i => Value.ownBlock v2 = some i ∨ i = w65.heap.size)) follows_mixed ?_
         intro w634 he635
         have hx636 := hx632.trans' he635
         have hzhx636 := he635.size
         replace hf193 := hf193.ext he635
         replace hf194 := hf194.ext he635
         replace hf195 := hf195.ext he635
         replace hf199 := hf199.ext he635
         replace hf200 := hf200.ext he635
         replace hf201 := hf201.ext he635
         replace hf202 := hf202.ext he635
         replace ho618 := ho618.ext he635
         replace hN625 := hN625.ext he635
         replace hb630 := hb630.ext he635
         have hs637 : Ext w634 w634 := Ext.rfl' _
         refine dr_val (i := 0) ha627 rfl (by kernel_rfl) (by kernel_rfl) (by kernel_rfl) rfl rfl rfl (StpL.of_ext hs637) (fun w' hw' => op_fieldAddr (sz := 0) ha627 rfl Try.underlying28 rfl rfl ti23 rfl) ?_
         intro a638 ha638; clear ha627 a627
         refine dr_val (i := 2) ha638 rfl (by kernel_rfl) (by kernel_rfl) (by kernel_rfl) rfl rfl rfl (StpL.of_ext hs637) (fun w' hw' => op_fieldAddr (sz := 0) ha638 rfl Try.underlying28 rfl rfl ti22 rfl) ?_
         intro a639 ha639; clear ha638 a638
         refine dr_two (i := 1) (j := 3) (by kernel_rfl) ?_ ?_
         ·
          refine po_to ha639 rfl rfl rfl rfl (op_loadF (off := 1) ha639 rfl Try.underlying23 rfl rfl (hf202.ext hs637).cells rfl) ?_
          intro a640 ha640; clear ha639 a639
          refine ⟨(StpL.of_ext hs637), ?_⟩
          refine dr_one (i := 3) (by kernel_rfl) ?_
          refine po_to ha640 rfl rfl rfl rfl (op_loadF (off := 0) ha640 rfl Try.underlying22 rfl rfl (hf202.ext hs637).cells rfl) ?_
          intro a641 ha641; clear ha640 a640
          refine ⟨(StpL.of_ext hs637), ?_⟩
          refine dr_val (i := 4) ha641 rfl (by kernel_rfl) (by kernel_rfl) (by kernel_rfl) rfl rfl rfl (StpL.of_ext hs637) (fun w' hw' => op_len_sl ha641 rfl Try.underlying22 rfl (hf199.rds pos_shStr)) ?_
          intro a642 ha642; clear ha641 a641
          refine dr_one (i := 5) (by kernel_rfl) ?_
          refine po_eff ha642 rfl rfl rfl rfl (op_make (s := shI64) (n := (((q68).1)).length) (k' := .i64) ha642 rfl Try.underlying41 ti2 pos_shI64 rfl (by omega) zero_shI64 (by omega) (by omega)) ?_
          rintro v643 w644 ⟨ho645, he646⟩ a647 ha647; clear ha642 a642
          have hs648 := hs637.trans' he646
          have hx649 := hx636.trans' he646
          have hzhx649 := he646.size
          refine ⟨(StpL.of_ext hs648), ?_⟩
          refine dr_one (i := 6) (by kernel_rfl) ?_
          refine po_eff ha647 rfl rfl rfl rfl (op_buildSlice (s := shRowN) (xs := [(((List.replicate ((((q68).1)).length) (0 : Int)) : List Int), (v643 : Value))]) (cs := [v643]) (vs := [(0, v643)]) (S := fun _ => False) (le := w644.heap.size) ha647 rfl pos_shRowN Try.underlying23 ti41 rfl rfl (by decide) ((fill_one (off := 0) ho645.cells1 (by kernel_rfl) (by kernel_rfl)).trans (by kernel_rfl)) (Els.single (mk_shRowN ((((List.replicate ((((q68).1)).length) (0 : Int)) : List Int), (v643 : Value))) ho645.one)) (fun _ h => h.elim)) ?_
          rintro v650 w651 ⟨ho652, he653, hob654⟩ a655 ha655; clear ha647 a647
          have hs656 := hs648.trans' he653
          have hx657 := hx649.trans' he653
          have hzhx657 := he653.size
          replace ho645 := ho645.ext he653
          refine ⟨(StpL.of_ext hs656), ?_⟩
          have hN658 : Nst shI64 2 (fun x : List Int => x) w634.heap.size w651.heap.size w651 ([(((List.replicate ((((q68).1)).length) (0 : Int)) : List Int), (v643 : Value))]) := Nst.one (ho645.fin (by omega) (by omega) (by omega))
          refine dr_one (i := 7) (by kernel_rfl) ?_
          replace hf193 := hf193.ext hs656
          replace hf194 := hf194.ext hs656
          replace hf195 := hf195.ext hs656
          replace hf199 := hf199.ext hs656
          replace hf200 := hf200.ext hs656
          replace hf201 := hf201.ext hs656
          replace hf202 := hf202.ext hs656
          replace ho618 := ho618.ext hs656
          replace hN625 := hN625.ext hs656
          replace hb630 := hb630.ext hs656
          refine po_eff ha655 rfl rfl rfl rfl (op_append (ts := #[]) (s := shRowN) ha655 rfl Try.underlying23 ti41 rfl pos_shRowN rfl rfl hf200 (ho652.rds pos_shRowN) (by omega) (by omega) (by first | omega | (simp; omega) | (simp only [List.length_take]; omega)) (by first | omega | (simp; omega) | (simp only [List.length_take]; omega)) (.inl flat_shRowN)) ?_
          rintro v659 w660 ⟨ho661, hst662, hob663⟩ a664 ha664; clear ha655 a655
          have hx665 := hx657.stp hst662 (by intro q hq; have hq0 := hf200.lt q hq; omega)
          have hzhx665 := hst662.size
          replace hf193 := hf193.stp hst662 (by intro q hq; have hq0 := hf200.lt q hq; omega)
          replace hf194 := hf194.stp hst662 (by intro q hq; have hq0 := hf200.lt q hq; omega)
          replace hf195 := hf195.stp hst662 (by intro q hq; have hq0 := hf200.lt q hq; omega)
          replace hf199 : Own shStr 9 w58.heap.size w58.heap.size w65.heap.size w660 u74 (((q68).1)) := by first | exact hf199.stp hst662 (by intro q hq; have hq0 := hf200.lt q hq; omega) | exact hf199.stpF flat_shStr hst662 (hf199.ne hf200 rfl)
          replace hf201 : Nst shI64 2 (fun x : List Int => x) w58.heap.size w191.heap.size w660 ys := by first | exact hf201.stpF flat_shI64 hst662 hf200 rfl | exact hf201.stp hst662 (by intro q hq; have hq0 := hf200.lt q hq; omega)
          replace hf202 : Box w660 w65.heap.size 28 [u74, v2] := by first | exact hf202.stp hst662 (by intro q hq; have hq0 := hf200.lt q hq; omega) | exact hf202.stp hst662 (by intro q hq e; subst e; exact hf200.ne_box hf202 rfl hq)
          replace ho618 : Own shRowN 41 w17.heap.size w17.heap.size w617.heap.size w660 v616 ((zs ++ [(((List.replicate ((((q30).1)).length) (0 : Int)) : List Int), (v599 : Value))])) := by first | exact ho618.stp hst662 (by intro q hq; have hq0 := hf200.lt q hq; omega) | exact ho618.stpF flat_shRowN hst662 (fun q hq => (fun q hq e => hsp623 q e hq) q hq)
          replace hN625 : Nst shI64 2 (fun x : List Int => x) w17.heap.size w617.heap.size w660 ((zs ++ [(((List.replicate ((((q30).1)).length) (0 : Int)) : List Int), (v599 : Value))])) := by first | exact hN625.stpF flat_shI64 hst662 hf200 rfl | exact hN625.stp hst662 (by intro q hq; have hq0 := hf200.lt q hq; omega)
          replace hb630 := hb630.stp hst662 (by intro q hq; have hq0 := hf200.lt q hq; omega)
          replace ho645 := ho645.stp hst662 (by intro q hq; have hq0 := hf200.lt q hq; omega)
          replace ho652 := ho652.stp hst662 (by intro q hq; have hq0 := hf200.lt q hq; omega)
          replace hN658 := hN658.stp hst662 (by intro q hq; have hq0 := hf200.lt q hq; omega)
          have hsp666 : ∀ q, Value.ownBlock v659 = some q → Value.ownBlock v616 ≠ some q := by intro q hq hb; have hq0 := ho618.lt q hb; rcases hob663 with h | h; (rw [h] at hq; first | (have hq1 := hf200.lt q hq; omega) | exact (fun q hq e => hsp623 q e hq) q hq hb); (rw [h] at hq; cases hq; omega)
          have hsp667 : ∀ q, Value.ownBlock v659 = some q → Value.ownBlock v650 ≠ some q := by intro q hq hb; have hq0 := ho652.lt q hb; rcases hob663 with h | h; (rw [h] at hq; first | (have hq1 := hf200.lt q hq; omega)); (rw [h] at hq; cases hq; omega)
          have hN668 : Nst shI64 2 (fun x : List Int => x) w58.heap.size w660.heap.size w660 ((ys ++ [(((List.replicate ((((q68).1)).length) (0 : Int)) : List Int), (v643 : Value))])) := (hf201.app hN658 (by omega) (by omega) (by omega)).fin (by omega) (by omega)
          have hs669 := (StpL.of_ext (B := fun i => Value.ownBlock v2 = some i ∨ i = w65.heap.size) hs656).trans' (Stp.toL hst662 (by intro q hq; exact Or.inl hq))
          refine ⟨hs669, ?_⟩
          refine dr_val (i := 8) ha664 rfl (by kernel_rfl) (by kernel_rfl) (by kernel_rfl) rfl rfl rfl hs669 (fun w' hw' => op_fieldAddr (sz := 0) ha664 rfl Try.underlying28 rfl rfl ti23 rfl) ?_
          intro a670 ha670; clear ha664 a664
          refine dr_one (i := 9) (by kernel_rfl) ?_
          refine po_effS ha670 rfl rfl rfl (op_store' (off := 1) ha670 rfl ti23 rfl rfl hf202 ho661.cells1 rfl (by intro u hu; have hu : u ∈ ([v659] : List Value) := hu; simp only [List.mem_cons, List.mem_nil_iff, or_false] at hu; rcases hu with rfl <;> first | rfl | exact ho661.one) (Nat.le_of_ble_eq_true rfl)) ?_
          rintro w671 ⟨hb673, hst672, hz674⟩
          have hx675 := hx665.stp hst672 (by intro q hq; cases hq; exact (by omega))
          have hzhx675 := hst672.size
          replace hf193 := hf193.stp hst672 (by intro q hq; cases hq; omega)
          replace hf194 := hf194.stp hst672 (by intro q hq; cases hq; omega)
          replace hf195 := hf195.stp hst672 (by intro q hq; cases hq; omega)
          replace hf199 := hf199.stp hst672 (by intro q hq; cases hq; omega)
          replace ho618 : Own shRowN 41 w17.heap.size w17.heap.size w617.heap.size w671 v616 ((zs ++ [(((List.replicate ((((q30).1)).length) (0 : Int)) : List Int), (v599 : Value))])) := by first | exact ho618.stp hst672 (by intro q hq; cases hq; omega) | exact ho618.stpF flat_shRowN hst672 (by intro q hq; cases hq; exact ho618.ne_box (by assumption) rfl)
          replace hN625 : Nst shI64 2 (fun x : List Int => x) w17.heap.size w617.heap.size w671 ((zs ++ [(((List.replicate ((((q30).1)).length) (0 : Int)) : List Int), (v599 : Value))])) := by first | exact hN625.stp hst672 (by intro q hq; cases hq; omega) | exact hN625.stpB flat_shI64 hst672 (by assumption) rfl
          replace hb630 := hb630.stp hst672 (by intro q hq; cases hq; omega)
          replace ho645 := ho645.stp hst672 (by intro q hq; cases hq; omega)
          replace ho652 := ho652.stp hst672 (by intro q hq; cases hq; omega)
          replace ho661 : Own shRowN 41 w58.heap.size w58.heap.size w660.heap.size w671 v659 ((ys ++ [(((List.replicate ((((q68).1)).length) (0 : Int)) : List Int), (v643 : Value))])) := by first | exact ho661.stp hst672 (by intro q hq; cases hq; omega) | exact ho661.stpF flat_shRowN hst672 (by intro q hq; cases hq; exact ho661.ne_box (by assumption) rfl)
          replace hN668 : Nst shI64 2 (fun x : List Int => x) w58.heap.size w660.heap.size w671 ((ys ++ [(((List.replicate ((((q68).1)).length) (0 : Int)) : List Int), (v643 : Value))])) := by first | exact hN668.stp hst672 (by intro q hq; cases hq; omega) | exact hN668.stpB flat_shI64 hst672 (by assumption) rfl
          clear hf202
          have hs676 := hs669.trans' (Stp.toL hst672 (by intro q hq; cases hq; exact Or.inr (rfl)))
          refine ⟨hs676, ?_⟩
          refine dr_end (by kernel_rfl) ?_
          refine block_n ?_
          refine then_n ?_
          clear ho645 ho652
          refine wp_region_lit ?_
          refine wl_val ha670 rfl rfl rfl (op_move ha670 rfl rfl) ?_
          intro a677 ha677; clear ha670 a670
          refine wl_val ha677 rfl rfl rfl ((op_add ha677 rfl rfl rfl).int (IntWalk.i64_in _ (by omega))) ?_
          intro a678 ha678; clear ha677 a677
          refine wl_val ha678 rfl rfl rfl (op_assign ha678 rfl rfl) ?_
          intro a679 ha679; clear ha678 a678
          refine wpList_nil ?_
          refine round_end (x := (i, v1, zs, v2, ys)) ((i + 1), v616, (zs ++ [(((List.replicate ((((q30).1)).length) (0 : Int)) : List Int), (v599 : Value))]), v659, (ys ++ [(((List.replicate ((((q68).1)).length) (0 : Int)) : List Int), (v643 : Value))])) ?_ ?_
          ·
           refine ⟨(Sl.cons_ ha679 rfl rfl (Sl.cons_ ha679 rfl rfl (Sl.cons_ ha679 rfl rfl (Sl.cons_ ha679 rfl rfl (Sl.cons_ ha679 rfl (int_eq (by omega)) (Sl.nil_ ha679)))))), hx675, hf193, hf194, hf195, hf199, (ho618.fin (by omega) (by omega) (by omega)), (hN625.fin (by omega) (by omega)), hb630, (ho661.fin (by omega) (by omega) (by omega)), (hN668.fin (by omega) (by omega)), hb673, (by omega), (by intro q hq; first | (intro hb; have hq0 := ho618.lt q hq; have hq1 := ho661.lt q hb; omega) | exact (fun q hq e => hsp666 q e hq) q hq), (by omega), (by first | omega | (simp; omega)), (by first | omega | (simp; omega))⟩
          ·show (6 - ((i + 1)) : Nat) < 6 - i; omega
         ·
          refine po_to ha639 rfl rfl rfl rfl (op_loadF (off := 0) ha639 rfl Try.underlying22 rfl rfl (hf202.ext hs637).cells rfl) ?_
          intro a680 ha680; clear ha639 a639
          refine ⟨(StpL.of_ext hs637), ?_⟩
          refine dr_val (i := 4) ha680 rfl (by kernel_rfl) (by kernel_rfl) (by kernel_rfl) rfl rfl rfl (StpL.of_ext hs637) (fun w' hw' => op_len_sl ha680 rfl Try.underlying22 rfl (hf199.rds pos_shStr)) ?_
          intro a681 ha681; clear ha680 a680
          refine dr_two (i := 1) (j := 5) (by kernel_rfl) ?_ ?_
          ·
           refine po_to ha681 rfl rfl rfl rfl (op_loadF (off := 1) ha681 rfl Try.underlying23 rfl rfl (hf202.ext hs637).cells rfl) ?_
           intro a682 ha682; clear ha681 a681
           refine ⟨(StpL.of_ext hs637), ?_⟩
           refine dr_one (i := 5) (by kernel_rfl) ?_
           refine po_eff ha682 rfl rfl rfl rfl (op_make (s := shI64) (n := (((q68).1)).length) (k' := .i64) ha682 rfl Try.underlying41 ti2 pos_shI64 rfl (by omega) zero_shI64 (by omega) (by omega)) ?_
           rintro v683 w684 ⟨ho685, he686⟩ a687 ha687; clear ha682 a682
           have hs688 := hs637.trans' he686
           have hx689 := hx636.trans' he686
           have hzhx689 := he686.size
           refine ⟨(StpL.of_ext hs688), ?_⟩
           refine dr_one (i := 6) (by kernel_rfl) ?_
           refine po_eff ha687 rfl rfl rfl rfl (op_buildSlice (s := shRowN) (xs := [(((List.replicate ((((q68).1)).length) (0 : Int)) : List Int), (v683 : Value))]) (cs := [v683]) (vs := [(0, v683)]) (S := fun _ => False) (le := w684.heap.size) ha687 rfl pos_shRowN Try.underlying23 ti41 rfl rfl (by decide) ((fill_one (off := 0) ho685.cells1 (by kernel_rfl) (by kernel_rfl)).trans (by kernel_rfl)) (Els.single (mk_shRowN ((((List.replicate ((((q68).1)).length) (0 : Int)) : List Int), (v683 : Value))) ho685.one)) (fun _ h => h.elim)) ?_
           rintro v690 w691 ⟨ho692, he693, hob694⟩ a695 ha695; clear ha687 a687
           have hs696 := hs688.trans' he693
           have hx697 := hx689.trans' he693
           have hzhx697 := he693.size
           replace ho685 := ho685.ext he693
           refine ⟨(StpL.of_ext hs696), ?_⟩
           have hN698 : Nst shI64 2 (fun x : List Int => x) w634.heap.size w691.heap.size w691 ([(((List.replicate ((((q68).1)).length) (0 : Int)) : List Int), (v683 : Value))]) := Nst.one (ho685.fin (by omega) (by omega) (by omega))
           refine dr_one (i := 7) (by kernel_rfl) ?_
           replace hf193 := hf193.ext hs696
           replace hf194 := hf194.ext hs696
           replace hf195 := hf195.ext hs696
           replace hf199 := hf199.ext hs696
           replace hf200 := hf200.ext hs696
           replace hf201 := hf201.ext hs696
           replace hf202 := hf202.ext hs696
           replace ho618 := ho618.ext hs696
           replace hN625 := hN625.ext hs696
           replace hb630 := hb630.ext hs696
           refine po_eff ha695 rfl rfl rfl rfl (op_append (ts := #[]) (s := shRowN) ha695 rfl Try.underlying23 ti41 rfl pos_shRowN rfl rfl hf200 (ho692.rds pos_shRowN) (by omega) (by omega) (by first | omega | (simp; omega) | (simp only [List.length_take]; omega)) (by first | omega | (simp; omega) | (simp only [List.length_take]; omega)) (.inl flat_shRowN)) ?_
           rintro v699 w700 ⟨ho701, hst702, hob703⟩ a704 ha704; clear ha695 a695
           have hx705 := hx697.stp hst702 (by intro q hq; have hq0 := hf200.lt q hq; omega)
           have hzhx705 := hst702.size
           replace hf193 := hf193.stp hst702 (by intro q hq; have hq0 := hf200.lt q hq; omega)
           replace hf194 := hf194.stp hst702 (by intro q hq; have hq0 := hf200.lt q hq; omega)
           replace hf195 := hf195.stp hst702 (by intro q hq; have hq0 := hf200.lt q hq; omega)
           replace hf199 : Own shStr 9 w58.heap.size w58.heap.size w65.heap.size w700 u74 (((q68).1)) := by first | exact hf199.stp hst702 (by intro q hq; have hq0 := hf200.lt q hq; omega) | exact hf199.stpF flat_shStr hst702 (hf199.ne hf200 rfl)
           replace hf201 : Nst shI64 2 (fun x : List Int => x) w58.heap.size w191.heap.size w700 ys := by first | exact hf201.stpF flat_shI64 hst702 hf200 rfl | exact hf201.stp hst702 (by intro q hq; have hq0 := hf200.lt q hq; omega)
           replace hf202 : Box w700 w65.heap.size 28 [u74, v2] := by first | exact hf202.stp hst702 (by intro q hq; have hq0 := hf200.lt q hq; omega) | exact hf202.stp hst702 (by intro q hq e; subst e; exact hf200.ne_box hf202 rfl hq)
           replace ho618 : Own shRowN 41 w17.heap.size w17.heap.size w617.heap.size w700 v616 ((zs ++ [(((List.replicate ((((q30).1)).length) (0 : Int)) : List Int), (v599 : Value))])) := by first | exact ho618.stp hst702 (by intro q hq; have hq0 := hf200.lt q hq; omega) | exact ho618.stpF flat_shRowN hst702 (fun q hq => (fun q hq e => hsp623 q e hq) q hq)
           replace hN625 : Nst shI64 2 (fun x : List Int => x) w17.heap.size w617.heap.size w700 ((zs ++ [(((List.replicate ((((q30).1)).length) (0 : Int)) : List Int), (v599 : Value))])) := by first | exact hN625.stpF flat_shI64 hst702 hf200 rfl | exact hN625.stp hst702 (by intro q hq; have hq0 := hf200.lt q hq; omega)
           replace hb630 := hb630.stp hst702 (by intro q hq; have hq0 := hf200.lt q hq; omega)
           replace ho685 := ho685.stp hst702 (by intro q hq; have hq0 := hf200.lt q hq; omega)
           replace ho692 := ho692.stp hst702 (by intro q hq; have hq0 := hf200.lt q hq; omega)
           replace hN698 := hN698.stp hst702 (by intro q hq; have hq0 := hf200.lt q hq; omega)
           have hsp706 : ∀ q, Value.ownBlock v699 = some q → Value.ownBlock v616 ≠ some q := by intro q hq hb; have hq0 := ho618.lt q hb; rcases hob703 with h | h; (rw [h] at hq; first | (have hq1 := hf200.lt q hq; omega) | exact (fun q hq e => hsp623 q e hq) q hq hb); (rw [h] at hq; cases hq; omega)
           have hsp707 : ∀ q, Value.ownBlock v699 = some q → Value.ownBlock v690 ≠ some q := by intro q hq hb; have hq0 := ho692.lt q hb; rcases hob703 with h | h; (rw [h] at hq; first | (have hq1 := hf200.lt q hq; omega)); (rw [h] at hq; cases hq; omega)
           have hN708 : Nst shI64 2 (fun x : List Int => x) w58.heap.size w700.heap.size w700 ((ys ++ [(((List.replicate ((((q68).1)).length) (0 : Int)) : List Int), (v683 : Value))])) := (hf201.app hN698 (by omega) (by omega) (by omega)).fin (by omega) (by omega)
           have hs709 := (StpL.of_ext (B := fun i => Value.ownBlock v2 = some i ∨ i = w65.heap.size) hs696).trans' (Stp.toL hst702 (by intro q hq; exact Or.inl hq))
           refine ⟨hs709, ?_⟩
           refine dr_val (i := 8) ha704 rfl (by kernel_rfl) (by kernel_rfl) (by kernel_rfl) rfl rfl rfl hs709 (fun w' hw' => op_fieldAddr (sz := 0) ha704 rfl Try.underlying28 rfl rfl ti23 rfl) ?_
           intro a710 ha710; clear ha704 a704
           refine dr_one (i := 9) (by kernel_rfl) ?_
           refine po_effS ha710 rfl rfl rfl (op_store' (off := 1) ha710 rfl ti23 rfl rfl hf202 ho701.cells1 rfl (by intro u hu; have hu : u ∈ ([v699] : List Value) := hu; simp only [List.mem_cons, List.mem_nil_iff, or_false] at hu; rcases hu with rfl <;> first | rfl | exact ho701.one) (Nat.le_of_ble_eq_true rfl)) ?_
           rintro w711 ⟨hb713, hst712, hz714⟩
           have hx715 := hx705.stp hst712 (by intro q hq; cases hq; exact (by omega))
           have hzhx715 := hst712.size
           replace hf193 := hf193.stp hst712 (by intro q hq; cases hq; omega)
           replace hf194 := hf194.stp hst712 (by intro q hq; cases hq; omega)
           replace hf195 := hf195.stp hst712 (by intro q hq; cases hq; omega)
           replace hf199 := hf199.stp hst712 (by intro q hq; cases hq; omega)
           replace ho618 : Own shRowN 41 w17.heap.size w17.heap.size w617.heap.size w711 v616 ((zs ++ [(((List.replicate ((((q30).1)).length) (0 : Int)) : List Int), (v599 : Value))])) := by first | exact ho618.stp hst712 (by intro q hq; cases hq; omega) | exact ho618.stpF flat_shRowN hst712 (by intro q hq; cases hq; exact ho618.ne_box (by assumption) rfl)
           replace hN625 : Nst shI64 2 (fun x : List Int => x) w17.heap.size w617.heap.size w711 ((zs ++ [(((List.replicate ((((q30).1)).length) (0 : Int)) : List Int), (v599 : Value))])) := by first | exact hN625.stp hst712 (by intro q hq; cases hq; omega) | exact hN625.stpB flat_shI64 hst712 (by assumption) rfl
           replace hb630 := hb630.stp hst712 (by intro q hq; cases hq; omega)
           replace ho685 := ho685.stp hst712 (by intro q hq; cases hq; omega)
           replace ho692 := ho692.stp hst712 (by intro q hq; cases hq; omega)
           replace ho701 : Own shRowN 41 w58.heap.size w58.heap.size w700.heap.size w711 v699 ((ys ++ [(((List.replicate ((((q68).1)).length) (0 : Int)) : List Int), (v683 : Value))])) := by first | exact ho701.stp hst712 (by intro q hq; cases hq; omega) | exact ho701.stpF flat_shRowN hst712 (by intro q hq; cases hq; exact ho701.ne_box (by assumption) rfl)
           replace hN708 : Nst shI64 2 (fun x : List Int => x) w58.heap.size w700.heap.size w711 ((ys ++ [(((List.replicate ((((q68).1)).length) (0 : Int)) : List Int), (v683 : Value))])) := by first | exact hN708.stp hst712 (by intro q hq; cases hq; omega) | exact hN708.stpB flat_shI64 hst712 (by assumption) rfl
           clear hf202
           have hs716 := hs709.trans' (Stp.toL hst712 (by intro q hq; cases hq; exact Or.inr (rfl)))
           refine ⟨hs716, ?_⟩
           refine dr_end (by kernel_rfl) ?_
           refine block_n ?_
           refine then_n ?_
           clear ho685 ho692
           refine wp_region_lit ?_
           refine wl_val ha710 rfl rfl rfl (op_move ha710 rfl rfl) ?_
           intro a717 ha717; clear ha710 a710
           refine wl_val ha717 rfl rfl rfl ((op_add ha717 rfl rfl rfl).int (IntWalk.i64_in _ (by omega))) ?_
           intro a718 ha718; clear ha717 a717
           refine wl_val ha718 rfl rfl rfl (op_assign ha718 rfl rfl) ?_
           intro a719 ha719; clear ha718 a718
           refine wpList_nil ?_
           refine round_end (x := (i, v1, zs, v2, ys)) ((i + 1), v616, (zs ++ [(((List.replicate ((((q30).1)).length) (0 : Int)) : List Int), (v599 : Value))]), v699, (ys ++ [(((List.replicate ((((q68).1)).length) (0 : Int)) : List Int), (v683 : Value))])) ?_ ?_
           ·
            refine ⟨(Sl.cons_ ha719 rfl rfl (Sl.cons_ ha719 rfl rfl (Sl.cons_ ha719 rfl rfl (Sl.cons_ ha719 rfl rfl (Sl.cons_ ha719 rfl (int_eq (by omega)) (Sl.nil_ ha719)))))), hx715, hf193, hf194, hf195, hf199, (ho618.fin (by omega) (by omega) (by omega)), (hN625.fin (by omega) (by omega)), hb630, (ho701.fin (by omega) (by omega) (by omega)), (hN708.fin (by omega) (by omega)), hb713, (by omega), (by intro q hq; first | (intro hb; have hq0 := ho618.lt q hq; have hq1 := ho701.lt q hb; omega) | exact (fun q hq e => hsp706 q e hq) q hq), (by omega), (by first | omega | (simp; omega)), (by first | omega | (simp; omega))⟩
           ·show (6 - ((i + 1)) : Nat) < 6 - i; omega
          ·
           refine po_eff ha681 rfl rfl rfl rfl (op_make (s := shI64) (n := (((q68).1)).length) (k' := .i64) ha681 rfl Try.underlying41 ti2 pos_shI64 rfl (by omega) zero_shI64 (by omega) (by omega)) ?_
           rintro v720 w721 ⟨ho722, he723⟩ a724 ha724; clear ha681 a681
           have hs725 := hs637.trans' he723
           have hx726 := hx636.trans' he723
           have hzhx726 := he723.size
           refine ⟨(StpL.of_ext hs725), ?_⟩
           refine dr_two (i := 1) (j := 6) (by kernel_rfl) ?_ ?_
           ·
            refine po_to ha724 rfl rfl rfl rfl (op_loadF (off := 1) ha724 rfl Try.underlying23 rfl rfl (hf202.ext hs725).cells rfl) ?_
            intro a727 ha727; clear ha724 a724
            refine ⟨(StpL.of_ext hs725), ?_⟩
            refine dr_one (i := 6) (by kernel_rfl) ?_
            refine po_eff ha727 rfl rfl rfl rfl (op_buildSlice (s := shRowN) (xs := [(((List.replicate ((((q68).1)).length) (0 : Int)) : List Int), (v720 : Value))]) (cs := [v720]) (vs := [(0, v720)]) (S := fun _ => False) (le := w721.heap.size) ha727 rfl pos_shRowN Try.underlying23 ti41 rfl rfl (by decide) ((fill_one (off := 0) ho722.cells1 (by kernel_rfl) (by kernel_rfl)).trans (by kernel_rfl)) (Els.single (mk_shRowN ((((List.replicate ((((q68).1)).length) (0 : Int)) : List Int), (v720 : Value))) ho722.one)) (fun _ h => h.elim)) ?_
            rintro v728 w729 ⟨ho730, he731, hob732⟩ a733 ha733; clear ha727 a727
            have hs734 := hs725.trans' he731
            have hx735 := hx726.trans' he731
            have hzhx735 := he731.size
            replace ho722 := ho722.ext he731
            refine ⟨(StpL.of_ext hs734), ?_⟩
            have hN736 : Nst shI64 2 (fun x : List Int => x) w634.heap.size w729.heap.size w729 ([(((List.replicate ((((q68).1)).length) (0 : Int)) : List Int), (v720 : Value))]) := Nst.one (ho722.fin (by omega) (by omega) (by omega))
            refine dr_one (i := 7) (by kernel_rfl) ?_
            replace hf193 := hf193.ext hs734
            replace hf194 := hf194.ext hs734
            replace hf195 := hf195.ext hs734
            replace hf199 := hf199.ext hs734
            replace hf200 := hf200.ext hs734
            replace hf201 := hf201.ext hs734
            replace hf202 := hf202.ext hs734
            replace ho618 := ho618.ext hs734
            replace hN625 := hN625.ext hs734
            replace hb630 := hb630.ext hs734
            refine po_eff ha733 rfl rfl rfl rfl (op_append (ts := #[]) (s := shRowN) ha733 rfl Try.underlying23 ti41 rfl pos_shRowN rfl rfl hf200 (ho730.rds pos_shRowN) (by omega) (by omega) (by first | omega | (simp; omega) | (simp only [List.length_take]; omega)) (by first | omega | (simp; omega) | (simp only [List.length_take]; omega)) (.inl flat_shRowN)) ?_
            rintro v737 w738 ⟨ho739, hst740, hob741⟩ a742 ha742; clear ha733 a733
            have hx743 := hx735.stp hst740 (by intro q hq; have hq0 := hf200.lt q hq; omega)
            have hzhx743 := hst740.size
            replace hf193 := hf193.stp hst740 (by intro q hq; have hq0 := hf200.lt q hq; omega)
            replace hf194 := hf194.stp hst740 (by intro q hq; have hq0 := hf200.lt q hq; omega)
            replace hf195 := hf195.stp hst740 (by intro q hq; have hq0 := hf200.lt q hq; omega)
            replace hf199 : Own shStr 9 w58.heap.size w58.heap.size w65.heap.size w738 u74 (((q68).1)) := by first | exact hf199.stp hst740 (by intro q hq; have hq0 := hf200.lt q hq; omega) | exact hf199.stpF flat_shStr hst740 (hf199.ne hf200 rfl)
            replace hf201 : Nst shI64 2 (fun x : List Int => x) w58.heap.size w191.heap.size w738 ys := by first | exact hf201.stpF flat_shI64 hst740 hf200 rfl | exact hf201.stp hst740 (by intro q hq; have hq0 := hf200.lt q hq; omega)
            replace hf202 : Box w738 w65.heap.size 28 [u74, v2] := by first | exact hf202.stp hst740 (by intro q hq; have hq0 := hf200.lt q hq; omega) | exact hf202.stp hst740 (by intro q hq e; subst e; exact hf200.ne_box hf202 rfl hq)
            replace ho618 : Own shRowN 41 w17.heap.size w17.heap.size w617.heap.size w738 v616 ((zs ++ [(((List.replicate ((((q30).1)).length) (0 : Int)) : List Int), (v599 : Value))])) := by first | exact ho618.stp hst740 (by intro q hq; have hq0 := hf200.lt q hq; omega) | exact ho618.stpF flat_shRowN hst740 (fun q hq => (fun q hq e => hsp623 q e hq) q hq)
            replace hN625 : Nst shI64 2 (fun x : List Int => x) w17.heap.size w617.heap.size w738 ((zs ++ [(((List.replicate ((((q30).1)).length) (0 : Int)) : List Int), (v599 : Value))])) := by first | exact hN625.stpF flat_shI64 hst740 hf200 rfl | exact hN625.stp hst740 (by intro q hq; have hq0 := hf200.lt q hq; omega)
            replace hb630 := hb630.stp hst740 (by intro q hq; have hq0 := hf200.lt q hq; omega)
            replace ho722 := ho722.stp hst740 (by intro q hq; have hq0 := hf200.lt q hq; omega)
            replace ho730 := ho730.stp hst740 (by intro q hq; have hq0 := hf200.lt q hq; omega)
            replace hN736 := hN736.stp hst740 (by intro q hq; have hq0 := hf200.lt q hq; omega)
            have hsp744 : ∀ q, Value.ownBlock v737 = some q → Value.ownBlock v616 ≠ some q := by intro q hq hb; have hq0 := ho618.lt q hb; rcases hob741 with h | h; (rw [h] at hq; first | (have hq1 := hf200.lt q hq; omega) | exact (fun q hq e => hsp623 q e hq) q hq hb); (rw [h] at hq; cases hq; omega)
            have hsp745 : ∀ q, Value.ownBlock v737 = some q → Value.ownBlock v728 ≠ some q := by intro q hq hb; have hq0 := ho730.lt q hb; rcases hob741 with h | h; (rw [h] at hq; first | (have hq1 := hf200.lt q hq; omega)); (rw [h] at hq; cases hq; omega)
            have hN746 : Nst shI64 2 (fun x : List Int => x) w58.heap.size w738.heap.size w738 ((ys ++ [(((List.replicate ((((q68).1)).length) (0 : Int)) : List Int), (v720 : Value))])) := (hf201.app hN736 (by omega) (by omega) (by omega)).fin (by omega) (by omega)
            have hs747 := (StpL.of_ext (B := fun i => Value.ownBlock v2 = some i ∨ i = w65.heap.size) hs734).trans' (Stp.toL hst740 (by intro q hq; exact Or.inl hq))
            refine ⟨hs747, ?_⟩
            refine dr_val (i := 8) ha742 rfl (by kernel_rfl) (by kernel_rfl) (by kernel_rfl) rfl rfl rfl hs747 (fun w' hw' => op_fieldAddr (sz := 0) ha742 rfl Try.underlying28 rfl rfl ti23 rfl) ?_
            intro a748 ha748; clear ha742 a742
            refine dr_one (i := 9) (by kernel_rfl) ?_
            refine po_effS ha748 rfl rfl rfl (op_store' (off := 1) ha748 rfl ti23 rfl rfl hf202 ho739.cells1 rfl (by intro u hu; have hu : u ∈ ([v737] : List Value) := hu; simp only [List.mem_cons, List.mem_nil_iff, or_false] at hu; rcases hu with rfl <;> first | rfl | exact ho739.one) (Nat.le_of_ble_eq_true rfl)) ?_
            rintro w749 ⟨hb751, hst750, hz752⟩
            have hx753 := hx743.stp hst750 (by intro q hq; cases hq; exact (by omega))
            have hzhx753 := hst750.size
            replace hf193 := hf193.stp hst750 (by intro q hq; cases hq; omega)
            replace hf194 := hf194.stp hst750 (by intro q hq; cases hq; omega)
            replace hf195 := hf195.stp hst750 (by intro q hq; cases hq; omega)
            replace hf199 := hf199.stp hst750 (by intro q hq; cases hq; omega)
            replace ho618 : Own shRowN 41 w17.heap.size w17.heap.size w617.heap.size w749 v616 ((zs ++ [(((List.replicate ((((q30).1)).length) (0 : Int)) : List Int), (v599 : Value))])) := by first | exact ho618.stp hst750 (by intro q hq; cases hq; omega) | exact ho618.stpF flat_shRowN hst750 (by intro q hq; cases hq; exact ho618.ne_box (by assumption) rfl)
            replace hN625 : Nst shI64 2 (fun x : List Int => x) w17.heap.size w617.heap.size w749 ((zs ++ [(((List.replicate ((((q30).1)).length) (0 : Int)) : List Int), (v599 : Value))])) := by first | exact hN625.stp hst750 (by intro q hq; cases hq; omega) | exact hN625.stpB flat_shI64 hst750 (by assumption) rfl
            replace hb630 := hb630.stp hst750 (by intro q hq; cases hq; omega)
            replace ho722 := ho722.stp hst750 (by intro q hq; cases hq; omega)
            replace ho730 := ho730.stp hst750 (by intro q hq; cases hq; omega)
            replace ho739 : Own shRowN 41 w58.heap.size w58.heap.size w738.heap.size w749 v737 ((ys ++ [(((List.replicate ((((q68).1)).length) (0 : Int)) : List Int), (v720 : Value))])) := by first | exact ho739.stp hst750 (by intro q hq; cases hq; omega) | exact ho739.stpF flat_shRowN hst750 (by intro q hq; cases hq; exact ho739.ne_box (by assumption) rfl)
            replace hN746 : Nst shI64 2 (fun x : List Int => x) w58.heap.size w738.heap.size w749 ((ys ++ [(((List.replicate ((((q68).1)).length) (0 : Int)) : List Int), (v720 : Value))])) := by first | exact hN746.stp hst750 (by intro q hq; cases hq; omega) | exact hN746.stpB flat_shI64 hst750 (by assumption) rfl
            clear hf202
            have hs754 := hs747.trans' (Stp.toL hst750 (by intro q hq; cases hq; exact Or.inr (rfl)))
            refine ⟨hs754, ?_⟩
            refine dr_end (by kernel_rfl) ?_
            refine block_n ?_
            refine then_n ?_
            clear ho722 ho730
            refine wp_region_lit ?_
            refine wl_val ha748 rfl rfl rfl (op_move ha748 rfl rfl) ?_
            intro a755 ha755; clear ha748 a748
            refine wl_val ha755 rfl rfl rfl ((op_add ha755 rfl rfl rfl).int (IntWalk.i64_in _ (by omega))) ?_
            intro a756 ha756; clear ha755 a755
            refine wl_val ha756 rfl rfl rfl (op_assign ha756 rfl rfl) ?_
            intro a757 ha757; clear ha756 a756
            refine wpList_nil ?_
            refine round_end (x := (i, v1, zs, v2, ys)) ((i + 1), v616, (zs ++ [(((List.replicate ((((q30).1)).length) (0 : Int)) : List Int), (v599 : Value))]), v737, (ys ++ [(((List.replicate ((((q68).1)).length) (0 : Int)) : List Int), (v720 : Value))])) ?_ ?_
            ·
             refine ⟨(Sl.cons_ ha757 rfl rfl (Sl.cons_ ha757 rfl rfl (Sl.cons_ ha757 rfl rfl (Sl.cons_ ha757 rfl rfl (Sl.cons_ ha757 rfl (int_eq (by omega)) (Sl.nil_ ha757)))))), hx753, hf193, hf194, hf195, hf199, (ho618.fin (by omega) (by omega) (by omega)), (hN625.fin (by omega) (by omega)), hb630, (ho739.fin (by omega) (by omega) (by omega)), (hN746.fin (by omega) (by omega)), hb751, (by omega), (by intro q hq; first | (intro hb; have hq0 := ho618.lt q hq; have hq1 := ho739.lt q hb; omega) | exact (fun q hq e => hsp744 q e hq) q hq), (by omega), (by first | omega | (simp; omega)), (by first | omega | (simp; omega))⟩
            ·show (6 - ((i + 1)) : Nat) < 6 - i; omega
           ·
            refine po_eff ha724 rfl rfl rfl rfl (op_buildSlice (s := shRowN) (xs := [(((List.replicate ((((q68).1)).length) (0 : Int)) : List Int), (v720 : Value))]) (cs := [v720]) (vs := [(0, v720)]) (S := fun _ => False) (le := w721.heap.size) ha724 rfl pos_shRowN Try.underlying23 ti41 rfl rfl (by decide) ((fill_one (off := 0) ho722.cells1 (by kernel_rfl) (by kernel_rfl)).trans (by kernel_rfl)) (Els.single (mk_shRowN ((((List.replicate ((((q68).1)).length) (0 : Int)) : List Int), (v720 : Value))) ho722.one)) (fun _ h => h.elim)) ?_
            rintro v758 w759 ⟨ho760, he761, hob762⟩ a763 ha763; clear ha724 a724
            have hs764 := hs725.trans' he761
            have hx765 := hx726.trans' he761
            have hzhx765 := he761.size
            replace ho722 := ho722.ext he761
            refine ⟨(StpL.of_ext hs764), ?_⟩
            have hN766 : Nst shI64 2 (fun x : List Int => x) w634.heap.size w759.heap.size w759 ([(((List.replicate ((((q68).1)).length) (0 : Int)) : List Int), (v720 : Value))]) := Nst.one (ho722.fin (by omega) (by omega) (by omega))
            refine dr_one (i := 1) (by kernel_rfl) ?_
            refine po_to ha763 rfl rfl rfl rfl (op_loadF (off := 1) ha763 rfl Try.underlying23 rfl rfl (hf202.ext hs764).cells rfl) ?_
            intro a767 ha767; clear ha763 a763
            refine ⟨(StpL.of_ext hs764), ?_⟩
            refine dr_one (i := 7) (by kernel_rfl) ?_
            replace hf193 := hf193.ext hs764
            replace hf194 := hf194.ext hs764
            replace hf195 := hf195.ext hs764
            replace hf199 := hf199.ext hs764
            replace hf200 := hf200.ext hs764
            replace hf201 := hf201.ext hs764
            replace hf202 := hf202.ext hs764
            replace ho618 := ho618.ext hs764
            replace hN625 := hN625.ext hs764
            replace hb630 := hb630.ext hs764
            refine po_eff ha767 rfl rfl rfl rfl (op_append (ts := #[]) (s := shRowN) ha767 rfl Try.underlying23 ti41 rfl pos_shRowN rfl rfl hf200 (ho760.rds pos_shRowN) (by omega) (by omega) (by first | omega | (simp; omega) | (simp only [List.length_take]; omega)) (by first | omega | (simp; omega) | (simp only [List.length_take]; omega)) (.inl flat_shRowN)) ?_
            rintro v768 w769 ⟨ho770, hst771, hob772⟩ a773 ha773; clear ha767 a767
            have hx774 := hx765.stp hst771 (by intro q hq; have hq0 := hf200.lt q hq; omega)
            have hzhx774 := hst771.size
            replace hf193 := hf193.stp hst771 (by intro q hq; have hq0 := hf200.lt q hq; omega)
            replace hf194 := hf194.stp hst771 (by intro q hq; have hq0 := hf200.lt q hq; omega)
            replace hf195 := hf195.stp hst771 (by intro q hq; have hq0 := hf200.lt q hq; omega)
            replace hf199 : Own shStr 9 w58.heap.size w58.heap.size w65.heap.size w769 u74 (((q68).1)) := by first | exact hf199.stp hst771 (by intro q hq; have hq0 := hf200.lt q hq; omega) | exact hf199.stpF flat_shStr hst771 (hf199.ne hf200 rfl)
            replace hf201 : Nst shI64 2 (fun x : List Int => x) w58.heap.size w191.heap.size w769 ys := by first | exact hf201.stpF flat_shI64 hst771 hf200 rfl | exact hf201.stp hst771 (by intro q hq; have hq0 := hf200.lt q hq; omega)
            replace hf202 : Box w769 w65.heap.size 28 [u74, v2] := by first | exact hf202.stp hst771 (by intro q hq; have hq0 := hf200.lt q hq; omega) | exact hf202.stp hst771 (by intro q hq e; subst e; exact hf200.ne_box hf202 rfl hq)
            replace ho618 : Own shRowN 41 w17.heap.size w17.heap.size w617.heap.size w769 v616 ((zs ++ [(((List.replicate ((((q30).1)).length) (0 : Int)) : List Int), (v599 : Value))])) := by first | exact ho618.stp hst771 (by intro q hq; have hq0 := hf200.lt q hq; omega) | exact ho618.stpF flat_shRowN hst771 (fun q hq => (fun q hq e => hsp623 q e hq) q hq)
            replace hN625 : Nst shI64 2 (fun x : List Int => x) w17.heap.size w617.heap.size w769 ((zs ++ [(((List.replicate ((((q30).1)).length) (0 : Int)) : List Int), (v599 : Value))])) := by first | exact hN625.stpF flat_shI64 hst771 hf200 rfl | exact hN625.stp hst771 (by intro q hq; have hq0 := hf200.lt q hq; omega)
            replace hb630 := hb630.stp hst771 (by intro q hq; have hq0 := hf200.lt q hq; omega)
            replace ho722 := ho722.stp hst771 (by intro q hq; have hq0 := hf200.lt q hq; omega)
            replace ho760 := ho760.stp hst771 (by intro q hq; have hq0 := hf200.lt q hq; omega)
            replace hN766 := hN766.stp hst771 (by intro q hq; have hq0 := hf200.lt q hq; omega)
            have hsp775 : ∀ q, Value.ownBlock v768 = some q → Value.ownBlock v616 ≠ some q := by intro q hq hb; have hq0 := ho618.lt q hb; rcases hob772 with h | h; (rw [h] at hq; first | (have hq1 := hf200.lt q hq; omega) | exact (fun q hq e => hsp623 q e hq) q hq hb); (rw [h] at hq; cases hq; omega)
            have hsp776 : ∀ q, Value.ownBlock v768 = some q → Value.ownBlock v758 ≠ some q := by intro q hq hb; have hq0 := ho760.lt q hb; rcases hob772 with h | h; (rw [h] at hq; first | (have hq1 := hf200.lt q hq; omega)); (rw [h] at hq; cases hq; omega)
            have hN777 : Nst shI64 2 (fun x : List Int => x) w58.heap.size w769.heap.size w769 ((ys ++ [(((List.replicate ((((q68).1)).length) (0 : Int)) : List Int), (v720 : Value))])) := (hf201.app hN766 (by omega) (by omega) (by omega)).fin (by omega) (by omega)
            have hs778 := (StpL.of_ext (B := fun i => Value.ownBlock v2 = some i ∨ i = w65.heap.size) hs764).trans' (Stp.toL hst771 (by intro q hq; exact Or.inl hq))
            refine ⟨hs778, ?_⟩
            refine dr_val (i := 8) ha773 rfl (by kernel_rfl) (by kernel_rfl) (by kernel_rfl) rfl rfl rfl hs778 (fun w' hw' => op_fieldAddr (sz := 0) ha773 rfl Try.underlying28 rfl rfl ti23 rfl) ?_
            intro a779 ha779; clear ha773 a773
            refine dr_one (i := 9) (by kernel_rfl) ?_
            refine po_effS ha779 rfl rfl rfl (op_store' (off := 1) ha779 rfl ti23 rfl rfl hf202 ho770.cells1 rfl (by intro u hu; have hu : u ∈ ([v768] : List Value) := hu; simp only [List.mem_cons, List.mem_nil_iff, or_false] at hu; rcases hu with rfl <;> first | rfl | exact ho770.one) (Nat.le_of_ble_eq_true rfl)) ?_
            rintro w780 ⟨hb782, hst781, hz783⟩
            have hx784 := hx774.stp hst781 (by intro q hq; cases hq; exact (by omega))
            have hzhx784 := hst781.size
            replace hf193 := hf193.stp hst781 (by intro q hq; cases hq; omega)
            replace hf194 := hf194.stp hst781 (by intro q hq; cases hq; omega)
            replace hf195 := hf195.stp hst781 (by intro q hq; cases hq; omega)
            replace hf199 := hf199.stp hst781 (by intro q hq; cases hq; omega)
            replace ho618 : Own shRowN 41 w17.heap.size w17.heap.size w617.heap.size w780 v616 ((zs ++ [(((List.replicate ((((q30).1)).length) (0 : Int)) : List Int), (v599 : Value))])) := by first | exact ho618.stp hst781 (by intro q hq; cases hq; omega) | exact ho618.stpF flat_shRowN hst781 (by intro q hq; cases hq; exact ho618.ne_box (by assumption) rfl)
            replace hN625 : Nst shI64 2 (fun x : List Int => x) w17.heap.size w617.heap.size w780 ((zs ++ [(((List.replicate ((((q30).1)).length) (0 : Int)) : List Int), (v599 : Value))])) := by first | exact hN625.stp hst781 (by intro q hq; cases hq; omega) | exact hN625.stpB flat_shI64 hst781 (by assumption) rfl
            replace hb630 := hb630.stp hst781 (by intro q hq; cases hq; omega)
            replace ho722 := ho722.stp hst781 (by intro q hq; cases hq; omega)
            replace ho760 := ho760.stp hst781 (by intro q hq; cases hq; omega)
            replace ho770 : Own shRowN 41 w58.heap.size w58.heap.size w769.heap.size w780 v768 ((ys ++ [(((List.replicate ((((q68).1)).length) (0 : Int)) : List Int), (v720 : Value))])) := by first | exact ho770.stp hst781 (by intro q hq; cases hq; omega) | exact ho770.stpF flat_shRowN hst781 (by intro q hq; cases hq; exact ho770.ne_box (by assumption) rfl)
            replace hN777 : Nst shI64 2 (fun x : List Int => x) w58.heap.size w769.heap.size w780 ((ys ++ [(((List.replicate ((((q68).1)).length) (0 : Int)) : List Int), (v720 : Value))])) := by first | exact hN777.stp hst781 (by intro q hq; cases hq; omega) | exact hN777.stpB flat_shI64 hst781 (by assumption) rfl
            clear hf202
            have hs785 := hs778.trans' (Stp.toL hst781 (by intro q hq; cases hq; exact Or.inr (rfl)))
            refine ⟨hs785, ?_⟩
            refine dr_end (by kernel_rfl) ?_
            refine block_n ?_
            refine then_n ?_
            clear ho722 ho760
            refine wp_region_lit ?_
            refine wl_val ha779 rfl rfl rfl (op_move ha779 rfl rfl) ?_
            intro a786 ha786; clear ha779 a779
            refine wl_val ha786 rfl rfl rfl ((op_add ha786 rfl rfl rfl).int (IntWalk.i64_in _ (by omega))) ?_
            intro a787 ha787; clear ha786 a786
            refine wl_val ha787 rfl rfl rfl (op_assign ha787 rfl rfl) ?_
            intro a788 ha788; clear ha787 a787
            refine wpList_nil ?_
            refine round_end (x := (i, v1, zs, v2, ys)) ((i + 1), v616, (zs ++ [(((List.replicate ((((q30).1)).length) (0 : Int)) : List Int), (v599 : Value))]), v768, (ys ++ [(((List.replicate ((((q68).1)).length) (0 : Int)) : List Int), (v720 : Value))])) ?_ ?_
            ·
             refine ⟨(Sl.cons_ ha788 rfl rfl (Sl.cons_ ha788 rfl rfl (Sl.cons_ ha788 rfl rfl (Sl.cons_ ha788 rfl rfl (Sl.cons_ ha788 rfl (int_eq (by omega)) (Sl.nil_ ha788)))))), hx784, hf193, hf194, hf195, hf199, (ho618.fin (by omega) (by omega) (by omega)), (hN625.fin (by omega) (by omega)), hb630, (ho770.fin (by omega) (by omega) (by omega)), (hN777.fin (by omega) (by omega)), hb782, (by omega), (by intro q hq; first | (intro hb; have hq0 := ho618.lt q hq; have hq1 := ho770.lt q hb; omega) | exact (fun q hq e => hsp775 q e hq) q hq), (by omega), (by first | omega | (simp; omega)), (by first | omega | (simp; omega))⟩
            ·show (6 - ((i + 1)) : Nat) < 6 - i; omega
        ·
         refine po_eff ha603 rfl rfl rfl rfl (op_buildSlice (s := shRowN) (xs := [(((List.replicate ((((q30).1)).length) (0 : Int)) : List Int), (v599 : Value))]) (cs := [v599]) (vs := [(0, v599)]) (S := fun _ => False) (le := w600.heap.size) ha603 rfl pos_shRowN Try.underlying23 ti41 rfl rfl (by decide) ((fill_one (off := 0) ho601.cells1 (by kernel_rfl) (by kernel_rfl)).trans (by kernel_rfl)) (Els.single (mk_shRowN ((((List.replicate ((((q30).1)).length) (0 : Int)) : List Int), (v599 : Value))) ho601.one)) (fun _ h => h.elim)) ?_
         rintro v789 w790 ⟨ho791, he792, hob793⟩ a794 ha794; clear ha603 a603
         have hs795 := hs604.trans' he792
         have hx796 := hx605.trans' he792
         have hzhx796 := he792.size
         replace ho601 := ho601.ext he792
         refine ⟨(StpL.of_ext hs795), ?_⟩
         have hN797 : Nst shI64 2 (fun x : List Int => x) w209.heap.size w790.heap.size w790 ([(((List.replicate ((((q30).1)).length) (0 : Int)) : List Int), (v599 : Value))]) := Nst.one (ho601.fin (by omega) (by omega) (by omega))
         refine dr_one (i := 1) (by kernel_rfl) ?_
         refine po_to ha794 rfl rfl rfl rfl (op_loadF (off := 1) ha794 rfl Try.underlying23 rfl rfl (hf198.ext hs795).cells rfl) ?_
         intro a798 ha798; clear ha794 a794
         refine ⟨(StpL.of_ext hs795), ?_⟩
         refine dr_one (i := 7) (by kernel_rfl) ?_
         replace hf193 := hf193.ext hs795
         replace hf194 := hf194.ext hs795
         replace hf195 := hf195.ext hs795
         replace hf199 := hf199.ext hs795
         replace hf196 := hf196.ext hs795
         replace hf197 := hf197.ext hs795
         replace hf198 := hf198.ext hs795
         replace hf200 := hf200.ext hs795
         replace hf201 := hf201.ext hs795
         replace hf202 := hf202.ext hs795
         refine po_eff ha798 rfl rfl rfl rfl (op_append (ts := #[]) (s := shRowN) ha798 rfl Try.underlying23 ti41 rfl pos_shRowN rfl rfl hf196 (ho791.rds pos_shRowN) (by omega) (by omega) (by first | omega | (simp; omega) | (simp only [List.length_take]; omega)) (by first | omega | (simp; omega) | (simp only [List.length_take]; omega)) (.inl flat_shRowN)) ?_
         rintro v799 w800 ⟨ho801, hst802, hob803⟩ a804 ha804; clear ha798 a798
         have hx805 := hx796.stp hst802 (by intro q hq; have hq0 := hf196.lt q hq; omega)
         have hzhx805 := hst802.size
         replace hf193 := hf193.stp hst802 (by intro q hq; have hq0 := hf196.lt q hq; omega)
         replace hf194 := hf194.stp hst802 (by intro q hq; have hq0 := hf196.lt q hq; omega)
         replace hf195 : Own shStr 9 w17.heap.size w17.heap.size w27.heap.size w800 u35 (((q30).1)) := by first | exact hf195.stp hst802 (by intro q hq; have hq0 := hf196.lt q hq; omega) | exact hf195.stpF flat_shStr hst802 (hf195.ne hf196 rfl)
         replace hf199 : Own shStr 9 w58.heap.size w58.heap.size w65.heap.size w800 u74 (((q68).1)) := by first | exact hf199.stp hst802 (by intro q hq; have hq0 := hf196.lt q hq; omega) | exact hf199.stpF flat_shStr hst802 (hf199.ne hf196 rfl)
         replace hf197 : Nst shI64 2 (fun x : List Int => x) w17.heap.size w191.heap.size w800 zs := by first | exact hf197.stpF flat_shI64 hst802 hf196 rfl | exact hf197.stp hst802 (by intro q hq; have hq0 := hf196.lt q hq; omega)
         replace hf198 : Box w800 w27.heap.size 28 [u35, v1] := by first | exact hf198.stp hst802 (by intro q hq; have hq0 := hf196.lt q hq; omega) | exact hf198.stp hst802 (by intro q hq e; subst e; exact hf196.ne_box hf198 rfl hq)
         replace hf200 : Own shRowN 41 w58.heap.size w58.heap.size w191.heap.size w800 v2 ys := by first | exact hf200.stp hst802 (by intro q hq; have hq0 := hf196.lt q hq; omega) | exact hf200.stpF flat_shRowN hst802 (fun q hq => hsp203 q hq)
         replace hf201 : Nst shI64 2 (fun x : List Int => x) w58.heap.size w191.heap.size w800 ys := by first | exact hf201.stpF flat_shI64 hst802 hf196 rfl | exact hf201.stp hst802 (by intro q hq; have hq0 := hf196.lt q hq; omega)
         replace hf202 : Box w800 w65.heap.size 28 [u74, v2] := by first | exact hf202.stp hst802 (by intro q hq; have hq0 := hf196.lt q hq; omega) | exact hf202.stp hst802 (by intro q hq e; subst e; exact hf196.ne_box hf202 rfl hq)
         replace ho601 := ho601.stp hst802 (by intro q hq; have hq0 := hf196.lt q hq; omega)
         replace ho791 := ho791.stp hst802 (by intro q hq; have hq0 := hf196.lt q hq; omega)
         replace hN797 := hN797.stp hst802 (by intro q hq; have hq0 := hf196.lt q hq; omega)
         have hsp806 : ∀ q, Value.ownBlock v799 = some q → Value.ownBlock v2 ≠ some q := by intro q hq hb; have hq0 := hf200.lt q hb; rcases hob803 with h | h; (rw [h] at hq; first | (have hq1 := hf196.lt q hq; omega) | exact hsp203 q hq hb); (rw [h] at hq; cases hq; omega)
         have hsp807 : ∀ q, Value.ownBlock v799 = some q → Value.ownBlock v789 ≠ some q := by intro q hq hb; have hq0 := ho791.lt q hb; rcases hob803 with h | h; (rw [h] at hq; first | (have hq1 := hf196.lt q hq; omega)); (rw [h] at hq; cases hq; omega)
         have hN808 : Nst shI64 2 (fun x : List Int => x) w17.heap.size w800.heap.size w800 ((zs ++ [(((List.replicate ((((q30).1)).length) (0 : Int)) : List Int), (v599 : Value))])) := (hf197.app hN797 (by omega) (by omega) (by omega)).fin (by omega) (by omega)
         have hs809 := (StpL.of_ext (B := fun i => Value.ownBlock v1 = some i ∨ i = w27.heap.size) hs795).trans' (Stp.toL hst802 (by intro q hq; exact Or.inl hq))
         refine ⟨hs809, ?_⟩
         refine dr_val (i := 8) ha804 rfl (by kernel_rfl) (by kernel_rfl) (by kernel_rfl) rfl rfl rfl hs809 (fun w' hw' => op_fieldAddr (sz := 0) ha804 rfl Try.underlying28 rfl rfl ti23 rfl) ?_
         intro a810 ha810; clear ha804 a804
         refine dr_one (i := 9) (by kernel_rfl) ?_
         refine po_effS ha810 rfl rfl rfl (op_store' (off := 1) ha810 rfl ti23 rfl rfl hf198 ho801.cells1 rfl (by intro u hu; have hu : u ∈ ([v799] : List Value) := hu; simp only [List.mem_cons, List.mem_nil_iff, or_false] at hu; rcases hu with rfl <;> first | rfl | exact ho801.one) (Nat.le_of_ble_eq_true rfl)) ?_
         rintro w811 ⟨hb813, hst812, hz814⟩
         have hx815 := hx805.stp hst812 (by intro q hq; cases hq; exact (by omega))
         have hzhx815 := hst812.size
         replace hf193 := hf193.stp hst812 (by intro q hq; cases hq; omega)
         replace hf194 := hf194.stp hst812 (by intro q hq; cases hq; omega)
         replace hf195 := hf195.stp hst812 (by intro q hq; cases hq; omega)
         replace hf199 := hf199.stp hst812 (by intro q hq; cases hq; omega)
         replace hf200 := hf200.stp hst812 (by intro q hq; cases hq; omega)
         replace hf201 := hf201.stp hst812 (by intro q hq; cases hq; omega)
         replace hf202 := hf202.stp hst812 (by intro q hq; cases hq; omega)
         replace ho601 := ho601.stp hst812 (by intro q hq; cases hq; omega)
         replace ho791 := ho791.stp hst812 (by intro q hq; cases hq; omega)
         replace ho801 : Own shRowN 41 w17.heap.size w17.heap.size w800.heap.size w811 v799 ((zs ++ [(((List.replicate ((((q30).1)).length) (0 : Int)) : List Int), (v599 : Value))])) := by first | exact ho801.stp hst812 (by intro q hq; cases hq; omega) | exact ho801.stpF flat_shRowN hst812 (by intro q hq; cases hq; exact ho801.ne_box (by assumption) rfl)
         replace hN808 : Nst shI64 2 (fun x : List Int => x) w17.heap.size w800.heap.size w811 ((zs ++ [(((List.replicate ((((q30).1)).length) (0 : Int)) : List Int), (v599 : Value))])) := by first | exact hN808.stp hst812 (by intro q hq; cases hq; omega) | exact hN808.stpB flat_shI64 hst812 (by assumption) rfl
         clear hf198
         have hs816 := hs809.trans' (Stp.toL hst812 (by intro q hq; cases hq; exact Or.inr (rfl)))
         refine ⟨hs816, ?_⟩
         refine dr_end (by kernel_rfl) ?_
         refine then_n ?_
         clear ho601 ho791
         refine dr_enter (fun wa_ wb_ => StpL wa_ wb_ (fun i => Value.ownBlock v2 = some i ∨ i = w65.heap.size)) follows_mixed ?_
         intro w817 he818
         have hx819 := hx815.trans' he818
         have hzhx819 := he818.size
         replace hf193 := hf193.ext he818
         replace hf194 := hf194.ext he818
         replace hf195 := hf195.ext he818
         replace hf199 := hf199.ext he818
         replace hf200 := hf200.ext he818
         replace hf201 := hf201.ext he818
         replace hf202 := hf202.ext he818
         replace ho801 := ho801.ext he818
         replace hN808 := hN808.ext he818
         replace hb813 := hb813.ext he818
         have hs820 : Ext w817 w817 := Ext.rfl' _
         refine dr_val (i := 0) ha810 rfl (by kernel_rfl) (by kernel_rfl) (by kernel_rfl) rfl rfl rfl (StpL.of_ext hs820) (fun w' hw' => op_fieldAddr (sz := 0) ha810 rfl Try.underlying28 rfl rfl ti23 rfl) ?_
         intro a821 ha821; clear ha810 a810
         refine dr_val (i := 2) ha821 rfl (by kernel_rfl) (by kernel_rfl) (by kernel_rfl) rfl rfl rfl (StpL.of_ext hs820) (fun w' hw' => op_fieldAddr (sz := 0) ha821 rfl Try.underlying28 rfl rfl ti22 rfl) ?_
         intro a822 ha822; clear ha821 a821
         refine dr_two (i := 1) (j := 3) (by kernel_rfl) ?_ ?_
         ·
          refine po_to ha822 rfl rfl rfl rfl (op_loadF (off := 1) ha822 rfl Try.underlying23 rfl rfl (hf202.ext hs820).cells rfl) ?_
          intro a823 ha823; clear ha822 a822
          refine ⟨(StpL.of_ext hs820), ?_⟩
          refine dr_one (i := 3) (by kernel_rfl) ?_
          refine po_to ha823 rfl rfl rfl rfl (op_loadF (off := 0) ha823 rfl Try.underlying22 rfl rfl (hf202.ext hs820).cells rfl) ?_
          intro a824 ha824; clear ha823 a823
          refine ⟨(StpL.of_ext hs820), ?_⟩
          refine dr_val (i := 4) ha824 rfl (by kernel_rfl) (by kernel_rfl) (by kernel_rfl) rfl rfl rfl (StpL.of_ext hs820) (fun w' hw' => op_len_sl ha824 rfl Try.underlying22 rfl (hf199.rds pos_shStr)) ?_
          intro a825 ha825; clear ha824 a824
          refine dr_one (i := 5) (by kernel_rfl) ?_
          refine po_eff ha825 rfl rfl rfl rfl (op_make (s := shI64) (n := (((q68).1)).length) (k' := .i64) ha825 rfl Try.underlying41 ti2 pos_shI64 rfl (by omega) zero_shI64 (by omega) (by omega)) ?_
          rintro v826 w827 ⟨ho828, he829⟩ a830 ha830; clear ha825 a825
          have hs831 := hs820.trans' he829
          have hx832 := hx819.trans' he829
          have hzhx832 := he829.size
          refine ⟨(StpL.of_ext hs831), ?_⟩
          refine dr_one (i := 6) (by kernel_rfl) ?_
          refine po_eff ha830 rfl rfl rfl rfl (op_buildSlice (s := shRowN) (xs := [(((List.replicate ((((q68).1)).length) (0 : Int)) : List Int), (v826 : Value))]) (cs := [v826]) (vs := [(0, v826)]) (S := fun _ => False) (le := w827.heap.size) ha830 rfl pos_shRowN Try.underlying23 ti41 rfl rfl (by decide) ((fill_one (off := 0) ho828.cells1 (by kernel_rfl) (by kernel_rfl)).trans (by kernel_rfl)) (Els.single (mk_shRowN ((((List.replicate ((((q68).1)).length) (0 : Int)) : List Int), (v826 : Value))) ho828.one)) (fun _ h => h.elim)) ?_
          rintro v833 w834 ⟨ho835, he836, hob837⟩ a838 ha838; clear ha830 a830
          have hs839 := hs831.trans' he836
          have hx840 := hx832.trans' he836
          have hzhx840 := he836.size
          replace ho828 := ho828.ext he836
          refine ⟨(StpL.of_ext hs839), ?_⟩
          have hN841 : Nst shI64 2 (fun x : List Int => x) w817.heap.size w834.heap.size w834 ([(((List.replicate ((((q68).1)).length) (0 : Int)) : List Int), (v826 : Value))]) := Nst.one (ho828.fin (by omega) (by omega) (by omega))
          refine dr_one (i := 7) (by kernel_rfl) ?_
          replace hf193 := hf193.ext hs839
          replace hf194 := hf194.ext hs839
          replace hf195 := hf195.ext hs839
          replace hf199 := hf199.ext hs839
          replace hf200 := hf200.ext hs839
          replace hf201 := hf201.ext hs839
          replace hf202 := hf202.ext hs839
          replace ho801 := ho801.ext hs839
          replace hN808 := hN808.ext hs839
          replace hb813 := hb813.ext hs839
          refine po_eff ha838 rfl rfl rfl rfl (op_append (ts := #[]) (s := shRowN) ha838 rfl Try.underlying23 ti41 rfl pos_shRowN rfl rfl hf200 (ho835.rds pos_shRowN) (by omega) (by omega) (by first | omega | (simp; omega) | (simp only [List.length_take]; omega)) (by first | omega | (simp; omega) | (simp only [List.length_take]; omega)) (.inl flat_shRowN)) ?_
          rintro v842 w843 ⟨ho844, hst845, hob846⟩ a847 ha847; clear ha838 a838
          have hx848 := hx840.stp hst845 (by intro q hq; have hq0 := hf200.lt q hq; omega)
          have hzhx848 := hst845.size
          replace hf193 := hf193.stp hst845 (by intro q hq; have hq0 := hf200.lt q hq; omega)
          replace hf194 := hf194.stp hst845 (by intro q hq; have hq0 := hf200.lt q hq; omega)
          replace hf195 := hf195.stp hst845 (by intro q hq; have hq0 := hf200.lt q hq; omega)
          replace hf199 : Own shStr 9 w58.heap.size w58.heap.size w65.heap.size w843 u74 (((q68).1)) := by first | exact hf199.stp hst845 (by intro q hq; have hq0 := hf200.lt q hq; omega) | exact hf199.stpF flat_shStr hst845 (hf199.ne hf200 rfl)
          replace hf201 : Nst shI64 2 (fun x : List Int => x) w58.heap.size w191.heap.size w843 ys := by first | exact hf201.stpF flat_shI64 hst845 hf200 rfl | exact hf201.stp hst845 (by intro q hq; have hq0 := hf200.lt q hq; omega)
          replace hf202 : Box w843 w65.heap.size 28 [u74, v2] := by first | exact hf202.stp hst845 (by intro q hq; have hq0 := hf200.lt q hq; omega) | exact hf202.stp hst845 (by intro q hq e; subst e; exact hf200.ne_box hf202 rfl hq)
          replace ho801 : Own shRowN 41 w17.heap.size w17.heap.size w800.heap.size w843 v799 ((zs ++ [(((List.replicate ((((q30).1)).length) (0 : Int)) : List Int), (v599 : Value))])) := by first | exact ho801.stp hst845 (by intro q hq; have hq0 := hf200.lt q hq; omega) | exact ho801.stpF flat_shRowN hst845 (fun q hq => (fun q hq e => hsp806 q e hq) q hq)
          replace hN808 : Nst shI64 2 (fun x : List Int => x) w17.heap.size w800.heap.size w843 ((zs ++ [(((List.replicate ((((q30).1)).length) (0 : Int)) : List Int), (v599 : Value))])) := by first | exact hN808.stpF flat_shI64 hst845 hf200 rfl | exact hN808.stp hst845 (by intro q hq; have hq0 := hf200.lt q hq; omega)
          replace hb813 := hb813.stp hst845 (by intro q hq; have hq0 := hf200.lt q hq; omega)
          replace ho828 := ho828.stp hst845 (by intro q hq; have hq0 := hf200.lt q hq; omega)
          replace ho835 := ho835.stp hst845 (by intro q hq; have hq0 := hf200.lt q hq; omega)
          replace hN841 := hN841.stp hst845 (by intro q hq; have hq0 := hf200.lt q hq; omega)
          have hsp849 : ∀ q, Value.ownBlock v842 = some q → Value.ownBlock v799 ≠ some q := by intro q hq hb; have hq0 := ho801.lt q hb; rcases hob846 with h | h; (rw [h] at hq; first | (have hq1 := hf200.lt q hq; omega) | exact (fun q hq e => hsp806 q e hq) q hq hb); (rw [h] at hq; cases hq; omega)
          have hsp850 : ∀ q, Value.ownBlock v842 = some q → Value.ownBlock v833 ≠ some q := by intro q hq hb; have hq0 := ho835.lt q hb; rcases hob846 with h | h; (rw [h] at hq; first | (have hq1 := hf200.lt q hq; omega)); (rw [h] at hq; cases hq; omega)
          have hN851 : Nst shI64 2 (fun x : List Int => x) w58.heap.size w843.heap.size w843 ((ys ++ [(((List.replicate ((((q68).1)).length) (0 : Int)) : List Int), (v826 : Value))])) := (hf201.app hN841 (by omega) (by omega) (by omega)).fin (by omega) (by omega)
          have hs852 := (StpL.of_ext (B := fun i => Value.ownBlock v2 = some i ∨ i = w65.heap.size) hs839).trans' (Stp.toL hst845 (by intro q hq; exact Or.inl hq))
          refine ⟨hs852, ?_⟩
          refine dr_val (i := 8) ha847 rfl (by kernel_rfl) (by kernel_rfl) (by kernel_rfl) rfl rfl rfl hs852 (fun w' hw' => op_fieldAddr (sz := 0) ha847 rfl Try.underlying28 rfl rfl ti23 rfl) ?_
          intro a853 ha853; clear ha847 a847
          refine dr_one (i := 9) (by kernel_rfl) ?_
          refine po_effS ha853 rfl rfl rfl (op_store' (off := 1) ha853 rfl ti23 rfl rfl hf202 ho844.cells1 rfl (by intro u hu; have hu : u ∈ ([v842] : List Value) := hu; simp only [List.mem_cons, List.mem_nil_iff, or_false] at hu; rcases hu with rfl <;> first | rfl | exact ho844.one) (Nat.le_of_ble_eq_true rfl)) ?_
          rintro w854 ⟨hb856, hst855, hz857⟩
          have hx858 := hx848.stp hst855 (by intro q hq; cases hq; exact (by omega))
          have hzhx858 := hst855.size
          replace hf193 := hf193.stp hst855 (by intro q hq; cases hq; omega)
          replace hf194 := hf194.stp hst855 (by intro q hq; cases hq; omega)
          replace hf195 := hf195.stp hst855 (by intro q hq; cases hq; omega)
          replace hf199 := hf199.stp hst855 (by intro q hq; cases hq; omega)
          replace ho801 : Own shRowN 41 w17.heap.size w17.heap.size w800.heap.size w854 v799 ((zs ++ [(((List.replicate ((((q30).1)).length) (0 : Int)) : List Int), (v599 : Value))])) := by first | exact ho801.stp hst855 (by intro q hq; cases hq; omega) | exact ho801.stpF flat_shRowN hst855 (by intro q hq; cases hq; exact ho801.ne_box (by assumption) rfl)
          replace hN808 : Nst shI64 2 (fun x : List Int => x) w17.heap.size w800.heap.size w854 ((zs ++ [(((List.replicate ((((q30).1)).length) (0 : Int)) : List Int), (v599 : Value))])) := by first | exact hN808.stp hst855 (by intro q hq; cases hq; omega) | exact hN808.stpB flat_shI64 hst855 (by assumption) rfl
          replace hb813 := hb813.stp hst855 (by intro q hq; cases hq; omega)
          replace ho828 := ho828.stp hst855 (by intro q hq; cases hq; omega)
          replace ho835 := ho835.stp hst855 (by intro q hq; cases hq; omega)
          replace ho844 : Own shRowN 41 w58.heap.size w58.heap.size w843.heap.size w854 v842 ((ys ++ [(((List.replicate ((((q68).1)).length) (0 : Int)) : List Int), (v826 : Value))])) := by first | exact ho844.stp hst855 (by intro q hq; cases hq; omega) | exact ho844.stpF flat_shRowN hst855 (by intro q hq; cases hq; exact ho844.ne_box (by assumption) rfl)
          replace hN851 : Nst shI64 2 (fun x : List Int => x) w58.heap.size w843.heap.size w854 ((ys ++ [(((List.replicate ((((q68).1)).length) (0 : Int)) : List Int), (v826 : Value))])) := by first | exact hN851.stp hst855 (by intro q hq; cases hq; omega) | exact hN851.stpB flat_shI64 hst855 (by assumption) rfl
          clear hf202
          have hs859 := hs852.trans' (Stp.toL hst855 (by intro q hq; cases hq; exact Or.inr (rfl)))
          refine ⟨hs859, ?_⟩
          refine dr_end (by kernel_rfl) ?_
          refine block_n ?_
          refine then_n ?_
          clear ho828 ho835
          refine wp_region_lit ?_
          refine wl_val ha853 rfl rfl rfl (op_move ha853 rfl rfl) ?_
          intro a860 ha860; clear ha853 a853
          refine wl_val ha860 rfl rfl rfl ((op_add ha860 rfl rfl rfl).int (IntWalk.i64_in _ (by omega))) ?_
          intro a861 ha861; clear ha860 a860
          refine wl_val ha861 rfl rfl rfl (op_assign ha861 rfl rfl) ?_
          intro a862 ha862; clear ha861 a861
          refine wpList_nil ?_
          refine round_end (x := (i, v1, zs, v2, ys)) ((i + 1), v799, (zs ++ [(((List.replicate ((((q30).1)).length) (0 : Int)) : List Int), (v599 : Value))]), v842, (ys ++ [(((List.replicate ((((q68).1)).length) (0 : Int)) : List Int), (v826 : Value))])) ?_ ?_
          ·
           refine ⟨(Sl.cons_ ha862 rfl rfl (Sl.cons_ ha862 rfl rfl (Sl.cons_ ha862 rfl rfl (Sl.cons_ ha862 rfl rfl (Sl.cons_ ha862 rfl (int_eq (by omega)) (Sl.nil_ ha862)))))), hx858, hf193, hf194, hf195, hf199, (ho801.fin (by omega) (by omega) (by omega)), (hN808.fin (by omega) (by omega)), hb813, (ho844.fin (by omega) (by omega) (by omega)), (hN851.fin (by omega) (by omega)), hb856, (by omega), (by intro q hq; first | (intro hb; have hq0 := ho801.lt q hq; have hq1 := ho844.lt q hb; omega) | exact (fun q hq e => hsp849 q e hq) q hq), (by omega), (by first | omega | (simp; omega)), (by first | omega | (simp; omega))⟩
          ·show (6 - ((i + 1)) : Nat) < 6 - i; omega
         ·
          refine po_to ha822 rfl rfl rfl rfl (op_loadF (off := 0) ha822 rfl Try.underlying22 rfl rfl (hf202.ext hs820).cells rfl) ?_
          intro a863 ha863; clear ha822 a822
          refine ⟨(StpL.of_ext hs820), ?_⟩
          refine dr_val (i := 4) ha863 rfl (by kernel_rfl) (by kernel_rfl) (by kernel_rfl) rfl rfl rfl (StpL.of_ext hs820) (fun w' hw' => op_len_sl ha863 rfl Try.underlying22 rfl (hf199.rds pos_shStr)) ?_
          intro a864 ha864; clear ha863 a863
          refine dr_two (i := 1) (j := 5) (by kernel_rfl) ?_ ?_
          ·
           refine po_to ha864 rfl rfl rfl rfl (op_loadF (off := 1) ha864 rfl Try.underlying23 rfl rfl (hf202.ext hs820).cells rfl) ?_
           intro a865 ha865; clear ha864 a864
           refine ⟨(StpL.of_ext hs820), ?_⟩
           refine dr_one (i := 5) (by kernel_rfl) ?_
           refine po_eff ha865 rfl rfl rfl rfl (op_make (s := shI64) (n := (((q68).1)).length) (k' := .i64) ha865 rfl Try.underlying41 ti2 pos_shI64 rfl (by omega) zero_shI64 (by omega) (by omega)) ?_
           rintro v866 w867 ⟨ho868, he869⟩ a870 ha870; clear ha865 a865
           have hs871 := hs820.trans' he869
           have hx872 := hx819.trans' he869
           have hzhx872 := he869.size
           refine ⟨(StpL.of_ext hs871), ?_⟩
           refine dr_one (i := 6) (by kernel_rfl) ?_
           refine po_eff ha870 rfl rfl rfl rfl (op_buildSlice (s := shRowN) (xs := [(((List.replicate ((((q68).1)).length) (0 : Int)) : List Int), (v866 : Value))]) (cs := [v866]) (vs := [(0, v866)]) (S := fun _ => False) (le := w867.heap.size) ha870 rfl pos_shRowN Try.underlying23 ti41 rfl rfl (by decide) ((fill_one (off := 0) ho868.cells1 (by kernel_rfl) (by kernel_rfl)).trans (by kernel_rfl)) (Els.single (mk_shRowN ((((List.replicate ((((q68).1)).length) (0 : Int)) : List Int), (v866 : Value))) ho868.one)) (fun _ h => h.elim)) ?_
           rintro v873 w874 ⟨ho875, he876, hob877⟩ a878 ha878; clear ha870 a870
           have hs879 := hs871.trans' he876
           have hx880 := hx872.trans' he876
           have hzhx880 := he876.size
           replace ho868 := ho868.ext he876
           refine ⟨(StpL.of_ext hs879), ?_⟩
           have hN881 : Nst shI64 2 (fun x : List Int => x) w817.heap.size w874.heap.size w874 ([(((List.replicate ((((q68).1)).length) (0 : Int)) : List Int), (v866 : Value))]) := Nst.one (ho868.fin (by omega) (by omega) (by omega))
           refine dr_one (i := 7) (by kernel_rfl) ?_
           replace hf193 := hf193.ext hs879
           replace hf194 := hf194.ext hs879
           replace hf195 := hf195.ext hs879
           replace hf199 := hf199.ext hs879
           replace hf200 := hf200.ext hs879
           replace hf201 := hf201.ext hs879
           replace hf202 := hf202.ext hs879
           replace ho801 := ho801.ext hs879
           replace hN808 := hN808.ext hs879
           replace hb813 := hb813.ext hs879
           refine po_eff ha878 rfl rfl rfl rfl (op_append (ts := #[]) (s := shRowN) ha878 rfl Try.underlying23 ti41 rfl pos_shRowN rfl rfl hf200 (ho875.rds pos_shRowN) (by omega) (by omega) (by first | omega | (simp; omega) | (simp only [List.length_take]; omega)) (by first | omega | (simp; omega) | (simp only [List.length_take]; omega)) (.inl flat_shRowN)) ?_
           rintro v882 w883 ⟨ho884, hst885, hob886⟩ a887 ha887; clear ha878 a878
           have hx888 := hx880.stp hst885 (by intro q hq; have hq0 := hf200.lt q hq; omega)
           have hzhx888 := hst885.size
           replace hf193 := hf193.stp hst885 (by intro q hq; have hq0 := hf200.lt q hq; omega)
           replace hf194 := hf194.stp hst885 (by intro q hq; have hq0 := hf200.lt q hq; omega)
           replace hf195 := hf195.stp hst885 (by intro q hq; have hq0 := hf200.lt q hq; omega)
           replace hf199 : Own shStr 9 w58.heap.size w58.heap.size w65.heap.size w883 u74 (((q68).1)) := by first | exact hf199.stp hst885 (by intro q hq; have hq0 := hf200.lt q hq; omega) | exact hf199.stpF flat_shStr hst885 (hf199.ne hf200 rfl)
           replace hf201 : Nst shI64 2 (fun x : List Int => x) w58.heap.size w191.heap.size w883 ys := by first | exact hf201.stpF flat_shI64 hst885 hf200 rfl | exact hf201.stp hst885 (by intro q hq; have hq0 := hf200.lt q hq; omega)
           replace hf202 : Box w883 w65.heap.size 28 [u74, v2] := by first | exact hf202.stp hst885 (by intro q hq; have hq0 := hf200.lt q hq; omega) | exact hf202.stp hst885 (by intro q hq e; subst e; exact hf200.ne_box hf202 rfl hq)
           replace ho801 : Own shRowN 41 w17.heap.size w17.heap.size w800.heap.size w883 v799 ((zs ++ [(((List.replicate ((((q30).1)).length) (0 : Int)) : List Int), (v599 : Value))])) := by first | exact ho801.stp hst885 (by intro q hq; have hq0 := hf200.lt q hq; omega) | exact ho801.stpF flat_shRowN hst885 (fun q hq => (fun q hq e => hsp806 q e hq) q hq)
           replace hN808 : Nst shI64 2 (fun x : List Int => x) w17.heap.size w800.heap.size w883 ((zs ++ [(((List.replicate ((((q30).1)).length) (0 : Int)) : List Int), (v599 : Value))])) := by first | exact hN808.stpF flat_shI64 hst885 hf200 rfl | exact hN808.stp hst885 (by intro q hq; have hq0 := hf200.lt q hq; omega)
           replace hb813 := hb813.stp hst885 (by intro q hq; have hq0 := hf200.lt q hq; omega)
           replace ho868 := ho868.stp hst885 (by intro q hq; have hq0 := hf200.lt q hq; omega)
           replace ho875 := ho875.stp hst885 (by intro q hq; have hq0 := hf200.lt q hq; omega)
           replace hN881 := hN881.stp hst885 (by intro q hq; have hq0 := hf200.lt q hq; omega)
           have hsp889 : ∀ q, Value.ownBlock v882 = some q → Value.ownBlock v799 ≠ some q := by intro q hq hb; have hq0 := ho801.lt q hb; rcases hob886 with h | h; (rw [h] at hq; first | (have hq1 := hf200.lt q hq; omega) | exact (fun q hq e => hsp806 q e hq) q hq hb); (rw [h] at hq; cases hq; omega)
           have hsp890 : ∀ q, Value.ownBlock v882 = some q → Value.ownBlock v873 ≠ some q := by intro q hq hb; have hq0 := ho875.lt q hb; rcases hob886 with h | h; (rw [h] at hq; first | (have hq1 := hf200.lt q hq; omega)); (rw [h] at hq; cases hq; omega)
           have hN891 : Nst shI64 2 (fun x : List Int => x) w58.heap.size w883.heap.size w883 ((ys ++ [(((List.replicate ((((q68).1)).length) (0 : Int)) : List Int), (v866 : Value))])) := (hf201.app hN881 (by omega) (by omega) (by omega)).fin (by omega) (by omega)
           have hs892 := (StpL.of_ext (B := fun i => Value.ownBlock v2 = some i ∨ i = w65.heap.size) hs879).trans' (Stp.toL hst885 (by intro q hq; exact Or.inl hq))
           refine ⟨hs892, ?_⟩
           refine dr_val (i := 8) ha887 rfl (by kernel_rfl) (by kernel_rfl) (by kernel_rfl) rfl rfl rfl hs892 (fun w' hw' => op_fieldAddr (sz := 0) ha887 rfl Try.underlying28 rfl rfl ti23 rfl) ?_
           intro a893 ha893; clear ha887 a887
           refine dr_one (i := 9) (by kernel_rfl) ?_
           refine po_effS ha893 rfl rfl rfl (op_store' (off := 1) ha893 rfl ti23 rfl rfl hf202 ho884.cells1 rfl (by intro u hu; have hu : u ∈ ([v882] : List Value) := hu; simp only [List.mem_cons, List.mem_nil_iff, or_false] at hu; rcases hu with rfl <;> first | rfl | exact ho884.one) (Nat.le_of_ble_eq_true rfl)) ?_
           rintro w894 ⟨hb896, hst895, hz897⟩
           have hx898 := hx888.stp hst895 (by intro q hq; cases hq; exact (by omega))
           have hzhx898 := hst895.size
           replace hf193 := hf193.stp hst895 (by intro q hq; cases hq; omega)
           replace hf194 := hf194.stp hst895 (by intro q hq; cases hq; omega)
           replace hf195 := hf195.stp hst895 (by intro q hq; cases hq; omega)
           replace hf199 := hf199.stp hst895 (by intro q hq; cases hq; omega)
           replace ho801 : Own shRowN 41 w17.heap.size w17.heap.size w800.heap.size w894 v799 ((zs ++ [(((List.replicate ((((q30).1)).length) (0 : Int)) : List Int), (v599 : Value))])) := by first | exact ho801.stp hst895 (by intro q hq; cases hq; omega) | exact ho801.stpF flat_shRowN hst895 (by intro q hq; cases hq; exact ho801.ne_box (by assumption) rfl)
           replace hN808 : Nst shI64 2 (fun x : List Int => x) w17.heap.size w800.heap.size w894 ((zs ++ [(((List.replicate ((((q30).1)).length) (0 : Int)) : List Int), (v599 : Value))])) := by first | exact hN808.stp hst895 (by intro q hq; cases hq; omega) | exact hN808.stpB flat_shI64 hst895 (by assumption) rfl
           replace hb813 := hb813.stp hst895 (by intro q hq; cases hq; omega)
           replace ho868 := ho868.stp hst895 (by intro q hq; cases hq; omega)
           replace ho875 := ho875.stp hst895 (by intro q hq; cases hq; omega)
           replace ho884 : Own shRowN 41 w58.heap.size w58.heap.size w883.heap.size w894 v882 ((ys ++ [(((List.replicate ((((q68).1)).length) (0 : Int)) : List Int), (v866 : Value))])) := by first | exact ho884.stp hst895 (by intro q hq; cases hq; omega) | exact ho884.stpF flat_shRowN hst895 (by intro q hq; cases hq; exact ho884.ne_box (by assumption) rfl)
           replace hN891 : Nst shI64 2 (fun x : List Int => x) w58.heap.size w883.heap.size w894 ((ys ++ [(((List.replicate ((((q68).1)).length) (0 : Int)) : List Int), (v866 : Value))])) := by first | exact hN891.stp hst895 (by intro q hq; cases hq; omega) | exact hN891.stpB flat_shI64 hst895 (by assumption) rfl
           clear hf202
           have hs899 := hs892.trans' (Stp.toL hst895 (by intro q hq; cases hq; exact Or.inr (rfl)))
           refine ⟨hs899, ?_⟩
           refine dr_end (by kernel_rfl) ?_
           refine block_n ?_
           refine then_n ?_
           clear ho868 ho875
           refine wp_region_lit ?_
           refine wl_val ha893 rfl rfl rfl (op_move ha893 rfl rfl) ?_
           intro a900 ha900; clear ha893 a893
           refine wl_val ha900 rfl rfl rfl ((op_add ha900 rfl rfl rfl).int (IntWalk.i64_in _ (by omega))) ?_
           intro a901 ha901; clear ha900 a900
           refine wl_val ha901 rfl rfl rfl (op_assign ha901 rfl rfl) ?_
           intro a902 ha902; clear ha901 a901
           refine wpList_nil ?_
           refine round_end (x := (i, v1, zs, v2, ys)) ((i + 1), v799, (zs ++ [(((List.replicate ((((q30).1)).length) (0 : Int)) : List Int), (v599 : Value))]), v882, (ys ++ [(((List.replicate ((((q68).1)).length) (0 : Int)) : List Int), (v866 : Value))])) ?_ ?_
           ·
            refine ⟨(Sl.cons_ ha902 rfl rfl (Sl.cons_ ha902 rfl rfl (Sl.cons_ ha902 rfl rfl (Sl.cons_ ha902 rfl rfl (Sl.cons_ ha902 rfl (int_eq (by omega)) (Sl.nil_ ha902)))))), hx898, hf193, hf194, hf195, hf199, (ho801.fin (by omega) (by omega) (by omega)), (hN808.fin (by omega) (by omega)), hb813, (ho884.fin (by omega) (by omega) (by omega)), (hN891.fin (by omega) (by omega)), hb896, (by omega), (by intro q hq; first | (intro hb; have hq0 := ho801.lt q hq; have hq1 := ho884.lt q hb; omega) | exact (fun q hq e => hsp889 q e hq) q hq), (by omega), (by first | omega | (simp; omega)), (by first | omega | (simp; omega))⟩
           ·show (6 - ((i + 1)) : Nat) < 6 - i; omega
          ·
           refine po_eff ha864 rfl rfl rfl rfl (op_make (s := shI64) (n := (((q68).1)).length) (k' := .i64) ha864 rfl Try.underlying41 ti2 pos_shI64 rfl (by omega) zero_shI64 (by omega) (by omega)) ?_
           rintro v903 w904 ⟨ho905, he906⟩ a907 ha907; clear ha864 a864
           have hs908 := hs820.trans' he906
           have hx909 := hx819.trans' he906
           have hzhx909 := he906.size
           refine ⟨(StpL.of_ext hs908), ?_⟩
           refine dr_two (i := 1) (j := 6) (by kernel_rfl) ?_ ?_
           ·
            refine po_to ha907 rfl rfl rfl rfl (op_loadF (off := 1) ha907 rfl Try.underlying23 rfl rfl (hf202.ext hs908).cells rfl) ?_
            intro a910 ha910; clear ha907 a907
            refine ⟨(StpL.of_ext hs908), ?_⟩
            refine dr_one (i := 6) (by kernel_rfl) ?_
            refine po_eff ha910 rfl rfl rfl rfl (op_buildSlice (s := shRowN) (xs := [(((List.replicate ((((q68).1)).length) (0 : Int)) : List Int), (v903 : Value))]) (cs := [v903]) (vs := [(0, v903)]) (S := fun _ => False) (le := w904.heap.size) ha910 rfl pos_shRowN Try.underlying23 ti41 rfl rfl (by decide) ((fill_one (off := 0) ho905.cells1 (by kernel_rfl) (by kernel_rfl)).trans (by kernel_rfl)) (Els.single (mk_shRowN ((((List.replicate ((((q68).1)).length) (0 : Int)) : List Int), (v903 : Value))) ho905.one)) (fun _ h => h.elim)) ?_
            rintro v911 w912 ⟨ho913, he914, hob915⟩ a916 ha916; clear ha910 a910
            have hs917 := hs908.trans' he914
            have hx918 := hx909.trans' he914
            have hzhx918 := he914.size
            replace ho905 := ho905.ext he914
            refine ⟨(StpL.of_ext hs917), ?_⟩
            have hN919 : Nst shI64 2 (fun x : List Int => x) w817.heap.size w912.heap.size w912 ([(((List.replicate ((((q68).1)).length) (0 : Int)) : List Int), (v903 : Value))]) := Nst.one (ho905.fin (by omega) (by omega) (by omega))
            refine dr_one (i := 7) (by kernel_rfl) ?_
            replace hf193 := hf193.ext hs917
            replace hf194 := hf194.ext hs917
            replace hf195 := hf195.ext hs917
            replace hf199 := hf199.ext hs917
            replace hf200 := hf200.ext hs917
            replace hf201 := hf201.ext hs917
            replace hf202 := hf202.ext hs917
            replace ho801 := ho801.ext hs917
            replace hN808 := hN808.ext hs917
            replace hb813 := hb813.ext hs917
            refine po_eff ha916 rfl rfl rfl rfl (op_append (ts := #[]) (s := shRowN) ha916 rfl Try.underlying23 ti41 rfl pos_shRowN rfl rfl hf200 (ho913.rds pos_shRowN) (by omega) (by omega) (by first | omega | (simp; omega) | (simp only [List.length_take]; omega)) (by first | omega | (simp; omega) | (simp only [List.length_take]; omega)) (.inl flat_shRowN)) ?_
            rintro v920 w921 ⟨ho922, hst923, hob924⟩ a925 ha925; clear ha916 a916
            have hx926 := hx918.stp hst923 (by intro q hq; have hq0 := hf200.lt q hq; omega)
            have hzhx926 := hst923.size
            replace hf193 := hf193.stp hst923 (by intro q hq; have hq0 := hf200.lt q hq; omega)
            replace hf194 := hf194.stp hst923 (by intro q hq; have hq0 := hf200.lt q hq; omega)
            replace hf195 := hf195.stp hst923 (by intro q hq; have hq0 := hf200.lt q hq; omega)
            replace hf199 : Own shStr 9 w58.heap.size w58.heap.size w65.heap.size w921 u74 (((q68).1)) := by first | exact hf199.stp hst923 (by intro q hq; have hq0 := hf200.lt q hq; omega) | exact hf199.stpF flat_shStr hst923 (hf199.ne hf200 rfl)
            replace hf201 : Nst shI64 2 (fun x : List Int => x) w58.heap.size w191.heap.size w921 ys := by first | exact hf201.stpF flat_shI64 hst923 hf200 rfl | exact hf201.stp hst923 (by intro q hq; have hq0 := hf200.lt q hq; omega)
            replace hf202 : Box w921 w65.heap.size 28 [u74, v2] := by first | exact hf202.stp hst923 (by intro q hq; have hq0 := hf200.lt q hq; omega) | exact hf202.stp hst923 (by intro q hq e; subst e; exact hf200.ne_box hf202 rfl hq)
            replace ho801 : Own shRowN 41 w17.heap.size w17.heap.size w800.heap.size w921 v799 ((zs ++ [(((List.replicate ((((q30).1)).length) (0 : Int)) : List Int), (v599 : Value))])) := by first | exact ho801.stp hst923 (by intro q hq; have hq0 := hf200.lt q hq; omega) | exact ho801.stpF flat_shRowN hst923 (fun q hq => (fun q hq e => hsp806 q e hq) q hq)
            replace hN808 : Nst shI64 2 (fun x : List Int => x) w17.heap.size w800.heap.size w921 ((zs ++ [(((List.replicate ((((q30).1)).length) (0 : Int)) : List Int), (v599 : Value))])) := by first | exact hN808.stpF flat_shI64 hst923 hf200 rfl | exact hN808.stp hst923 (by intro q hq; have hq0 := hf200.lt q hq; omega)
            replace hb813 := hb813.stp hst923 (by intro q hq; have hq0 := hf200.lt q hq; omega)
            replace ho905 := ho905.stp hst923 (by intro q hq; have hq0 := hf200.lt q hq; omega)
            replace ho913 := ho913.stp hst923 (by intro q hq; have hq0 := hf200.lt q hq; omega)
            replace hN919 := hN919.stp hst923 (by intro q hq; have hq0 := hf200.lt q hq; omega)
            have hsp927 : ∀ q, Value.ownBlock v920 = some q → Value.ownBlock v799 ≠ some q := by intro q hq hb; have hq0 := ho801.lt q hb; rcases hob924 with h | h; (rw [h] at hq; first | (have hq1 := hf200.lt q hq; omega) | exact (fun q hq e => hsp806 q e hq) q hq hb); (rw [h] at hq; cases hq; omega)
            have hsp928 : ∀ q, Value.ownBlock v920 = some q → Value.ownBlock v911 ≠ some q := by intro q hq hb; have hq0 := ho913.lt q hb; rcases hob924 with h | h; (rw [h] at hq; first | (have hq1 := hf200.lt q hq; omega)); (rw [h] at hq; cases hq; omega)
            have hN929 : Nst shI64 2 (fun x : List Int => x) w58.heap.size w921.heap.size w921 ((ys ++ [(((List.replicate ((((q68).1)).length) (0 : Int)) : List Int), (v903 : Value))])) := (hf201.app hN919 (by omega) (by omega) (by omega)).fin (by omega) (by omega)
            have hs930 := (StpL.of_ext (B := fun i => Value.ownBlock v2 = some i ∨ i = w65.heap.size) hs917).trans' (Stp.toL hst923 (by intro q hq; exact Or.inl hq))
            refine ⟨hs930, ?_⟩
            refine dr_val (i := 8) ha925 rfl (by kernel_rfl) (by kernel_rfl) (by kernel_rfl) rfl rfl rfl hs930 (fun w' hw' => op_fieldAddr (sz := 0) ha925 rfl Try.underlying28 rfl rfl ti23 rfl) ?_
            intro a931 ha931; clear ha925 a925
            refine dr_one (i := 9) (by kernel_rfl) ?_
            refine po_effS ha931 rfl rfl rfl (op_store' (off := 1) ha931 rfl ti23 rfl rfl hf202 ho922.cells1 rfl (by intro u hu; have hu : u ∈ ([v920] : List Value) := hu; simp only [List.mem_cons, List.mem_nil_iff, or_false] at hu; rcases hu with rfl <;> first | rfl | exact ho922.one) (Nat.le_of_ble_eq_true rfl)) ?_
            rintro w932 ⟨hb934, hst933, hz935⟩
            have hx936 := hx926.stp hst933 (by intro q hq; cases hq; exact (by omega))
            have hzhx936 := hst933.size
            replace hf193 := hf193.stp hst933 (by intro q hq; cases hq; omega)
            replace hf194 := hf194.stp hst933 (by intro q hq; cases hq; omega)
            replace hf195 := hf195.stp hst933 (by intro q hq; cases hq; omega)
            replace hf199 := hf199.stp hst933 (by intro q hq; cases hq; omega)
            replace ho801 : Own shRowN 41 w17.heap.size w17.heap.size w800.heap.size w932 v799 ((zs ++ [(((List.replicate ((((q30).1)).length) (0 : Int)) : List Int), (v599 : Value))])) := by first | exact ho801.stp hst933 (by intro q hq; cases hq; omega) | exact ho801.stpF flat_shRowN hst933 (by intro q hq; cases hq; exact ho801.ne_box (by assumption) rfl)
            replace hN808 : Nst shI64 2 (fun x : List Int => x) w17.heap.size w800.heap.size w932 ((zs ++ [(((List.replicate ((((q30).1)).length) (0 : Int)) : List Int), (v599 : Value))])) := by first | exact hN808.stp hst933 (by intro q hq; cases hq; omega) | exact hN808.stpB flat_shI64 hst933 (by assumption) rfl
            replace hb813 := hb813.stp hst933 (by intro q hq; cases hq; omega)
            replace ho905 := ho905.stp hst933 (by intro q hq; cases hq; omega)
            replace ho913 := ho913.stp hst933 (by intro q hq; cases hq; omega)
            replace ho922 : Own shRowN 41 w58.heap.size w58.heap.size w921.heap.size w932 v920 ((ys ++ [(((List.replicate ((((q68).1)).length) (0 : Int)) : List Int), (v903 : Value))])) := by first | exact ho922.stp hst933 (by intro q hq; cases hq; omega) | exact ho922.stpF flat_shRowN hst933 (by intro q hq; cases hq; exact ho922.ne_box (by assumption) rfl)
            replace hN929 : Nst shI64 2 (fun x : List Int => x) w58.heap.size w921.heap.size w932 ((ys ++ [(((List.replicate ((((q68).1)).length) (0 : Int)) : List Int), (v903 : Value))])) := by first | exact hN929.stp hst933 (by intro q hq; cases hq; omega) | exact hN929.stpB flat_shI64 hst933 (by assumption) rfl
            clear hf202
            have hs937 := hs930.trans' (Stp.toL hst933 (by intro q hq; cases hq; exact Or.inr (rfl)))
            refine ⟨hs937, ?_⟩
            refine dr_end (by kernel_rfl) ?_
            refine block_n ?_
            refine then_n ?_
            clear ho905 ho913
            refine wp_region_lit ?_
            refine wl_val ha931 rfl rfl rfl (op_move ha931 rfl rfl) ?_
            intro a938 ha938; clear ha931 a931
            refine wl_val ha938 rfl rfl rfl ((op_add ha938 rfl rfl rfl).int (IntWalk.i64_in _ (by omega))) ?_
            intro a939 ha939; clear ha938 a938
            refine wl_val ha939 rfl rfl rfl (op_assign ha939 rfl rfl) ?_
            intro a940 ha940; clear ha939 a939
            refine wpList_nil ?_
            refine round_end (x := (i, v1, zs, v2, ys)) ((i + 1), v799, (zs ++ [(((List.replicate ((((q30).1)).length) (0 : Int)) : List Int), (v599 : Value))]), v920, (ys ++ [(((List.replicate ((((q68).1)).length) (0 : Int)) : List Int), (v903 : Value))])) ?_ ?_
            ·
             refine ⟨(Sl.cons_ ha940 rfl rfl (Sl.cons_ ha940 rfl rfl (Sl.cons_ ha940 rfl rfl (Sl.cons_ ha940 rfl rfl (Sl.cons_ ha940 rfl (int_eq (by omega)) (Sl.nil_ ha940)))))), hx936, hf193, hf194, hf195, hf199, (ho801.fin (by omega) (by omega) (by omega)), (hN808.fin (by omega) (by omega)), hb813, (ho922.fin (by omega) (by omega) (by omega)), (hN929.fin (by omega) (by omega)), hb934, (by omega), (by intro q hq; first | (intro hb; have hq0 := ho801.lt q hq; have hq1 := ho922.lt q hb; omega) | exact (fun q hq e => hsp927 q e hq) q hq), (by omega), (by first | omega | (simp; omega)), (by first | omega | (simp; omega))⟩
            ·show (6 - ((i + 1)) : Nat) < 6 - i; omega
           ·
            refine po_eff ha907 rfl rfl rfl rfl (op_buildSlice (s := shRowN) (xs := [(((List.replicate ((((q68).1)).length) (0 : Int)) : List Int), (v903 : Value))]) (cs := [v903]) (vs := [(0, v903)]) (S := fun _ => False) (le := w904.heap.size) ha907 rfl pos_shRowN Try.underlying23 ti41 rfl rfl (by decide) ((fill_one (off := 0) ho905.cells1 (by kernel_rfl) (by kernel_rfl)).trans (by kernel_rfl)) (Els.single (mk_shRowN ((((List.replicate ((((q68).1)).length) (0 : Int)) : List Int), (v903 : Value))) ho905.one)) (fun _ h => h.elim)) ?_
            rintro v941 w942 ⟨ho943, he944, hob945⟩ a946 ha946; clear ha907 a907
            have hs947 := hs908.trans' he944
            have hx948 := hx909.trans' he944
            have hzhx948 := he944.size
            replace ho905 := ho905.ext he944
            refine ⟨(StpL.of_ext hs947), ?_⟩
            have hN949 : Nst shI64 2 (fun x : List Int => x) w817.heap.size w942.heap.size w942 ([(((List.replicate ((((q68).1)).length) (0 : Int)) : List Int), (v903 : Value))]) := Nst.one (ho905.fin (by omega) (by omega) (by omega))
            refine dr_one (i := 1) (by kernel_rfl) ?_
            refine po_to ha946 rfl rfl rfl rfl (op_loadF (off := 1) ha946 rfl Try.underlying23 rfl rfl (hf202.ext hs947).cells rfl) ?_
            intro a950 ha950; clear ha946 a946
            refine ⟨(StpL.of_ext hs947), ?_⟩
            refine dr_one (i := 7) (by kernel_rfl) ?_
            replace hf193 := hf193.ext hs947
            replace hf194 := hf194.ext hs947
            replace hf195 := hf195.ext hs947
            replace hf199 := hf199.ext hs947
            replace hf200 := hf200.ext hs947
            replace hf201 := hf201.ext hs947
            replace hf202 := hf202.ext hs947
            replace ho801 := ho801.ext hs947
            replace hN808 := hN808.ext hs947
            replace hb813 := hb813.ext hs947
            refine po_eff ha950 rfl rfl rfl rfl (op_append (ts := #[]) (s := shRowN) ha950 rfl Try.underlying23 ti41 rfl pos_shRowN rfl rfl hf200 (ho943.rds pos_shRowN) (by omega) (by omega) (by first | omega | (simp; omega) | (simp only [List.length_take]; omega)) (by first | omega | (simp; omega) | (simp only [List.length_take]; omega)) (.inl flat_shRowN)) ?_
            rintro v951 w952 ⟨ho953, hst954, hob955⟩ a956 ha956; clear ha950 a950
            have hx957 := hx948.stp hst954 (by intro q hq; have hq0 := hf200.lt q hq; omega)
            have hzhx957 := hst954.size
            replace hf193 := hf193.stp hst954 (by intro q hq; have hq0 := hf200.lt q hq; omega)
            replace hf194 := hf194.stp hst954 (by intro q hq; have hq0 := hf200.lt q hq; omega)
            replace hf195 := hf195.stp hst954 (by intro q hq; have hq0 := hf200.lt q hq; omega)
            replace hf199 : Own shStr 9 w58.heap.size w58.heap.size w65.heap.size w952 u74 (((q68).1)) := by first | exact hf199.stp hst954 (by intro q hq; have hq0 := hf200.lt q hq; omega) | exact hf199.stpF flat_shStr hst954 (hf199.ne hf200 rfl)
            replace hf201 : Nst shI64 2 (fun x : List Int => x) w58.heap.size w191.heap.size w952 ys := by first | exact hf201.stpF flat_shI64 hst954 hf200 rfl | exact hf201.stp hst954 (by intro q hq; have hq0 := hf200.lt q hq; omega)
            replace hf202 : Box w952 w65.heap.size 28 [u74, v2] := by first | exact hf202.stp hst954 (by intro q hq; have hq0 := hf200.lt q hq; omega) | exact hf202.stp hst954 (by intro q hq e; subst e; exact hf200.ne_box hf202 rfl hq)
            replace ho801 : Own shRowN 41 w17.heap.size w17.heap.size w800.heap.size w952 v799 ((zs ++ [(((List.replicate ((((q30).1)).length) (0 : Int)) : List Int), (v599 : Value))])) := by first | exact ho801.stp hst954 (by intro q hq; have hq0 := hf200.lt q hq; omega) | exact ho801.stpF flat_shRowN hst954 (fun q hq => (fun q hq e => hsp806 q e hq) q hq)
            replace hN808 : Nst shI64 2 (fun x : List Int => x) w17.heap.size w800.heap.size w952 ((zs ++ [(((List.replicate ((((q30).1)).length) (0 : Int)) : List Int), (v599 : Value))])) := by first | exact hN808.stpF flat_shI64 hst954 hf200 rfl | exact hN808.stp hst954 (by intro q hq; have hq0 := hf200.lt q hq; omega)
            replace hb813 := hb813.stp hst954 (by intro q hq; have hq0 := hf200.lt q hq; omega)
            replace ho905 := ho905.stp hst954 (by intro q hq; have hq0 := hf200.lt q hq; omega)
            replace ho943 := ho943.stp hst954 (by intro q hq; have hq0 := hf200.lt q hq; omega)
            replace hN949 := hN949.stp hst954 (by intro q hq; have hq0 := hf200.lt q hq; omega)
            have hsp958 : ∀ q, Value.ownBlock v951 = some q → Value.ownBlock v799 ≠ some q := by intro q hq hb; have hq0 := ho801.lt q hb; rcases hob955 with h | h; (rw [h] at hq; first | (have hq1 := hf200.lt q hq; omega) | exact (fun q hq e => hsp806 q e hq) q hq hb); (rw [h] at hq; cases hq; omega)
            have hsp959 : ∀ q, Value.ownBlock v951 = some q → Value.ownBlock v941 ≠ some q := by intro q hq hb; have hq0 := ho943.lt q hb; rcases hob955 with h | h; (rw [h] at hq; first | (have hq1 := hf200.lt q hq; omega)); (rw [h] at hq; cases hq; omega)
            have hN960 : Nst shI64 2 (fun x : List Int => x) w58.heap.size w952.heap.size w952 ((ys ++ [(((List.replicate ((((q68).1)).length) (0 : Int)) : List Int), (v903 : Value))])) := (hf201.app hN949 (by omega) (by omega) (by omega)).fin (by omega) (by omega)
            have hs961 := (StpL.of_ext (B := fun i => Value.ownBlock v2 = some i ∨ i = w65.heap.size) hs947).trans' (Stp.toL hst954 (by intro q hq; exact Or.inl hq))
            refine ⟨hs961, ?_⟩
            refine dr_val (i := 8) ha956 rfl (by kernel_rfl) (by kernel_rfl) (by kernel_rfl) rfl rfl rfl hs961 (fun w' hw' => op_fieldAddr (sz := 0) ha956 rfl Try.underlying28 rfl rfl ti23 rfl) ?_
            intro a962 ha962; clear ha956 a956
            refine dr_one (i := 9) (by kernel_rfl) ?_
            refine po_effS ha962 rfl rfl rfl (op_store' (off := 1) ha962 rfl ti23 rfl rfl hf202 ho953.cells1 rfl (by intro u hu; have hu : u ∈ ([v951] : List Value) := hu; simp only [List.mem_cons, List.mem_nil_iff, or_false] at hu; rcases hu with rfl <;> first | rfl | exact ho953.one) (Nat.le_of_ble_eq_true rfl)) ?_
            rintro w963 ⟨hb965, hst964, hz966⟩
            have hx967 := hx957.stp hst964 (by intro q hq; cases hq; exact (by omega))
            have hzhx967 := hst964.size
            replace hf193 := hf193.stp hst964 (by intro q hq; cases hq; omega)
            replace hf194 := hf194.stp hst964 (by intro q hq; cases hq; omega)
            replace hf195 := hf195.stp hst964 (by intro q hq; cases hq; omega)
            replace hf199 := hf199.stp hst964 (by intro q hq; cases hq; omega)
            replace ho801 : Own shRowN 41 w17.heap.size w17.heap.size w800.heap.size w963 v799 ((zs ++ [(((List.replicate ((((q30).1)).length) (0 : Int)) : List Int), (v599 : Value))])) := by first | exact ho801.stp hst964 (by intro q hq; cases hq; omega) | exact ho801.stpF flat_shRowN hst964 (by intro q hq; cases hq; exact ho801.ne_box (by assumption) rfl)
            replace hN808 : Nst shI64 2 (fun x : List Int => x) w17.heap.size w800.heap.size w963 ((zs ++ [(((List.replicate ((((q30).1)).length) (0 : Int)) : List Int), (v599 : Value))])) := by first | exact hN808.stp hst964 (by intro q hq; cases hq; omega) | exact hN808.stpB flat_shI64 hst964 (by assumption) rfl
            replace hb813 := hb813.stp hst964 (by intro q hq; cases hq; omega)
            replace ho905 := ho905.stp hst964 (by intro q hq; cases hq; omega)
            replace ho943 := ho943.stp hst964 (by intro q hq; cases hq; omega)
            replace ho953 : Own shRowN 41 w58.heap.size w58.heap.size w952.heap.size w963 v951 ((ys ++ [(((List.replicate ((((q68).1)).length) (0 : Int)) : List Int), (v903 : Value))])) := by first | exact ho953.stp hst964 (by intro q hq; cases hq; omega) | exact ho953.stpF flat_shRowN hst964 (by intro q hq; cases hq; exact ho953.ne_box (by assumption) rfl)
            replace hN960 : Nst shI64 2 (fun x : List Int => x) w58.heap.size w952.heap.size w963 ((ys ++ [(((List.replicate ((((q68).1)).length) (0 : Int)) : List Int), (v903 : Value))])) := by first | exact hN960.stp hst964 (by intro q hq; cases hq; omega) | exact hN960.stpB flat_shI64 hst964 (by assumption) rfl
            clear hf202
            have hs968 := hs961.trans' (Stp.toL hst964 (by intro q hq; cases hq; exact Or.inr (rfl)))
            refine ⟨hs968, ?_⟩
            refine dr_end (by kernel_rfl) ?_
            refine block_n ?_
            refine then_n ?_
            clear ho905 ho943
            refine wp_region_lit ?_
            refine wl_val ha962 rfl rfl rfl (op_move ha962 rfl rfl) ?_
            intro a969 ha969; clear ha962 a962
            refine wl_val ha969 rfl rfl rfl ((op_add ha969 rfl rfl rfl).int (IntWalk.i64_in _ (by omega))) ?_
            intro a970 ha970; clear ha969 a969
            refine wl_val ha970 rfl rfl rfl (op_assign ha970 rfl rfl) ?_
            intro a971 ha971; clear ha970 a970
            refine wpList_nil ?_
            refine round_end (x := (i, v1, zs, v2, ys)) ((i + 1), v799, (zs ++ [(((List.replicate ((((q30).1)).length) (0 : Int)) : List Int), (v599 : Value))]), v951, (ys ++ [(((List.replicate ((((q68).1)).length) (0 : Int)) : List Int), (v903 : Value))])) ?_ ?_
            ·
             refine ⟨(Sl.cons_ ha971 rfl rfl (Sl.cons_ ha971 rfl rfl (Sl.cons_ ha971 rfl rfl (Sl.cons_ ha971 rfl rfl (Sl.cons_ ha971 rfl (int_eq (by omega)) (Sl.nil_ ha971)))))), hx967, hf193, hf194, hf195, hf199, (ho801.fin (by omega) (by omega) (by omega)), (hN808.fin (by omega) (by omega)), hb813, (ho953.fin (by omega) (by omega) (by omega)), (hN960.fin (by omega) (by omega)), hb965, (by omega), (by intro q hq; first | (intro hb; have hq0 := ho801.lt q hq; have hq1 := ho953.lt q hb; omega) | exact (fun q hq e => hsp958 q e hq) q hq), (by omega), (by first | omega | (simp; omega)), (by first | omega | (simp; omega))⟩
            ·show (6 - ((i + 1)) : Nat) < 6 - i; omega
     ·
      rw [decide_eq_false c208] at ha207
      refine cond_f ha207 rfl ?_
      refine wp_exit ?_
      refine then_e ?_
      refine then_e ?_
      refine block_hit ?_
      refine block_n ?_
      refine then_n ?_
      refine wp_seq ?_
      refine dr_enter (fun wa_ wb_ => StpL wa_ wb_ (fun i => i = w0.heap.size ∨ i = w2.heap.size)) follows_mixed ?_
      intro w972 he973
      have hx974 := hx192.trans' he973
      have hzhx974 := he973.size
      replace hf193 := hf193.ext he973
      replace hf194 := hf194.ext he973
      replace hf195 := hf195.ext he973
      replace hf199 := hf199.ext he973
      replace hf196 := hf196.ext he973
      replace hf197 := hf197.ext he973
      replace hf198 := hf198.ext he973
      replace hf200 := hf200.ext he973
      replace hf201 := hf201.ext he973
      replace hf202 := hf202.ext he973
      have hs975 : Ext w972 w972 := Ext.rfl' _
      refine dr_val (i := 0) ha207 rfl (by kernel_rfl) (by kernel_rfl) (by kernel_rfl) rfl rfl rfl (StpL.of_ext hs975) (fun w' hw' => op_loadS ha207 rfl Try.underlying28 ti28 rfl rfl (hf198.stpL hw' (by rintro (q | q) <;> first | omega)).cells) ?_
      intro a976 ha976; clear ha207 a207
      refine dr_val (i := 1) ha976 rfl (by kernel_rfl) (by kernel_rfl) (by kernel_rfl) rfl rfl rfl (StpL.of_ext hs975) (fun w' hw' => op_loadS ha976 rfl Try.underlying28 ti28 rfl rfl (hf202.stpL hw' (by rintro (q | q) <;> first | omega)).cells) ?_
      intro a977 ha977; clear ha976 a976
      refine dr_one (i := 2) (by kernel_rfl) ?_
      replace hf193 := hf193.ext hs975
      replace hf194 := hf194.ext hs975
      replace hf195 := hf195.ext hs975
      replace hf199 := hf199.ext hs975
      replace hf196 := hf196.ext hs975
      replace hf197 := hf197.ext hs975
      replace hf198 := hf198.ext hs975
      replace hf200 := hf200.ext hs975
      replace hf201 := hf201.ext hs975
      replace hf202 := hf202.ext hs975
      refine po_effS ha977 rfl rfl rfl (op_storeAll' ha977 rfl ti28 rfl rfl hf193 rfl rfl (by intro u hu; have hu : u ∈ ([u35, v1] : List Value) := hu; simp only [List.mem_cons, List.mem_nil_iff, or_false] at hu; rcases hu with rfl | rfl <;> first | rfl | exact hf195.one | exact hf196.one) rfl) ?_
      rintro w978 ⟨hb980, hst979, hz981⟩
      have hx982 := hx974.stp hst979 (by intro q hq; cases hq; exact (by omega))
      have hzhx982 := hst979.size
      replace hf194 := hf194.stp hst979 (by intro q hq; cases hq; omega)
      replace hf195 := hf195.stp hst979 (by intro q hq; cases hq; omega)
      replace hf199 := hf199.stp hst979 (by intro q hq; cases hq; omega)
      replace hf196 := hf196.stp hst979 (by intro q hq; cases hq; omega)
      replace hf197 := hf197.stp hst979 (by intro q hq; cases hq; omega)
      replace hf198 := hf198.stp hst979 (by intro q hq; cases hq; omega)
      replace hf200 := hf200.stp hst979 (by intro q hq; cases hq; omega)
      replace hf201 := hf201.stp hst979 (by intro q hq; cases hq; omega)
      replace hf202 := hf202.stp hst979 (by intro q hq; cases hq; omega)
      clear hf193
      have hs983 := (StpL.of_ext (B := fun i => i = w0.heap.size ∨ i = w2.heap.size) hs975).trans' (Stp.toL hst979 (by intro q hq; cases hq; exact Or.inl rfl))
      refine ⟨hs983, ?_⟩
      refine dr_one (i := 3) (by kernel_rfl) ?_
      refine po_effS ha977 rfl rfl rfl (op_storeAll' ha977 rfl ti28 rfl rfl hf194 rfl rfl (by intro u hu; have hu : u ∈ ([u74, v2] : List Value) := hu; simp only [List.mem_cons, List.mem_nil_iff, or_false] at hu; rcases hu with rfl | rfl <;> first | rfl | exact hf199.one | exact hf200.one) rfl) ?_
      rintro w984 ⟨hb986, hst985, hz987⟩
      have hx988 := hx982.stp hst985 (by intro q hq; cases hq; exact (by omega))
      have hzhx988 := hst985.size
      replace hf195 := hf195.stp hst985 (by intro q hq; cases hq; omega)
      replace hf199 := hf199.stp hst985 (by intro q hq; cases hq; omega)
      replace hf196 := hf196.stp hst985 (by intro q hq; cases hq; omega)
      replace hf197 := hf197.stp hst985 (by intro q hq; cases hq; omega)
      replace hf198 := hf198.stp hst985 (by intro q hq; cases hq; omega)
      replace hf200 := hf200.stp hst985 (by intro q hq; cases hq; omega)
      replace hf201 := hf201.stp hst985 (by intro q hq; cases hq; omega)
      replace hf202 := hf202.stp hst985 (by intro q hq; cases hq; omega)
      replace hb980 := hb980.stp hst985 (by intro q hq; cases hq; omega)
      clear hf194
      have hs989 := hs983.trans' (Stp.toL hst985 (by intro q hq; cases hq; exact Or.inr (rfl)))
      refine ⟨hs989, ?_⟩
      refine dr_end (by kernel_rfl) ?_
      refine then_n ?_
      refine wp_ret ?_
      refine ret_cc ha977 rfl rfl Try.underlying28 ti28 rfl hb980.cells rfl Try.underlying28 ti28 rfl hb986.cells ?_
      clear ha977 a977
      refine ret_mk hx988 ?_
      refine ⟨((((q30).1), (zs.map (·.1))) : Tab), ((((q68).1), (ys.map (·.1))) : Tab), ?_⟩
      refine ⟨u35, v1, zs, u74, v2, ys, (tup2_eq (by rfl) (by rfl)), ?_, hf196.fin (by omega) (by omega) (by omega), hf197.fin (by omega) (by omega), ?_, ?_, hf200.fin (by omega) (by omega) (by omega), hf201.fin (by omega) (by omega), ?_⟩
      ·
       refine (hf195.fin (by omega) (by omega) (by omega)).cast ?_
       rfl
      ·
       rfl
      ·
       refine (hf199.fin (by omega) (by omega) (by omega)).cast ?_
       rfl
      ·
       rfl
   ·
    rw [decide_eq_false c189] at ha188
    refine cond_f ha188 rfl ?_
    refine wp_skip ?_
    refine block_n ?_
    refine then_n ?_
    refine wp_seq ?_
    refine dr_enter (fun wa_ wb_ => StpL wa_ wb_ (fun i => i = w0.heap.size ∨ i = w2.heap.size)) follows_mixed ?_
    intro w990 he991
    have hx992 := hx105.trans' he991
    have hzhx992 := he991.size
    replace hb4 := hb4.ext he991
    replace hb11 := hb11.ext he991
    replace ho36 := ho36.ext he991
    replace ho38 := ho38.ext he991
    replace hN40 := hN40.ext he991
    replace hb53 := hb53.ext he991
    replace ho75 := ho75.ext he991
    replace ho77 := ho77.ext he991
    replace hN79 := hN79.ext he991
    replace hb92 := hb92.ext he991
    have hs993 : Ext w990 w990 := Ext.rfl' _
    refine dr_val (i := 0) ha188 rfl (by kernel_rfl) (by kernel_rfl) (by kernel_rfl) rfl rfl rfl (StpL.of_ext hs993) (fun w' hw' => op_loadS ha188 rfl Try.underlying28 ti28 rfl rfl (hb53.stpL hw' (by rintro (q | q) <;> first | omega)).cells) ?_
    intro a994 ha994; clear ha188 a188
    refine dr_val (i := 1) ha994 rfl (by kernel_rfl) (by kernel_rfl) (by kernel_rfl) rfl rfl rfl (StpL.of_ext hs993) (fun w' hw' => op_loadS ha994 rfl Try.underlying28 ti28 rfl rfl (hb92.stpL hw' (by rintro (q | q) <;> first | omega)).cells) ?_
    intro a995 ha995; clear ha994 a994
    refine dr_one (i := 2) (by kernel_rfl) ?_
    replace hb4 := hb4.ext hs993
    replace hb11 := hb11.ext hs993
    replace ho36 := ho36.ext hs993
    replace ho38 := ho38.ext hs993
    replace hN40 := hN40.ext hs993
    replace hb53 := hb53.ext hs993
    replace ho75 := ho75.ext hs993
    replace ho77 := ho77.ext hs993
    replace hN79 := hN79.ext hs993
    replace hb92 := hb92.ext hs993
    refine po_effS ha995 rfl rfl rfl (op_storeAll' ha995 rfl ti28 rfl rfl hb4 rfl rfl (by intro u hu; have hu : u ∈ ([u35, u37] : List Value) := hu; simp only [List.mem_cons, List.mem_nil_iff, or_false] at hu; rcases hu with rfl | rfl <;> first | rfl | exact ho36.one | exact ho38.one) rfl) ?_
    rintro w996 ⟨hb998, hst997, hz999⟩
    have hx1000 := hx992.stp hst997 (by intro q hq; cases hq; exact (by omega))
    have hzhx1000 := hst997.size
    replace hb11 := hb11.stp hst997 (by intro q hq; cases hq; omega)
    replace ho36 := ho36.stp hst997 (by intro q hq; cases hq; omega)
    replace ho38 := ho38.stp hst997 (by intro q hq; cases hq; omega)
    replace hN40 := hN40.stp hst997 (by intro q hq; cases hq; omega)
    replace hb53 := hb53.stp hst997 (by intro q hq; cases hq; omega)
    replace ho75 := ho75.stp hst997 (by intro q hq; cases hq; omega)
    replace ho77 := ho77.stp hst997 (by intro q hq; cases hq; omega)
    replace hN79 := hN79.stp hst997 (by intro q hq; cases hq; omega)
    replace hb92 := hb92.stp hst997 (by intro q hq; cases hq; omega)
    clear hb4
    have hs1001 := (StpL.of_ext (B := fun i => i = w0.heap.size ∨ i = w2.heap.size) hs993).trans' (Stp.toL hst997 (by intro q hq; cases hq; exact Or.inl rfl))
    refine ⟨hs1001, ?_⟩
    refine dr_one (i := 3) (by kernel_rfl) ?_
    refine po_effS ha995 rfl rfl rfl (op_storeAll' ha995 rfl ti28 rfl rfl hb11 rfl rfl (by intro u hu; have hu : u ∈ ([u74, u76] : List Value) := hu; simp only [List.mem_cons, List.mem_nil_iff, or_false] at hu; rcases hu with rfl | rfl <;> first | rfl | exact ho75.one | exact ho77.one) rfl) ?_
    rintro w1002 ⟨hb1004, hst1003, hz1005⟩
    have hx1006 := hx1000.stp hst1003 (by intro q hq; cases hq; exact (by omega))
    have hzhx1006 := hst1003.size
    replace ho36 := ho36.stp hst1003 (by intro q hq; cases hq; omega)
    replace ho38 := ho38.stp hst1003 (by intro q hq; cases hq; omega)
    replace hN40 := hN40.stp hst1003 (by intro q hq; cases hq; omega)
    replace hb53 := hb53.stp hst1003 (by intro q hq; cases hq; omega)
    replace ho75 := ho75.stp hst1003 (by intro q hq; cases hq; omega)
    replace ho77 := ho77.stp hst1003 (by intro q hq; cases hq; omega)
    replace hN79 := hN79.stp hst1003 (by intro q hq; cases hq; omega)
    replace hb92 := hb92.stp hst1003 (by intro q hq; cases hq; omega)
    replace hb998 := hb998.stp hst1003 (by intro q hq; cases hq; omega)
    clear hb11
    have hs1007 := hs1001.trans' (Stp.toL hst1003 (by intro q hq; cases hq; exact Or.inr (rfl)))
    refine ⟨hs1007, ?_⟩
    refine dr_end (by kernel_rfl) ?_
    refine then_n ?_
    refine wp_ret ?_
    refine ret_cc ha995 rfl rfl Try.underlying28 ti28 rfl hb998.cells rfl Try.underlying28 ti28 rfl hb1004.cells ?_
    clear ha995 a995
    refine ret_mk hx1006 ?_
    refine ⟨((((q30).1), ((q30).2)) : Tab), ((((q68).1), ((q68).2)) : Tab), ?_⟩
    refine ⟨u35, u37, z39, u74, u76, z78, (tup2_eq (by rfl) (by rfl)), ?_, ho38.fin (by omega) (by omega) (by omega), hN40.fin (by omega) (by omega), ?_, ?_, ho77.fin (by omega) (by omega) (by omega), hN79.fin (by omega) (by omega), ?_⟩
    ·
     refine (ho36.fin (by omega) (by omega) (by omega)).cast ?_
     rfl
    ·
     exact hE41
    ·
     refine (ho75.fin (by omega) (by omega) (by omega)).cast ?_
     rfl
    ·
     exact hE80


end Go.Proofs.Ytjpldgicibnkcaa
