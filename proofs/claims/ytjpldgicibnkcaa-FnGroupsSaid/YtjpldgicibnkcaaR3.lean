/- What the laws over groups draw. -/
import Derived.Test.YtjpldgicibnkcaaR2
namespace Go.Proofs.Ytjpldgicibnkcaa
open Go Go.RowKit

set_option maxHeartbeats 4000000 in
theorem c_spec_DrawGroupRows (w0 : World) (v_code : Value) (code : List UInt8) {S_code : Nat → Prop} (h_code : Rds shU8 S_code w0 v_code code) :
  Calls Try.prog 40 #[v_code] w0 (Ret w0 (fun v w1 => ∃ (t : Tab) (c : Int) (a : Int), (fun v w1 => ∃ r0_0 r0_1 z0_1, v = .tuple #[.agg #[r0_0, r0_1], .int .i64 (c), .int .i64 (a)] ∧ Own shStr 9 w0.heap.size w0.heap.size w1.heap.size w1 r0_0 ((t).1) ∧ Own shRowN 41 w0.heap.size w0.heap.size w1.heap.size w1 r0_1 z0_1 ∧ Nst shI64 2 (fun x : List Int => x) w0.heap.size w1.heap.size w1 z0_1 ∧ z0_1.map (·.1) = ((t).2)) v w1)) := by
 refine enter (N := 26) Try.func40 rfl rfl rfl ?_
 intro a0 ha0
 have hx0 := Ext.rfl' w0
 have hl_code := h_code.length_le
 refine wp_seq ?_
 refine wp_region_lit ?_
 refine wl_eff ha0 rfl rfl rfl (op_alloc' rfl ti28 rfl) ?_
 rintro _ w2 ⟨rfl, he3, hb4, hz5⟩ a6 ha6; clear ha0 a0
 have hx7 := hx0.trans' he3
 have hzhx7 := he3.size
 refine wl_val ha6 rfl rfl rfl (op_assign ha6 rfl rfl) ?_
 intro a8 ha8; clear ha6 a6
 refine wl_val ha8 rfl rfl rfl (op_assign ha8 rfl rfl) ?_
 intro a9 ha9; clear ha8 a8
 refine wpList_nil ?_
 refine then_n ?_
 refine wp_seq ?_
 refine wp_region_lit ?_
 refine wl_val ha9 rfl rfl rfl (op_move ha9 rfl rfl) ?_
 intro a10 ha10; clear ha9 a9
 refine wl_callR ha10 rfl rfl rfl (op_call ha10 rfl cb79 rfl) (c_spec_l01From _ v_code code (h_code.low pos_shU8 hx7 (Nat.le_refl _)) (by omega)) ?_
 rintro v11 w12 he13 ⟨g14, rfl, hg15, hS16⟩ a17 ha17; clear ha10 a10
 have hx18 := hx7.trans' he13
 have hzhx18 := he13.size
 replace hb4 := hb4.ext he13
 have hSlhS16 := hS16.lt
 refine wl_val ha17 rfl rfl rfl (op_assign ha17 rfl rfl) ?_
 intro a19 ha19; clear ha17 a17
 refine wpList_nil ?_
 refine then_n ?_
 refine wp_seq ?_
 refine wp_region_lit ?_
 refine wl_val ha19 rfl rfl rfl (op_move ha19 rfl rfl) ?_
 intro a20 ha20; clear ha19 a19
 refine wl_callS ha20 rfl rfl rfl (op_call ha20 rfl cb80 rfl) (c_spec_l31Some _ g14 w0.heap.size hS16) ?_
 rintro v21 w22 he23 ⟨hS24, ⟨q25, q26, hq27, hq28, hq29, hq30, hq31, hq32, ⟨u33, u35, z37, rfl, ho34, ho36, hN38, hE39⟩⟩⟩ a40 ha40; clear ha20 a20
 have hx41 := hx18.stp he23 (by intro q hq; cases hq; exact (by omega))
 have hzhx41 := he23.size
 replace hb4 := hb4.stp he23 (by intro q hq; cases hq; omega)
 clear hS16
 have hSlhS24 := hS24.lt
 have hlhE39 := absLen hE39
 refine wl_val ha40 rfl rfl rfl (op_move ha40 rfl rfl) ?_
 intro a42 ha42; clear ha40 a40
 refine wl_val ha42 rfl rfl rfl (op_extract ha42 rfl rfl rfl) ?_
 intro a43 ha43; clear ha42 a42
 refine wl_val ha43 rfl rfl rfl (op_extract ha43 rfl rfl rfl) ?_
 intro a44 ha44; clear ha43 a43
 refine wl_eff ha44 rfl rfl rfl (op_alloc' rfl ti28 rfl) ?_
 rintro _ w46 ⟨rfl, he47, hb48, hz49⟩ a50 ha50; clear ha44 a44
 have hx51 := hx41.trans' he47
 have hzhx51 := he47.size
 replace hb4 := hb4.ext he47
 replace hS24 := hS24.ext he47
 replace ho34 := ho34.ext he47
 replace ho36 := ho36.ext he47
 replace hN38 := hN38.ext he47
 refine wl_effS ha50 rfl rfl (op_storeAll' ha50 rfl ti28 rfl rfl hb48 rfl rfl (by intro u hu; have hu : u ∈ ([u33, u35] : List Value) := hu; simp only [List.mem_cons, List.mem_nil_iff, or_false] at hu; rcases hu with rfl | rfl <;> first | rfl | exact ho34.one | exact ho36.one) rfl) ?_
 rintro w52 ⟨hb54, hst53, hz55⟩
 have hx56 := hx51.stp hst53 (by intro q hq; cases hq; exact (by omega))
 have hzhx56 := hst53.size
 replace hb4 := hb4.stp hst53 (by intro q hq; cases hq; omega)
 replace hS24 := hS24.stp hst53 (by intro q hq; cases hq; omega)
 replace ho34 := ho34.stp hst53 (by intro q hq; cases hq; omega)
 replace ho36 := ho36.stp hst53 (by intro q hq; cases hq; omega)
 replace hN38 := hN38.stp hst53 (by intro q hq; cases hq; omega)
 clear hb48
 refine wl_val ha50 rfl rfl rfl (op_assign ha50 rfl rfl) ?_
 intro a57 ha57; clear ha50 a50
 refine wpList_nil ?_
 refine then_n ?_
 refine wp_seq ?_
 refine dr_enter (fun wa_ wb_ => StpL wa_ wb_ (fun i => i = w0.heap.size ∨ i = g14)) follows_mixed ?_
 intro w58 he59
 have hx60 := hx56.trans' he59
 have hzhx60 := he59.size
 replace hb4 := hb4.ext he59
 replace hS24 := hS24.ext he59
 replace ho34 := ho34.ext he59
 replace ho36 := ho36.ext he59
 replace hN38 := hN38.ext he59
 replace hb54 := hb54.ext he59
 have hs61 : Ext w58 w58 := Ext.rfl' _
 refine dr_val (i := 0) ha57 rfl (by kernel_rfl) (by kernel_rfl) (by kernel_rfl) rfl rfl rfl (StpL.of_ext hs61) (fun w' hw' => op_loadS ha57 rfl Try.underlying28 ti28 rfl rfl (hb54.stpL hw' (by rintro (q | q) <;> first | omega)).cells) ?_
 intro a62 ha62; clear ha57 a57
 refine dr_val (i := 1) ha62 rfl (by kernel_rfl) (by kernel_rfl) (by kernel_rfl) rfl rfl rfl (StpL.of_ext hs61) (fun w' hw' => op_move ha62 rfl rfl) ?_
 intro a63 ha63; clear ha62 a62
 refine dr_val (i := 2) ha63 rfl (by kernel_rfl) (by kernel_rfl) (by kernel_rfl) rfl rfl rfl (StpL.of_ext hs61) (fun w' hw' => op_move ha63 rfl rfl) ?_
 intro a64 ha64; clear ha63 a63
 refine dr_val (i := 3) ha64 rfl (by kernel_rfl) (by kernel_rfl) (by kernel_rfl) rfl rfl rfl (StpL.of_ext hs61) (fun w' hw' => op_fieldAddr (sz := 0) ha64 rfl Try.underlying28 rfl rfl ti22 rfl) ?_
 intro a65 ha65; clear ha64 a64
 refine dr_val (i := 4) ha65 rfl (by kernel_rfl) (by kernel_rfl) (by kernel_rfl) rfl rfl rfl (StpL.of_ext hs61) (fun w' hw' => op_loadF (off := 0) ha65 rfl Try.underlying22 rfl rfl (hb54.stpL hw' (by rintro (q | q) <;> first | omega)).cells rfl) ?_
 intro a66 ha66; clear ha65 a65
 refine dr_val (i := 5) ha66 rfl (by kernel_rfl) (by kernel_rfl) (by kernel_rfl) rfl rfl rfl (StpL.of_ext hs61) (fun w' hw' => op_len_sl ha66 rfl Try.underlying22 rfl (ho34.rds pos_shStr)) ?_
 intro a67 ha67; clear ha66 a66
 refine dr_val (i := 6) ha67 rfl (by kernel_rfl) (by kernel_rfl) (by kernel_rfl) rfl rfl rfl (StpL.of_ext hs61) (fun w' hw' => op_move ha67 rfl rfl) ?_
 intro a68 ha68; clear ha67 a67
 refine dr_one (i := 7) (by kernel_rfl) ?_
 replace hb4 := hb4.ext hs61
 replace hS24 := hS24.ext hs61
 replace ho34 := ho34.ext hs61
 replace ho36 := ho36.ext hs61
 replace hN38 := hN38.ext hs61
 replace hb54 := hb54.ext hs61
 refine po_callS ha68 rfl rfl rfl rfl (op_call ha68 rfl cb81 rfl) (c_spec_l01Next _ g14 w0.heap.size (12 : Int) hS24) ?_
 rintro v69 w70 he71 ⟨hS72, ⟨q73, hq74, hq75, hq76, rfl⟩⟩ a77 ha77; clear ha68 a68
 have hx78 := hx60.stp he71 (by intro q hq; cases hq; exact (by omega))
 have hzhx78 := he71.size
 replace hb4 := hb4.stp he71 (by intro q hq; cases hq; omega)
 replace ho34 : Own shStr 9 w12.heap.size w12.heap.size w22.heap.size w70 u33 (((q25).1)) := by first | exact ho34.stp he71 (by intro q hq; cases hq; omega) | exact ho34.stpF flat_shStr he71 (by intro q hq; cases hq; exact ho34.ne_box (by assumption) rfl)
 replace ho36 : Own shRowN 41 w12.heap.size w12.heap.size w22.heap.size w70 u35 z37 := by first | exact ho36.stp he71 (by intro q hq; cases hq; omega) | exact ho36.stpF flat_shRowN he71 (by intro q hq; cases hq; exact ho36.ne_box (by assumption) rfl)
 replace hN38 : Nst shI64 2 (fun x : List Int => x) w12.heap.size w22.heap.size w70 z37 := by first | exact hN38.stp he71 (by intro q hq; cases hq; omega) | exact hN38.stpB flat_shI64 he71 (by assumption) rfl
 replace hb54 := hb54.stp he71 (by intro q hq; cases hq; omega)
 clear hS24
 have hSlhS72 := hS72.lt
 have hs79 := (StpL.of_ext (B := fun i => i = w0.heap.size ∨ i = g14) hs61).trans' (Stp.toL he71 (by intro q hq; cases hq; exact Or.inr (rfl)))
 refine ⟨hs79, ?_⟩
 refine dr_val (i := 8) ha77 rfl (by kernel_rfl) (by kernel_rfl) (by kernel_rfl) rfl rfl rfl hs79 (fun w' hw' => (op_quo ha77 rfl rfl rfl (by omega)).int (IntWalk.i64_quo _ _ (by omega))) ?_
 intro a80 ha80; clear ha77 a77
 refine dr_val (i := 9) ha80 rfl (by kernel_rfl) (by kernel_rfl) (by kernel_rfl) rfl rfl rfl hs79 (fun w' hw' => (op_add ha80 rfl rfl rfl).int (IntWalk.i64_in _ (by omega))) ?_
 intro a81 ha81; clear ha80 a80
 refine dr_one (i := 10) (by kernel_rfl) ?_
 refine po_callS ha81 rfl rfl rfl rfl (op_call ha81 rfl cb81 rfl) (c_spec_l01Next _ g14 w0.heap.size ((((((q25).1)).length : Nat) : Int) + ((q73 : Int) / (11 : Int))) hS72) ?_
 rintro v82 w83 he84 ⟨hS85, ⟨q86, hq87, hq88, hq89, rfl⟩⟩ a90 ha90; clear ha81 a81
 have hx91 := hx78.stp he84 (by intro q hq; cases hq; exact (by omega))
 have hzhx91 := he84.size
 replace hb4 := hb4.stp he84 (by intro q hq; cases hq; omega)
 replace ho34 : Own shStr 9 w12.heap.size w12.heap.size w22.heap.size w83 u33 (((q25).1)) := by first | exact ho34.stp he84 (by intro q hq; cases hq; omega) | exact ho34.stpF flat_shStr he84 (by intro q hq; cases hq; exact ho34.ne_box (by assumption) rfl)
 replace ho36 : Own shRowN 41 w12.heap.size w12.heap.size w22.heap.size w83 u35 z37 := by first | exact ho36.stp he84 (by intro q hq; cases hq; omega) | exact ho36.stpF flat_shRowN he84 (by intro q hq; cases hq; exact ho36.ne_box (by assumption) rfl)
 replace hN38 : Nst shI64 2 (fun x : List Int => x) w12.heap.size w22.heap.size w83 z37 := by first | exact hN38.stp he84 (by intro q hq; cases hq; omega) | exact hN38.stpB flat_shI64 he84 (by assumption) rfl
 replace hb54 := hb54.stp he84 (by intro q hq; cases hq; omega)
 clear hS72
 have hSlhS85 := hS85.lt
 have hs92 := hs79.trans' (Stp.toL he84 (by intro q hq; cases hq; exact Or.inr (rfl)))
 refine ⟨hs92, ?_⟩
 refine dr_one (i := 11) (by kernel_rfl) ?_
 refine po_effS ha90 rfl rfl rfl (op_storeAll' ha90 rfl ti28 rfl rfl hb4 rfl rfl (by intro u hu; have hu : u ∈ ([u33, u35] : List Value) := hu; simp only [List.mem_cons, List.mem_nil_iff, or_false] at hu; rcases hu with rfl | rfl <;> first | rfl | exact ho34.one | exact ho36.one) rfl) ?_
 rintro w93 ⟨hb95, hst94, hz96⟩
 have hx97 := hx91.stp hst94 (by intro q hq; cases hq; exact (by omega))
 have hzhx97 := hst94.size
 replace ho34 := ho34.stp hst94 (by intro q hq; cases hq; omega)
 replace ho36 := ho36.stp hst94 (by intro q hq; cases hq; omega)
 replace hN38 := hN38.stp hst94 (by intro q hq; cases hq; omega)
 replace hb54 := hb54.stp hst94 (by intro q hq; cases hq; omega)
 replace hS85 := hS85.stp hst94 (by intro q hq; cases hq; omega)
 clear hb4
 have hs98 := hs92.trans' (Stp.toL hst94 (by intro q hq; cases hq; exact Or.inl rfl))
 refine ⟨hs98, ?_⟩
 refine dr_val (i := 12) ha90 rfl (by kernel_rfl) (by kernel_rfl) (by kernel_rfl) rfl rfl rfl hs98 (fun w' hw' => op_assign ha90 rfl rfl) ?_
 intro a99 ha99; clear ha90 a90
 refine dr_val (i := 13) ha99 rfl (by kernel_rfl) (by kernel_rfl) (by kernel_rfl) rfl rfl rfl hs98 (fun w' hw' => op_assign ha99 rfl rfl) ?_
 intro a100 ha100; clear ha99 a99
 refine dr_end (by kernel_rfl) ?_
 refine then_n ?_
 refine wp_ret ?_
 refine ret_ctt ha100 rfl rfl Try.underlying28 ti28 rfl hb95.cells rfl rfl ?_
 clear ha100 a100
 refine ret_mk hx97 ?_
 refine ⟨((((q25).1), ((q25).2)) : Tab), (q26 : Int), (q86 : Int), ?_⟩
 refine ⟨u33, u35, z37, (tup3_eq (by rfl) (int_eq (by rfl)) (int_eq (by rfl))), ?_, ho36.fin (by omega) (by omega) (by omega), hN38.fin (by omega) (by omega), ?_⟩
 ·
  refine (ho34.fin (by omega) (by omega) (by omega)).cast ?_
  rfl
 ·
  exact hE39


end Go.Proofs.Ytjpldgicibnkcaa
