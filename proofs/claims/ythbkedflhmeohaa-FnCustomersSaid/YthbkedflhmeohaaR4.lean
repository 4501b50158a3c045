/- What the laws over customers draw. -/
import Derived.Test.YthbkedflhmeohaaR3
namespace Go.Proofs.Ythbkedflhmeohaa
open Go Go.RowKit

set_option maxHeartbeats 8000000 in
theorem c_spec_DrawAddCustomer (w0 : World) (v_code : Value) (code : List UInt8) {S_code : Nat → Prop} (h_code : Rds shU8 S_code w0 v_code code) :
  Calls Try.prog 41 #[v_code] w0 (Ret w0 (fun v w1 => ∃ (l : List Cust) (n : Str) (d : Int), (l.length ≤ 22) ∧ (∀ c ∈ l, c.2.2.length ≤ 10) ∧ (n.length ≤ 9223372036854775807) ∧ (I64 d) ∧ (fun v w1 => ∃ r0 z0, v = .tuple #[r0, St (n), .int .i64 (d)] ∧ Own shCustN 55 w0.heap.size w0.heap.size w1.heap.size w1 r0 z0 ∧ Nst shStr 9 (fun x : Str × Int × List Str => x.2.2) w0.heap.size w1.heap.size w1 z0 ∧ z0.map (·.1) = (l)) v w1)) := by
 refine enter (N := 26) Try.func41 rfl rfl rfl ?_
 intro a0 ha0
 have hx0 := Ext.rfl' w0
 have hl_code := h_code.length_le
 refine wp_seq ?_
 refine wp_region_lit ?_
 refine wl_val ha0 rfl rfl rfl (op_assign ha0 rfl rfl) ?_
 intro a1 ha1; clear ha0 a0
 refine wl_val ha1 rfl rfl rfl (op_assign ha1 rfl rfl) ?_
 intro a2 ha2; clear ha1 a1
 refine wl_val ha2 rfl rfl rfl (op_assign ha2 rfl rfl) ?_
 intro a3 ha3; clear ha2 a2
 refine wpList_nil ?_
 refine then_n ?_
 refine wp_seq ?_
 refine wp_region_lit ?_
 refine wl_val ha3 rfl rfl rfl (op_move ha3 rfl rfl) ?_
 intro a4 ha4; clear ha3 a3
 refine wl_callR ha4 rfl rfl rfl (op_call ha4 rfl cb72 rfl) (c_spec_l01From _ v_code code (h_code.low pos_shU8 hx0 (Nat.le_refl _)) (by omega)) ?_
 rintro v5 w6 he7 ⟨g8, rfl, hg9, hS10⟩ a11 ha11; clear ha4 a4
 have hx12 := hx0.trans' he7
 have hzhx12 := he7.size
 have hSlhS10 := hS10.lt
 refine wl_val ha11 rfl rfl rfl (op_assign ha11 rfl rfl) ?_
 intro a13 ha13; clear ha11 a11
 refine wpList_nil ?_
 refine then_n ?_
 refine wp_seq ?_
 refine wp_region_lit ?_
 refine wl_val ha13 rfl rfl rfl (op_move ha13 rfl rfl) ?_
 intro a14 ha14; clear ha13 a13
 refine wl_callS ha14 rfl rfl rfl (op_call ha14 rfl cb73 rfl) (c_spec_l30Draw _ g8 w0.heap.size hS10) ?_
 rintro v15 w16 he17 ⟨hS18, ⟨q19, hq20, hq21, ⟨z23, ho22, hN24, hE25⟩⟩⟩ a26 ha26; clear ha14 a14
 have hx27 := hx12.stp he17 (by intro q hq; cases hq; exact (by omega))
 have hzhx27 := he17.size
 clear hS10
 have hSlhS18 := hS18.lt
 have hlhE25 := absLen hE25
 refine wl_val ha26 rfl rfl rfl (op_assign ha26 rfl rfl) ?_
 intro a28 ha28; clear ha26 a26
 refine wpList_nil ?_
 refine then_n ?_
 refine wp_seq ?_
 refine wp_region_lit ?_
 refine wl_val ha28 rfl rfl rfl (op_move ha28 rfl rfl) ?_
 intro a29 ha29; clear ha28 a28
 refine wl_callS ha29 rfl rfl rfl (op_call ha29 rfl cb74 rfl) (c_spec_l30Name _ g8 w0.heap.size hS18) ?_
 rintro v30 w31 he32 ⟨hS33, ⟨q34, hq35, rfl⟩⟩ a36 ha36; clear ha29 a29
 have hx37 := hx27.stp he32 (by intro q hq; cases hq; exact (by omega))
 have hzhx37 := he32.size
 first | replace ho22 := ho22.stp he32 (by intro q hq; cases hq; omega) | replace ho22 := ho22.stpF flat_shCustN he32 (by intro q hq; cases hq; exact ho22.ne_box (by assumption) rfl)
 first | replace hN24 := hN24.stp he32 (by intro q hq; cases hq; omega) | replace hN24 := hN24.stpB flat_shStr he32 (by assumption) rfl
 clear hS18
 have hSlhS33 := hS33.lt
 refine wl_val ha36 rfl rfl rfl (op_assign ha36 rfl rfl) ?_
 intro a38 ha38; clear ha36 a36
 refine wpList_nil ?_
 refine then_n ?_
 refine wp_seq ?_
 refine wp_seq ?_
 refine wp_region_lit ?_
 refine wl_val ha38 rfl rfl rfl (op_move ha38 rfl rfl) ?_
 intro a39 ha39; clear ha38 a38
 refine wl_callS ha39 rfl rfl rfl (op_call ha39 rfl cb75 rfl) (c_spec_l01Next _ g8 w0.heap.size (24 : Int) hS33) ?_
 rintro v40 w41 he42 ⟨hS43, ⟨q44, hq45, hq46, hq47, rfl⟩⟩ a48 ha48; clear ha39 a39
 have hx49 := hx37.stp he42 (by intro q hq; cases hq; exact (by omega))
 have hzhx49 := he42.size
 first | replace ho22 := ho22.stp he42 (by intro q hq; cases hq; omega) | replace ho22 := ho22.stpF flat_shCustN he42 (by intro q hq; cases hq; exact ho22.ne_box (by assumption) rfl)
 first | replace hN24 := hN24.stp he42 (by intro q hq; cases hq; omega) | replace hN24 := hN24.stpB flat_shStr he42 (by assumption) rfl
 clear hS33
 have hSlhS43 := hS43.lt
 refine wl_val ha48 rfl rfl rfl (op_eql ha48 rfl rfl rfl) ?_
 intro a50 ha50; clear ha48 a48
 refine wpList_nil ?_
 refine then_n ?_
 by_cases c51 : (q44 : Int) = (0 : Int)
 ·
  rw [decide_eq_true c51] at ha50
  refine cond_t ha50 rfl ?_
  refine wp_region_lit ?_
  refine wl_val ha50 rfl rfl rfl (op_move ha50 rfl rfl) ?_
  intro a52 ha52; clear ha50 a50
  refine wl_callS ha52 rfl rfl rfl (op_call ha52 rfl cb76 rfl) (c_spec_l01DrawWord _ g8 w0.heap.size hS43) ?_
  rintro v53 w54 he55 ⟨hS56, ⟨q57, hq58, rfl⟩⟩ a59 ha59; clear ha52 a52
  have hx60 := hx49.stp he55 (by intro q hq; cases hq; exact (by omega))
  have hzhx60 := he55.size
  first | replace ho22 := ho22.stp he55 (by intro q hq; cases hq; omega) | replace ho22 := ho22.stpF flat_shCustN he55 (by intro q hq; cases hq; exact ho22.ne_box (by assumption) rfl)
  first | replace hN24 := hN24.stp he55 (by intro q hq; cases hq; omega) | replace hN24 := hN24.stpB flat_shStr he55 (by assumption) rfl
  clear hS43
  have hSlhS56 := hS56.lt
  refine wl_val ha59 rfl rfl rfl (op_assign ha59 rfl rfl) ?_
  intro a61 ha61; clear ha59 a59
  refine wpList_nil ?_
  refine then_n ?_
  refine wp_seq ?_
  refine wp_region_lit ?_
  refine wl_val ha61 rfl rfl rfl (op_move ha61 rfl rfl) ?_
  intro a62 ha62; clear ha61 a61
  refine wl_val ha62 rfl rfl rfl (op_move ha62 rfl rfl) ?_
  intro a63 ha63; clear ha62 a62
  refine wl_val ha63 rfl rfl rfl (op_move ha63 rfl rfl) ?_
  intro a64 ha64; clear ha63 a63
  refine wl_val ha64 rfl rfl rfl (op_move ha64 rfl rfl) ?_
  intro a65 ha65; clear ha64 a64
  refine wl_callS ha65 rfl rfl rfl (op_call ha65 rfl cb75 rfl) (c_spec_l01Next _ g8 w0.heap.size (100 : Int) hS56) ?_
  rintro v66 w67 he68 ⟨hS69, ⟨q70, hq71, hq72, hq73, rfl⟩⟩ a74 ha74; clear ha65 a65
  have hx75 := hx60.stp he68 (by intro q hq; cases hq; exact (by omega))
  have hzhx75 := he68.size
  first | replace ho22 := ho22.stp he68 (by intro q hq; cases hq; omega) | replace ho22 := ho22.stpF flat_shCustN he68 (by intro q hq; cases hq; exact ho22.ne_box (by assumption) rfl)
  first | replace hN24 := hN24.stp he68 (by intro q hq; cases hq; omega) | replace hN24 := hN24.stpB flat_shStr he68 (by assumption) rfl
  clear hS56
  have hSlhS69 := hS69.lt
  refine wl_eff ha74 rfl rfl rfl (op_buildSlice (s := shI64) (xs := [(q70 : Int), (0 : Int), (100000 : Int), (100001 : Int), (-1 : Int)]) (cs := [.int .i64 (q70 : Int), .int .i64 (0 : Int), .int .i64 (100000 : Int), .int .i64 (100001 : Int), .int .i64 (-1 : Int)]) (vs := [(0, .int .i64 (q70 : Int)), (1, .int .i64 (0 : Int)), (2, .int .i64 (100000 : Int)), (3, .int .i64 (100001 : Int)), (4, .int .i64 (-1 : Int))]) (S := fun _ => False) (le := w67.heap.size) ha74 rfl pos_shI64 Try.underlying69 ti2 rfl rfl (by decide) (by kernel_rfl) ⟨mk_shI64 ((q70 : Int)) (by first | assumption | omega | (constructor <;> omega) | (dsimp only; omega) | (simp; done) | (simp; omega)), mk_shI64 ((0 : Int)) (by first | assumption | omega | (constructor <;> omega) | (dsimp only; omega) | (simp; done) | (simp; omega)), mk_shI64 ((100000 : Int)) (by first | assumption | omega | (constructor <;> omega) | (dsimp only; omega) | (simp; done) | (simp; omega)), mk_shI64 ((100001 : Int)) (by first | assumption | omega | (constructor <;> omega) | (dsimp only; omega) | (simp; done) | (simp; omega)), mk_shI64 ((-1 : Int)) (by first | assumption | omega | (constructor <;> omega) | (dsimp only; omega) | (simp; done) | (simp; omega)), rfl⟩ (fun _ h => h.elim)) ?_
  rintro v76 w77 ⟨ho78, he79, hob80⟩ a81 ha81; clear ha74 a74
  have hx82 := hx75.trans' he79
  have hzhx82 := he79.size
  replace ho22 := ho22.ext he79
  replace hN24 := hN24.ext he79
  replace hS69 := hS69.ext he79
  refine wl_callS ha81 rfl rfl rfl (op_call ha81 rfl cb77 rfl) (c_spec_l01Pick _ g8 w0.heap.size v76 ([(q70 : Int), (0 : Int), (100000 : Int), (100001 : Int), (-1 : Int)]) hS69 (ho78.rds pos_shI64) (by rintro ⟨_, _⟩; omega) (by first | assumption | omega | (constructor <;> omega) | (dsimp only; omega) | (simp; done) | (simp; omega))) ?_
  rintro v83 w84 he85 ⟨hS86, ⟨q87, hq88, rfl⟩⟩ a89 ha89; clear ha81 a81
  have hx90 := hx82.stp he85 (by intro q hq; cases hq; exact (by omega))
  have hzhx90 := he85.size
  first | replace ho22 := ho22.stp he85 (by intro q hq; cases hq; omega) | replace ho22 := ho22.stpF flat_shCustN he85 (by intro q hq; cases hq; exact ho22.ne_box (by assumption) rfl)
  first | replace hN24 := hN24.stp he85 (by intro q hq; cases hq; omega) | replace hN24 := hN24.stpB flat_shStr he85 (by assumption) rfl
  first | replace ho78 := ho78.stp he85 (by intro q hq; cases hq; omega) | replace ho78 := ho78.stpF flat_shI64 he85 (by intro q hq; cases hq; exact ho78.ne_box (by assumption) rfl)
  clear hS69
  have hSlhS86 := hS86.lt
  simp only [List.mem_cons, List.not_mem_nil, or_false] at hq88
  refine wl_val ha89 rfl rfl rfl (op_assign ha89 rfl rfl) ?_
  intro a91 ha91; clear ha89 a89
  refine wl_val ha91 rfl rfl rfl (op_assign ha91 rfl rfl) ?_
  intro a92 ha92; clear ha91 a91
  refine wl_val ha92 rfl rfl rfl (op_assign ha92 rfl rfl) ?_
  intro a93 ha93; clear ha92 a92
  refine wpList_nil ?_
  refine then_n ?_
  refine wp_ret ?_
  refine ret3 ha93 rfl rfl rfl rfl ?_
  clear ha93 a93
  refine ret_mk hx90 ?_
  refine ⟨(((q19)) : List Cust), ((q57) : Str), (q87 : Int), (by first | assumption | omega | (constructor <;> omega) | (simp; done) | (simp; omega)), (by first | assumption | omega | (constructor <;> omega) | (simp; done) | (simp; omega)), (by first | assumption | omega | (constructor <;> omega) | (simp; done) | (simp; omega)), (by first | assumption | omega | (constructor <;> omega) | (simp; done) | (simp; omega)), ?_⟩
  refine ⟨v15, z23, (tup3_eq rfl (congrArg St (by rfl)) (int_eq (by rfl))), ho22.fin (by omega) (by omega) (by omega), hN24.fin (by omega) (by omega), ?_⟩
  ·
   exact hE25
 ·
  rw [decide_eq_false c51] at ha50
  refine cond_f ha50 rfl ?_
  refine wp_skip ?_
  refine then_n ?_
  refine wp_seq ?_
  refine wp_region_lit ?_
  refine wl_val ha50 rfl rfl rfl (op_move ha50 rfl rfl) ?_
  intro a94 ha94; clear ha50 a50
  refine wl_val ha94 rfl rfl rfl (op_move ha94 rfl rfl) ?_
  intro a95 ha95; clear ha94 a94
  refine wl_val ha95 rfl rfl rfl (op_move ha95 rfl rfl) ?_
  intro a96 ha96; clear ha95 a95
  refine wl_val ha96 rfl rfl rfl (op_move ha96 rfl rfl) ?_
  intro a97 ha97; clear ha96 a96
  refine wl_callS ha97 rfl rfl rfl (op_call ha97 rfl cb75 rfl) (c_spec_l01Next _ g8 w0.heap.size (100 : Int) hS43) ?_
  rintro v98 w99 he100 ⟨hS101, ⟨q102, hq103, hq104, hq105, rfl⟩⟩ a106 ha106; clear ha97 a97
  have hx107 := hx49.stp he100 (by intro q hq; cases hq; exact (by omega))
  have hzhx107 := he100.size
  first | replace ho22 := ho22.stp he100 (by intro q hq; cases hq; omega) | replace ho22 := ho22.stpF flat_shCustN he100 (by intro q hq; cases hq; exact ho22.ne_box (by assumption) rfl)
  first | replace hN24 := hN24.stp he100 (by intro q hq; cases hq; omega) | replace hN24 := hN24.stpB flat_shStr he100 (by assumption) rfl
  clear hS43
  have hSlhS101 := hS101.lt
  refine wl_eff ha106 rfl rfl rfl (op_buildSlice (s := shI64) (xs := [(q102 : Int), (0 : Int), (100000 : Int), (100001 : Int), (-1 : Int)]) (cs := [.int .i64 (q102 : Int), .int .i64 (0 : Int), .int .i64 (100000 : Int), .int .i64 (100001 : Int), .int .i64 (-1 : Int)]) (vs := [(0, .int .i64 (q102 : Int)), (1, .int .i64 (0 : Int)), (2, .int .i64 (100000 : Int)), (3, .int .i64 (100001 : Int)), (4, .int .i64 (-1 : Int))]) (S := fun _ => False) (le := w99.heap.size) ha106 rfl pos_shI64 Try.underlying69 ti2 rfl rfl (by decide) (by kernel_rfl) ⟨mk_shI64 ((q102 : Int)) (by first | assumption | omega | (constructor <;> omega) | (dsimp only; omega) | (simp; done) | (simp; omega)), mk_shI64 ((0 : Int)) (by first | assumption | omega | (constructor <;> omega) | (dsimp only; omega) | (simp; done) | (simp; omega)), mk_shI64 ((100000 : Int)) (by first | assumption | omega | (constructor <;> omega) | (dsimp only; omega) | (simp; done) | (simp; omega)), mk_shI64 ((100001 : Int)) (by first | assumption | omega | (constructor <;> omega) | (dsimp only; omega) | (simp; done) | (simp; omega)), mk_shI64 ((-1 : Int)) (by first | assumption | omega | (constructor <;> omega) | (dsimp only; omega) | (simp; done) | (simp; omega)), rfl⟩ (fun _ h => h.elim)) ?_
  rintro v108 w109 ⟨ho110, he111, hob112⟩ a113 ha113; clear ha106 a106
  have hx114 := hx107.trans' he111
  have hzhx114 := he111.size
  replace ho22 := ho22.ext he111
  replace hN24 := hN24.ext he111
  replace hS101 := hS101.ext he111
  refine wl_callS ha113 rfl rfl rfl (op_call ha113 rfl cb77 rfl) (c_spec_l01Pick _ g8 w0.heap.size v108 ([(q102 : Int), (0 : Int), (100000 : Int), (100001 : Int), (-1 : Int)]) hS101 (ho110.rds pos_shI64) (by rintro ⟨_, _⟩; omega) (by first | assumption | omega | (constructor <;> omega) | (dsimp only; omega) | (simp; done) | (simp; omega))) ?_
  rintro v115 w116 he117 ⟨hS118, ⟨q119, hq120, rfl⟩⟩ a121 ha121; clear ha113 a113
  have hx122 := hx114.stp he117 (by intro q hq; cases hq; exact (by omega))
  have hzhx122 := he117.size
  first | replace ho22 := ho22.stp he117 (by intro q hq; cases hq; omega) | replace ho22 := ho22.stpF flat_shCustN he117 (by intro q hq; cases hq; exact ho22.ne_box (by assumption) rfl)
  first | replace hN24 := hN24.stp he117 (by intro q hq; cases hq; omega) | replace hN24 := hN24.stpB flat_shStr he117 (by assumption) rfl
  first | replace ho110 := ho110.stp he117 (by intro q hq; cases hq; omega) | replace ho110 := ho110.stpF flat_shI64 he117 (by intro q hq; cases hq; exact ho110.ne_box (by assumption) rfl)
  clear hS101
  have hSlhS118 := hS118.lt
  simp only [List.mem_cons, List.not_mem_nil, or_false] at hq120
  refine wl_val ha121 rfl rfl rfl (op_assign ha121 rfl rfl) ?_
  intro a123 ha123; clear ha121 a121
  refine wl_val ha123 rfl rfl rfl (op_assign ha123 rfl rfl) ?_
  intro a124 ha124; clear ha123 a123
  refine wl_val ha124 rfl rfl rfl (op_assign ha124 rfl rfl) ?_
  intro a125 ha125; clear ha124 a124
  refine wpList_nil ?_
  refine then_n ?_
  refine wp_ret ?_
  refine ret3 ha125 rfl rfl rfl rfl ?_
  clear ha125 a125
  refine ret_mk hx122 ?_
  refine ⟨(((q19)) : List Cust), ((q34) : Str), (q119 : Int), (by first | assumption | omega | (constructor <;> omega) | (simp; done) | (simp; omega)), (by first | assumption | omega | (constructor <;> omega) | (simp; done) | (simp; omega)), (by first | assumption | omega | (constructor <;> omega) | (simp; done) | (simp; omega)), (by first | assumption | omega | (constructor <;> omega) | (simp; done) | (simp; omega)), ?_⟩
  refine ⟨v15, z23, (tup3_eq rfl (congrArg St (by rfl)) (int_eq (by rfl))), ho22.fin (by omega) (by omega) (by omega), hN24.fin (by omega) (by omega), ?_⟩
  ·
   exact hE25

set_option maxHeartbeats 8000000 in
theorem c_spec_DrawGiveBike (w0 : World) (v_code : Value) (code : List UInt8) {S_code : Nat → Prop} (h_code : Rds shU8 S_code w0 v_code code) :
  Calls Try.prog 50 #[v_code] w0 (Ret w0 (fun v w1 => ∃ (l : List Cust) (n : Str) (b : Str), (l.length ≤ 22) ∧ (∀ c ∈ l, c.2.2.length ≤ 10) ∧ (n.length ≤ 9223372036854775807) ∧ (b.length ≤ 9223372036854775807) ∧ (fun v w1 => ∃ r0 z0, v = .tuple #[r0, St (n), St (b)] ∧ Own shCustN 55 w0.heap.size w0.heap.size w1.heap.size w1 r0 z0 ∧ Nst shStr 9 (fun x : Str × Int × List Str => x.2.2) w0.heap.size w1.heap.size w1 z0 ∧ z0.map (·.1) = (l)) v w1)) := by
 refine enter (N := 39) Try.func50 rfl rfl rfl ?_
 intro a0 ha0
 have hx0 := Ext.rfl' w0
 have hl_code := h_code.length_le
 refine wp_seq ?_
 refine wp_region_lit ?_
 refine wl_val ha0 rfl rfl rfl (op_assign ha0 rfl rfl) ?_
 intro a1 ha1; clear ha0 a0
 refine wl_val ha1 rfl rfl rfl (op_assign ha1 rfl rfl) ?_
 intro a2 ha2; clear ha1 a1
 refine wl_val ha2 rfl rfl rfl (op_assign ha2 rfl rfl) ?_
 intro a3 ha3; clear ha2 a2
 refine wpList_nil ?_
 refine then_n ?_
 refine wp_seq ?_
 refine wp_region_lit ?_
 refine wl_val ha3 rfl rfl rfl (op_move ha3 rfl rfl) ?_
 intro a4 ha4; clear ha3 a3
 refine wl_callR ha4 rfl rfl rfl (op_call ha4 rfl cb72 rfl) (c_spec_l01From _ v_code code (h_code.low pos_shU8 hx0 (Nat.le_refl _)) (by omega)) ?_
 rintro v5 w6 he7 ⟨g8, rfl, hg9, hS10⟩ a11 ha11; clear ha4 a4
 have hx12 := hx0.trans' he7
 have hzhx12 := he7.size
 have hSlhS10 := hS10.lt
 refine wl_val ha11 rfl rfl rfl (op_assign ha11 rfl rfl) ?_
 intro a13 ha13; clear ha11 a11
 refine wpList_nil ?_
 refine then_n ?_
 refine wp_seq ?_
 refine wp_region_lit ?_
 refine wl_val ha13 rfl rfl rfl (op_move ha13 rfl rfl) ?_
 intro a14 ha14; clear ha13 a13
 refine wl_callS ha14 rfl rfl rfl (op_call ha14 rfl cb73 rfl) (c_spec_l30Draw _ g8 w0.heap.size hS10) ?_
 rintro v15 w16 he17 ⟨hS18, ⟨q19, hq20, hq21, ⟨z23, ho22, hN24, hE25⟩⟩⟩ a26 ha26; clear ha14 a14
 have hx27 := hx12.stp he17 (by intro q hq; cases hq; exact (by omega))
 have hzhx27 := he17.size
 clear hS10
 have hSlhS18 := hS18.lt
 have hlhE25 := absLen hE25
 refine wl_val ha26 rfl rfl rfl (op_assign ha26 rfl rfl) ?_
 intro a28 ha28; clear ha26 a26
 refine wpList_nil ?_
 refine then_n ?_
 refine wp_seq ?_
 refine wp_region_lit ?_
 refine wl_val ha28 rfl rfl rfl (op_move ha28 rfl rfl) ?_
 intro a29 ha29; clear ha28 a28
 refine wl_callS ha29 rfl rfl rfl (op_call ha29 rfl cb78 rfl) (c_spec_l30Bike _ g8 w0.heap.size hS18) ?_
 rintro v30 w31 he32 ⟨hS33, ⟨q34, hq35, rfl⟩⟩ a36 ha36; clear ha29 a29
 have hx37 := hx27.stp he32 (by intro q hq; cases hq; exact (by omega))
 have hzhx37 := he32.size
 first | replace ho22 := ho22.stp he32 (by intro q hq; cases hq; omega) | replace ho22 := ho22.stpF flat_shCustN he32 (by intro q hq; cases hq; exact ho22.ne_box (by assumption) rfl)
 first | replace hN24 := hN24.stp he32 (by intro q hq; cases hq; omega) | replace hN24 := hN24.stpB flat_shStr he32 (by assumption) rfl
 clear hS18
 have hSlhS33 := hS33.lt
 refine wl_val ha36 rfl rfl rfl (op_assign ha36 rfl rfl) ?_
 intro a38 ha38; clear ha36 a36
 refine wpList_nil ?_
 refine then_n ?_
 refine wp_seq ?_
 refine wp_seq ?_
 refine wp_region_lit ?_
 refine wl_val ha38 rfl rfl rfl (op_move ha38 rfl rfl) ?_
 intro a39 ha39; clear ha38 a38
 refine wl_callS ha39 rfl rfl rfl (op_call ha39 rfl cb75 rfl) (c_spec_l01Next _ g8 w0.heap.size (3 : Int) hS33) ?_
 rintro v40 w41 he42 ⟨hS43, ⟨q44, hq45, hq46, hq47, rfl⟩⟩ a48 ha48; clear ha39 a39
 have hx49 := hx37.stp he42 (by intro q hq; cases hq; exact (by omega))
 have hzhx49 := he42.size
 first | replace ho22 := ho22.stp he42 (by intro q hq; cases hq; omega) | replace ho22 := ho22.stpF flat_shCustN he42 (by intro q hq; cases hq; exact ho22.ne_box (by assumption) rfl)
 first | replace hN24 := hN24.stp he42 (by intro q hq; cases hq; omega) | replace hN24 := hN24.stpB flat_shStr he42 (by assumption) rfl
 clear hS33
 have hSlhS43 := hS43.lt
 refine wl_val ha48 rfl rfl rfl (op_eql ha48 rfl rfl rfl) ?_
 intro a50 ha50; clear ha48 a48
 refine wpList_nil ?_
 refine then_n ?_
 by_cases c51 : (q44 : Int) = (0 : Int)
 ·
  rw [decide_eq_true c51] at ha50
  refine cond_t ha50 rfl ?_
  refine wp_region_lit ?_
  refine wl_val ha50 rfl rfl rfl (op_assign ha50 rfl rfl) ?_
  intro a52 ha52; clear ha50 a50
  refine wpList_nil ?_
  refine then_n ?_
  refine wp_seq ?_
  refine wp_seq ?_
  refine wp_region_lit ?_
  refine wl_val ha52 rfl rfl rfl (op_move ha52 rfl rfl) ?_
  intro a53 ha53; clear ha52 a52
  refine wl_val ha53 rfl rfl rfl (op_len_sl ha53 rfl Try.underlying25 rfl (ho22.rds pos_shCustN)) ?_
  intro a54 ha54; clear ha53 a53
  refine wl_val ha54 rfl rfl rfl (op_gtr ha54 rfl rfl rfl) ?_
  intro a55 ha55; clear ha54 a54
  refine wl_val ha55 rfl rfl rfl (op_move ha55 rfl rfl) ?_
  intro a56 ha56; clear ha55 a55
  by_cases c57 : (0 : Int) < ((z23.length : Nat) : Int)
  ·
   rw [decide_eq_true c57] at ha56
   refine wl_val ha56 rfl rfl rfl (op_move ha56 rfl rfl) ?_
   intro a58 ha58; clear ha56 a56
   refine wl_callS ha58 rfl rfl rfl (op_call ha58 rfl cb75 rfl) (c_spec_l01Next _ g8 w0.heap.size (6 : Int) hS43) ?_
   rintro v59 w60 he61 ⟨hS62, ⟨q63, hq64, hq65, hq66, rfl⟩⟩ a67 ha67; clear ha58 a58
   have hx68 := hx49.stp he61 (by intro q hq; cases hq; exact (by omega))
   have hzhx68 := he61.size
   first | replace ho22 := ho22.stp he61 (by intro q hq; cases hq; omega) | replace ho22 := ho22.stpF flat_shCustN he61 (by intro q hq; cases hq; exact ho22.ne_box (by assumption) rfl)
   first | replace hN24 := hN24.stp he61 (by intro q hq; cases hq; omega) | replace hN24 := hN24.stpB flat_shStr he61 (by assumption) rfl
   clear hS43
   have hSlhS62 := hS62.lt
   refine wl_val ha67 rfl rfl rfl (op_gtr ha67 rfl rfl rfl) ?_
   intro a69 ha69; clear ha67 a67
   refine wl_val ha69 rfl rfl rfl (op_pick_t ha69 rfl rfl rfl) ?_
   intro a70 ha70; clear ha69 a69
   refine wpList_nil ?_
   refine then_n ?_
   by_cases c71 : (0 : Int) < (q63 : Int)
   ·
    rw [decide_eq_true c71] at ha70
    refine cond_t ha70 rfl ?_
    refine wp_seq ?_
    refine dr_enter (fun wa_ wb_ => Stp wa_ wb_ (some g8)) follows_mixed ?_
    intro w72 he73
    have hx74 := hx68.trans' he73
    have hzhx74 := he73.size
    replace ho22 := ho22.ext he73
    replace hN24 := hN24.ext he73
    replace hS62 := hS62.ext he73
    have hs75 : Ext w72 w72 := Ext.rfl' _
    refine dr_val (i := 0) ha70 rfl (by kernel_rfl) (by kernel_rfl) (by kernel_rfl) rfl rfl rfl (Stp.of_ext hs75 _) (fun w' hw' => op_move ha70 rfl rfl) ?_
    intro a76 ha76; clear ha70 a70
    refine dr_val (i := 1) ha76 rfl (by kernel_rfl) (by kernel_rfl) (by kernel_rfl) rfl rfl rfl (Stp.of_ext hs75 _) (fun w' hw' => op_move ha76 rfl rfl) ?_
    intro a77 ha77; clear ha76 a76
    refine dr_val (i := 2) ha77 rfl (by kernel_rfl) (by kernel_rfl) (by kernel_rfl) rfl rfl rfl (Stp.of_ext hs75 _) (fun w' hw' => op_move ha77 rfl rfl) ?_
    intro a78 ha78; clear ha77 a77
    refine dr_val (i := 3) ha78 rfl (by kernel_rfl) (by kernel_rfl) (by kernel_rfl) rfl rfl rfl (Stp.of_ext hs75 _) (fun w' hw' => op_move ha78 rfl rfl) ?_
    intro a79 ha79; clear ha78 a78
    refine dr_val (i := 4) ha79 rfl (by kernel_rfl) (by kernel_rfl) (by kernel_rfl) rfl rfl rfl (Stp.of_ext hs75 _) (fun w' hw' => op_len_sl ha79 rfl Try.underlying25 rfl (ho22.rds pos_shCustN)) ?_
    intro a80 ha80; clear ha79 a79
    refine dr_val (i := 9) ha80 rfl (by kernel_rfl) (by kernel_rfl) (by kernel_rfl) rfl rfl rfl (Stp.of_ext hs75 _) (fun w' hw' => op_move ha80 rfl rfl) ?_
    intro a81 ha81; clear ha80 a80
    refine dr_one (i := 5) (by kernel_rfl) ?_
    refine po_callS ha81 rfl rfl rfl rfl (op_call ha81 rfl cb75 rfl) (c_spec_l01Next _ g8 w0.heap.size ((z23.length : Nat) : Int) hS62) ?_
    rintro v82 w83 he84 ⟨hS85, ⟨q86, hq87, hq88, hq89, rfl⟩⟩ a90 ha90; clear ha81 a81
    have hx91 := hx74.stp he84 (by intro q hq; cases hq; exact (by omega))
    have hzhx91 := he84.size
    first | replace ho22 := ho22.stp he84 (by intro q hq; cases hq; omega) | replace ho22 := ho22.stpF flat_shCustN he84 (by intro q hq; cases hq; exact ho22.ne_box (by assumption) rfl)
    first | replace hN24 := hN24.stp he84 (by intro q hq; cases hq; omega) | replace hN24 := hN24.stpB flat_shStr he84 (by assumption) rfl
    clear hS62
    have hSlhS85 := hS85.lt
    have hs92 := (Stp.of_ext hs75 (some g8)).trans' he84
    refine ⟨hs92, ?_⟩
    refine dr_narrow (S' := fun w' => Stp w83 w' _) (fun w' h' => hs92.trans' h') _ _ _ _ ?_
    have hs93 : Ext w83 w83 := Ext.rfl' _
    obtain ⟨x94, hx94⟩ := get_ex (xs := z23) (j := ((q86 : Int)).toNat) (by first | omega | (simp only [List.length_cons, List.length_nil]; omega))
    obtain ⟨p95, c96, hi97, hc98, hr99, hs100⟩ := Rds.at_ (ho22.rds pos_shCustN) hx94
    obtain ⟨rfl, b101, b102, b103⟩ := inv_shCustN hr99
    have hn104 : Own shStr 9 w6.heap.size w6.heap.size w16.heap.size w83 x94.2 x94.1.2.2 := hN24.get hx94
    obtain ⟨_, _⟩ : _ ∧ _ := hs100
    refine dr_val (i := 6) ha90 rfl (by kernel_rfl) (by kernel_rfl) (by kernel_rfl) rfl rfl rfl (Stp.of_ext hs93 _) (fun w' hw' => op_indexAddr ha90 rfl Try.underlying25 ti55 rfl rfl (by omega) hi97) ?_
    intro a105 ha105; clear ha90 a90
    refine dr_val (i := 7) ha105 rfl (by kernel_rfl) (by kernel_rfl) (by kernel_rfl) rfl rfl rfl (Stp.of_ext hs93 _) (fun w' hw' => op_fieldAddr (sz := 0) ha105 rfl Try.underlying55 rfl rfl ti9 rfl) ?_
    intro a106 ha106; clear ha105 a105
    refine dr_val (i := 8) ha106 rfl (by kernel_rfl) (by kernel_rfl) (by kernel_rfl) rfl rfl rfl (Stp.of_ext hs93 _) (fun w' hw' => op_loadF (off := 0) ha106 rfl Try.underlying9 rfl rfl (hc98.stp hw' (by intro q hq; cases hq; omega)) rfl) ?_
    intro a107 ha107; clear ha106 a106
    refine dr_val (i := 10) ha107 rfl (by kernel_rfl) (by kernel_rfl) (by kernel_rfl) rfl rfl rfl (Stp.of_ext hs93 _) (fun w' hw' => op_assign ha107 rfl rfl) ?_
    intro a108 ha108; clear ha107 a107
    refine dr_val (i := 11) ha108 rfl (by kernel_rfl) (by kernel_rfl) (by kernel_rfl) rfl rfl rfl (Stp.of_ext hs93 _) (fun w' hw' => op_assign ha108 rfl rfl) ?_
    intro a109 ha109; clear ha108 a108
    refine dr_val (i := 12) ha109 rfl (by kernel_rfl) (by kernel_rfl) (by kernel_rfl) rfl rfl rfl (Stp.of_ext hs93 _) (fun w' hw' => op_assign ha109 rfl rfl) ?_
    intro a110 ha110; clear ha109 a109
    refine dr_end (by kernel_rfl) ?_
    refine then_n ?_
    refine wp_ret ?_
    refine then_r ?_
    refine ret3 ha110 rfl rfl rfl rfl ?_
    clear ha110 a110
    refine ret_mk hx91 ?_
    refine ⟨(((q19)) : List Cust), (x94.1.1 : Str), (([110, 101, 119] : Str) : Str), (by first | assumption | omega | (constructor <;> omega) | (simp; done) | (simp; omega)), (by first | assumption | omega | (constructor <;> omega) | (simp; done) | (simp; omega)), (by first | assumption | omega | (constructor <;> omega) | (simp; done) | (simp; omega)), (by first | assumption | omega | (constructor <;> omega) | (simp; done) | (simp; omega)), ?_⟩
    refine ⟨v15, z23, (tup3_eq rfl (congrArg St (by rfl)) (congrArg St (by rfl))), ho22.fin (by omega) (by omega) (by omega), hN24.fin (by omega) (by omega), ?_⟩
    ·
     exact hE25
   ·
    rw [decide_eq_false c71] at ha70
    refine cond_f ha70 rfl ?_
    refine wp_skip ?_
    refine then_n ?_
    refine wp_seq ?_
    refine wp_region_lit ?_
    refine wl_val ha70 rfl rfl rfl (op_move ha70 rfl rfl) ?_
    intro a111 ha111; clear ha70 a70
    refine wl_val ha111 rfl rfl rfl (op_move ha111 rfl rfl) ?_
    intro a112 ha112; clear ha111 a111
    refine wl_callS ha112 rfl rfl rfl (op_call ha112 rfl cb74 rfl) (c_spec_l30Name _ g8 w0.heap.size hS62) ?_
    rintro v113 w114 he115 ⟨hS116, ⟨q117, hq118, rfl⟩⟩ a119 ha119; clear ha112 a112
    have hx120 := hx68.stp he115 (by intro q hq; cases hq; exact (by omega))
    have hzhx120 := he115.size
    first | replace ho22 := ho22.stp he115 (by intro q hq; cases hq; omega) | replace ho22 := ho22.stpF flat_shCustN he115 (by intro q hq; cases hq; exact ho22.ne_box (by assumption) rfl)
    first | replace hN24 := hN24.stp he115 (by intro q hq; cases hq; omega) | replace hN24 := hN24.stpB flat_shStr he115 (by assumption) rfl
    clear hS62
    have hSlhS116 := hS116.lt
    refine wl_val ha119 rfl rfl rfl (op_move ha119 rfl rfl) ?_
    intro a121 ha121; clear ha119 a119
    refine wl_val ha121 rfl rfl rfl (op_assign ha121 rfl rfl) ?_
    intro a122 ha122; clear ha121 a121
    refine wl_val ha122 rfl rfl rfl (op_assign ha122 rfl rfl) ?_
    intro a123 ha123; clear ha122 a122
    refine wl_val ha123 rfl rfl rfl (op_assign ha123 rfl rfl) ?_
    intro a124 ha124; clear ha123 a123
    refine wpList_nil ?_
    refine then_n ?_
    refine wp_ret ?_
    refine ret3 ha124 rfl rfl rfl rfl ?_
    clear ha124 a124
    refine ret_mk hx120 ?_
    refine ⟨(((q19)) : List Cust), ((q117) : Str), (([110, 101, 119] : Str) : Str), (by first | assumption | omega | (constructor <;> omega) | (simp; done) | (simp; omega)), (by first | assumption | omega | (constructor <;> omega) | (simp; done) | (simp; omega)), (by first | assumption | omega | (constructor <;> omega) | (simp; done) | (simp; omega)), (by first | assumption | omega | (constructor <;> omega) | (simp; done) | (simp; omega)), ?_⟩
    refine ⟨v15, z23, (tup3_eq rfl (congrArg St (by rfl)) (congrArg St (by rfl))), ho22.fin (by omega) (by omega) (by omega), hN24.fin (by omega) (by omega), ?_⟩
    ·
     exact hE25
  ·
   rw [decide_eq_false c57] at ha56
   refine wl_skip ha56 rfl rfl rfl ?_
   intro a125 ha125; clear ha56 a56
   refine wl_skip ha125 rfl rfl rfl ?_
   intro a126 ha126; clear ha125 a125
   refine wl_skip ha126 rfl rfl rfl ?_
   intro a127 ha127; clear ha126 a126
   refine wl_val ha127 rfl rfl rfl (op_pick_f ha127 rfl rfl rfl) ?_
   intro a128 ha128; clear ha127 a127
   refine wpList_nil ?_
   refine then_n ?_
   refine cond_f ha128 rfl ?_
   refine wp_skip ?_
   refine then_n ?_
   refine wp_seq ?_
   refine wp_region_lit ?_
   refine wl_val ha128 rfl rfl rfl (op_move ha128 rfl rfl) ?_
   intro a129 ha129; clear ha128 a128
   refine wl_val ha129 rfl rfl rfl (op_move ha129 rfl rfl) ?_
   intro a130 ha130; clear ha129 a129
   refine wl_callS ha130 rfl rfl rfl (op_call ha130 rfl cb74 rfl) (c_spec_l30Name _ g8 w0.heap.size hS43) ?_
   rintro v131 w132 he133 ⟨hS134, ⟨q135, hq136, rfl⟩⟩ a137 ha137; clear ha130 a130
   have hx138 := hx49.stp he133 (by intro q hq; cases hq; exact (by omega))
   have hzhx138 := he133.size
   first | replace ho22 := ho22.stp he133 (by intro q hq; cases hq; omega) | replace ho22 := ho22.stpF flat_shCustN he133 (by intro q hq; cases hq; exact ho22.ne_box (by assumption) rfl)
   first | replace hN24 := hN24.stp he133 (by intro q hq; cases hq; omega) | replace hN24 := hN24.stpB flat_shStr he133 (by assumption) rfl
   clear hS43
   have hSlhS134 := hS134.lt
   refine wl_val ha137 rfl rfl rfl (op_move ha137 rfl rfl) ?_
   intro a139 ha139; clear ha137 a137
   refine wl_val ha139 rfl rfl rfl (op_assign ha139 rfl rfl) ?_
   intro a140 ha140; clear ha139 a139
   refine wl_val ha140 rfl rfl rfl (op_assign ha140 rfl rfl) ?_
   intro a141 ha141; clear ha140 a140
   refine wl_val ha141 rfl rfl rfl (op_assign ha141 rfl rfl) ?_
   intro a142 ha142; clear ha141 a141
   refine wpList_nil ?_
   refine then_n ?_
   refine wp_ret ?_
   refine ret3 ha142 rfl rfl rfl rfl ?_
   clear ha142 a142
   refine ret_mk hx138 ?_
   refine ⟨(((q19)) : List Cust), ((q135) : Str), (([110, 101, 119] : Str) : Str), (by first | assumption | omega | (constructor <;> omega) | (simp; done) | (simp; omega)), (by first | assumption | omega | (constructor <;> omega) | (simp; done) | (simp; omega)), (by first | assumption | omega | (constructor <;> omega) | (simp; done) | (simp; omega)), (by first | assumption | omega | (constructor <;> omega) | (simp; done) | (simp; omega)), ?_⟩
   refine ⟨v15, z23, (tup3_eq rfl (congrArg St (by rfl)) (congrArg St (by rfl))), ho22.fin (by omega) (by omega) (by omega), hN24.fin (by omega) (by omega), ?_⟩
   ·
    exact hE25
 ·
  rw [decide_eq_false c51] at ha50
  refine cond_f ha50 rfl ?_
  refine wp_skip ?_
  refine then_n ?_
  refine wp_seq ?_
  refine wp_seq ?_
  refine wp_region_lit ?_
  refine wl_val ha50 rfl rfl rfl (op_move ha50 rfl rfl) ?_
  intro a143 ha143; clear ha50 a50
  refine wl_val ha143 rfl rfl rfl (op_len_sl ha143 rfl Try.underlying25 rfl (ho22.rds pos_shCustN)) ?_
  intro a144 ha144; clear ha143 a143
  refine wl_val ha144 rfl rfl rfl (op_gtr ha144 rfl rfl rfl) ?_
  intro a145 ha145; clear ha144 a144
  refine wl_val ha145 rfl rfl rfl (op_move ha145 rfl rfl) ?_
  intro a146 ha146; clear ha145 a145
  by_cases c147 : (0 : Int) < ((z23.length : Nat) : Int)
  ·
   rw [decide_eq_true c147] at ha146
   refine wl_val ha146 rfl rfl rfl (op_move ha146 rfl rfl) ?_
   intro a148 ha148; clear ha146 a146
   refine wl_callS ha148 rfl rfl rfl (op_call ha148 rfl cb75 rfl) (c_spec_l01Next _ g8 w0.heap.size (6 : Int) hS43) ?_
   rintro v149 w150 he151 ⟨hS152, ⟨q153, hq154, hq155, hq156, rfl⟩⟩ a157 ha157; clear ha148 a148
   have hx158 := hx49.stp he151 (by intro q hq; cases hq; exact (by omega))
   have hzhx158 := he151.size
   first | replace ho22 := ho22.stp he151 (by intro q hq; cases hq; omega) | replace ho22 := ho22.stpF flat_shCustN he151 (by intro q hq; cases hq; exact ho22.ne_box (by assumption) rfl)
   first | replace hN24 := hN24.stp he151 (by intro q hq; cases hq; omega) | replace hN24 := hN24.stpB flat_shStr he151 (by assumption) rfl
   clear hS43
   have hSlhS152 := hS152.lt
   refine wl_val ha157 rfl rfl rfl (op_gtr ha157 rfl rfl rfl) ?_
   intro a159 ha159; clear ha157 a157
   refine wl_val ha159 rfl rfl rfl (op_pick_t ha159 rfl rfl rfl) ?_
   intro a160 ha160; clear ha159 a159
   refine wpList_nil ?_
   refine then_n ?_
   by_cases c161 : (0 : Int) < (q153 : Int)
   ·
    rw [decide_eq_true c161] at ha160
    refine cond_t ha160 rfl ?_
    refine wp_seq ?_
    refine dr_enter (fun wa_ wb_ => Stp wa_ wb_ (some g8)) follows_mixed ?_
    intro w162 he163
    have hx164 := hx158.trans' he163
    have hzhx164 := he163.size
    replace ho22 := ho22.ext he163
    replace hN24 := hN24.ext he163
    replace hS152 := hS152.ext he163
    have hs165 : Ext w162 w162 := Ext.rfl' _
    refine dr_val (i := 0) ha160 rfl (by kernel_rfl) (by kernel_rfl) (by kernel_rfl) rfl rfl rfl (Stp.of_ext hs165 _) (fun w' hw' => op_move ha160 rfl rfl) ?_
    intro a166 ha166; clear ha160 a160
    refine dr_val (i := 1) ha166 rfl (by kernel_rfl) (by kernel_rfl) (by kernel_rfl) rfl rfl rfl (Stp.of_ext hs165 _) (fun w' hw' => op_move ha166 rfl rfl) ?_
    intro a167 ha167; clear ha166 a166
    refine dr_val (i := 2) ha167 rfl (by kernel_rfl) (by kernel_rfl) (by kernel_rfl) rfl rfl rfl (Stp.of_ext hs165 _) (fun w' hw' => op_move ha167 rfl rfl) ?_
    intro a168 ha168; clear ha167 a167
    refine dr_val (i := 3) ha168 rfl (by kernel_rfl) (by kernel_rfl) (by kernel_rfl) rfl rfl rfl (Stp.of_ext hs165 _) (fun w' hw' => op_move ha168 rfl rfl) ?_
    intro a169 ha169; clear ha168 a168
    refine dr_val (i := 4) ha169 rfl (by kernel_rfl) (by kernel_rfl) (by kernel_rfl) rfl rfl rfl (Stp.of_ext hs165 _) (fun w' hw' => op_len_sl ha169 rfl Try.underlying25 rfl (ho22.rds pos_shCustN)) ?_
    intro a170 ha170; clear ha169 a169
    refine dr_val (i := 9) ha170 rfl (by kernel_rfl) (by kernel_rfl) (by kernel_rfl) rfl rfl rfl (Stp.of_ext hs165 _) (fun w' hw' => op_move ha170 rfl rfl) ?_
    intro a171 ha171; clear ha170 a170
    refine dr_one (i := 5) (by kernel_rfl) ?_
    refine po_callS ha171 rfl rfl rfl rfl (op_call ha171 rfl cb75 rfl) (c_spec_l01Next _ g8 w0.heap.size ((z23.length : Nat) : Int) hS152) ?_
    rintro v172 w173 he174 ⟨hS175, ⟨q176, hq177, hq178, hq179, rfl⟩⟩ a180 ha180; clear ha171 a171
    have hx181 := hx164.stp he174 (by intro q hq; cases hq; exact (by omega))
    have hzhx181 := he174.size
    first | replace ho22 := ho22.stp he174 (by intro q hq; cases hq; omega) | replace ho22 := ho22.stpF flat_shCustN he174 (by intro q hq; cases hq; exact ho22.ne_box (by assumption) rfl)
    first | replace hN24 := hN24.stp he174 (by intro q hq; cases hq; omega) | replace hN24 := hN24.stpB flat_shStr he174 (by assumption) rfl
    clear hS152
    have hSlhS175 := hS175.lt
    have hs182 := (Stp.of_ext hs165 (some g8)).trans' he174
    refine ⟨hs182, ?_⟩
    refine dr_narrow (S' := fun w' => Stp w173 w' _) (fun w' h' => hs182.trans' h') _ _ _ _ ?_
    have hs183 : Ext w173 w173 := Ext.rfl' _
    obtain ⟨x184, hx184⟩ := get_ex (xs := z23) (j := ((q176 : Int)).toNat) (by first | omega | (simp only [List.length_cons, List.length_nil]; omega))
    obtain ⟨p185, c186, hi187, hc188, hr189, hs190⟩ := Rds.at_ (ho22.rds pos_shCustN) hx184
    obtain ⟨rfl, b191, b192, b193⟩ := inv_shCustN hr189
    have hn194 : Own shStr 9 w6.heap.size w6.heap.size w16.heap.size w173 x184.2 x184.1.2.2 := hN24.get hx184
    obtain ⟨_, _⟩ : _ ∧ _ := hs190
    refine dr_val (i := 6) ha180 rfl (by kernel_rfl) (by kernel_rfl) (by kernel_rfl) rfl rfl rfl (Stp.of_ext hs183 _) (fun w' hw' => op_indexAddr ha180 rfl Try.underlying25 ti55 rfl rfl (by omega) hi187) ?_
    intro a195 ha195; clear ha180 a180
    refine dr_val (i := 7) ha195 rfl (by kernel_rfl) (by kernel_rfl) (by kernel_rfl) rfl rfl rfl (Stp.of_ext hs183 _) (fun w' hw' => op_fieldAddr (sz := 0) ha195 rfl Try.underlying55 rfl rfl ti9 rfl) ?_
    intro a196 ha196; clear ha195 a195
    refine dr_val (i := 8) ha196 rfl (by kernel_rfl) (by kernel_rfl) (by kernel_rfl) rfl rfl rfl (Stp.of_ext hs183 _) (fun w' hw' => op_loadF (off := 0) ha196 rfl Try.underlying9 rfl rfl (hc188.stp hw' (by intro q hq; cases hq; omega)) rfl) ?_
    intro a197 ha197; clear ha196 a196
    refine dr_val (i := 10) ha197 rfl (by kernel_rfl) (by kernel_rfl) (by kernel_rfl) rfl rfl rfl (Stp.of_ext hs183 _) (fun w' hw' => op_assign ha197 rfl rfl) ?_
    intro a198 ha198; clear ha197 a197
    refine dr_val (i := 11) ha198 rfl (by kernel_rfl) (by kernel_rfl) (by kernel_rfl) rfl rfl rfl (Stp.of_ext hs183 _) (fun w' hw' => op_assign ha198 rfl rfl) ?_
    intro a199 ha199; clear ha198 a198
    refine dr_val (i := 12) ha199 rfl (by kernel_rfl) (by kernel_rfl) (by kernel_rfl) rfl rfl rfl (Stp.of_ext hs183 _) (fun w' hw' => op_assign ha199 rfl rfl) ?_
    intro a200 ha200; clear ha199 a199
    refine dr_end (by kernel_rfl) ?_
    refine then_n ?_
    refine wp_ret ?_
    refine then_r ?_
    refine ret3 ha200 rfl rfl rfl rfl ?_
    clear ha200 a200
    refine ret_mk hx181 ?_
    refine ⟨(((q19)) : List Cust), (x184.1.1 : Str), ((q34) : Str), (by first | assumption | omega | (constructor <;> omega) | (simp; done) | (simp; omega)), (by first | assumption | omega | (constructor <;> omega) | (simp; done) | (simp; omega)), (by first | assumption | omega | (constructor <;> omega) | (simp; done) | (simp; omega)), (by first | assumption | omega | (constructor <;> omega) | (simp; done) | (simp; omega)), ?_⟩
    refine ⟨v15, z23, (tup3_eq rfl (congrArg St (by rfl)) (congrArg St (by rfl))), ho22.fin (by omega) (by omega) (by omega), hN24.fin (by omega) (by omega), ?_⟩
    ·
     exact hE25
   ·
    rw [decide_eq_false c161] at ha160
    refine cond_f ha160 rfl ?_
    refine wp_skip ?_
    refine then_n ?_
    refine wp_seq ?_
    refine wp_region_lit ?_
    refine wl_val ha160 rfl rfl rfl (op_move ha160 rfl rfl) ?_
    intro a201 ha201; clear ha160 a160
    refine wl_val ha201 rfl rfl rfl (op_move ha201 rfl rfl) ?_
    intro a202 ha202; clear ha201 a201
    refine wl_callS ha202 rfl rfl rfl (op_call ha202 rfl cb74 rfl) (c_spec_l30Name _ g8 w0.heap.size hS152) ?_
    rintro v203 w204 he205 ⟨hS206, ⟨q207, hq208, rfl⟩⟩ a209 ha209; clear ha202 a202
    have hx210 := hx158.stp he205 (by intro q hq; cases hq; exact (by omega))
    have hzhx210 := he205.size
    first | replace ho22 := ho22.stp he205 (by intro q hq; cases hq; omega) | replace ho22 := ho22.stpF flat_shCustN he205 (by intro q hq; cases hq; exact ho22.ne_box (by assumption) rfl)
    first | replace hN24 := hN24.stp he205 (by intro q hq; cases hq; omega) | replace hN24 := hN24.stpB flat_shStr he205 (by assumption) rfl
    clear hS152
    have hSlhS206 := hS206.lt
    refine wl_val ha209 rfl rfl rfl (op_move ha209 rfl rfl) ?_
    intro a211 ha211; clear ha209 a209
    refine wl_val ha211 rfl rfl rfl (op_assign ha211 rfl rfl) ?_
    intro a212 ha212; clear ha211 a211
    refine wl_val ha212 rfl rfl rfl (op_assign ha212 rfl rfl) ?_
    intro a213 ha213; clear ha212 a212
    refine wl_val ha213 rfl rfl rfl (op_assign ha213 rfl rfl) ?_
    intro a214 ha214; clear ha213 a213
    refine wpList_nil ?_
    refine then_n ?_
    refine wp_ret ?_
    refine ret3 ha214 rfl rfl rfl rfl ?_
    clear ha214 a214
    refine ret_mk hx210 ?_
    refine ⟨(((q19)) : List Cust), ((q207) : Str), ((q34) : Str), (by first | assumption | omega | (constructor <;> omega) | (simp; done) | (simp; omega)), (by first | assumption | omega | (constructor <;> omega) | (simp; done) | (simp; omega)), (by first | assumption | omega | (constructor <;> omega) | (simp; done) | (simp; omega)), (by first | assumption | omega | (constructor <;> omega) | (simp; done) | (simp; omega)), ?_⟩
    refine ⟨v15, z23, (tup3_eq rfl (congrArg St (by rfl)) (congrArg St (by rfl))), ho22.fin (by omega) (by omega) (by omega), hN24.fin (by omega) (by omega), ?_⟩
    ·
     exact hE25
  ·
   rw [decide_eq_false c147] at ha146
   refine wl_skip ha146 rfl rfl rfl ?_
   intro a215 ha215; clear ha146 a146
   refine wl_skip ha215 rfl rfl rfl ?_
   intro a216 ha216; clear ha215 a215
   refine wl_skip ha216 rfl rfl rfl ?_
   intro a217 ha217; clear ha216 a216
   refine wl_val ha217 rfl rfl rfl (op_pick_f ha217 rfl rfl rfl) ?_
   intro a218 ha218; clear ha217 a217
   refine wpList_nil ?_
   refine then_n ?_
   refine cond_f ha218 rfl ?_
   refine wp_skip ?_
   refine then_n ?_
   refine wp_seq ?_
   refine wp_region_lit ?_
   refine wl_val ha218 rfl rfl rfl (op_move ha218 rfl rfl) ?_
   intro a219 ha219; clear ha218 a218
   refine wl_val ha219 rfl rfl rfl (op_move ha219 rfl rfl) ?_
   intro a220 ha220; clear ha219 a219
   refine wl_callS ha220 rfl rfl rfl (op_call ha220 rfl cb74 rfl) (c_spec_l30Name _ g8 w0.heap.size hS43) ?_
   rintro v221 w222 he223 ⟨hS224, ⟨q225, hq226, rfl⟩⟩ a227 ha227; clear ha220 a220
   have hx228 := hx49.stp he223 (by intro q hq; cases hq; exact (by omega))
   have hzhx228 := he223.size
   first | replace ho22 := ho22.stp he223 (by intro q hq; cases hq; omega) | replace ho22 := ho22.stpF flat_shCustN he223 (by intro q hq; cases hq; exact ho22.ne_box (by assumption) rfl)
   first | replace hN24 := hN24.stp he223 (by intro q hq; cases hq; omega) | replace hN24 := hN24.stpB flat_shStr he223 (by assumption) rfl
   clear hS43
   have hSlhS224 := hS224.lt
   refine wl_val ha227 rfl rfl rfl (op_move ha227 rfl rfl) ?_
   intro a229 ha229; clear ha227 a227
   refine wl_val ha229 rfl rfl rfl (op_assign ha229 rfl rfl) ?_
   intro a230 ha230; clear ha229 a229
   refine wl_val ha230 rfl rfl rfl (op_assign ha230 rfl rfl) ?_
   intro a231 ha231; clear ha230 a230
   refine wl_val ha231 rfl rfl rfl (op_assign ha231 rfl rfl) ?_
   intro a232 ha232; clear ha231 a231
   refine wpList_nil ?_
   refine then_n ?_
   refine wp_ret ?_
   refine ret3 ha232 rfl rfl rfl rfl ?_
   clear ha232 a232
   refine ret_mk hx228 ?_
   refine ⟨(((q19)) : List Cust), ((q225) : Str), ((q34) : Str), (by first | assumption | omega | (constructor <;> omega) | (simp; done) | (simp; omega)), (by first | assumption | omega | (constructor <;> omega) | (simp; done) | (simp; omega)), (by first | assumption | omega | (constructor <;> omega) | (simp; done) | (simp; omega)), (by first | assumption | omega | (constructor <;> omega) | (simp; done) | (simp; omega)), ?_⟩
   refine ⟨v15, z23, (tup3_eq rfl (congrArg St (by rfl)) (congrArg St (by rfl))), ho22.fin (by omega) (by omega) (by omega), hN24.fin (by omega) (by omega), ?_⟩
   ·
    exact hE25

set_option maxHeartbeats 8000000 in
theorem c_spec_DrawSellBike (w0 : World) (v_code : Value) (code : List UInt8) {S_code : Nat → Prop} (h_code : Rds shU8 S_code w0 v_code code) :
  Calls Try.prog 48 #[v_code] w0 (Ret w0 (fun v w1 => ∃ (l : List Cust) (n : Str) (b : Str), (l.length ≤ 22) ∧ (∀ c ∈ l, c.2.2.length ≤ 10) ∧ (n.length ≤ 9223372036854775807) ∧ (b.length ≤ 9223372036854775807) ∧ (fun v w1 => ∃ r0 z0, v = .tuple #[r0, St (n), St (b)] ∧ Own shCustN 55 w0.heap.size w0.heap.size w1.heap.size w1 r0 z0 ∧ Nst shStr 9 (fun x : Str × Int × List Str => x.2.2) w0.heap.size w1.heap.size w1 z0 ∧ z0.map (·.1) = (l)) v w1)) := by
 refine enter (N := 17) Try.func48 rfl rfl rfl ?_
 intro a0 ha0
 have hx0 := Ext.rfl' w0
 have hl_code := h_code.length_le
 refine wp_seq ?_
 refine wp_region_lit ?_
 refine wl_val ha0 rfl rfl rfl (op_assign ha0 rfl rfl) ?_
 intro a1 ha1; clear ha0 a0
 refine wl_val ha1 rfl rfl rfl (op_assign ha1 rfl rfl) ?_
 intro a2 ha2; clear ha1 a1
 refine wl_val ha2 rfl rfl rfl (op_assign ha2 rfl rfl) ?_
 intro a3 ha3; clear ha2 a2
 refine wpList_nil ?_
 refine then_n ?_
 refine wp_seq ?_
 refine wp_region_lit ?_
 refine wl_val ha3 rfl rfl rfl (op_move ha3 rfl rfl) ?_
 intro a4 ha4; clear ha3 a3
 refine wl_callR ha4 rfl rfl rfl (op_call ha4 rfl cb50 rfl) (c_spec_DrawGiveBike _ v_code code (h_code.ext pos_shU8 hx0)) ?_
 rintro v5 w6 he7 ⟨q8, q9, q10, hq11, hq12, hq13, hq14, ⟨u15, z17, rfl, ho16, hN18, hE19⟩⟩ a20 ha20; clear ha4 a4
 have hx21 := hx0.trans' he7
 have hzhx21 := he7.size
 have hlhE19 := absLen hE19
 refine wl_val ha20 rfl rfl rfl (op_move ha20 rfl rfl) ?_
 intro a22 ha22; clear ha20 a20
 refine wl_val ha22 rfl rfl rfl (op_extract ha22 rfl rfl rfl) ?_
 intro a23 ha23; clear ha22 a22
 refine wl_val ha23 rfl rfl rfl (op_extract ha23 rfl rfl rfl) ?_
 intro a24 ha24; clear ha23 a23
 refine wl_val ha24 rfl rfl rfl (op_extract ha24 rfl rfl rfl) ?_
 intro a25 ha25; clear ha24 a24
 refine wl_val ha25 rfl rfl rfl (op_assign ha25 rfl rfl) ?_
 intro a26 ha26; clear ha25 a25
 refine wl_val ha26 rfl rfl rfl (op_assign ha26 rfl rfl) ?_
 intro a27 ha27; clear ha26 a26
 refine wl_val ha27 rfl rfl rfl (op_assign ha27 rfl rfl) ?_
 intro a28 ha28; clear ha27 a27
 refine wpList_nil ?_
 refine then_n ?_
 refine wp_seq ?_
 refine wp_region_lit ?_
 refine wl_val ha28 rfl rfl rfl (op_move ha28 rfl rfl) ?_
 intro a29 ha29; clear ha28 a28
 refine wl_val ha29 rfl rfl rfl (op_move ha29 rfl rfl) ?_
 intro a30 ha30; clear ha29 a29
 refine wl_val ha30 rfl rfl rfl (op_move ha30 rfl rfl) ?_
 intro a31 ha31; clear ha30 a30
 refine wl_val ha31 rfl rfl rfl (op_assign ha31 rfl rfl) ?_
 intro a32 ha32; clear ha31 a31
 refine wl_val ha32 rfl rfl rfl (op_assign ha32 rfl rfl) ?_
 intro a33 ha33; clear ha32 a32
 refine wl_val ha33 rfl rfl rfl (op_assign ha33 rfl rfl) ?_
 intro a34 ha34; clear ha33 a33
 refine wpList_nil ?_
 refine then_n ?_
 refine wp_ret ?_
 refine ret3 ha34 rfl rfl rfl rfl ?_
 clear ha34 a34
 refine ret_mk hx21 ?_
 refine ⟨(((q8)) : List Cust), ((q10) : Str), ((q9) : Str), (by first | assumption | omega | (constructor <;> omega) | (simp; done) | (simp; omega)), (by first | assumption | omega | (constructor <;> omega) | (simp; done) | (simp; omega)), (by first | assumption | omega | (constructor <;> omega) | (simp; done) | (simp; omega)), (by first | assumption | omega | (constructor <;> omega) | (simp; done) | (simp; omega)), ?_⟩
 refine ⟨u15, z17, (tup3_eq rfl (congrArg St (by rfl)) (congrArg St (by rfl))), ho16.fin (by omega) (by omega) (by omega), hN18.fin (by omega) (by omega), ?_⟩
 ·
  exact hE19

set_option maxHeartbeats 8000000 in
theorem c_spec_DrawMergeCustomers (w0 : World) (v_code : Value) (code : List UInt8) {S_code : Nat → Prop} (h_code : Rds shU8 S_code w0 v_code code) :
  Calls Try.prog 49 #[v_code] w0 (Ret w0 (fun v w1 => ∃ (l : List Cust) (n : Str) (b : Str), (l.length ≤ 22) ∧ (∀ c ∈ l, c.2.2.length ≤ 10) ∧ (n.length ≤ 9223372036854775807) ∧ (b.length ≤ 9223372036854775807) ∧ (fun v w1 => ∃ r0 z0, v = .tuple #[r0, St (n), St (b)] ∧ Own shCustN 55 w0.heap.size w0.heap.size w1.heap.size w1 r0 z0 ∧ Nst shStr 9 (fun x : Str × Int × List Str => x.2.2) w0.heap.size w1.heap.size w1 z0 ∧ z0.map (·.1) = (l)) v w1)) := by
 refine enter (N := 42) Try.func49 rfl rfl rfl ?_
 intro a0 ha0
 have hx0 := Ext.rfl' w0
 have hl_code := h_code.length_le
 refine wp_seq ?_
 refine wp_region_lit ?_
 refine wl_val ha0 rfl rfl rfl (op_assign ha0 rfl rfl) ?_
 intro a1 ha1; clear ha0 a0
 refine wl_val ha1 rfl rfl rfl (op_assign ha1 rfl rfl) ?_
 intro a2 ha2; clear ha1 a1
 refine wl_val ha2 rfl rfl rfl (op_assign ha2 rfl rfl) ?_
 intro a3 ha3; clear ha2 a2
 refine wpList_nil ?_
 refine then_n ?_
 refine wp_seq ?_
 refine wp_region_lit ?_
 refine wl_val ha3 rfl rfl rfl (op_move ha3 rfl rfl) ?_
 intro a4 ha4; clear ha3 a3
 refine wl_callR ha4 rfl rfl rfl (op_call ha4 rfl cb72 rfl) (c_spec_l01From _ v_code code (h_code.low pos_shU8 hx0 (Nat.le_refl _)) (by omega)) ?_
 rintro v5 w6 he7 ⟨g8, rfl, hg9, hS10⟩ a11 ha11; clear ha4 a4
 have hx12 := hx0.trans' he7
 have hzhx12 := he7.size
 have hSlhS10 := hS10.lt
 refine wl_val ha11 rfl rfl rfl (op_assign ha11 rfl rfl) ?_
 intro a13 ha13; clear ha11 a11
 refine wpList_nil ?_
 refine then_n ?_
 refine wp_seq ?_
 refine wp_region_lit ?_
 refine wl_val ha13 rfl rfl rfl (op_move ha13 rfl rfl) ?_
 intro a14 ha14; clear ha13 a13
 refine wl_callS ha14 rfl rfl rfl (op_call ha14 rfl cb73 rfl) (c_spec_l30Draw _ g8 w0.heap.size hS10) ?_
 rintro v15 w16 he17 ⟨hS18, ⟨q19, hq20, hq21, ⟨z23, ho22, hN24, hE25⟩⟩⟩ a26 ha26; clear ha14 a14
 have hx27 := hx12.stp he17 (by intro q hq; cases hq; exact (by omega))
 have hzhx27 := he17.size
 clear hS10
 have hSlhS18 := hS18.lt
 have hlhE25 := absLen hE25
 refine wl_val ha26 rfl rfl rfl (op_assign ha26 rfl rfl) ?_
 intro a28 ha28; clear ha26 a26
 refine wpList_nil ?_
 refine then_n ?_
 refine wp_seq ?_
 refine wp_seq ?_
 refine wp_region_lit ?_
 refine wl_val ha28 rfl rfl rfl (op_move ha28 rfl rfl) ?_
 intro a29 ha29; clear ha28 a28
 refine wl_val ha29 rfl rfl rfl (op_len_sl ha29 rfl Try.underlying25 rfl (ho22.rds pos_shCustN)) ?_
 intro a30 ha30; clear ha29 a29
 refine wl_val ha30 rfl rfl rfl (op_gtr ha30 rfl rfl rfl) ?_
 intro a31 ha31; clear ha30 a30
 refine wl_val ha31 rfl rfl rfl (op_move ha31 rfl rfl) ?_
 intro a32 ha32; clear ha31 a31
 by_cases c33 : (1 : Int) < ((z23.length : Nat) : Int)
 ·
  rw [decide_eq_true c33] at ha32
  refine wl_val ha32 rfl rfl rfl (op_move ha32 rfl rfl) ?_
  intro a34 ha34; clear ha32 a32
  refine wl_callS ha34 rfl rfl rfl (op_call ha34 rfl cb75 rfl) (c_spec_l01Next _ g8 w0.heap.size (6 : Int) hS18) ?_
  rintro v35 w36 he37 ⟨hS38, ⟨q39, hq40, hq41, hq42, rfl⟩⟩ a43 ha43; clear ha34 a34
  have hx44 := hx27.stp he37 (by intro q hq; cases hq; exact (by omega))
  have hzhx44 := he37.size
  first | replace ho22 := ho22.stp he37 (by intro q hq; cases hq; omega) | replace ho22 := ho22.stpF flat_shCustN he37 (by intro q hq; cases hq; exact ho22.ne_box (by assumption) rfl)
  first | replace hN24 := hN24.stp he37 (by intro q hq; cases hq; omega) | replace hN24 := hN24.stpB flat_shStr he37 (by assumption) rfl
  clear hS18
  have hSlhS38 := hS38.lt
  refine wl_val ha43 rfl rfl rfl (op_gtr ha43 rfl rfl rfl) ?_
  intro a45 ha45; clear ha43 a43
  refine wl_val ha45 rfl rfl rfl (op_pick_t ha45 rfl rfl rfl) ?_
  intro a46 ha46; clear ha45 a45
  refine wpList_nil ?_
  refine then_n ?_
  by_cases c47 : (0 : Int) < (q39 : Int)
  ·
   rw [decide_eq_true c47] at ha46
   refine cond_t ha46 rfl ?_
   refine wp_seq ?_
   refine wp_region_lit ?_
   refine wl_val ha46 rfl rfl rfl (op_move ha46 rfl rfl) ?_
   intro a48 ha48; clear ha46 a46
   refine wl_val ha48 rfl rfl rfl (op_len_sl ha48 rfl Try.underlying25 rfl (ho22.rds pos_shCustN)) ?_
   intro a49 ha49; clear ha48 a48
   refine wl_val ha49 rfl rfl rfl (op_assign ha49 rfl rfl) ?_
   intro a50 ha50; clear ha49 a49
   refine wpList_nil ?_
   refine then_n ?_
   refine wp_seq ?_
   refine dr_enter (fun wa_ wb_ => Stp wa_ wb_ (some g8)) follows_mixed ?_
   intro w51 he52
   have hx53 := hx44.trans' he52
   have hzhx53 := he52.size
   replace ho22 := ho22.ext he52
   replace hN24 := hN24.ext he52
   replace hS38 := hS38.ext he52
   have hs54 : Ext w51 w51 := Ext.rfl' _
   refine dr_val (i := 0) ha50 rfl (by kernel_rfl) (by kernel_rfl) (by kernel_rfl) rfl rfl rfl (Stp.of_ext hs54 _) (fun w' hw' => op_move ha50 rfl rfl) ?_
   intro a55 ha55; clear ha50 a50
   refine dr_val (i := 1) ha55 rfl (by kernel_rfl) (by kernel_rfl) (by kernel_rfl) rfl rfl rfl (Stp.of_ext hs54 _) (fun w' hw' => op_move ha55 rfl rfl) ?_
   intro a56 ha56; clear ha55 a55
   refine dr_val (i := 2) ha56 rfl (by kernel_rfl) (by kernel_rfl) (by kernel_rfl) rfl rfl rfl (Stp.of_ext hs54 _) (fun w' hw' => op_move ha56 rfl rfl) ?_
   intro a57 ha57; clear ha56 a56
   refine dr_val (i := 3) ha57 rfl (by kernel_rfl) (by kernel_rfl) (by kernel_rfl) rfl rfl rfl (Stp.of_ext hs54 _) (fun w' hw' => op_move ha57 rfl rfl) ?_
   intro a58 ha58; clear ha57 a57
   refine dr_val (i := 8) ha58 rfl (by kernel_rfl) (by kernel_rfl) (by kernel_rfl) rfl rfl rfl (Stp.of_ext hs54 _) (fun w' hw' => op_move ha58 rfl rfl) ?_
   intro a59 ha59; clear ha58 a58
   refine dr_val (i := 9) ha59 rfl (by kernel_rfl) (by kernel_rfl) (by kernel_rfl) rfl rfl rfl (Stp.of_ext hs54 _) (fun w' hw' => op_move ha59 rfl rfl) ?_
   intro a60 ha60; clear ha59 a59
   refine dr_val (i := 10) ha60 rfl (by kernel_rfl) (by kernel_rfl) (by kernel_rfl) rfl rfl rfl (Stp.of_ext hs54 _) (fun w' hw' => op_move ha60 rfl rfl) ?_
   intro a61 ha61; clear ha60 a60
   refine dr_one (i := 4) (by kernel_rfl) ?_
   refine po_callS ha61 rfl rfl rfl rfl (op_call ha61 rfl cb75 rfl) (c_spec_l01Next _ g8 w0.heap.size ((z23.length : Nat) : Int) hS38) ?_
   rintro v62 w63 he64 ⟨hS65, ⟨q66, hq67, hq68, hq69, rfl⟩⟩ a70 ha70; clear ha61 a61
   have hx71 := hx53.stp he64 (by intro q hq; cases hq; exact (by omega))
   have hzhx71 := he64.size
   first | replace ho22 := ho22.stp he64 (by intro q hq; cases hq; omega) | replace ho22 := ho22.stpF flat_shCustN he64 (by intro q hq; cases hq; exact ho22.ne_box (by assumption) rfl)
   first | replace hN24 := hN24.stp he64 (by intro q hq; cases hq; omega) | replace hN24 := hN24.stpB flat_shStr he64 (by assumption) rfl
   clear hS38
   have hSlhS65 := hS65.lt
   have hs72 := (Stp.of_ext hs54 (some g8)).trans' he64
   refine ⟨hs72, ?_⟩
   refine dr_narrow (S' := fun w' => Stp w63 w' _) (fun w' h' => hs72.trans' h') _ _ _ _ ?_
   have hs73 : Ext w63 w63 := Ext.rfl' _
   obtain ⟨x74, hx74⟩ := get_ex (xs := z23) (j := ((q66 : Int)).toNat) (by first | omega | (simp only [List.length_cons, List.length_nil]; omega))
   obtain ⟨p75, c76, hi77, hc78, hr79, hs80⟩ := Rds.at_ (ho22.rds pos_shCustN) hx74
   obtain ⟨rfl, b81, b82, b83⟩ := inv_shCustN hr79
   have hn84 : Own shStr 9 w6.heap.size w6.heap.size w16.heap.size w63 x74.2 x74.1.2.2 := hN24.get hx74
   obtain ⟨_, _⟩ : _ ∧ _ := hs80
   refine dr_val (i := 5) ha70 rfl (by kernel_rfl) (by kernel_rfl) (by kernel_rfl) rfl rfl rfl (Stp.of_ext hs73 _) (fun w' hw' => op_indexAddr ha70 rfl Try.underlying25 ti55 rfl rfl (by omega) hi77) ?_
   intro a85 ha85; clear ha70 a70
   refine dr_val (i := 6) ha85 rfl (by kernel_rfl) (by kernel_rfl) (by kernel_rfl) rfl rfl rfl (Stp.of_ext hs73 _) (fun w' hw' => op_fieldAddr (sz := 0) ha85 rfl Try.underlying55 rfl rfl ti9 rfl) ?_
   intro a86 ha86; clear ha85 a85
   refine dr_val (i := 7) ha86 rfl (by kernel_rfl) (by kernel_rfl) (by kernel_rfl) rfl rfl rfl (Stp.of_ext hs73 _) (fun w' hw' => op_loadF (off := 0) ha86 rfl Try.underlying9 rfl rfl (hc78.stp hw' (by intro q hq; cases hq; omega)) rfl) ?_
   intro a87 ha87; clear ha86 a86
   refine dr_one (i := 11) (by kernel_rfl) ?_
   refine po_callS ha87 rfl rfl rfl rfl (op_call ha87 rfl cb75 rfl) (c_spec_l01Next _ g8 w0.heap.size ((z23.length : Nat) : Int) hS65) ?_
   rintro v88 w89 he90 ⟨hS91, ⟨q92, hq93, hq94, hq95, rfl⟩⟩ a96 ha96; clear ha87 a87
   have hx97 := hx71.stp he90 (by intro q hq; cases hq; exact (by omega))
   have hzhx97 := he90.size
   first | replace ho22 := ho22.stp he90 (by intro q hq; cases hq; omega) | replace ho22 := ho22.stpF flat_shCustN he90 (by intro q hq; cases hq; exact ho22.ne_box (by assumption) rfl)
   first | replace hN24 := hN24.stp he90 (by intro q hq; cases hq; omega) | replace hN24 := hN24.stpB flat_shStr he90 (by assumption) rfl
   first | replace hn84 := hn84.stp he90 (by intro q hq; cases hq; omega) | replace hn84 := hn84.stpF flat_shStr he90 (by intro q hq; cases hq; exact hn84.ne_box (by assumption) rfl)
   replace hc78 := hc78.stp he90 (by intro q hq; cases hq; omega)
   clear hS65
   have hSlhS91 := hS91.lt
   have hs98 := (Stp.of_ext hs73 (some g8)).trans' he90
   refine ⟨hs98, ?_⟩
   refine dr_narrow (S' := fun w' => Stp w89 w' _) (fun w' h' => hs98.trans' h') _ _ _ _ ?_
   have hs99 : Ext w89 w89 := Ext.rfl' _
   obtain ⟨x100, hx100⟩ := get_ex (xs := z23) (j := ((q92 : Int)).toNat) (by first | omega | (simp only [List.length_cons, List.length_nil]; omega))
   obtain ⟨p101, c102, hi103, hc104, hr105, hs106⟩ := Rds.at_ (ho22.rds pos_shCustN) hx100
   obtain ⟨rfl, b107, b108, b109⟩ := inv_shCustN hr105
   have hn110 : Own shStr 9 w6.heap.size w6.heap.size w16.heap.size w89 x100.2 x100.1.2.2 := hN24.get hx100
   obtain ⟨_, _⟩ : _ ∧ _ := hs106
   refine dr_val (i := 12) ha96 rfl (by kernel_rfl) (by kernel_rfl) (by kernel_rfl) rfl rfl rfl (Stp.of_ext hs99 _) (fun w' hw' => op_indexAddr ha96 rfl Try.underlying25 ti55 rfl rfl (by omega) hi103) ?_
   intro a111 ha111; clear ha96 a96
   refine dr_val (i := 13) ha111 rfl (by kernel_rfl) (by kernel_rfl) (by kernel_rfl) rfl rfl rfl (Stp.of_ext hs99 _) (fun w' hw' => op_fieldAddr (sz := 0) ha111 rfl Try.underlying55 rfl rfl ti9 rfl) ?_
   intro a112 ha112; clear ha111 a111
   refine dr_val (i := 14) ha112 rfl (by kernel_rfl) (by kernel_rfl) (by kernel_rfl) rfl rfl rfl (Stp.of_ext hs99 _) (fun w' hw' => op_loadF (off := 0) ha112 rfl Try.underlying9 rfl rfl (hc104.stp hw' (by intro q hq; cases hq; omega)) rfl) ?_
   intro a113 ha113; clear ha112 a112
   refine dr_val (i := 15) ha113 rfl (by kernel_rfl) (by kernel_rfl) (by kernel_rfl) rfl rfl rfl (Stp.of_ext hs99 _) (fun w' hw' => op_assign ha113 rfl rfl) ?_
   intro a114 ha114; clear ha113 a113
   refine dr_val (i := 16) ha114 rfl (by kernel_rfl) (by kernel_rfl) (by kernel_rfl) rfl rfl rfl (Stp.of_ext hs99 _) (fun w' hw' => op_assign ha114 rfl rfl) ?_
   intro a115 ha115; clear ha114 a114
   refine dr_val (i := 17) ha115 rfl (by kernel_rfl) (by kernel_rfl) (by kernel_rfl) rfl rfl rfl (Stp.of_ext hs99 _) (fun w' hw' => op_assign ha115 rfl rfl) ?_
   intro a116 ha116; clear ha115 a115
   refine dr_end (by kernel_rfl) ?_
   refine then_n ?_
   refine wp_ret ?_
   refine then_r ?_
   refine ret3 ha116 rfl rfl rfl rfl ?_
   clear ha116 a116
   refine ret_mk hx97 ?_
   refine ⟨(((q19)) : List Cust), (x74.1.1 : Str), (x100.1.1 : Str), (by first | assumption | omega | (constructor <;> omega) | (simp; done) | (simp; omega)), (by first | assumption | omega | (constructor <;> omega) | (simp; done) | (simp; omega)), (by first | assumption | omega | (constructor <;> omega) | (simp; done) | (simp; omega)), (by first | assumption | omega | (constructor <;> omega) | (simp; done) | (simp; omega)), ?_⟩
   refine ⟨v15, z23, (tup3_eq rfl (congrArg St (by rfl)) (congrArg St (by rfl))), ho22.fin (by omega) (by omega) (by omega), hN24.fin (by omega) (by omega), ?_⟩
   ·
    exact hE25
  ·
   rw [decide_eq_false c47] at ha46
   refine cond_f ha46 rfl ?_
   refine wp_skip ?_
   refine then_n ?_
   refine wp_seq ?_
   refine wp_region_lit ?_
   refine wl_val ha46 rfl rfl rfl (op_move ha46 rfl rfl) ?_
   intro a117 ha117; clear ha46 a46
   refine wl_val ha117 rfl rfl rfl (op_move ha117 rfl rfl) ?_
   intro a118 ha118; clear ha117 a117
   refine wl_callS ha118 rfl rfl rfl (op_call ha118 rfl cb74 rfl) (c_spec_l30Name _ g8 w0.heap.size hS38) ?_
   rintro v119 w120 he121 ⟨hS122, ⟨q123, hq124, rfl⟩⟩ a125 ha125; clear ha118 a118
   have hx126 := hx44.stp he121 (by intro q hq; cases hq; exact (by omega))
   have hzhx126 := he121.size
   first | replace ho22 := ho22.stp he121 (by intro q hq; cases hq; omega) | replace ho22 := ho22.stpF flat_shCustN he121 (by intro q hq; cases hq; exact ho22.ne_box (by assumption) rfl)
   first | replace hN24 := hN24.stp he121 (by intro q hq; cases hq; omega) | replace hN24 := hN24.stpB flat_shStr he121 (by assumption) rfl
   clear hS38
   have hSlhS122 := hS122.lt
   refine wl_val ha125 rfl rfl rfl (op_move ha125 rfl rfl) ?_
   intro a127 ha127; clear ha125 a125
   refine wl_callS ha127 rfl rfl rfl (op_call ha127 rfl cb74 rfl) (c_spec_l30Name _ g8 w0.heap.size hS122) ?_
   rintro v128 w129 he130 ⟨hS131, ⟨q132, hq133, rfl⟩⟩ a134 ha134; clear ha127 a127
   have hx135 := hx126.stp he130 (by intro q hq; cases hq; exact (by omega))
   have hzhx135 := he130.size
   first | replace ho22 := ho22.stp he130 (by intro q hq; cases hq; omega) | replace ho22 := ho22.stpF flat_shCustN he130 (by intro q hq; cases hq; exact ho22.ne_box (by assumption) rfl)
   first | replace hN24 := hN24.stp he130 (by intro q hq; cases hq; omega) | replace hN24 := hN24.stpB flat_shStr he130 (by assumption) rfl
   clear hS122
   have hSlhS131 := hS131.lt
   refine wl_val ha134 rfl rfl rfl (op_assign ha134 rfl rfl) ?_
   intro a136 ha136; clear ha134 a134
   refine wl_val ha136 rfl rfl rfl (op_assign ha136 rfl rfl) ?_
   intro a137 ha137; clear ha136 a136
   refine wl_val ha137 rfl rfl rfl (op_assign ha137 rfl rfl) ?_
   intro a138 ha138; clear ha137 a137
   refine wpList_nil ?_
   refine then_n ?_
   refine wp_ret ?_
   refine ret3 ha138 rfl rfl rfl rfl ?_
   clear ha138 a138
   refine ret_mk hx135 ?_
   refine ⟨(((q19)) : List Cust), ((q123) : Str), ((q132) : Str), (by first | assumption | omega | (constructor <;> omega) | (simp; done) | (simp; omega)), (by first | assumption | omega | (constructor <;> omega) | (simp; done) | (simp; omega)), (by first | assumption | omega | (constructor <;> omega) | (simp; done) | (simp; omega)), (by first | assumption | omega | (constructor <;> omega) | (simp; done) | (simp; omega)), ?_⟩
   refine ⟨v15, z23, (tup3_eq rfl (congrArg St (by rfl)) (congrArg St (by rfl))), ho22.fin (by omega) (by omega) (by omega), hN24.fin (by omega) (by omega), ?_⟩
   ·
    exact hE25
 ·
  rw [decide_eq_false c33] at ha32
  refine wl_skip ha32 rfl rfl rfl ?_
  intro a139 ha139; clear ha32 a32
  refine wl_skip ha139 rfl rfl rfl ?_
  intro a140 ha140; clear ha139 a139
  refine wl_skip ha140 rfl rfl rfl ?_
  intro a141 ha141; clear ha140 a140
  refine wl_val ha141 rfl rfl rfl (op_pick_f ha141 rfl rfl rfl) ?_
  intro a142 ha142; clear ha141 a141
  refine wpList_nil ?_
  refine then_n ?_
  refine cond_f ha142 rfl ?_
  refine wp_skip ?_
  refine then_n ?_
  refine wp_seq ?_
  refine wp_region_lit ?_
  refine wl_val ha142 rfl rfl rfl (op_move ha142 rfl rfl) ?_
  intro a143 ha143; clear ha142 a142
  refine wl_val ha143 rfl rfl rfl (op_move ha143 rfl rfl) ?_
  intro a144 ha144; clear ha143 a143
  refine wl_callS ha144 rfl rfl rfl (op_call ha144 rfl cb74 rfl) (c_spec_l30Name _ g8 w0.heap.size hS18) ?_
  rintro v145 w146 he147 ⟨hS148, ⟨q149, hq150, rfl⟩⟩ a151 ha151; clear ha144 a144
  have hx152 := hx27.stp he147 (by intro q hq; cases hq; exact (by omega))
  have hzhx152 := he147.size
  first | replace ho22 := ho22.stp he147 (by intro q hq; cases hq; omega) | replace ho22 := ho22.stpF flat_shCustN he147 (by intro q hq; cases hq; exact ho22.ne_box (by assumption) rfl)
  first | replace hN24 := hN24.stp he147 (by intro q hq; cases hq; omega) | replace hN24 := hN24.stpB flat_shStr he147 (by assumption) rfl
  clear hS18
  have hSlhS148 := hS148.lt
  refine wl_val ha151 rfl rfl rfl (op_move ha151 rfl rfl) ?_
  intro a153 ha153; clear ha151 a151
  refine wl_callS ha153 rfl rfl rfl (op_call ha153 rfl cb74 rfl) (c_spec_l30Name _ g8 w0.heap.size hS148) ?_
  rintro v154 w155 he156 ⟨hS157, ⟨q158, hq159, rfl⟩⟩ a160 ha160; clear ha153 a153
  have hx161 := hx152.stp he156 (by intro q hq; cases hq; exact (by omega))
  have hzhx161 := he156.size
  first | replace ho22 := ho22.stp he156 (by intro q hq; cases hq; omega) | replace ho22 := ho22.stpF flat_shCustN he156 (by intro q hq; cases hq; exact ho22.ne_box (by assumption) rfl)
  first | replace hN24 := hN24.stp he156 (by intro q hq; cases hq; omega) | replace hN24 := hN24.stpB flat_shStr he156 (by assumption) rfl
  clear hS148
  have hSlhS157 := hS157.lt
  refine wl_val ha160 rfl rfl rfl (op_assign ha160 rfl rfl) ?_
  intro a162 ha162; clear ha160 a160
  refine wl_val ha162 rfl rfl rfl (op_assign ha162 rfl rfl) ?_
  intro a163 ha163; clear ha162 a162
  refine wl_val ha163 rfl rfl rfl (op_assign ha163 rfl rfl) ?_
  intro a164 ha164; clear ha163 a163
  refine wpList_nil ?_
  refine then_n ?_
  refine wp_ret ?_
  refine ret3 ha164 rfl rfl rfl rfl ?_
  clear ha164 a164
  refine ret_mk hx161 ?_
  refine ⟨(((q19)) : List Cust), ((q149) : Str), ((q158) : Str), (by first | assumption | omega | (constructor <;> omega) | (simp; done) | (simp; omega)), (by first | assumption | omega | (constructor <;> omega) | (simp; done) | (simp; omega)), (by first | assumption | omega | (constructor <;> omega) | (simp; done) | (simp; omega)), (by first | assumption | omega | (constructor <;> omega) | (simp; done) | (simp; omega)), ?_⟩
  refine ⟨v15, z23, (tup3_eq rfl (congrArg St (by rfl)) (congrArg St (by rfl))), ho22.fin (by omega) (by omega) (by omega), hN24.fin (by omega) (by omega), ?_⟩
  ·
   exact hE25

set_option maxHeartbeats 8000000 in
theorem c_spec_DrawOwnerOf (w0 : World) (v_code : Value) (code : List UInt8) {S_code : Nat → Prop} (h_code : Rds shU8 S_code w0 v_code code) :
  Calls Try.prog 44 #[v_code] w0 (Ret w0 (fun v w1 => ∃ (l : List Cust) (n : Str), (l.length ≤ 22) ∧ (∀ c ∈ l, c.2.2.length ≤ 10) ∧ (n.length ≤ 9223372036854775807) ∧ (fun v w1 => ∃ r0 z0, v = .tuple #[r0, St (n)] ∧ Own shCustN 55 w0.heap.size w0.heap.size w1.heap.size w1 r0 z0 ∧ Nst shStr 9 (fun x : Str × Int × List Str => x.2.2) w0.heap.size w1.heap.size w1 z0 ∧ z0.map (·.1) = (l)) v w1)) := by
 refine enter (N := 19) Try.func44 rfl rfl rfl ?_
 intro a0 ha0
 have hx0 := Ext.rfl' w0
 have hl_code := h_code.length_le
 refine wp_seq ?_
 refine wp_region_lit ?_
 refine wl_val ha0 rfl rfl rfl (op_assign ha0 rfl rfl) ?_
 intro a1 ha1; clear ha0 a0
 refine wl_val ha1 rfl rfl rfl (op_assign ha1 rfl rfl) ?_
 intro a2 ha2; clear ha1 a1
 refine wpList_nil ?_
 refine then_n ?_
 refine wp_seq ?_
 refine wp_region_lit ?_
 refine wl_val ha2 rfl rfl rfl (op_move ha2 rfl rfl) ?_
 intro a3 ha3; clear ha2 a2
 refine wl_callR ha3 rfl rfl rfl (op_call ha3 rfl cb72 rfl) (c_spec_l01From _ v_code code (h_code.low pos_shU8 hx0 (Nat.le_refl _)) (by omega)) ?_
 rintro v4 w5 he6 ⟨g7, rfl, hg8, hS9⟩ a10 ha10; clear ha3 a3
 have hx11 := hx0.trans' he6
 have hzhx11 := he6.size
 have hSlhS9 := hS9.lt
 refine wl_val ha10 rfl rfl rfl (op_assign ha10 rfl rfl) ?_
 intro a12 ha12; clear ha10 a10
 refine wpList_nil ?_
 refine then_n ?_
 refine wp_seq ?_
 refine wp_region_lit ?_
 refine wl_val ha12 rfl rfl rfl (op_move ha12 rfl rfl) ?_
 intro a13 ha13; clear ha12 a12
 refine wl_callS ha13 rfl rfl rfl (op_call ha13 rfl cb73 rfl) (c_spec_l30Draw _ g7 w0.heap.size hS9) ?_
 rintro v14 w15 he16 ⟨hS17, ⟨q18, hq19, hq20, ⟨z22, ho21, hN23, hE24⟩⟩⟩ a25 ha25; clear ha13 a13
 have hx26 := hx11.stp he16 (by intro q hq; cases hq; exact (by omega))
 have hzhx26 := he16.size
 clear hS9
 have hSlhS17 := hS17.lt
 have hlhE24 := absLen hE24
 refine wl_val ha25 rfl rfl rfl (op_assign ha25 rfl rfl) ?_
 intro a27 ha27; clear ha25 a25
 refine wpList_nil ?_
 refine then_n ?_
 refine wp_seq ?_
 refine wp_seq ?_
 refine wp_region_lit ?_
 refine wl_val ha27 rfl rfl rfl (op_move ha27 rfl rfl) ?_
 intro a28 ha28; clear ha27 a27
 refine wl_callS ha28 rfl rfl rfl (op_call ha28 rfl cb75 rfl) (c_spec_l01Next _ g7 w0.heap.size (24 : Int) hS17) ?_
 rintro v29 w30 he31 ⟨hS32, ⟨q33, hq34, hq35, hq36, rfl⟩⟩ a37 ha37; clear ha28 a28
 have hx38 := hx26.stp he31 (by intro q hq; cases hq; exact (by omega))
 have hzhx38 := he31.size
 first | replace ho21 := ho21.stp he31 (by intro q hq; cases hq; omega) | replace ho21 := ho21.stpF flat_shCustN he31 (by intro q hq; cases hq; exact ho21.ne_box (by assumption) rfl)
 first | replace hN23 := hN23.stp he31 (by intro q hq; cases hq; omega) | replace hN23 := hN23.stpB flat_shStr he31 (by assumption) rfl
 clear hS17
 have hSlhS32 := hS32.lt
 refine wl_val ha37 rfl rfl rfl (op_eql ha37 rfl rfl rfl) ?_
 intro a39 ha39; clear ha37 a37
 refine wpList_nil ?_
 refine then_n ?_
 by_cases c40 : (q33 : Int) = (0 : Int)
 ·
  rw [decide_eq_true c40] at ha39
  refine cond_t ha39 rfl ?_
  refine wp_seq ?_
  refine wp_region_lit ?_
  refine wl_val ha39 rfl rfl rfl (op_move ha39 rfl rfl) ?_
  intro a41 ha41; clear ha39 a39
  refine wl_val ha41 rfl rfl rfl (op_move ha41 rfl rfl) ?_
  intro a42 ha42; clear ha41 a41
  refine wl_callS ha42 rfl rfl rfl (op_call ha42 rfl cb76 rfl) (c_spec_l01DrawWord _ g7 w0.heap.size hS32) ?_
  rintro v43 w44 he45 ⟨hS46, ⟨q47, hq48, rfl⟩⟩ a49 ha49; clear ha42 a42
  have hx50 := hx38.stp he45 (by intro q hq; cases hq; exact (by omega))
  have hzhx50 := he45.size
  first | replace ho21 := ho21.stp he45 (by intro q hq; cases hq; omega) | replace ho21 := ho21.stpF flat_shCustN he45 (by intro q hq; cases hq; exact ho21.ne_box (by assumption) rfl)
  first | replace hN23 := hN23.stp he45 (by intro q hq; cases hq; omega) | replace hN23 := hN23.stpB flat_shStr he45 (by assumption) rfl
  clear hS32
  have hSlhS46 := hS46.lt
  refine wl_val ha49 rfl rfl rfl (op_assign ha49 rfl rfl) ?_
  intro a51 ha51; clear ha49 a49
  refine wl_val ha51 rfl rfl rfl (op_assign ha51 rfl rfl) ?_
  intro a52 ha52; clear ha51 a51
  refine wpList_nil ?_
  refine then_n ?_
  refine wp_ret ?_
  refine then_r ?_
  refine ret2 ha52 rfl rfl rfl ?_
  clear ha52 a52
  refine ret_mk hx50 ?_
  refine ⟨(((q18)) : List Cust), ((q47) : Str), (by first | assumption | omega | (constructor <;> omega) | (simp; done) | (simp; omega)), (by first | assumption | omega | (constructor <;> omega) | (simp; done) | (simp; omega)), (by first | assumption | omega | (constructor <;> omega) | (simp; done) | (simp; omega)), ?_⟩
  refine ⟨v14, z22, (tup2_eq rfl (congrArg St (by rfl))), ho21.fin (by omega) (by omega) (by omega), hN23.fin (by omega) (by omega), ?_⟩
  ·
   exact hE24
 ·
  rw [decide_eq_false c40] at ha39
  refine cond_f ha39 rfl ?_
  refine wp_skip ?_
  refine then_n ?_
  refine wp_seq ?_
  refine wp_region_lit ?_
  refine wl_val ha39 rfl rfl rfl (op_move ha39 rfl rfl) ?_
  intro a53 ha53; clear ha39 a39
  refine wl_val ha53 rfl rfl rfl (op_move ha53 rfl rfl) ?_
  intro a54 ha54; clear ha53 a53
  refine wl_callS ha54 rfl rfl rfl (op_call ha54 rfl cb78 rfl) (c_spec_l30Bike _ g7 w0.heap.size hS32) ?_
  rintro v55 w56 he57 ⟨hS58, ⟨q59, hq60, rfl⟩⟩ a61 ha61; clear ha54 a54
  have hx62 := hx38.stp he57 (by intro q hq; cases hq; exact (by omega))
  have hzhx62 := he57.size
  first | replace ho21 := ho21.stp he57 (by intro q hq; cases hq; omega) | replace ho21 := ho21.stpF flat_shCustN he57 (by intro q hq; cases hq; exact ho21.ne_box (by assumption) rfl)
  first | replace hN23 := hN23.stp he57 (by intro q hq; cases hq; omega) | replace hN23 := hN23.stpB flat_shStr he57 (by assumption) rfl
  clear hS32
  have hSlhS58 := hS58.lt
  refine wl_val ha61 rfl rfl rfl (op_assign ha61 rfl rfl) ?_
  intro a63 ha63; clear ha61 a61
  refine wl_val ha63 rfl rfl rfl (op_assign ha63 rfl rfl) ?_
  intro a64 ha64; clear ha63 a63
  refine wpList_nil ?_
  refine then_n ?_
  refine wp_ret ?_
  refine ret2 ha64 rfl rfl rfl ?_
  clear ha64 a64
  refine ret_mk hx62 ?_
  refine ⟨(((q18)) : List Cust), ((q59) : Str), (by first | assumption | omega | (constructor <;> omega) | (simp; done) | (simp; omega)), (by first | assumption | omega | (constructor <;> omega) | (simp; done) | (simp; omega)), (by first | assumption | omega | (constructor <;> omega) | (simp; done) | (simp; omega)), ?_⟩
  refine ⟨v14, z22, (tup2_eq rfl (congrArg St (by rfl))), ho21.fin (by omega) (by omega) (by omega), hN23.fin (by omega) (by omega), ?_⟩
  ·
   exact hE24

set_option maxHeartbeats 8000000 in
theorem c_spec_DrawWithPrefix (w0 : World) (v_code : Value) (code : List UInt8) {S_code : Nat → Prop} (h_code : Rds shU8 S_code w0 v_code code) :
  Calls Try.prog 42 #[v_code] w0 (Ret w0 (fun v w1 => ∃ (l : List Cust) (n : Str), (l.length ≤ 22) ∧ (∀ c ∈ l, c.2.2.length ≤ 10) ∧ (n.length ≤ 9223372036854775807) ∧ (fun v w1 => ∃ r0 z0, v = .tuple #[r0, St (n)] ∧ Own shCustN 55 w0.heap.size w0.heap.size w1.heap.size w1 r0 z0 ∧ Nst shStr 9 (fun x : Str × Int × List Str => x.2.2) w0.heap.size w1.heap.size w1 z0 ∧ z0.map (·.1) = (l)) v w1)) := by
 refine enter (N := 16) Try.func42 rfl rfl rfl ?_
 intro a0 ha0
 have hx0 := Ext.rfl' w0
 have hl_code := h_code.length_le
 refine wp_seq ?_
 refine wp_region_lit ?_
 refine wl_val ha0 rfl rfl rfl (op_assign ha0 rfl rfl) ?_
 intro a1 ha1; clear ha0 a0
 refine wl_val ha1 rfl rfl rfl (op_assign ha1 rfl rfl) ?_
 intro a2 ha2; clear ha1 a1
 refine wpList_nil ?_
 refine then_n ?_
 refine wp_seq ?_
 refine wp_region_lit ?_
 refine wl_val ha2 rfl rfl rfl (op_move ha2 rfl rfl) ?_
 intro a3 ha3; clear ha2 a2
 refine wl_callR ha3 rfl rfl rfl (op_call ha3 rfl cb72 rfl) (c_spec_l01From _ v_code code (h_code.low pos_shU8 hx0 (Nat.le_refl _)) (by omega)) ?_
 rintro v4 w5 he6 ⟨g7, rfl, hg8, hS9⟩ a10 ha10; clear ha3 a3
 have hx11 := hx0.trans' he6
 have hzhx11 := he6.size
 have hSlhS9 := hS9.lt
 refine wl_val ha10 rfl rfl rfl (op_assign ha10 rfl rfl) ?_
 intro a12 ha12; clear ha10 a10
 refine wpList_nil ?_
 refine then_n ?_
 refine wp_seq ?_
 refine wp_region_lit ?_
 refine wl_val ha12 rfl rfl rfl (op_move ha12 rfl rfl) ?_
 intro a13 ha13; clear ha12 a12
 refine wl_callS ha13 rfl rfl rfl (op_call ha13 rfl cb73 rfl) (c_spec_l30Draw _ g7 w0.heap.size hS9) ?_
 rintro v14 w15 he16 ⟨hS17, ⟨q18, hq19, hq20, ⟨z22, ho21, hN23, hE24⟩⟩⟩ a25 ha25; clear ha13 a13
 have hx26 := hx11.stp he16 (by intro q hq; cases hq; exact (by omega))
 have hzhx26 := he16.size
 clear hS9
 have hSlhS17 := hS17.lt
 have hlhE24 := absLen hE24
 refine wl_val ha25 rfl rfl rfl (op_assign ha25 rfl rfl) ?_
 intro a27 ha27; clear ha25 a25
 refine wpList_nil ?_
 refine then_n ?_
 refine wp_seq ?_
 refine dr_enter (fun wa_ wb_ => Stp wa_ wb_ (some g7)) follows_mixed ?_
 intro w28 he29
 have hx30 := hx26.trans' he29
 have hzhx30 := he29.size
 replace hS17 := hS17.ext he29
 replace ho21 := ho21.ext he29
 replace hN23 := hN23.ext he29
 have hs31 : Ext w28 w28 := Ext.rfl' _
 refine dr_val (i := 0) ha27 rfl (by kernel_rfl) (by kernel_rfl) (by kernel_rfl) rfl rfl rfl (Stp.of_ext hs31 _) (fun w' hw' => op_move ha27 rfl rfl) ?_
 intro a32 ha32; clear ha27 a27
 refine dr_val (i := 2) ha32 rfl (by kernel_rfl) (by kernel_rfl) (by kernel_rfl) rfl rfl rfl (Stp.of_ext hs31 _) (fun w' hw' => op_move ha32 rfl rfl) ?_
 intro a33 ha33; clear ha32 a32
 refine dr_two (i := 1) (j := 3) (by kernel_rfl) ?_ ?_
 ·
  refine po_eff ha33 rfl rfl rfl rfl (op_buildSlice (s := shStr) (xs := [([] : Str), ([97] : Str), ([97, 100] : Str), ([97, 100, 97] : Str), ([97, 100, 97, 109] : Str), ([98] : Str), ([90] : Str), ([97, 100, 97, 109, 115] : Str)]) (cs := [St (([] : Str)), St (([97] : Str)), St (([97, 100] : Str)), St (([97, 100, 97] : Str)), St (([97, 100, 97, 109] : Str)), St (([98] : Str)), St (([90] : Str)), St (([97, 100, 97, 109, 115] : Str))]) (vs := [(0, St (([] : Str))), (1, St (([97] : Str))), (2, St (([97, 100] : Str))), (3, St (([97, 100, 97] : Str))), (4, St (([97, 100, 97, 109] : Str))), (5, St (([98] : Str))), (6, St (([90] : Str))), (7, St (([97, 100, 97, 109, 115] : Str)))]) (S := fun _ => False) (le := w28.heap.size) ha33 rfl pos_shStr Try.underlying34 ti9 rfl rfl (by decide) (by kernel_rfl) ⟨mk_shStr (([] : Str)) (by first | assumption | omega | (constructor <;> omega) | (dsimp only; omega) | (simp; done) | (simp; omega)), mk_shStr (([97] : Str)) (by first | assumption | omega | (constructor <;> omega) | (dsimp only; omega) | (simp; done) | (simp; omega)), mk_shStr (([97, 100] : Str)) (by first | assumption | omega | (constructor <;> omega) | (dsimp only; omega) | (simp; done) | (simp; omega)), mk_shStr (([97, 100, 97] : Str)) (by first | assumption | omega | (constructor <;> omega) | (dsimp only; omega) | (simp; done) | (simp; omega)), mk_shStr (([97, 100, 97, 109] : Str)) (by first | assumption | omega | (constructor <;> omega) | (dsimp only; omega) | (simp; done) | (simp; omega)), mk_shStr (([98] : Str)) (by first | assumption | omega | (constructor <;> omega) | (dsimp only; omega) | (simp; done) | (simp; omega)), mk_shStr (([90] : Str)) (by first | assumption | omega | (constructor <;> omega) | (dsimp only; omega) | (simp; done) | (simp; omega)), mk_shStr (([97, 100, 97, 109, 115] : Str)) (by first | assumption | omega | (constructor <;> omega) | (dsimp only; omega) | (simp; done) | (simp; omega)), rfl⟩ (fun _ h => h.elim)) ?_
  rintro v34 w35 ⟨ho36, he37, hob38⟩ a39 ha39; clear ha33 a33
  have hs40 := hs31.trans' he37
  have hx41 := hx30.trans' he37
  have hzhx41 := he37.size
  refine ⟨(Stp.of_ext hs40 _), ?_⟩
  replace hS17 := hS17.ext hs40
  replace ho21 := ho21.ext hs40
  replace hN23 := hN23.ext hs40
  refine dr_narrow (S' := fun w' => Stp w35 w' _) (fun w' h' => (Stp.of_ext hs40 _).trans' h') _ _ _ _ ?_
  have hs42 : Ext w35 w35 := Ext.rfl' _
  refine dr_one (i := 3) (by kernel_rfl) ?_
  refine po_callS ha39 rfl rfl rfl rfl (op_call ha39 rfl cb75 rfl) (c_spec_l01Next _ g7 w0.heap.size (8 : Int) hS17) ?_
  rintro v43 w44 he45 ⟨hS46, ⟨q47, hq48, hq49, hq50, rfl⟩⟩ a51 ha51; clear ha39 a39
  have hx52 := hx41.stp he45 (by intro q hq; cases hq; exact (by omega))
  have hzhx52 := he45.size
  first | replace ho21 := ho21.stp he45 (by intro q hq; cases hq; omega) | replace ho21 := ho21.stpF flat_shCustN he45 (by intro q hq; cases hq; exact ho21.ne_box (by assumption) rfl)
  first | replace hN23 := hN23.stp he45 (by intro q hq; cases hq; omega) | replace hN23 := hN23.stpB flat_shStr he45 (by assumption) rfl
  first | replace ho36 := ho36.stp he45 (by intro q hq; cases hq; omega) | replace ho36 := ho36.stpF flat_shStr he45 (by intro q hq; cases hq; exact ho36.ne_box (by assumption) rfl)
  clear hS17
  have hSlhS46 := hS46.lt
  have hs53 := (Stp.of_ext hs42 (some g7)).trans' he45
  refine ⟨hs53, ?_⟩
  refine dr_narrow (S' := fun w' => Stp w44 w' _) (fun w' h' => hs53.trans' h') _ _ _ _ ?_
  have hs54 : Ext w44 w44 := Ext.rfl' _
  obtain ⟨x55, hx55⟩ := get_ex (xs := [([] : Str), ([97] : Str), ([97, 100] : Str), ([97, 100, 97] : Str), ([97, 100, 97, 109] : Str), ([98] : Str), ([90] : Str), ([97, 100, 97, 109, 115] : Str)]) (j := ((q47 : Int)).toNat) (by first | omega | (simp only [List.length_cons, List.length_nil]; omega))
  obtain ⟨p56, c57, hi58, hc59, hr60, hs61⟩ := Rds.at_ (ho36.rds pos_shStr) hx55
  obtain ⟨rfl, b62⟩ := inv_shStr hr60
  obtain ⟨_, _⟩ : _ ∧ _ := hs61
  have hdlx55 := el_len 17 (by rfl) hx55
  refine dr_val (i := 4) ha51 rfl (by kernel_rfl) (by kernel_rfl) (by kernel_rfl) rfl rfl rfl (Stp.of_ext hs54 _) (fun w' hw' => op_indexAddr ha51 rfl Try.underlying34 ti9 rfl rfl (by omega) hi58) ?_
  intro a63 ha63; clear ha51 a51
  refine dr_val (i := 5) ha63 rfl (by kernel_rfl) (by kernel_rfl) (by kernel_rfl) rfl rfl rfl (Stp.of_ext hs54 _) (fun w' hw' => op_loadH ha63 rfl Try.underlying9 rfl rfl (hc59.stp hw' (by intro q hq; cases hq; omega)) rfl) ?_
  intro a64 ha64; clear ha63 a63
  refine dr_val (i := 6) ha64 rfl (by kernel_rfl) (by kernel_rfl) (by kernel_rfl) rfl rfl rfl (Stp.of_ext hs54 _) (fun w' hw' => op_assign ha64 rfl rfl) ?_
  intro a65 ha65; clear ha64 a64
  refine dr_val (i := 7) ha65 rfl (by kernel_rfl) (by kernel_rfl) (by kernel_rfl) rfl rfl rfl (Stp.of_ext hs54 _) (fun w' hw' => op_assign ha65 rfl rfl) ?_
  intro a66 ha66; clear ha65 a65
  refine dr_end (by kernel_rfl) ?_
  refine then_n ?_
  refine wp_ret ?_
  refine ret2 ha66 rfl rfl rfl ?_
  clear ha66 a66
  refine ret_mk hx52 ?_
  refine ⟨(((q18)) : List Cust), (x55 : Str), (by first | assumption | omega | (constructor <;> omega) | (simp; done) | (simp; omega)), (by first | assumption | omega | (constructor <;> omega) | (simp; done) | (simp; omega)), (by first | assumption | omega | (constructor <;> omega) | (simp; done) | (simp; omega)), ?_⟩
  refine ⟨v14, z22, (tup2_eq rfl (congrArg St (by rfl))), ho21.fin (by omega) (by omega) (by omega), hN23.fin (by omega) (by omega), ?_⟩
  ·
   exact hE24
 ·
  refine po_callS ha33 rfl rfl rfl rfl (op_call ha33 rfl cb75 rfl) (c_spec_l01Next _ g7 w0.heap.size (8 : Int) hS17) ?_
  rintro v67 w68 he69 ⟨hS70, ⟨q71, hq72, hq73, hq74, rfl⟩⟩ a75 ha75; clear ha33 a33
  have hx76 := hx30.stp he69 (by intro q hq; cases hq; exact (by omega))
  have hzhx76 := he69.size
  first | replace ho21 := ho21.stp he69 (by intro q hq; cases hq; omega) | replace ho21 := ho21.stpF flat_shCustN he69 (by intro q hq; cases hq; exact ho21.ne_box (by assumption) rfl)
  first | replace hN23 := hN23.stp he69 (by intro q hq; cases hq; omega) | replace hN23 := hN23.stpB flat_shStr he69 (by assumption) rfl
  clear hS17
  have hSlhS70 := hS70.lt
  have hs77 := (Stp.of_ext hs31 (some g7)).trans' he69
  refine ⟨hs77, ?_⟩
  refine dr_narrow (S' := fun w' => Stp w68 w' _) (fun w' h' => hs77.trans' h') _ _ _ _ ?_
  have hs78 : Ext w68 w68 := Ext.rfl' _
  refine dr_val (i := 6) ha75 rfl (by kernel_rfl) (by kernel_rfl) (by kernel_rfl) rfl rfl rfl (Stp.of_ext hs78 _) (fun w' hw' => op_assign ha75 rfl rfl) ?_
  intro a79 ha79; clear ha75 a75
  refine dr_one (i := 1) (by kernel_rfl) ?_
  refine po_eff ha79 rfl rfl rfl rfl (op_buildSlice (s := shStr) (xs := [([] : Str), ([97] : Str), ([97, 100] : Str), ([97, 100, 97] : Str), ([97, 100, 97, 109] : Str), ([98] : Str), ([90] : Str), ([97, 100, 97, 109, 115] : Str)]) (cs := [St (([] : Str)), St (([97] : Str)), St (([97, 100] : Str)), St (([97, 100, 97] : Str)), St (([97, 100, 97, 109] : Str)), St (([98] : Str)), St (([90] : Str)), St (([97, 100, 97, 109, 115] : Str))]) (vs := [(0, St (([] : Str))), (1, St (([97] : Str))), (2, St (([97, 100] : Str))), (3, St (([97, 100, 97] : Str))), (4, St (([97, 100, 97, 109] : Str))), (5, St (([98] : Str))), (6, St (([90] : Str))), (7, St (([97, 100, 97, 109, 115] : Str)))]) (S := fun _ => False) (le := w68.heap.size) ha79 rfl pos_shStr Try.underlying34 ti9 rfl rfl (by decide) (by kernel_rfl) ⟨mk_shStr (([] : Str)) (by first | assumption | omega | (constructor <;> omega) | (dsimp only; omega) | (simp; done) | (simp; omega)), mk_shStr (([97] : Str)) (by first | assumption | omega | (constructor <;> omega) | (dsimp only; omega) | (simp; done) | (simp; omega)), mk_shStr (([97, 100] : Str)) (by first | assumption | omega | (constructor <;> omega) | (dsimp only; omega) | (simp; done) | (simp; omega)), mk_shStr (([97, 100, 97] : Str)) (by first | assumption | omega | (constructor <;> omega) | (dsimp only; omega) | (simp; done) | (simp; omega)), mk_shStr (([97, 100, 97, 109] : Str)) (by first | assumption | omega | (constructor <;> omega) | (dsimp only; omega) | (simp; done) | (simp; omega)), mk_shStr (([98] : Str)) (by first | assumption | omega | (constructor <;> omega) | (dsimp only; omega) | (simp; done) | (simp; omega)), mk_shStr (([90] : Str)) (by first | assumption | omega | (constructor <;> omega) | (dsimp only; omega) | (simp; done) | (simp; omega)), mk_shStr (([97, 100, 97, 109, 115] : Str)) (by first | assumption | omega | (constructor <;> omega) | (dsimp only; omega) | (simp; done) | (simp; omega)), rfl⟩ (fun _ h => h.elim)) ?_
  rintro v80 w81 ⟨ho82, he83, hob84⟩ a85 ha85; clear ha79 a79
  have hs86 := hs78.trans' he83
  have hx87 := hx76.trans' he83
  have hzhx87 := he83.size
  refine ⟨(Stp.of_ext hs86 _), ?_⟩
  replace ho21 := ho21.ext hs86
  replace hN23 := hN23.ext hs86
  replace hS70 := hS70.ext hs86
  refine dr_narrow (S' := fun w' => Stp w81 w' _) (fun w' h' => (Stp.of_ext hs86 _).trans' h') _ _ _ _ ?_
  have hs88 : Ext w81 w81 := Ext.rfl' _
  obtain ⟨x89, hx89⟩ := get_ex (xs := [([] : Str), ([97] : Str), ([97, 100] : Str), ([97, 100, 97] : Str), ([97, 100, 97, 109] : Str), ([98] : Str), ([90] : Str), ([97, 100, 97, 109, 115] : Str)]) (j := ((q71 : Int)).toNat) (by first | omega | (simp only [List.length_cons, List.length_nil]; omega))
  obtain ⟨p90, c91, hi92, hc93, hr94, hs95⟩ := Rds.at_ (ho82.rds pos_shStr) hx89
  obtain ⟨rfl, b96⟩ := inv_shStr hr94
  obtain ⟨_, _⟩ : _ ∧ _ := hs95
  have hdlx89 := el_len 17 (by rfl) hx89
  refine dr_val (i := 4) ha85 rfl (by kernel_rfl) (by kernel_rfl) (by kernel_rfl) rfl rfl rfl (Stp.of_ext hs88 _) (fun w' hw' => op_indexAddr ha85 rfl Try.underlying34 ti9 rfl rfl (by omega) hi92) ?_
  intro a97 ha97; clear ha85 a85
  refine dr_val (i := 5) ha97 rfl (by kernel_rfl) (by kernel_rfl) (by kernel_rfl) rfl rfl rfl (Stp.of_ext hs88 _) (fun w' hw' => op_loadH ha97 rfl Try.underlying9 rfl rfl (hc93.stp hw' (by intro q hq; cases hq; omega)) rfl) ?_
  intro a98 ha98; clear ha97 a97
  refine dr_val (i := 7) ha98 rfl (by kernel_rfl) (by kernel_rfl) (by kernel_rfl) rfl rfl rfl (Stp.of_ext hs88 _) (fun w' hw' => op_assign ha98 rfl rfl) ?_
  intro a99 ha99; clear ha98 a98
  refine dr_end (by kernel_rfl) ?_
  refine then_n ?_
  refine wp_ret ?_
  refine ret2 ha99 rfl rfl rfl ?_
  clear ha99 a99
  refine ret_mk hx87 ?_
  refine ⟨(((q18)) : List Cust), (x89 : Str), (by first | assumption | omega | (constructor <;> omega) | (simp; done) | (simp; omega)), (by first | assumption | omega | (constructor <;> omega) | (simp; done) | (simp; omega)), (by first | assumption | omega | (constructor <;> omega) | (simp; done) | (simp; omega)), ?_⟩
  refine ⟨v14, z22, (tup2_eq rfl (congrArg St (by rfl))), ho21.fin (by omega) (by omega) (by omega), hN23.fin (by omega) (by omega), ?_⟩
  ·
   exact hE24

set_option maxHeartbeats 8000000 in
theorem c_spec_DrawLongestSince (w0 : World) (v_code : Value) (code : List UInt8) {S_code : Nat → Prop} (h_code : Rds shU8 S_code w0 v_code code) :
  Calls Try.prog 43 #[v_code] w0 (Ret w0 (fun v w1 => ∃ (l : List Cust) (d : Int), (l.length ≤ 22) ∧ (∀ c ∈ l, c.2.2.length ≤ 10) ∧ (I64 d) ∧ (fun v w1 => ∃ r0 z0, v = .tuple #[r0, .int .i64 (d)] ∧ Own shCustN 55 w0.heap.size w0.heap.size w1.heap.size w1 r0 z0 ∧ Nst shStr 9 (fun x : Str × Int × List Str => x.2.2) w0.heap.size w1.heap.size w1 z0 ∧ z0.map (·.1) = (l)) v w1)) := by
 refine enter (N := 16) Try.func43 rfl rfl rfl ?_
 intro a0 ha0
 have hx0 := Ext.rfl' w0
 have hl_code := h_code.length_le
 refine wp_seq ?_
 refine wp_region_lit ?_
 refine wl_val ha0 rfl rfl rfl (op_assign ha0 rfl rfl) ?_
 intro a1 ha1; clear ha0 a0
 refine wl_val ha1 rfl rfl rfl (op_assign ha1 rfl rfl) ?_
 intro a2 ha2; clear ha1 a1
 refine wpList_nil ?_
 refine then_n ?_
 refine wp_seq ?_
 refine wp_region_lit ?_
 refine wl_val ha2 rfl rfl rfl (op_move ha2 rfl rfl) ?_
 intro a3 ha3; clear ha2 a2
 refine wl_callR ha3 rfl rfl rfl (op_call ha3 rfl cb72 rfl) (c_spec_l01From _ v_code code (h_code.low pos_shU8 hx0 (Nat.le_refl _)) (by omega)) ?_
 rintro v4 w5 he6 ⟨g7, rfl, hg8, hS9⟩ a10 ha10; clear ha3 a3
 have hx11 := hx0.trans' he6
 have hzhx11 := he6.size
 have hSlhS9 := hS9.lt
 refine wl_val ha10 rfl rfl rfl (op_assign ha10 rfl rfl) ?_
 intro a12 ha12; clear ha10 a10
 refine wpList_nil ?_
 refine then_n ?_
 refine wp_seq ?_
 refine wp_region_lit ?_
 refine wl_val ha12 rfl rfl rfl (op_move ha12 rfl rfl) ?_
 intro a13 ha13; clear ha12 a12
 refine wl_callS ha13 rfl rfl rfl (op_call ha13 rfl cb73 rfl) (c_spec_l30Draw _ g7 w0.heap.size hS9) ?_
 rintro v14 w15 he16 ⟨hS17, ⟨q18, hq19, hq20, ⟨z22, ho21, hN23, hE24⟩⟩⟩ a25 ha25; clear ha13 a13
 have hx26 := hx11.stp he16 (by intro q hq; cases hq; exact (by omega))
 have hzhx26 := he16.size
 clear hS9
 have hSlhS17 := hS17.lt
 have hlhE24 := absLen hE24
 refine wl_val ha25 rfl rfl rfl (op_assign ha25 rfl rfl) ?_
 intro a27 ha27; clear ha25 a25
 refine wpList_nil ?_
 refine then_n ?_
 refine wp_seq ?_
 refine wp_region_lit ?_
 refine wl_val ha27 rfl rfl rfl (op_move ha27 rfl rfl) ?_
 intro a28 ha28; clear ha27 a27
 refine wl_val ha28 rfl rfl rfl (op_move ha28 rfl rfl) ?_
 intro a29 ha29; clear ha28 a28
 refine wl_val ha29 rfl rfl rfl (op_move ha29 rfl rfl) ?_
 intro a30 ha30; clear ha29 a29
 refine wl_callS ha30 rfl rfl rfl (op_call ha30 rfl cb75 rfl) (c_spec_l01Next _ g7 w0.heap.size (5 : Int) hS17) ?_
 rintro v31 w32 he33 ⟨hS34, ⟨q35, hq36, hq37, hq38, rfl⟩⟩ a39 ha39; clear ha30 a30
 have hx40 := hx26.stp he33 (by intro q hq; cases hq; exact (by omega))
 have hzhx40 := he33.size
 first | replace ho21 := ho21.stp he33 (by intro q hq; cases hq; omega) | replace ho21 := ho21.stpF flat_shCustN he33 (by intro q hq; cases hq; exact ho21.ne_box (by assumption) rfl)
 first | replace hN23 := hN23.stp he33 (by intro q hq; cases hq; omega) | replace hN23 := hN23.stpB flat_shStr he33 (by assumption) rfl
 clear hS17
 have hSlhS34 := hS34.lt
 refine wl_eff ha39 rfl rfl rfl (op_buildSlice (s := shI64) (xs := [(q35 : Int), (0 : Int), (20 : Int), (21 : Int), (-1 : Int)]) (cs := [.int .i64 (q35 : Int), .int .i64 (0 : Int), .int .i64 (20 : Int), .int .i64 (21 : Int), .int .i64 (-1 : Int)]) (vs := [(0, .int .i64 (q35 : Int)), (1, .int .i64 (0 : Int)), (2, .int .i64 (20 : Int)), (3, .int .i64 (21 : Int)), (4, .int .i64 (-1 : Int))]) (S := fun _ => False) (le := w32.heap.size) ha39 rfl pos_shI64 Try.underlying69 ti2 rfl rfl (by decide) (by kernel_rfl) ⟨mk_shI64 ((q35 : Int)) (by first | assumption | omega | (constructor <;> omega) | (dsimp only; omega) | (simp; done) | (simp; omega)), mk_shI64 ((0 : Int)) (by first | assumption | omega | (constructor <;> omega) | (dsimp only; omega) | (simp; done) | (simp; omega)), mk_shI64 ((20 : Int)) (by first | assumption | omega | (constructor <;> omega) | (dsimp only; omega) | (simp; done) | (simp; omega)), mk_shI64 ((21 : Int)) (by first | assumption | omega | (constructor <;> omega) | (dsimp only; omega) | (simp; done) | (simp; omega)), mk_shI64 ((-1 : Int)) (by first | assumption | omega | (constructor <;> omega) | (dsimp only; omega) | (simp; done) | (simp; omega)), rfl⟩ (fun _ h => h.elim)) ?_
 rintro v41 w42 ⟨ho43, he44, hob45⟩ a46 ha46; clear ha39 a39
 have hx47 := hx40.trans' he44
 have hzhx47 := he44.size
 replace ho21 := ho21.ext he44
 replace hN23 := hN23.ext he44
 replace hS34 := hS34.ext he44
 refine wl_callS ha46 rfl rfl rfl (op_call ha46 rfl cb77 rfl) (c_spec_l01Pick _ g7 w0.heap.size v41 ([(q35 : Int), (0 : Int), (20 : Int), (21 : Int), (-1 : Int)]) hS34 (ho43.rds pos_shI64) (by rintro ⟨_, _⟩; omega) (by first | assumption | omega | (constructor <;> omega) | (dsimp only; omega) | (simp; done) | (simp; omega))) ?_
 rintro v48 w49 he50 ⟨hS51, ⟨q52, hq53, rfl⟩⟩ a54 ha54; clear ha46 a46
 have hx55 := hx47.stp he50 (by intro q hq; cases hq; exact (by omega))
 have hzhx55 := he50.size
 first | replace ho21 := ho21.stp he50 (by intro q hq; cases hq; omega) | replace ho21 := ho21.stpF flat_shCustN he50 (by intro q hq; cases hq; exact ho21.ne_box (by assumption) rfl)
 first | replace hN23 := hN23.stp he50 (by intro q hq; cases hq; omega) | replace hN23 := hN23.stpB flat_shStr he50 (by assumption) rfl
 first | replace ho43 := ho43.stp he50 (by intro q hq; cases hq; omega) | replace ho43 := ho43.stpF flat_shI64 he50 (by intro q hq; cases hq; exact ho43.ne_box (by assumption) rfl)
 clear hS34
 have hSlhS51 := hS51.lt
 simp only [List.mem_cons, List.not_mem_nil, or_false] at hq53
 refine wl_val ha54 rfl rfl rfl (op_assign ha54 rfl rfl) ?_
 intro a56 ha56; clear ha54 a54
 refine wl_val ha56 rfl rfl rfl (op_assign ha56 rfl rfl) ?_
 intro a57 ha57; clear ha56 a56
 refine wpList_nil ?_
 refine then_n ?_
 refine wp_ret ?_
 refine ret2 ha57 rfl rfl rfl ?_
 clear ha57 a57
 refine ret_mk hx55 ?_
 refine ⟨(((q18)) : List Cust), (q52 : Int), (by first | assumption | omega | (constructor <;> omega) | (simp; done) | (simp; omega)), (by first | assumption | omega | (constructor <;> omega) | (simp; done) | (simp; omega)), (by first | assumption | omega | (constructor <;> omega) | (simp; done) | (simp; omega)), ?_⟩
 refine ⟨v14, z22, (tup2_eq rfl (int_eq (by rfl))), ho21.fin (by omega) (by omega) (by omega), hN23.fin (by omega) (by omega), ?_⟩
 ·
  exact hE24


end Go.Proofs.Ythbkedflhmeohaa
