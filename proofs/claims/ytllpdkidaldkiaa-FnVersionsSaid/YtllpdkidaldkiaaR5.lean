/- Versions and numbers drawn. -/
import Derived.Test.YtllpdkidaldkiaaR4
import Derived.Test.YtllpdkidaldkiaaNarrow
namespace Go.Proofs.Ytllpdkidaldkiaa
open Go Go.RowKit

set_option maxHeartbeats 4000000 in
theorem c_spec_DrawCommonVersion (w0 : World) (v_code : Value) (code : List UInt8) {S_code : Nat → Prop} (h_code : Rds shU8 S_code w0 v_code code) :
  Calls Try.prog 80 #[v_code] w0 (Ret w0 (fun v w1 => ∃ (l : List Ver) (a : Int) (b : Int), (l.length ≤ 22) ∧ (∀ c ∈ l, c.2.length ≤ 9) ∧ (I64 a) ∧ (I64 b) ∧ (fun v w1 => ∃ r0 z0, v = .tuple #[r0, .int .i64 (a), .int .i64 (b)] ∧ Own shVerN 56 w0.heap.size w0.heap.size w1.heap.size w1 r0 z0 ∧ Nst shLine 83 (fun x : Int × List (Str × Int) => x.2) w0.heap.size w1.heap.size w1 z0 ∧ z0.map (·.1) = (l)) v w1)) := by
 refine enter (N := 29) Try.func80 rfl rfl rfl ?_
 intro a0 ha0
 have hx0 := Ext.rfl' w0
 have hl_code := h_code.length_le
 refine wp_seq ?_
 refine wp_region_lit ?_
 refine wl_val ha0 rfl rfl rfl (op_assign ha0 rfl rfl) ?_
 intro a1 ha1; clear ha0 a0
 refine wl_val ha1 rfl rfl rfl (op_assign ha1 rfl rfl) ?_
 intro a2 ha2; clear ha1 a1
 refine wl_val ha2 rfl rfl rfl (op_assign ha2 rfl rfl) ?_
 intro a3 ha3; clear ha2 a2
 refine wpList_nil ?_
 refine then_n ?_
 refine wp_seq ?_
 refine wp_region_lit ?_
 refine wl_val ha3 rfl rfl rfl (op_move ha3 rfl rfl) ?_
 intro a4 ha4; clear ha3 a3
 refine wl_callR ha4 rfl rfl rfl (op_call ha4 rfl cb63 rfl) (c_spec_l01From _ v_code code (h_code.low pos_shU8 hx0 (Nat.le_refl _)) (by omega)) ?_
 rintro v5 w6 he7 ⟨g8, rfl, hg9, hS10⟩ a11 ha11; clear ha4 a4
 have hx12 := hx0.trans' he7
 have hzhx12 := he7.size
 have hSlhS10 := hS10.lt
 refine wl_val ha11 rfl rfl rfl (op_assign ha11 rfl rfl) ?_
 intro a13 ha13; clear ha11 a11
 refine wpList_nil ?_
 refine then_n ?_
 refine wp_seq ?_
 refine wp_region_lit ?_
 refine wl_val ha13 rfl rfl rfl (op_move ha13 rfl rfl) ?_
 intro a14 ha14; clear ha13 a13
 refine wl_callS ha14 rfl rfl rfl (op_call ha14 rfl cb76 rfl) (c_spec_l29Draw _ g8 w0.heap.size hS10) ?_
 rintro v15 w16 he17 ⟨hS18, ⟨q19, hq20, hq21, ⟨z23, ho22, hN24, hE25⟩⟩⟩ a26 ha26; clear ha14 a14
 have hx27 := hx12.stp he17 (by intro q hq; cases hq; exact (by omega))
 have hzhx27 := he17.size
 clear hS10
 have hSlhS18 := hS18.lt
 have hlhE25 := absLen hE25
 refine wl_val ha26 rfl rfl rfl (op_assign ha26 rfl rfl) ?_
 intro a28 ha28; clear ha26 a26
 refine wpList_nil ?_
 refine then_n ?_
 refine wp_seq ?_
 refine wp_region_lit ?_
 refine wl_val ha28 rfl rfl rfl (op_move ha28 rfl rfl) ?_
 intro a29 ha29; clear ha28 a28
 refine wl_val ha29 rfl rfl rfl (op_len_sl ha29 rfl Try.underlying27 rfl (ho22.rds pos_shVerN)) ?_
 intro a30 ha30; clear ha29 a29
 refine wl_val ha30 rfl rfl rfl (op_assign ha30 rfl rfl) ?_
 intro a31 ha31; clear ha30 a30
 refine wpList_nil ?_
 refine then_n ?_
 refine wp_seq ?_
 refine wp_region_lit ?_
 refine wl_val ha31 rfl rfl rfl (op_move ha31 rfl rfl) ?_
 intro a32 ha32; clear ha31 a31
 refine wl_val ha32 rfl rfl rfl (op_move ha32 rfl rfl) ?_
 intro a33 ha33; clear ha32 a32
 refine wl_val ha33 rfl rfl rfl (op_move ha33 rfl rfl) ?_
 intro a34 ha34; clear ha33 a33
 refine wl_val ha34 rfl rfl rfl (op_move ha34 rfl rfl) ?_
 intro a35 ha35; clear ha34 a34
 refine wl_callS ha35 rfl rfl rfl (op_call ha35 rfl cb64 rfl) (c_spec_l01Next _ g8 w0.heap.size (12 : Int) hS18) ?_
 rintro v36 w37 he38 ⟨hS39, ⟨q40, hq41, hq42, hq43, rfl⟩⟩ a44 ha44; clear ha35 a35
 have hx45 := hx27.stp he38 (by intro q hq; cases hq; exact (by omega))
 have hzhx45 := he38.size
 first | replace ho22 := ho22.stp he38 (by intro q hq; cases hq; omega) | replace ho22 := ho22.stpF flat_shVerN he38 (by intro q hq; cases hq; exact ho22.ne_box (by assumption) rfl)
 first | replace hN24 := hN24.stp he38 (by intro q hq; cases hq; omega) | replace hN24 := hN24.stpB flat_shLine he38 (by assumption) rfl
 clear hS18
 have hSlhS39 := hS39.lt
 refine wl_val ha44 rfl rfl rfl ((op_quo ha44 rfl rfl rfl (by omega)).int (IntWalk.i64_quo _ _ (by omega))) ?_
 intro a46 ha46; clear ha44 a44
 refine wl_val ha46 rfl rfl rfl ((op_add ha46 rfl rfl rfl).int (IntWalk.i64_in _ (by omega))) ?_
 intro a47 ha47; clear ha46 a46
 refine wl_callS ha47 rfl rfl rfl (op_call ha47 rfl cb64 rfl) (c_spec_l01Next _ g8 w0.heap.size (((z23.length : Nat) : Int) + ((q40 : Int) / (11 : Int))) hS39) ?_
 rintro v48 w49 he50 ⟨hS51, ⟨q52, hq53, hq54, hq55, rfl⟩⟩ a56 ha56; clear ha47 a47
 have hx57 := hx45.stp he50 (by intro q hq; cases hq; exact (by omega))
 have hzhx57 := he50.size
 first | replace ho22 := ho22.stp he50 (by intro q hq; cases hq; omega) | replace ho22 := ho22.stpF flat_shVerN he50 (by intro q hq; cases hq; exact ho22.ne_box (by assumption) rfl)
 first | replace hN24 := hN24.stp he50 (by intro q hq; cases hq; omega) | replace hN24 := hN24.stpB flat_shLine he50 (by assumption) rfl
 clear hS39
 have hSlhS51 := hS51.lt
 refine wl_val ha56 rfl rfl rfl (op_move ha56 rfl rfl) ?_
 intro a58 ha58; clear ha56 a56
 refine wl_val ha58 rfl rfl rfl (op_move ha58 rfl rfl) ?_
 intro a59 ha59; clear ha58 a58
 refine wl_val ha59 rfl rfl rfl (op_move ha59 rfl rfl) ?_
 intro a60 ha60; clear ha59 a59
 refine wl_callS ha60 rfl rfl rfl (op_call ha60 rfl cb64 rfl) (c_spec_l01Next _ g8 w0.heap.size (12 : Int) hS51) ?_
 rintro v61 w62 he63 ⟨hS64, ⟨q65, hq66, hq67, hq68, rfl⟩⟩ a69 ha69; clear ha60 a60
 have hx70 := hx57.stp he63 (by intro q hq; cases hq; exact (by omega))
 have hzhx70 := he63.size
 first | replace ho22 := ho22.stp he63 (by intro q hq; cases hq; omega) | replace ho22 := ho22.stpF flat_shVerN he63 (by intro q hq; cases hq; exact ho22.ne_box (by assumption) rfl)
 first | replace hN24 := hN24.stp he63 (by intro q hq; cases hq; omega) | replace hN24 := hN24.stpB flat_shLine he63 (by assumption) rfl
 clear hS51
 have hSlhS64 := hS64.lt
 refine wl_val ha69 rfl rfl rfl ((op_quo ha69 rfl rfl rfl (by omega)).int (IntWalk.i64_quo _ _ (by omega))) ?_
 intro a71 ha71; clear ha69 a69
 refine wl_val ha71 rfl rfl rfl ((op_add ha71 rfl rfl rfl).int (IntWalk.i64_in _ (by omega))) ?_
 intro a72 ha72; clear ha71 a71
 refine wl_callS ha72 rfl rfl rfl (op_call ha72 rfl cb64 rfl) (c_spec_l01Next _ g8 w0.heap.size (((z23.length : Nat) : Int) + ((q65 : Int) / (11 : Int))) hS64) ?_
 rintro v73 w74 he75 ⟨hS76, ⟨q77, hq78, hq79, hq80, rfl⟩⟩ a81 ha81; clear ha72 a72
 have hx82 := hx70.stp he75 (by intro q hq; cases hq; exact (by omega))
 have hzhx82 := he75.size
 first | replace ho22 := ho22.stp he75 (by intro q hq; cases hq; omega) | replace ho22 := ho22.stpF flat_shVerN he75 (by intro q hq; cases hq; exact ho22.ne_box (by assumption) rfl)
 first | replace hN24 := hN24.stp he75 (by intro q hq; cases hq; omega) | replace hN24 := hN24.stpB flat_shLine he75 (by assumption) rfl
 clear hS64
 have hSlhS76 := hS76.lt
 refine wl_val ha81 rfl rfl rfl (op_assign ha81 rfl rfl) ?_
 intro a83 ha83; clear ha81 a81
 refine wl_val ha83 rfl rfl rfl (op_assign ha83 rfl rfl) ?_
 intro a84 ha84; clear ha83 a83
 refine wl_val ha84 rfl rfl rfl (op_assign ha84 rfl rfl) ?_
 intro a85 ha85; clear ha84 a84
 refine wpList_nil ?_
 refine then_n ?_
 refine wp_ret ?_
 refine ret3 ha85 rfl rfl rfl rfl ?_
 clear ha85 a85
 refine ret_mk hx82 ?_
 refine ⟨(((q19)) : List Ver), (q52 : Int), (q77 : Int), (by first | assumption | omega | (constructor <;> omega)), (by first | assumption | omega | (constructor <;> omega)), (by first | assumption | omega | (constructor <;> omega)), (by first | assumption | omega | (constructor <;> omega)), ?_⟩
 refine ⟨v15, z23, (tup3_eq rfl (int_eq (by rfl)) (int_eq (by rfl))), ho22.fin (by omega) (by omega) (by omega), hN24.fin (by omega) (by omega), ?_⟩
 ·
  exact hE25

set_option maxHeartbeats 4000000 in
theorem c_spec_DrawValueOf (w0 : World) (v_code : Value) (code : List UInt8) {S_code : Nat → Prop} (h_code : Rds shU8 S_code w0 v_code code) :
  Calls Try.prog 45 #[v_code] w0 (Ret w0 (fun v w1 => ∃ (l : List Ver) (a : Int) (k : Str), (l.length ≤ 22) ∧ (∀ c ∈ l, c.2.length ≤ 9) ∧ (I64 a) ∧ (k.length ≤ 17) ∧ (fun v w1 => ∃ r0 z0, v = .tuple #[r0, .int .i64 (a), St (k)] ∧ Own shVerN 56 w0.heap.size w0.heap.size w1.heap.size w1 r0 z0 ∧ Nst shLine 83 (fun x : Int × List (Str × Int) => x.2) w0.heap.size w1.heap.size w1 z0 ∧ z0.map (·.1) = (l)) v w1)) := by
 refine enter (N := 29) Try.func45 rfl rfl rfl ?_
 intro a0 ha0
 have hx0 := Ext.rfl' w0
 have hl_code := h_code.length_le
 refine wp_seq ?_
 refine wp_region_lit ?_
 refine wl_val ha0 rfl rfl rfl (op_assign ha0 rfl rfl) ?_
 intro a1 ha1; clear ha0 a0
 refine wl_val ha1 rfl rfl rfl (op_assign ha1 rfl rfl) ?_
 intro a2 ha2; clear ha1 a1
 refine wl_val ha2 rfl rfl rfl (op_assign ha2 rfl rfl) ?_
 intro a3 ha3; clear ha2 a2
 refine wpList_nil ?_
 refine then_n ?_
 refine wp_seq ?_
 refine wp_region_lit ?_
 refine wl_val ha3 rfl rfl rfl (op_move ha3 rfl rfl) ?_
 intro a4 ha4; clear ha3 a3
 refine wl_callR ha4 rfl rfl rfl (op_call ha4 rfl cb63 rfl) (c_spec_l01From _ v_code code (h_code.low pos_shU8 hx0 (Nat.le_refl _)) (by omega)) ?_
 rintro v5 w6 he7 ⟨g8, rfl, hg9, hS10⟩ a11 ha11; clear ha4 a4
 have hx12 := hx0.trans' he7
 have hzhx12 := he7.size
 have hSlhS10 := hS10.lt
 refine wl_val ha11 rfl rfl rfl (op_assign ha11 rfl rfl) ?_
 intro a13 ha13; clear ha11 a11
 refine wpList_nil ?_
 refine then_n ?_
 refine wp_seq ?_
 refine wp_region_lit ?_
 refine wl_val ha13 rfl rfl rfl (op_move ha13 rfl rfl) ?_
 intro a14 ha14; clear ha13 a13
 refine wl_callS ha14 rfl rfl rfl (op_call ha14 rfl cb76 rfl) (c_spec_l29Draw _ g8 w0.heap.size hS10) ?_
 rintro v15 w16 he17 ⟨hS18, ⟨q19, hq20, hq21, ⟨z23, ho22, hN24, hE25⟩⟩⟩ a26 ha26; clear ha14 a14
 have hx27 := hx12.stp he17 (by intro q hq; cases hq; exact (by omega))
 have hzhx27 := he17.size
 clear hS10
 have hSlhS18 := hS18.lt
 have hlhE25 := absLen hE25
 refine wl_val ha26 rfl rfl rfl (op_assign ha26 rfl rfl) ?_
 intro a28 ha28; clear ha26 a26
 refine wpList_nil ?_
 refine then_n ?_
 refine wp_seq ?_
 refine wp_region_lit ?_
 refine wl_val ha28 rfl rfl rfl (op_move ha28 rfl rfl) ?_
 intro a29 ha29; clear ha28 a28
 refine wl_callS ha29 rfl rfl rfl (op_call ha29 rfl cb77 rfl) (c_spec_l29Key _ g8 w0.heap.size hS18) ?_
 rintro v30 w31 he32 ⟨hS33, ⟨q34, hq35, rfl⟩⟩ a36 ha36; clear ha29 a29
 have hx37 := hx27.stp he32 (by intro q hq; cases hq; exact (by omega))
 have hzhx37 := he32.size
 first | replace ho22 := ho22.stp he32 (by intro q hq; cases hq; omega) | replace ho22 := ho22.stpF flat_shVerN he32 (by intro q hq; cases hq; exact ho22.ne_box (by assumption) rfl)
 first | replace hN24 := hN24.stp he32 (by intro q hq; cases hq; omega) | replace hN24 := hN24.stpB flat_shLine he32 (by assumption) rfl
 clear hS18
 have hSlhS33 := hS33.lt
 refine wl_val ha36 rfl rfl rfl (op_assign ha36 rfl rfl) ?_
 intro a38 ha38; clear ha36 a36
 refine wpList_nil ?_
 refine then_n ?_
 refine wp_seq ?_
 refine wp_seq ?_
 refine wp_region_lit ?_
 refine wl_val ha38 rfl rfl rfl (op_move ha38 rfl rfl) ?_
 intro a39 ha39; clear ha38 a38
 refine wl_callS ha39 rfl rfl rfl (op_call ha39 rfl cb64 rfl) (c_spec_l01Next _ g8 w0.heap.size (24 : Int) hS33) ?_
 rintro v40 w41 he42 ⟨hS43, ⟨q44, hq45, hq46, hq47, rfl⟩⟩ a48 ha48; clear ha39 a39
 have hx49 := hx37.stp he42 (by intro q hq; cases hq; exact (by omega))
 have hzhx49 := he42.size
 first | replace ho22 := ho22.stp he42 (by intro q hq; cases hq; omega) | replace ho22 := ho22.stpF flat_shVerN he42 (by intro q hq; cases hq; exact ho22.ne_box (by assumption) rfl)
 first | replace hN24 := hN24.stp he42 (by intro q hq; cases hq; omega) | replace hN24 := hN24.stpB flat_shLine he42 (by assumption) rfl
 clear hS33
 have hSlhS43 := hS43.lt
 refine wl_val ha48 rfl rfl rfl (op_eql ha48 rfl rfl rfl) ?_
 intro a50 ha50; clear ha48 a48
 refine wpList_nil ?_
 refine then_n ?_
 by_cases c51 : (q44 : Int) = (0 : Int)
 ·
  rw [decide_eq_true c51] at ha50
  refine cond_t ha50 rfl ?_
  refine wp_region_lit ?_
  refine wl_val ha50 rfl rfl rfl (op_move ha50 rfl rfl) ?_
  intro a52 ha52; clear ha50 a50
  refine wl_callS ha52 rfl rfl rfl (op_call ha52 rfl cb83 rfl) (c_spec_l01DrawWord _ g8 w0.heap.size hS43) ?_
  rintro v53 w54 he55 ⟨hS56, ⟨q57, hq58, rfl⟩⟩ a59 ha59; clear ha52 a52
  have hx60 := hx49.stp he55 (by intro q hq; cases hq; exact (by omega))
  have hzhx60 := he55.size
  first | replace ho22 := ho22.stp he55 (by intro q hq; cases hq; omega) | replace ho22 := ho22.stpF flat_shVerN he55 (by intro q hq; cases hq; exact ho22.ne_box (by assumption) rfl)
  first | replace hN24 := hN24.stp he55 (by intro q hq; cases hq; omega) | replace hN24 := hN24.stpB flat_shLine he55 (by assumption) rfl
  clear hS43
  have hSlhS56 := hS56.lt
  refine wl_val ha59 rfl rfl rfl (op_assign ha59 rfl rfl) ?_
  intro a61 ha61; clear ha59 a59
  refine wpList_nil ?_
  refine then_n ?_
  refine wp_seq ?_
  refine wp_region_lit ?_
  refine wl_val ha61 rfl rfl rfl (op_move ha61 rfl rfl) ?_
  intro a62 ha62; clear ha61 a61
  refine wl_val ha62 rfl rfl rfl (op_move ha62 rfl rfl) ?_
  intro a63 ha63; clear ha62 a62
  refine wl_val ha63 rfl rfl rfl (op_move ha63 rfl rfl) ?_
  intro a64 ha64; clear ha63 a63
  refine wl_val ha64 rfl rfl rfl (op_len_sl ha64 rfl Try.underlying27 rfl (ho22.rds pos_shVerN)) ?_
  intro a65 ha65; clear ha64 a64
  refine wl_val ha65 rfl rfl rfl (op_move ha65 rfl rfl) ?_
  intro a66 ha66; clear ha65 a65
  refine wl_callS ha66 rfl rfl rfl (op_call ha66 rfl cb64 rfl) (c_spec_l01Next _ g8 w0.heap.size (12 : Int) hS56) ?_
  rintro v67 w68 he69 ⟨hS70, ⟨q71, hq72, hq73, hq74, rfl⟩⟩ a75 ha75; clear ha66 a66
  have hx76 := hx60.stp he69 (by intro q hq; cases hq; exact (by omega))
  have hzhx76 := he69.size
  first | replace ho22 := ho22.stp he69 (by intro q hq; cases hq; omega) | replace ho22 := ho22.stpF flat_shVerN he69 (by intro q hq; cases hq; exact ho22.ne_box (by assumption) rfl)
  first | replace hN24 := hN24.stp he69 (by intro q hq; cases hq; omega) | replace hN24 := hN24.stpB flat_shLine he69 (by assumption) rfl
  clear hS56
  have hSlhS70 := hS70.lt
  refine wl_val ha75 rfl rfl rfl ((op_quo ha75 rfl rfl rfl (by omega)).int (IntWalk.i64_quo _ _ (by omega))) ?_
  intro a77 ha77; clear ha75 a75
  refine wl_val ha77 rfl rfl rfl ((op_add ha77 rfl rfl rfl).int (IntWalk.i64_in _ (by omega))) ?_
  intro a78 ha78; clear ha77 a77
  refine wl_callS ha78 rfl rfl rfl (op_call ha78 rfl cb64 rfl) (c_spec_l01Next _ g8 w0.heap.size (((z23.length : Nat) : Int) + ((q71 : Int) / (11 : Int))) hS70) ?_
  rintro v79 w80 he81 ⟨hS82, ⟨q83, hq84, hq85, hq86, rfl⟩⟩ a87 ha87; clear ha78 a78
  have hx88 := hx76.stp he81 (by intro q hq; cases hq; exact (by omega))
  have hzhx88 := he81.size
  first | replace ho22 := ho22.stp he81 (by intro q hq; cases hq; omega) | replace ho22 := ho22.stpF flat_shVerN he81 (by intro q hq; cases hq; exact ho22.ne_box (by assumption) rfl)
  first | replace hN24 := hN24.stp he81 (by intro q hq; cases hq; omega) | replace hN24 := hN24.stpB flat_shLine he81 (by assumption) rfl
  clear hS70
  have hSlhS82 := hS82.lt
  refine wl_val ha87 rfl rfl rfl (op_move ha87 rfl rfl) ?_
  intro a89 ha89; clear ha87 a87
  refine wl_val ha89 rfl rfl rfl (op_assign ha89 rfl rfl) ?_
  intro a90 ha90; clear ha89 a89
  refine wl_val ha90 rfl rfl rfl (op_assign ha90 rfl rfl) ?_
  intro a91 ha91; clear ha90 a90
  refine wl_val ha91 rfl rfl rfl (op_assign ha91 rfl rfl) ?_
  intro a92 ha92; clear ha91 a91
  refine wpList_nil ?_
  refine then_n ?_
  refine wp_ret ?_
  refine ret3 ha92 rfl rfl rfl rfl ?_
  clear ha92 a92
  refine ret_mk hx88 ?_
  refine ⟨(((q19)) : List Ver), (q83 : Int), ((q57) : Str), (by first | assumption | omega | (constructor <;> omega)), (by first | assumption | omega | (constructor <;> omega)), (by first | assumption | omega | (constructor <;> omega)), (by first | assumption | omega | (constructor <;> omega)), ?_⟩
  refine ⟨v15, z23, (tup3_eq rfl (int_eq (by rfl)) (congrArg St (by rfl))), ho22.fin (by omega) (by omega) (by omega), hN24.fin (by omega) (by omega), ?_⟩
  ·
   exact hE25
 ·
  rw [decide_eq_false c51] at ha50
  refine cond_f ha50 rfl ?_
  refine wp_skip ?_
  refine then_n ?_
  refine wp_seq ?_
  refine wp_region_lit ?_
  refine wl_val ha50 rfl rfl rfl (op_move ha50 rfl rfl) ?_
  intro a93 ha93; clear ha50 a50
  refine wl_val ha93 rfl rfl rfl (op_move ha93 rfl rfl) ?_
  intro a94 ha94; clear ha93 a93
  refine wl_val ha94 rfl rfl rfl (op_move ha94 rfl rfl) ?_
  intro a95 ha95; clear ha94 a94
  refine wl_val ha95 rfl rfl rfl (op_len_sl ha95 rfl Try.underlying27 rfl (ho22.rds pos_shVerN)) ?_
  intro a96 ha96; clear ha95 a95
  refine wl_val ha96 rfl rfl rfl (op_move ha96 rfl rfl) ?_
  intro a97 ha97; clear ha96 a96
  refine wl_callS ha97 rfl rfl rfl (op_call ha97 rfl cb64 rfl) (c_spec_l01Next _ g8 w0.heap.size (12 : Int) hS43) ?_
  rintro v98 w99 he100 ⟨hS101, ⟨q102, hq103, hq104, hq105, rfl⟩⟩ a106 ha106; clear ha97 a97
  have hx107 := hx49.stp he100 (by intro q hq; cases hq; exact (by omega))
  have hzhx107 := he100.size
  first | replace ho22 := ho22.stp he100 (by intro q hq; cases hq; omega) | replace ho22 := ho22.stpF flat_shVerN he100 (by intro q hq; cases hq; exact ho22.ne_box (by assumption) rfl)
  first | replace hN24 := hN24.stp he100 (by intro q hq; cases hq; omega) | replace hN24 := hN24.stpB flat_shLine he100 (by assumption) rfl
  clear hS43
  have hSlhS101 := hS101.lt
  refine wl_val ha106 rfl rfl rfl ((op_quo ha106 rfl rfl rfl (by omega)).int (IntWalk.i64_quo _ _ (by omega))) ?_
  intro a108 ha108; clear ha106 a106
  refine wl_val ha108 rfl rfl rfl ((op_add ha108 rfl rfl rfl).int (IntWalk.i64_in _ (by omega))) ?_
  intro a109 ha109; clear ha108 a108
  refine wl_callS ha109 rfl rfl rfl (op_call ha109 rfl cb64 rfl) (c_spec_l01Next _ g8 w0.heap.size (((z23.length : Nat) : Int) + ((q102 : Int) / (11 : Int))) hS101) ?_
  rintro v110 w111 he112 ⟨hS113, ⟨q114, hq115, hq116, hq117, rfl⟩⟩ a118 ha118; clear ha109 a109
  have hx119 := hx107.stp he112 (by intro q hq; cases hq; exact (by omega))
  have hzhx119 := he112.size
  first | replace ho22 := ho22.stp he112 (by intro q hq; cases hq; omega) | replace ho22 := ho22.stpF flat_shVerN he112 (by intro q hq; cases hq; exact ho22.ne_box (by assumption) rfl)
  first | replace hN24 := hN24.stp he112 (by intro q hq; cases hq; omega) | replace hN24 := hN24.stpB flat_shLine he112 (by assumption) rfl
  clear hS101
  have hSlhS113 := hS113.lt
  refine wl_val ha118 rfl rfl rfl (op_move ha118 rfl rfl) ?_
  intro a120 ha120; clear ha118 a118
  refine wl_val ha120 rfl rfl rfl (op_assign ha120 rfl rfl) ?_
  intro a121 ha121; clear ha120 a120
  refine wl_val ha121 rfl rfl rfl (op_assign ha121 rfl rfl) ?_
  intro a122 ha122; clear ha121 a121
  refine wl_val ha122 rfl rfl rfl (op_assign ha122 rfl rfl) ?_
  intro a123 ha123; clear ha122 a122
  refine wpList_nil ?_
  refine then_n ?_
  refine wp_ret ?_
  refine ret3 ha123 rfl rfl rfl rfl ?_
  clear ha123 a123
  refine ret_mk hx119 ?_
  refine ⟨(((q19)) : List Ver), (q114 : Int), ((q34) : Str), (by first | assumption | omega | (constructor <;> omega)), (by first | assumption | omega | (constructor <;> omega)), (by first | assumption | omega | (constructor <;> omega)), (by first | assumption | omega | (constructor <;> omega)), ?_⟩
  refine ⟨v15, z23, (tup3_eq rfl (int_eq (by rfl)) (congrArg St (by rfl))), ho22.fin (by omega) (by omega) (by omega), hN24.fin (by omega) (by omega), ?_⟩
  ·
   exact hE25


end Go.Proofs.Ytllpdkidaldkiaa
