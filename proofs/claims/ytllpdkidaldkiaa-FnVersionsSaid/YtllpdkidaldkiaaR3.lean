/- Versions drawn. -/
import Derived.Test.YtllpdkidaldkiaaR2
import Derived.Test.YtllpdkidaldkiaaNarrow
namespace Go.Proofs.Ytllpdkidaldkiaa
open Go Go.RowKit

set_option maxHeartbeats 4000000 in
theorem c_spec_l29Good (w0 : World) (g_s b_s : Nat) (h_s : Src w0 g_s b_s 102) :
  Calls Try.prog 87 #[.pointer (some (⟨g_s, 0, none⟩ : Addr))] w0 (RetS w0 (some g_s) (fun v w1 => Src w1 g_s b_s 102 ∧ (fun v w1 => ∃ (l : List Ver), (veB l = true) ∧ (fun v w1 => ∃ z, Own shVerN 56 w0.heap.size w0.heap.size w1.heap.size w1 v z ∧ Nst shLine 83 (fun x : Int × List (Str × Int) => x.2) w0.heap.size w1.heap.size w1 z ∧ z.map (·.1) = (l)) v w1) v w1)) := by
 refine enter (N := 45) Try.func87 rfl rfl rfl ?_
 intro a0 ha0
 have hx0 := Stp.rfl' w0 (some g_s)
 have hgl_s := h_s.lt
 refine wp_seq ?_
 refine wp_region_lit ?_
 refine wl_val ha0 rfl rfl rfl (op_assign ha0 rfl rfl) ?_
 intro a1 ha1; clear ha0 a0
 refine wpList_nil ?_
 refine then_n ?_
 refine wp_seq ?_
 refine wp_region_lit ?_
 refine wl_eff ha1 rfl rfl rfl (op_buildSlice (s := shLine) (xs := ([] : List (Str × Int))) (cs := []) (vs := []) (S := fun _ => False) (le := w0.heap.size) ha1 rfl pos_shLine Try.underlying34 ti83 rfl rfl (by decide) (by kernel_rfl) rfl (fun _ h => h.elim)) ?_
 rintro v2 w3 ⟨ho4, he5, hob6⟩ a7 ha7; clear ha1 a1
 have hx8 := hx0.trans' (Stp.of_ext he5 _)
 have hzhx8 := he5.size
 replace h_s := h_s.ext he5
 refine wl_val ha7 rfl rfl rfl (op_build (vs := [(0, .int .i64 (-1 : Int)), (1, v2)]) (cs := #[.int .i64 (-1 : Int), v2]) ha7 rfl Try.underlying56 ti56 bp56 rfl ((fill_one rfl rfl rfl).trans ((fill_one ho4.cells1 rfl rfl).trans rfl))) ?_
 intro a9 ha9; clear ha7 a7
 refine wl_eff ha9 rfl rfl rfl (op_buildSlice (s := shVerN) (xs := [((((-1 : Int), ([] : List (Str × Int))) : Int × List (Str × Int)), (v2 : Value))]) (cs := [.int .i64 (-1 : Int), v2]) (vs := [(0, .agg #[.int .i64 (-1 : Int), v2])]) (S := fun _ => False) (le := w3.heap.size) ha9 rfl pos_shVerN Try.underlying27 ti56 rfl rfl (by decide) (by kernel_rfl) (Els.single (mk_shVerN (((((-1 : Int), ([] : List (Str × Int))) : Int × List (Str × Int)), (v2 : Value))) (by first | omega | (simp only []; omega) | (simp; done)) ho4.one)) (fun _ h => h.elim)) ?_
 rintro v10 w11 ⟨ho12, he13, hob14⟩ a15 ha15; clear ha9 a9
 have hx16 := hx8.trans' (Stp.of_ext he13 _)
 have hzhx16 := he13.size
 replace h_s := h_s.ext he13
 replace ho4 := ho4.ext he13
 have hN17 : Nst shLine 83 (fun x : Int × List (Str × Int) => x.2) w0.heap.size w11.heap.size w11 ([((((-1 : Int), ([] : List (Str × Int))) : Int × List (Str × Int)), (v2 : Value))]) := Nst.one (ho4.fin (by omega) (by omega) (by omega))
 refine wl_val ha15 rfl rfl rfl (op_assign ha15 rfl rfl) ?_
 intro a18 ha18; clear ha15 a15
 refine wpList_nil ?_
 refine then_n ?_
 refine wp_seq ?_
 refine wp_seq ?_
 refine wp_region_lit ?_
 refine wl_val ha18 rfl rfl rfl (op_move ha18 rfl rfl) ?_
 intro a19 ha19; clear ha18 a18
 refine wl_callS ha19 rfl rfl rfl (op_call ha19 rfl cb64 rfl) (c_spec_l01Next _ g_s b_s (8 : Int) h_s) ?_
 rintro v20 w21 he22 ⟨hS23, ⟨q24, hq25, hq26, hq27, rfl⟩⟩ a28 ha28; clear ha19 a19
 have hx29 := hx16.trans' he22
 have hzhx29 := he22.size
 first | replace ho4 := ho4.stp he22 (by intro q hq; cases hq; omega) | replace ho4 := ho4.stpF flat_shLine he22 (by intro q hq; cases hq; exact ho4.ne_box (by assumption) rfl)
 first | replace ho12 := ho12.stp he22 (by intro q hq; cases hq; omega) | replace ho12 := ho12.stpF flat_shVerN he22 (by intro q hq; cases hq; exact ho12.ne_box (by assumption) rfl)
 first | replace hN17 := hN17.stp he22 (by intro q hq; cases hq; omega) | replace hN17 := hN17.stpB flat_shLine he22 (by assumption) rfl
 have hSlhS23 := hS23.lt
 refine wl_val ha28 rfl rfl rfl ((op_add ha28 rfl rfl rfl).int (IntWalk.i64_in _ (by omega))) ?_
 intro a30 ha30; clear ha28 a28
 refine wl_val ha30 rfl rfl rfl (op_assign ha30 rfl rfl) ?_
 intro a31 ha31; clear ha30 a30
 refine wpList_nil ?_
 refine then_n ?_
 refine wp_block ?_
 refine loop_inv (X := Int × Value × (List ((Int × List (Str × Int)) × Value))) (fun (⟨m, v, zs⟩ : Int × Value × (List ((Int × List (Str × Int)) × Value))) fr wl => Sl 45 fr [(0, .pointer (some (⟨g_s, 0, none⟩ : Addr))), (3, v), (4, .int .i64 m)] ∧ Stp w0 wl (some g_s) ∧ Src wl g_s b_s 102 ∧ Own shVerN 56 w0.heap.size w0.heap.size wl.heap.size wl v zs ∧ Nst shLine 83 (fun x : Int × List (Str × Int) => x.2) w0.heap.size wl.heap.size wl zs ∧ w21.heap.size ≤ wl.heap.size ∧ (0 ≤ m) ∧ (m ≤ 9) ∧ (veB (zs.map (·.1)) = true)) (fun (⟨m, v, zs⟩ : Int × Value × (List ((Int × List (Str × Int)) × Value))) => m.toNat) (((2 : Int) + (q24 : Int)), v10, [((((-1 : Int), ([] : List (Str × Int))) : Int × List (Str × Int)), (v2 : Value))]) ?_ ?_
 ·
  exact ⟨(Sl.cons_ ha31 rfl rfl (Sl.cons_ ha31 rfl rfl (Sl.cons_ ha31 rfl (int_eq (by omega)) (Sl.nil_ ha31)))), hx29, hS23, (ho12.fin (by omega) (by omega) (by omega)), (hN17.fin (by omega) (by omega)), (by omega), (by omega), (by omega), (by rfl)⟩
 ·
  clear ha31 a31
  rintro ⟨m, v, zs⟩ a37 w32 ⟨ha37, hx33, hf34, hf35, hf36, hzl38, hm0, hm1, hV⟩
  have hzhx33 := hx33.size
  have hgl39 := hf34.lt
  have hlv := veB_len hV
  rw [List.length_map] at hlv
  refine wp_seq ?_
  refine wp_seq ?_
  refine wp_region_lit ?_
  refine wl_val ha37 rfl rfl rfl (op_move ha37 rfl rfl) ?_
  intro a40 ha40; clear ha37 a37
  refine wl_val ha40 rfl rfl rfl (op_gtr ha40 rfl rfl rfl) ?_
  intro a41 ha41; clear ha40 a40
  refine wpList_nil ?_
  refine then_n ?_
  by_cases c42 : (0 : Int) < m
  ·
   rw [decide_eq_true c42] at ha41
   refine cond_t ha41 rfl ?_
   refine wp_skip ?_
   refine then_n ?_
   refine wp_seq ?_
   refine wp_block ?_
   refine wp_seq ?_
   refine wp_region_lit ?_
   refine wl_val ha41 rfl rfl rfl (op_move ha41 rfl rfl) ?_
   intro a43 ha43; clear ha41 a41
   refine wl_val ha43 rfl rfl rfl (op_move ha43 rfl rfl) ?_
   intro a44 ha44; clear ha43 a43
   refine wl_val ha44 rfl rfl rfl (op_move ha44 rfl rfl) ?_
   intro a45 ha45; clear ha44 a44
   refine wl_val ha45 rfl rfl rfl (op_move ha45 rfl rfl) ?_
   intro a46 ha46; clear ha45 a45
   refine wl_val ha46 rfl rfl rfl (op_len_sl ha46 rfl Try.underlying27 rfl (hf35.rds pos_shVerN)) ?_
   intro a47 ha47; clear ha46 a46
   refine wl_callS ha47 rfl rfl rfl (op_call ha47 rfl cb64 rfl) (c_spec_l01Next _ g_s b_s ((zs.length : Nat) : Int) hf34) ?_
   rintro v48 w49 he50 ⟨hS51, ⟨q52, hq53, hq54, hq55, rfl⟩⟩ a56 ha56; clear ha47 a47
   have hx57 := hx33.trans' he50
   have hzhx57 := he50.size
   first | replace hf35 := hf35.stp he50 (by intro q hq; cases hq; omega) | replace hf35 := hf35.stpF flat_shVerN he50 (by intro q hq; cases hq; exact hf35.ne_box (by assumption) rfl)
   first | replace hf36 := hf36.stp he50 (by intro q hq; cases hq; omega) | replace hf36 := hf36.stpB flat_shLine he50 (by assumption) rfl
   clear hf34
   have hSlhS51 := hS51.lt
   refine wl_val ha56 rfl rfl rfl (op_move ha56 rfl rfl) ?_
   intro a58 ha58; clear ha56 a56
   refine wl_val ha58 rfl rfl rfl (op_len_sl ha58 rfl Try.underlying27 rfl (hf35.rds pos_shVerN)) ?_
   intro a59 ha59; clear ha58 a58
   refine wl_val ha59 rfl rfl rfl ((op_sub ha59 rfl rfl rfl).int (IntWalk.i64_in _ (by omega))) ?_
   intro a60 ha60; clear ha59 a59
   refine wl_eff ha60 rfl rfl rfl (op_buildSlice (s := shI64) (xs := [(q52 : Int), (((zs.length : Nat) : Int) - (1 : Int))]) (cs := [.int .i64 (q52 : Int), .int .i64 (((zs.length : Nat) : Int) - (1 : Int))]) (vs := [(0, .int .i64 (q52 : Int)), (1, .int .i64 (((zs.length : Nat) : Int) - (1 : Int)))]) (S := fun _ => False) (le := w49.heap.size) ha60 rfl pos_shI64 Try.underlying46 ti2 rfl rfl (by decide) (by kernel_rfl) ⟨mk_shI64 ((q52 : Int)) (by first | omega | (simp only []; omega) | (simp; done)), mk_shI64 ((((zs.length : Nat) : Int) - (1 : Int))) (by first | omega | (simp only []; omega) | (simp; done)), rfl⟩ (fun _ h => h.elim)) ?_
   rintro v61 w62 ⟨ho63, he64, hob65⟩ a66 ha66; clear ha60 a60
   have hx67 := hx57.trans' (Stp.of_ext he64 _)
   have hzhx67 := he64.size
   replace hf35 := hf35.ext he64
   replace hf36 := hf36.ext he64
   replace hS51 := hS51.ext he64
   refine wl_callS ha66 rfl rfl rfl (op_call ha66 rfl cb65 rfl) (c_spec_l01Pick _ g_s b_s v61 ([(q52 : Int), (((zs.length : Nat) : Int) - (1 : Int))]) hS51 (ho63.rds pos_shI64) (by rintro ⟨_, _⟩; omega) (by first | assumption | omega | (simp; done) | (simp; omega) | decide)) ?_
   rintro v68 w69 he70 ⟨hS71, ⟨q72, hq73, rfl⟩⟩ a74 ha74; clear ha66 a66
   have hx75 := hx67.trans' he70
   have hzhx75 := he70.size
   first | replace hf35 := hf35.stp he70 (by intro q hq; cases hq; omega) | replace hf35 := hf35.stpF flat_shVerN he70 (by intro q hq; cases hq; exact hf35.ne_box (by assumption) rfl)
   first | replace hf36 := hf36.stp he70 (by intro q hq; cases hq; omega) | replace hf36 := hf36.stpB flat_shLine he70 (by assumption) rfl
   first | replace ho63 := ho63.stp he70 (by intro q hq; cases hq; omega) | replace ho63 := ho63.stpF flat_shI64 he70 (by intro q hq; cases hq; exact ho63.ne_box (by assumption) rfl)
   clear hS51
   have hSlhS71 := hS71.lt
   simp only [List.mem_cons, List.not_mem_nil, or_false] at hq73
   refine wl_val ha74 rfl rfl rfl (op_move ha74 rfl rfl) ?_
   intro a76 ha76; clear ha74 a74
   refine wl_callS ha76 rfl rfl rfl (op_call ha76 rfl cb77 rfl) (c_spec_l29Key _ g_s b_s hS71) ?_
   rintro v77 w78 he79 ⟨hS80, ⟨q81, hq82, rfl⟩⟩ a83 ha83; clear ha76 a76
   have hx84 := hx75.trans' he79
   have hzhx84 := he79.size
   first | replace hf35 := hf35.stp he79 (by intro q hq; cases hq; omega) | replace hf35 := hf35.stpF flat_shVerN he79 (by intro q hq; cases hq; exact hf35.ne_box (by assumption) rfl)
   first | replace hf36 := hf36.stp he79 (by intro q hq; cases hq; omega) | replace hf36 := hf36.stpB flat_shLine he79 (by assumption) rfl
   first | replace ho63 := ho63.stp he79 (by intro q hq; cases hq; omega) | replace ho63 := ho63.stpF flat_shI64 he79 (by intro q hq; cases hq; exact ho63.ne_box (by assumption) rfl)
   clear hS71
   have hSlhS80 := hS80.lt
   refine wl_val ha83 rfl rfl rfl (op_move ha83 rfl rfl) ?_
   intro a85 ha85; clear ha83 a83
   refine wl_val ha85 rfl rfl rfl (op_move ha85 rfl rfl) ?_
   intro a86 ha86; clear ha85 a85
   refine wl_callS ha86 rfl rfl rfl (op_call ha86 rfl cb64 rfl) (c_spec_l01Next _ g_s b_s (3 : Int) hS80) ?_
   rintro v87 w88 he89 ⟨hS90, ⟨q91, hq92, hq93, hq94, rfl⟩⟩ a95 ha95; clear ha86 a86
   have hx96 := hx84.trans' he89
   have hzhx96 := he89.size
   first | replace hf35 := hf35.stp he89 (by intro q hq; cases hq; omega) | replace hf35 := hf35.stpF flat_shVerN he89 (by intro q hq; cases hq; exact hf35.ne_box (by assumption) rfl)
   first | replace hf36 := hf36.stp he89 (by intro q hq; cases hq; omega) | replace hf36 := hf36.stpB flat_shLine he89 (by assumption) rfl
   first | replace ho63 := ho63.stp he89 (by intro q hq; cases hq; omega) | replace ho63 := ho63.stpF flat_shI64 he89 (by intro q hq; cases hq; exact ho63.ne_box (by assumption) rfl)
   clear hS80
   have hSlhS90 := hS90.lt
   refine wl_val ha95 rfl rfl rfl (op_move ha95 rfl rfl) ?_
   intro a97 ha97; clear ha95 a95
   refine wl_callS ha97 rfl rfl rfl (op_call ha97 rfl cb64 rfl) (c_spec_l01Next _ g_s b_s (3 : Int) hS90) ?_
   rintro v98 w99 he100 ⟨hS101, ⟨q102, hq103, hq104, hq105, rfl⟩⟩ a106 ha106; clear ha97 a97
   have hx107 := hx96.trans' he100
   have hzhx107 := he100.size
   first | replace hf35 := hf35.stp he100 (by intro q hq; cases hq; omega) | replace hf35 := hf35.stpF flat_shVerN he100 (by intro q hq; cases hq; exact hf35.ne_box (by assumption) rfl)
   first | replace hf36 := hf36.stp he100 (by intro q hq; cases hq; omega) | replace hf36 := hf36.stpB flat_shLine he100 (by assumption) rfl
   first | replace ho63 := ho63.stp he100 (by intro q hq; cases hq; omega) | replace ho63 := ho63.stpF flat_shI64 he100 (by intro q hq; cases hq; exact ho63.ne_box (by assumption) rfl)
   clear hS90
   have hSlhS101 := hS101.lt
   refine wl_eff ha106 rfl rfl rfl (op_buildSlice (s := shI64) (xs := [(q91 : Int), (q102 : Int), (-1 : Int)]) (cs := [.int .i64 (q91 : Int), .int .i64 (q102 : Int), .int .i64 (-1 : Int)]) (vs := [(0, .int .i64 (q91 : Int)), (1, .int .i64 (q102 : Int)), (2, .int .i64 (-1 : Int))]) (S := fun _ => False) (le := w99.heap.size) ha106 rfl pos_shI64 Try.underlying46 ti2 rfl rfl (by decide) (by kernel_rfl) ⟨mk_shI64 ((q91 : Int)) (by first | omega | (simp only []; omega) | (simp; done)), mk_shI64 ((q102 : Int)) (by first | omega | (simp only []; omega) | (simp; done)), mk_shI64 ((-1 : Int)) (by first | omega | (simp only []; omega) | (simp; done)), rfl⟩ (fun _ h => h.elim)) ?_
   rintro v108 w109 ⟨ho110, he111, hob112⟩ a113 ha113; clear ha106 a106
   have hx114 := hx107.trans' (Stp.of_ext he111 _)
   have hzhx114 := he111.size
   replace hf35 := hf35.ext he111
   replace hf36 := hf36.ext he111
   replace ho63 := ho63.ext he111
   replace hS101 := hS101.ext he111
   refine wl_callS ha113 rfl rfl rfl (op_call ha113 rfl cb65 rfl) (c_spec_l01Pick _ g_s b_s v108 ([(q91 : Int), (q102 : Int), (-1 : Int)]) hS101 (ho110.rds pos_shI64) (by rintro ⟨_, _⟩; omega) (by first | assumption | omega | (simp; done) | (simp; omega) | decide)) ?_
   rintro v115 w116 he117 ⟨hS118, ⟨q119, hq120, rfl⟩⟩ a121 ha121; clear ha113 a113
   have hx122 := hx114.trans' he117
   have hzhx122 := he117.size
   first | replace hf35 := hf35.stp he117 (by intro q hq; cases hq; omega) | replace hf35 := hf35.stpF flat_shVerN he117 (by intro q hq; cases hq; exact hf35.ne_box (by assumption) rfl)
   first | replace hf36 := hf36.stp he117 (by intro q hq; cases hq; omega) | replace hf36 := hf36.stpB flat_shLine he117 (by assumption) rfl
   first | replace ho63 := ho63.stp he117 (by intro q hq; cases hq; omega) | replace ho63 := ho63.stpF flat_shI64 he117 (by intro q hq; cases hq; exact ho63.ne_box (by assumption) rfl)
   first | replace ho110 := ho110.stp he117 (by intro q hq; cases hq; omega) | replace ho110 := ho110.stpF flat_shI64 he117 (by intro q hq; cases hq; exact ho110.ne_box (by assumption) rfl)
   clear hS101
   have hSlhS118 := hS118.lt
   simp only [List.mem_cons, List.not_mem_nil, or_false] at hq120
   refine wl_callR ha121 rfl rfl rfl (op_call ha121 rfl cb27 rfl) (c_spec_SetValue _ v ((zs.map (·.1))) (q72 : Int) ((q81)) (q119 : Int) (rds_shVerN (hf35.fin (by omega) (by omega) (by omega)) hf36) (by first | assumption | omega | (simp; done) | (simp; omega) | decide) (by first | assumption | omega | (simp; done) | (simp; omega) | decide) (by first | assumption | omega | (simp; done) | (simp; omega) | decide)) ?_
   rintro v123 w124 he125 ⟨u126, z128, rfl, ho127, hN129, hE130⟩ a131 ha131; clear ha121 a121
   have hx132 := hx122.trans' (Stp.of_ext he125 _)
   have hzhx132 := he125.size
   replace hf35 := hf35.ext he125
   replace hf36 := hf36.ext he125
   replace ho63 := ho63.ext he125
   replace ho110 := ho110.ext he125
   replace hS118 := hS118.ext he125
   have hlhE130 := absLen hE130
   refine wl_val ha131 rfl rfl rfl (op_move ha131 rfl rfl) ?_
   intro a133 ha133; clear ha131 a131
   refine wl_val ha133 rfl rfl rfl (op_extract ha133 rfl rfl rfl) ?_
   intro a134 ha134; clear ha133 a133
   refine wl_val ha134 rfl rfl rfl (op_extract ha134 rfl rfl rfl) ?_
   intro a135 ha135; clear ha134 a134
   refine wl_val ha135 rfl rfl rfl (op_assign ha135 rfl rfl) ?_
   intro a136 ha136; clear ha135 a135
   refine wl_val ha136 rfl rfl rfl (op_assign ha136 rfl rfl) ?_
   intro a137 ha137; clear ha136 a136
   refine wpList_nil ?_
   refine then_n ?_
   refine wp_seq ?_
   refine wp_region_lit ?_
   refine wl_val ha137 rfl rfl rfl (op_move ha137 rfl rfl) ?_
   intro a138 ha138; clear ha137 a137
   refine wl_val ha138 rfl rfl rfl (op_eql ha138 rfl rfl rfl) ?_
   intro a139 ha139; clear ha138 a138
   refine wpList_nil ?_
   refine then_n ?_
   by_cases c140 : (sdC ((zs.map (·.1))) (q72 : Int) ((q81)) (q119 : Int) : Int) = (0 : Int)
   ·
    rw [decide_eq_true c140] at ha139
    refine cond_t ha139 rfl ?_
    refine wp_region_lit ?_
    refine wl_val ha139 rfl rfl rfl (op_move ha139 rfl rfl) ?_
    intro a141 ha141; clear ha139 a139
    refine wl_val ha141 rfl rfl rfl (op_assign ha141 rfl rfl) ?_
    intro a142 ha142; clear ha141 a141
    refine wpList_nil ?_
    refine block_n ?_
    refine then_n ?_
    refine wp_region_lit ?_
    refine wl_val ha142 rfl rfl rfl (op_move ha142 rfl rfl) ?_
    intro a143 ha143; clear ha142 a142
    refine wl_val ha143 rfl rfl rfl ((op_sub ha143 rfl rfl rfl).int (IntWalk.i64_in _ (by omega))) ?_
    intro a144 ha144; clear ha143 a143
    refine wl_val ha144 rfl rfl rfl (op_assign ha144 rfl rfl) ?_
    intro a145 ha145; clear ha144 a144
    refine wpList_nil ?_
    refine round_end (x := (m, v, zs)) ((m - (1 : Int)), u126, z128) ?_ ?_
    ·
     refine ⟨(Sl.cons_ ha145 rfl rfl (Sl.cons_ ha145 rfl rfl (Sl.cons_ ha145 rfl (int_eq (by omega)) (Sl.nil_ ha145)))), hx132, hS118, (ho127.fin (by omega) (by omega) (by omega)), (hN129.fin (by omega) (by omega)), (by omega), (by omega), (by omega), (by rw [hE130]; exact sd_ve c140)⟩
    ·show (((m - (1 : Int))).toNat : Nat) < m.toNat; omega
   ·
    rw [decide_eq_false c140] at ha139
    refine cond_f ha139 rfl ?_
    refine wp_skip ?_
    refine block_n ?_
    refine then_n ?_
    refine wp_region_lit ?_
    refine wl_val ha139 rfl rfl rfl (op_move ha139 rfl rfl) ?_
    intro a146 ha146; clear ha139 a139
    refine wl_val ha146 rfl rfl rfl ((op_sub ha146 rfl rfl rfl).int (IntWalk.i64_in _ (by omega))) ?_
    intro a147 ha147; clear ha146 a146
    refine wl_val ha147 rfl rfl rfl (op_assign ha147 rfl rfl) ?_
    intro a148 ha148; clear ha147 a147
    refine wpList_nil ?_
    refine round_end (x := (m, v, zs)) ((m - (1 : Int)), v, zs) ?_ ?_
    ·
     refine ⟨(Sl.cons_ ha148 rfl rfl (Sl.cons_ ha148 rfl rfl (Sl.cons_ ha148 rfl (int_eq (by omega)) (Sl.nil_ ha148)))), hx132, hS118, (hf35.fin (by omega) (by omega) (by omega)), (hf36.fin (by omega) (by omega)), (by omega), (by omega), (by omega), (by exact hV)⟩
    ·show (((m - (1 : Int))).toNat : Nat) < m.toNat; omega
  ·
   rw [decide_eq_false c42] at ha41
   refine cond_f ha41 rfl ?_
   refine wp_exit ?_
   refine then_e ?_
   refine then_e ?_
   refine block_hit ?_
   refine then_n ?_
   refine wp_seq ?_
   refine wp_region_lit ?_
   refine wl_val ha41 rfl rfl rfl (op_move ha41 rfl rfl) ?_
   intro a149 ha149; clear ha41 a41
   refine wl_val ha149 rfl rfl rfl (op_assign ha149 rfl rfl) ?_
   intro a150 ha150; clear ha149 a149
   refine wpList_nil ?_
   refine then_n ?_
   refine wp_ret ?_
   refine ret1 ha150 rfl rfl ?_
   clear ha150 a150
   refine ret_mkS hx33 ⟨hf34, ?_⟩
   refine ⟨((zs.map (·.1)) : List Ver), (by exact hV), ?_⟩
   refine ⟨zs, hf35.fin (by omega) (by omega) (by omega), hf36.fin (by omega) (by omega), ?_⟩
   ·
    rfl


end Go.Proofs.Ytllpdkidaldkiaa
