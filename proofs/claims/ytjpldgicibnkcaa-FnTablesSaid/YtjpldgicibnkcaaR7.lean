/- Columns to be added drawn. -/
import Derived.Test.YtjpldgicibnkcaaR2
import Derived.Test.YtjpldgicibnkcaaNarrow
namespace Go.Proofs.Ytjpldgicibnkcaa
open Go Go.RowKit

theorem el_len {xs : List Str} {i : Nat} {x : Str} (n : Nat) (h : (xs.all fun s => decide (s.length ≤ n)) = true) (hx : xs[i]? = some x) : x.length ≤ n := by
  rw [List.all_eq_true] at h
  simpa using h x (List.mem_of_getElem? hx)

set_option maxHeartbeats 4000000 in
theorem c_spec_DrawAddColumn (w0 : World) (v_code : Value) (code : List UInt8) {S_code : Nat → Prop} (h_code : Rds shU8 S_code w0 v_code code) :
  Calls Try.prog 52 #[v_code] w0 (Ret w0 (fun v w1 => ∃ (t : Tab) (head : Str) (a : Int) (b : Int) (m : Int), (head.length ≤ 16) ∧ (fun v w1 => ∃ r0_0 r0_1 z0_1, v = .tuple #[.agg #[r0_0, r0_1], St (head), .int .i64 (a), .int .i64 (b), .int .i64 (m)] ∧ Own shStr 9 w0.heap.size w0.heap.size w1.heap.size w1 r0_0 ((t).1) ∧ Own shRowN 41 w0.heap.size w0.heap.size w1.heap.size w1 r0_1 z0_1 ∧ Nst shI64 2 (fun x : List Int => x) w0.heap.size w1.heap.size w1 z0_1 ∧ z0_1.map (·.1) = ((t).2)) v w1)) := by
 refine enter (N := 63) Try.func52 rfl rfl rfl ?_
 intro a0 ha0
 have hx0 := Ext.rfl' w0
 have hl_code := h_code.length_le
 refine wp_seq ?_
 refine wp_region_lit ?_
 refine wl_eff ha0 rfl rfl rfl (op_alloc' rfl ti28 rfl) ?_
 rintro _ w2 ⟨rfl, he3, hb4, hz5⟩ a6 ha6; clear ha0 a0
 have hx7 := hx0.trans' he3
 have hzhx7 := he3.size
 refine wl_val ha6 rfl rfl rfl (op_assign ha6 rfl rfl) ?_
 intro a8 ha8; clear ha6 a6
 refine wl_val ha8 rfl rfl rfl (op_assign ha8 rfl rfl) ?_
 intro a9 ha9; clear ha8 a8
 refine wl_val ha9 rfl rfl rfl (op_assign ha9 rfl rfl) ?_
 intro a10 ha10; clear ha9 a9
 refine wl_val ha10 rfl rfl rfl (op_assign ha10 rfl rfl) ?_
 intro a11 ha11; clear ha10 a10
 refine wpList_nil ?_
 refine then_n ?_
 refine wp_seq ?_
 refine wp_region_lit ?_
 refine wl_val ha11 rfl rfl rfl (op_move ha11 rfl rfl) ?_
 intro a12 ha12; clear ha11 a11
 refine wl_callR ha12 rfl rfl rfl (op_call ha12 rfl cb79 rfl) (c_spec_l01From _ v_code code (h_code.low pos_shU8 hx7 (Nat.le_refl _)) (by omega)) ?_
 rintro v13 w14 he15 ⟨g16, rfl, hg17, hS18⟩ a19 ha19; clear ha12 a12
 have hx20 := hx7.trans' he15
 have hzhx20 := he15.size
 replace hb4 := hb4.ext he15
 have hSlhS18 := hS18.lt
 refine wl_val ha19 rfl rfl rfl (op_assign ha19 rfl rfl) ?_
 intro a21 ha21; clear ha19 a19
 refine wpList_nil ?_
 refine then_n ?_
 refine wp_seq ?_
 refine wp_region_lit ?_
 refine wl_val ha21 rfl rfl rfl (op_move ha21 rfl rfl) ?_
 intro a22 ha22; clear ha21 a21
 refine wl_callS ha22 rfl rfl rfl (op_call ha22 rfl cb80 rfl) (c_spec_l31Some _ g16 w0.heap.size hS18) ?_
 rintro v23 w24 he25 ⟨hS26, ⟨q27, q28, hq29, hq30, hq31, hq32, hq33, hq34, ⟨u35, u37, z39, rfl, ho36, ho38, hN40, hE41⟩⟩⟩ a42 ha42; clear ha22 a22
 have hx43 := hx20.stp he25 (by intro q hq; cases hq; exact (by omega))
 have hzhx43 := he25.size
 replace hb4 := hb4.stp he25 (by intro q hq; cases hq; omega)
 clear hS18
 have hSlhS26 := hS26.lt
 have hlhE41 := absLen hE41
 refine wl_val ha42 rfl rfl rfl (op_move ha42 rfl rfl) ?_
 intro a44 ha44; clear ha42 a42
 refine wl_val ha44 rfl rfl rfl (op_extract ha44 rfl rfl rfl) ?_
 intro a45 ha45; clear ha44 a44
 refine wl_val ha45 rfl rfl rfl (op_extract ha45 rfl rfl rfl) ?_
 intro a46 ha46; clear ha45 a45
 refine wl_eff ha46 rfl rfl rfl (op_alloc' rfl ti28 rfl) ?_
 rintro _ w48 ⟨rfl, he49, hb50, hz51⟩ a52 ha52; clear ha46 a46
 have hx53 := hx43.trans' he49
 have hzhx53 := he49.size
 replace hb4 := hb4.ext he49
 replace hS26 := hS26.ext he49
 replace ho36 := ho36.ext he49
 replace ho38 := ho38.ext he49
 replace hN40 := hN40.ext he49
 refine wl_effS ha52 rfl rfl (op_storeAll' ha52 rfl ti28 rfl rfl hb50 rfl rfl (by intro u hu; have hu : u ∈ ([u35, u37] : List Value) := hu; simp only [List.mem_cons, List.mem_nil_iff, or_false] at hu; rcases hu with rfl | rfl <;> first | rfl | exact ho36.one | exact ho38.one) rfl) ?_
 rintro w54 ⟨hb56, hst55, hz57⟩
 have hx58 := hx53.stp hst55 (by intro q hq; cases hq; exact (by omega))
 have hzhx58 := hst55.size
 replace hb4 := hb4.stp hst55 (by intro q hq; cases hq; omega)
 replace hS26 := hS26.stp hst55 (by intro q hq; cases hq; omega)
 replace ho36 := ho36.stp hst55 (by intro q hq; cases hq; omega)
 replace ho38 := ho38.stp hst55 (by intro q hq; cases hq; omega)
 replace hN40 := hN40.stp hst55 (by intro q hq; cases hq; omega)
 clear hb50
 refine wl_val ha52 rfl rfl rfl (op_assign ha52 rfl rfl) ?_
 intro a59 ha59; clear ha52 a52
 refine wpList_nil ?_
 refine then_n ?_
 refine seq_mid (fun fr wl => ∃ (vx : Value) (xs : List Str) (vy : Value) (ys : List (List Int × Value)), Sl 63 fr [(2, .pointer (some (⟨w0.heap.size, 0, none⟩ : Addr))), (7, .pointer (some (⟨g16, 0, none⟩ : Addr))), (8, .pointer (some (⟨w24.heap.size, 0, none⟩ : Addr))), (9, .int .i64 (q28 : Int))] ∧ Ext w0 wl ∧ Box wl w0.heap.size 28 [.slice none 0 0, .slice none 0 0] ∧ Src wl g16 w0.heap.size 102 ∧ Own shStr 9 w14.heap.size w14.heap.size wl.heap.size wl vx xs ∧ Own shRowN 41 w14.heap.size w14.heap.size wl.heap.size wl vy ys ∧ Nst shI64 2 (fun x : List Int => x) w14.heap.size wl.heap.size wl ys ∧ Box wl w24.heap.size 28 [vx, vy] ∧ w54.heap.size ≤ wl.heap.size ∧ (xs.length ≤ 6) ∧ (∀ z ∈ ys, 1 ≤ z.1.length)) ?_ ?_
 ·
  refine wp_seq ?_
  refine wp_region_lit ?_
  refine wl_val ha59 rfl rfl rfl (op_move ha59 rfl rfl) ?_
  intro a68 ha68; clear ha59 a59
  refine wl_callS ha68 rfl rfl rfl (op_call ha68 rfl cb81 rfl) (c_spec_l01Next _ g16 w0.heap.size (16 : Int) hS26) ?_
  rintro v69 w70 he71 ⟨hS72, ⟨q73, hq74, hq75, hq76, rfl⟩⟩ a77 ha77; clear ha68 a68
  have hx78 := hx58.stp he71 (by intro q hq; cases hq; exact (by omega))
  have hzhx78 := he71.size
  replace hb4 := hb4.stp he71 (by intro q hq; cases hq; omega)
  first | replace ho36 := ho36.stp he71 (by intro q hq; cases hq; omega) | replace ho36 := ho36.stpF flat_shStr he71 (by intro q hq; cases hq; exact ho36.ne_box (by assumption) rfl)
  first | replace ho38 := ho38.stp he71 (by intro q hq; cases hq; omega) | replace ho38 := ho38.stpF flat_shRowN he71 (by intro q hq; cases hq; exact ho38.ne_box (by assumption) rfl)
  first | replace hN40 := hN40.stp he71 (by intro q hq; cases hq; omega) | replace hN40 := hN40.stpB flat_shI64 he71 (by assumption) rfl
  replace hb56 := hb56.stp he71 (by intro q hq; cases hq; omega)
  clear hS26
  have hSlhS72 := hS72.lt
  refine wl_val ha77 rfl rfl rfl (op_eql ha77 rfl rfl rfl) ?_
  intro a79 ha79; clear ha77 a77
  refine wpList_nil ?_
  refine then_n ?_
  by_cases c80 : (q73 : Int) = (0 : Int)
  ·
   rw [decide_eq_true c80] at ha79
   refine cond_t ha79 rfl ?_
   refine wp_block ?_
   refine loop_inv (X := Value × (List Str) × Value × (List (List Int × Value))) (fun (⟨v, ws, v1, zs⟩ : Value × (List Str) × Value × (List (List Int × Value))) fr wl => Sl 63 fr [(2, .pointer (some (⟨w0.heap.size, 0, none⟩ : Addr))), (7, .pointer (some (⟨g16, 0, none⟩ : Addr))), (8, .pointer (some (⟨w24.heap.size, 0, none⟩ : Addr))), (9, .int .i64 (q28 : Int))] ∧ Ext w0 wl ∧ Box wl w0.heap.size 28 [.slice none 0 0, .slice none 0 0] ∧ Src wl g16 w0.heap.size 102 ∧ Own shStr 9 w14.heap.size w14.heap.size wl.heap.size wl v ws ∧ Own shRowN 41 w14.heap.size w14.heap.size wl.heap.size wl v1 zs ∧ Nst shI64 2 (fun x : List Int => x) w14.heap.size wl.heap.size wl zs ∧ Box wl w24.heap.size 28 [v, v1] ∧ w70.heap.size ≤ wl.heap.size ∧ (ws.length ≤ 6) ∧ (∀ z ∈ zs, 1 ≤ z.1.length)) (fun (⟨v, ws, v1, zs⟩ : Value × (List Str) × Value × (List (List Int × Value))) => 6 - ws.length) (u35, ((q27).1), u37, z39) ?_ ?_
   ·
    exact ⟨(Sl.cons_ ha79 rfl rfl (Sl.cons_ ha79 rfl rfl (Sl.cons_ ha79 rfl rfl (Sl.cons_ ha79 rfl rfl (Sl.nil_ ha79))))), hx78, hb4, hS72, (ho36.fin (by omega) (by omega) (by omega)), (ho38.fin (by omega) (by omega) (by omega)), (hN40.fin (by omega) (by omega)), hb56, (by omega), (by omega), (by intro z hz; have h9 := hq32 z.1 (by rw [← hE41]; exact List.mem_map_of_mem hz); omega)⟩
   ·
    clear ha79 a79
    rintro ⟨v, ws, v1, zs⟩ a89 w81 ⟨ha89, hx82, hf83, hf84, hf85, hf86, hf87, hf88, hzl90, hl, hZ⟩
    have hzhx82 := hx82.size
    have hgl91 := hf84.lt
    refine wp_seq ?_
    refine wp_seq ?_
    refine dr_enter (fun wa_ wb_ => Stp wa_ wb_ (some g16)) follows_mixed ?_
    intro w92 he93
    have hx94 := hx82.trans' he93
    have hzhx94 := he93.size
    replace hf83 := hf83.ext he93
    replace hf84 := hf84.ext he93
    replace hf85 := hf85.ext he93
    replace hf86 := hf86.ext he93
    replace hf87 := hf87.ext he93
    replace hf88 := hf88.ext he93
    have hs95 : Ext w92 w92 := Ext.rfl' _
    refine dr_val (i := 0) ha89 rfl (by kernel_rfl) (by kernel_rfl) (by kernel_rfl) rfl rfl rfl (Stp.of_ext hs95 _) (fun w' hw' => op_fieldAddr (sz := 0) ha89 rfl Try.underlying28 rfl rfl ti22 rfl) ?_
    intro a96 ha96; clear ha89 a89
    refine dr_val (i := 1) ha96 rfl (by kernel_rfl) (by kernel_rfl) (by kernel_rfl) rfl rfl rfl (Stp.of_ext hs95 _) (fun w' hw' => op_loadF (off := 0) ha96 rfl Try.underlying22 rfl rfl (hf88.stp hw' (by intro q hq; cases hq; omega)).cells rfl) ?_
    intro a97 ha97; clear ha96 a96
    refine dr_val (i := 2) ha97 rfl (by kernel_rfl) (by kernel_rfl) (by kernel_rfl) rfl rfl rfl (Stp.of_ext hs95 _) (fun w' hw' => op_len_sl ha97 rfl Try.underlying22 rfl (hf85.rds pos_shStr)) ?_
    intro a98 ha98; clear ha97 a97
    refine dr_val (i := 3) ha98 rfl (by kernel_rfl) (by kernel_rfl) (by kernel_rfl) rfl rfl rfl (Stp.of_ext hs95 _) (fun w' hw' => op_move ha98 rfl rfl) ?_
    intro a99 ha99; clear ha98 a98
    refine dr_one (i := 4) (by kernel_rfl) ?_
    refine po_callS ha99 rfl rfl rfl rfl (op_call ha99 rfl cb81 rfl) (c_spec_l01Next _ g16 w0.heap.size (2 : Int) hf84) ?_
    rintro v100 w101 he102 ⟨hS103, ⟨q104, hq105, hq106, hq107, rfl⟩⟩ a108 ha108; clear ha99 a99
    have hx109 := hx94.stp he102 (by intro q hq; cases hq; exact (by omega))
    have hzhx109 := he102.size
    replace hf83 := hf83.stp he102 (by intro q hq; cases hq; omega)
    first | replace hf85 := hf85.stp he102 (by intro q hq; cases hq; omega) | replace hf85 := hf85.stpF flat_shStr he102 (by intro q hq; cases hq; exact hf85.ne_box (by assumption) rfl)
    first | replace hf86 := hf86.stp he102 (by intro q hq; cases hq; omega) | replace hf86 := hf86.stpF flat_shRowN he102 (by intro q hq; cases hq; exact hf86.ne_box (by assumption) rfl)
    first | replace hf87 := hf87.stp he102 (by intro q hq; cases hq; omega) | replace hf87 := hf87.stpB flat_shI64 he102 (by assumption) rfl
    replace hf88 := hf88.stp he102 (by intro q hq; cases hq; omega)
    clear hf84
    have hSlhS103 := hS103.lt
    have hs110 := (Stp.of_ext hs95 (some g16)).trans' he102
    refine ⟨hs110, ?_⟩
    refine dr_narrow (S' := fun w' => Stp w101 w' _) (fun w' h' => hs110.trans' h') _ _ _ _ ?_
    have hs111 : Ext w101 w101 := Ext.rfl' _
    refine dr_val (i := 5) ha108 rfl (by kernel_rfl) (by kernel_rfl) (by kernel_rfl) rfl rfl rfl (Stp.of_ext hs111 _) (fun w' hw' => (op_add ha108 rfl rfl rfl).int (IntWalk.i64_in _ (by omega))) ?_
    intro a112 ha112; clear ha108 a108
    refine dr_val (i := 6) ha112 rfl (by kernel_rfl) (by kernel_rfl) (by kernel_rfl) rfl rfl rfl (Stp.of_ext hs111 _) (fun w' hw' => op_lss ha112 rfl rfl rfl) ?_
    intro a113 ha113; clear ha112 a112
    refine dr_end (by kernel_rfl) ?_
    refine then_n ?_
    by_cases c114 : ((ws.length : Nat) : Int) < ((5 : Int) + (q104 : Int))
    ·
     rw [decide_eq_true c114] at ha113
     refine cond_t ha113 rfl ?_
     refine wp_skip ?_
     refine then_n ?_
     refine wp_block ?_
     refine wp_region_lit ?_
     refine wl_eff ha113 rfl rfl rfl (op_buildSlice (s := shStr) (xs := [([97] : Str), ([98] : Str), ([99] : Str), ([100] : Str), ([101] : Str), ([102] : Str)]) (cs := [St (([97] : Str)), St (([98] : Str)), St (([99] : Str)), St (([100] : Str)), St (([101] : Str)), St (([102] : Str))]) (vs := [(0, St (([97] : Str))), (1, St (([98] : Str))), (2, St (([99] : Str))), (3, St (([100] : Str))), (4, St (([101] : Str))), (5, St (([102] : Str)))]) (S := fun _ => False) (le := w101.heap.size) ha113 rfl pos_shStr Try.underlying22 ti9 rfl rfl (by decide) (by kernel_rfl) ⟨mk_shStr (([97] : Str)) (by first | omega | simp), mk_shStr (([98] : Str)) (by first | omega | simp), mk_shStr (([99] : Str)) (by first | omega | simp), mk_shStr (([100] : Str)) (by first | omega | simp), mk_shStr (([101] : Str)) (by first | omega | simp), mk_shStr (([102] : Str)) (by first | omega | simp), rfl⟩ (fun _ h => h.elim)) ?_
     rintro v115 w116 ⟨ho117, he118, hob119⟩ a120 ha120; clear ha113 a113
     have hx121 := hx109.trans' he118
     have hzhx121 := he118.size
     replace hf83 := hf83.ext he118
     replace hf85 := hf85.ext he118
     replace hf86 := hf86.ext he118
     replace hf87 := hf87.ext he118
     replace hf88 := hf88.ext he118
     replace hS103 := hS103.ext he118
     refine wl_val ha120 rfl rfl rfl (op_fieldAddr (sz := 0) ha120 rfl Try.underlying28 rfl rfl ti22 rfl) ?_
     intro a122 ha122; clear ha120 a120
     refine wl_val ha122 rfl rfl rfl (op_loadF (off := 0) ha122 rfl Try.underlying22 rfl rfl hf88.cells rfl) ?_
     intro a123 ha123; clear ha122 a122
     refine wl_val ha123 rfl rfl rfl (op_len_sl ha123 rfl Try.underlying22 rfl (hf85.rds pos_shStr)) ?_
     intro a124 ha124; clear ha123 a123
     refine wl_val ha124 rfl rfl rfl ((op_add ha124 rfl rfl rfl).int (IntWalk.i64_in _ (by omega))) ?_
     intro a125 ha125; clear ha124 a124
     obtain ⟨u126, hu127, ho129⟩ := Own.head ho117 pos_shStr (by simp; try omega) Try.underlying22 ti9 (some (.int .i64 ((ws.length + 1) : Nat))) ((ws.length + 1)) (.inr ⟨.i64, rfl⟩) (by first | omega | (simp; omega))
     clear ho117
     refine wl_val ha125 rfl rfl rfl (op_slice_t (by omega) ha125 rfl rfl rfl hu127) ?_
     intro a130 ha130; clear ha125 a125
     refine wl_val ha130 rfl rfl rfl (op_build (vs := [(0, u126)]) (cs := #[u126, .slice none 0 0]) ha130 rfl Try.underlying28 ti28 bp28 rfl ((fill_one ho129.cells1 rfl rfl).trans rfl)) ?_
     intro a131 ha131; clear ha130 a130
     refine wl_effS ha131 rfl rfl (op_storeAll' ha131 rfl ti28 rfl rfl hf88 rfl rfl (by intro u hu; have hu : u ∈ ([u126, .slice none 0 0] : List Value) := hu; simp only [List.mem_cons, List.mem_nil_iff, or_false] at hu; rcases hu with rfl | rfl <;> first | rfl | exact ho129.one) rfl) ?_
     rintro w132 ⟨hb134, hst133, hz135⟩
     have hx136 := hx121.stp hst133 (by intro q hq; cases hq; exact (by omega))
     have hzhx136 := hst133.size
     replace hf83 := hf83.stp hst133 (by intro q hq; cases hq; omega)
     first | replace hf85 := hf85.stp hst133 (by intro q hq; cases hq; omega) | replace hf85 := hf85.stpF flat_shStr hst133 (by intro q hq; cases hq; exact hf85.ne_box (by assumption) rfl)
     first | replace hf86 := hf86.stp hst133 (by intro q hq; cases hq; omega) | replace hf86 := hf86.stpF flat_shRowN hst133 (by intro q hq; cases hq; exact hf86.ne_box (by assumption) rfl)
     first | replace hf87 := hf87.stp hst133 (by intro q hq; cases hq; omega) | replace hf87 := hf87.stpB flat_shI64 hst133 (by assumption) rfl
     replace hS103 := hS103.stp hst133 (by intro q hq; cases hq; omega)
     replace ho129 := ho129.stp hst133 (by intro q hq; cases hq; omega)
     clear hf88
     refine wpList_nil ?_
     refine block_n ?_
     refine round_end (x := (v, ws, v1, zs)) (u126, (([([97] : Str), ([98] : Str), ([99] : Str), ([100] : Str), ([101] : Str), ([102] : Str)]).take ((ws.length + 1))), (.slice none 0 0), []) ?_ ?_
     ·
      refine ⟨(Sl.cons_ ha131 rfl rfl (Sl.cons_ ha131 rfl rfl (Sl.cons_ ha131 rfl rfl (Sl.cons_ ha131 rfl rfl (Sl.nil_ ha131))))), hx136, hf83, hS103, (ho129.fin (by omega) (by omega) (by omega)), (Own.nil _ _ _ _ _ _), (Nst.nil _ _ _ _ _ _), hb134, (by omega), (by first | omega | (simp; omega)), (by first | exact hZ | (intro z hz; cases hz))⟩
     ·show (6 - ((([([97] : Str), ([98] : Str), ([99] : Str), ([100] : Str), ([101] : Str), ([102] : Str)]).take ((ws.length + 1)))).length : Nat) < 6 - ws.length; rw [List.length_take]; simp only [List.length_cons, List.length_nil]; omega
    ·
     rw [decide_eq_false c114] at ha113
     refine cond_f ha113 rfl ?_
     refine wp_exit ?_
     refine then_e ?_
     refine then_e ?_
     refine block_hit ?_
     refine then_n ?_
     refine ⟨v, ws, v1, zs, (Sl.cons_ ha113 rfl rfl (Sl.cons_ ha113 rfl rfl (Sl.cons_ ha113 rfl rfl (Sl.cons_ ha113 rfl rfl (Sl.nil_ ha113))))), hx109, hf83, hS103, (hf85.fin (by omega) (by omega) (by omega)), (hf86.fin (by omega) (by omega) (by omega)), (hf87.fin (by omega) (by omega)), hf88, (by omega), (by omega), (by first | exact hZ | (intro z hz; have h9 := hq32 z.1 (by rw [← hE41]; exact List.mem_map_of_mem hz); omega))⟩
  ·
   rw [decide_eq_false c80] at ha79
   refine cond_f ha79 rfl ?_
   refine wp_skip ?_
   refine then_n ?_
   refine ⟨u35, ((q27).1), u37, z39, (Sl.cons_ ha79 rfl rfl (Sl.cons_ ha79 rfl rfl (Sl.cons_ ha79 rfl rfl (Sl.cons_ ha79 rfl rfl (Sl.nil_ ha79))))), hx78, hb4, hS72, (ho36.fin (by omega) (by omega) (by omega)), (ho38.fin (by omega) (by omega) (by omega)), (hN40.fin (by omega) (by omega)), hb56, (by omega), (by omega), (by first | exact hZ | (intro z hz; have h9 := hq32 z.1 (by rw [← hE41]; exact List.mem_map_of_mem hz); omega))⟩
 ·
  clear ha59 a59
  rintro a137 w60 ⟨vx, xs, vy, ys, ha137, hx61, hf62, hf63, hf64, hf65, hf66, hf67, hzl138, hjl, hjZ⟩
  have hzhx61 := hx61.size
  have hgl139 := hf63.lt
  refine seq_mid (fun fr wl => ∃ (vu : Value) (us : List Str) (vr : Value) (rs : List (List Int × Value)), Sl 63 fr [(2, .pointer (some (⟨w0.heap.size, 0, none⟩ : Addr))), (7, .pointer (some (⟨g16, 0, none⟩ : Addr))), (8, .pointer (some (⟨w24.heap.size, 0, none⟩ : Addr))), (9, .int .i64 (q28 : Int))] ∧ Ext w0 wl ∧ Box wl w0.heap.size 28 [.slice none 0 0, .slice none 0 0] ∧ Src wl g16 w0.heap.size 102 ∧ Own shStr 9 w14.heap.size w14.heap.size wl.heap.size wl vu us ∧ Own shRowN 41 w14.heap.size w14.heap.size wl.heap.size wl vr rs ∧ Nst shI64 2 (fun x : List Int => x) w14.heap.size wl.heap.size wl rs ∧ Box wl w24.heap.size 28 [vu, vr] ∧ w60.heap.size ≤ wl.heap.size ∧ (us.length ≤ 6)) ?_ ?_
  ·
   refine wp_seq ?_
   refine wp_region_lit ?_
   refine wl_val ha137 rfl rfl rfl (op_move ha137 rfl rfl) ?_
   intro a148 ha148; clear ha137 a137
   refine wl_callS ha148 rfl rfl rfl (op_call ha148 rfl cb81 rfl) (c_spec_l01Next _ g16 w0.heap.size (24 : Int) hf63) ?_
   rintro v149 w150 he151 ⟨hS152, ⟨q153, hq154, hq155, hq156, rfl⟩⟩ a157 ha157; clear ha148 a148
   have hx158 := hx61.stp he151 (by intro q hq; cases hq; exact (by omega))
   have hzhx158 := he151.size
   replace hf62 := hf62.stp he151 (by intro q hq; cases hq; omega)
   first | replace hf64 := hf64.stp he151 (by intro q hq; cases hq; omega) | replace hf64 := hf64.stpF flat_shStr he151 (by intro q hq; cases hq; exact hf64.ne_box (by assumption) rfl)
   first | replace hf65 := hf65.stp he151 (by intro q hq; cases hq; omega) | replace hf65 := hf65.stpF flat_shRowN he151 (by intro q hq; cases hq; exact hf65.ne_box (by assumption) rfl)
   first | replace hf66 := hf66.stp he151 (by intro q hq; cases hq; omega) | replace hf66 := hf66.stpB flat_shI64 he151 (by assumption) rfl
   replace hf67 := hf67.stp he151 (by intro q hq; cases hq; omega)
   clear hf63
   have hSlhS152 := hS152.lt
   refine wl_val ha157 rfl rfl rfl (op_eql ha157 rfl rfl rfl) ?_
   intro a159 ha159; clear ha157 a157
   refine wl_val ha159 rfl rfl rfl (op_move ha159 rfl rfl) ?_
   intro a160 ha160; clear ha159 a159
   by_cases c161 : (q153 : Int) = (0 : Int)
   ·
    rw [decide_eq_true c161] at ha160
    refine wl_val ha160 rfl rfl rfl (op_fieldAddr (sz := 0) ha160 rfl Try.underlying28 rfl rfl ti23 rfl) ?_
    intro a162 ha162; clear ha160 a160
    refine wl_val ha162 rfl rfl rfl (op_loadF (off := 1) ha162 rfl Try.underlying23 rfl rfl hf67.cells rfl) ?_
    intro a163 ha163; clear ha162 a162
    refine wl_val ha163 rfl rfl rfl (op_len_sl ha163 rfl Try.underlying23 rfl (hf65.rds pos_shRowN)) ?_
    intro a164 ha164; clear ha163 a163
    refine wl_val ha164 rfl rfl rfl (op_gtr ha164 rfl rfl rfl) ?_
    intro a165 ha165; clear ha164 a164
    refine wl_val ha165 rfl rfl rfl (op_pick_t ha165 rfl rfl rfl) ?_
    intro a166 ha166; clear ha165 a165
    refine wpList_nil ?_
    refine then_n ?_
    by_cases c167 : (0 : Int) < ((ys.length : Nat) : Int)
    ·
     rw [decide_eq_true c167] at ha166
     refine cond_t ha166 rfl ?_
     refine wp_region_lit ?_
     refine wl_val ha166 rfl rfl rfl (op_fieldAddr (sz := 0) ha166 rfl Try.underlying28 rfl rfl ti23 rfl) ?_
     intro a168 ha168; clear ha166 a166
     refine wl_val ha168 rfl rfl rfl (op_loadF (off := 1) ha168 rfl Try.underlying23 rfl rfl hf67.cells rfl) ?_
     intro a169 ha169; clear ha168 a168
     obtain ⟨x170, hx170⟩ := get_ex (xs := ys) (j := 0) (by first | omega | (simp only [List.length_cons, List.length_nil]; omega))
     obtain ⟨p171, c172, hi173, hc174, hr175, hs176⟩ := Rds.at_ (hf65.rds pos_shRowN) hx170
     obtain ⟨rfl, b177⟩ := inv_shRowN hr175
     have hn178 : Own shI64 2 w14.heap.size w14.heap.size w60.heap.size w150 x170.2 x170.1 := hf66.get hx170
     obtain ⟨_, _⟩ : _ ∧ _ := hs176
     have hdlx170 := hjZ x170 (List.mem_of_getElem? hx170)
     refine wl_val ha169 rfl rfl rfl (op_indexAddr ha169 rfl Try.underlying23 ti41 rfl rfl (by omega) hi173) ?_
     intro a179 ha179; clear ha169 a169
     refine wl_val ha179 rfl rfl rfl (op_loadH ha179 rfl Try.underlying41 rfl rfl hc174 rfl) ?_
     intro a180 ha180; clear ha179 a179
     obtain ⟨x181, hx181⟩ := get_ex (xs := x170.1) (j := 0) (by first | omega | (simp only [List.length_cons, List.length_nil]; omega))
     obtain ⟨p182, c183, hi184, hc185, hr186, hs187⟩ := Rds.at_ (hn178.rds pos_shI64) hx181
     obtain ⟨rfl, b188⟩ := inv_shI64 hr186
     obtain ⟨_, _⟩ : _ ∧ _ := hs187
     refine wl_val ha180 rfl rfl rfl (op_indexAddr ha180 rfl Try.underlying41 ti2 rfl rfl (by omega) hi184) ?_
     intro a189 ha189; clear ha180 a180
     refine wl_effS ha189 rfl rfl (op_setElem (s := shI64) (ds := [.int .i64 (1000000000000 : Int)]) (S' := fun _ => False) ha189 rfl ti2 rfl rfl rfl hn178 pos_shI64 hi184 (by first | omega | (simp only [List.length_cons, List.length_nil]; omega)) (mk_shI64 ((1000000000000 : Int)) (by first | omega | simp)) (fun _ h => h.elim)) ?_
     rintro w190 ⟨ho192, hst191, hz193⟩
     have hx194 := hx158.stp hst191 (by intro q hq; have hq0 := hn178.lt q hq; omega)
     have hzhx194 := hst191.size
     replace hf62 := hf62.stp hst191 (by intro q hq; have hq0 := hn178.lt q hq; omega)
     first | replace hf64 := hf64.stp hst191 (by intro q hq; have hq0 := hn178.lt q hq; omega) | replace hf64 := hf64.stpF flat_shStr hst191 (hf64.ne hn178 rfl)
     first | replace hf65 := hf65.stp hst191 (by intro q hq; have hq0 := hn178.lt q hq; omega) | replace hf65 := hf65.stpF flat_shRowN hst191 (hf65.ne hn178 rfl)
     first | replace hf67 := hf67.stp hst191 (by intro q hq; have hq0 := hn178.lt q hq; omega) | replace hf67 := hf67.stp hst191 (by intro q hq e; subst e; exact hn178.ne_box hf67 rfl hq)
     replace hS152 := hS152.stp hst191 (by intro q hq; have hq0 := hn178.lt q hq; omega)
     have hlsho192 : ((x170.1.set 0 ((1000000000000 : Int)))).length = x170.1.length := List.length_set
     have ho195 : Own shRowN 41 w14.heap.size w14.heap.size w60.heap.size w190 vy ((ys.set 0 ((((x170.1.set 0 ((1000000000000 : Int)))) : List Int), (x170.2 : Value)))) := hf65.ghost hx170 fun _ _ _ h => h
     have hN196 : Nst shI64 2 (fun x : List Int => x) w14.heap.size w60.heap.size w190 ((ys.set 0 ((((x170.1.set 0 ((1000000000000 : Int)))) : List Int), (x170.2 : Value)))) := hf66.put flat_shI64 hx170 hst191 ho192 (.inl rfl) (by omega)
     clear hf65 hf66
     have hlsho195 : ((ys.set 0 ((((x170.1.set 0 ((1000000000000 : Int)))) : List Int), (x170.2 : Value)))).length = ys.length := List.length_set
     refine wpList_nil ?_
     refine then_n ?_
     refine ⟨vx, xs, vy, (ys.set 0 ((((x170.1.set 0 ((1000000000000 : Int)))) : List Int), (x170.2 : Value))), (Sl.cons_ ha189 rfl rfl (Sl.cons_ ha189 rfl rfl (Sl.cons_ ha189 rfl rfl (Sl.cons_ ha189 rfl rfl (Sl.nil_ ha189))))), hx194, hf62, hS152, (hf64.fin (by omega) (by omega) (by omega)), (ho195.fin (by omega) (by omega) (by omega)), (hN196.fin (by omega) (by omega)), hf67, (by omega), (by omega)⟩
    ·
     rw [decide_eq_false c167] at ha166
     refine cond_f ha166 rfl ?_
     refine wp_skip ?_
     refine then_n ?_
     refine ⟨vx, xs, vy, ys, (Sl.cons_ ha166 rfl rfl (Sl.cons_ ha166 rfl rfl (Sl.cons_ ha166 rfl rfl (Sl.cons_ ha166 rfl rfl (Sl.nil_ ha166))))), hx158, hf62, hS152, (hf64.fin (by omega) (by omega) (by omega)), (hf65.fin (by omega) (by omega) (by omega)), (hf66.fin (by omega) (by omega)), hf67, (by omega), (by omega)⟩
   ·
    rw [decide_eq_false c161] at ha160
    refine wl_skip ha160 rfl rfl rfl ?_
    intro a197 ha197; clear ha160 a160
    refine wl_skip ha197 rfl rfl rfl ?_
    intro a198 ha198; clear ha197 a197
    refine wl_skip ha198 rfl rfl rfl ?_
    intro a199 ha199; clear ha198 a198
    refine wl_skip ha199 rfl rfl rfl ?_
    intro a200 ha200; clear ha199 a199
    refine wl_val ha200 rfl rfl rfl (op_pick_f ha200 rfl rfl rfl) ?_
    intro a201 ha201; clear ha200 a200
    refine wpList_nil ?_
    refine then_n ?_
    refine cond_f ha201 rfl ?_
    refine wp_skip ?_
    refine then_n ?_
    refine ⟨vx, xs, vy, ys, (Sl.cons_ ha201 rfl rfl (Sl.cons_ ha201 rfl rfl (Sl.cons_ ha201 rfl rfl (Sl.cons_ ha201 rfl rfl (Sl.nil_ ha201))))), hx158, hf62, hS152, (hf64.fin (by omega) (by omega) (by omega)), (hf65.fin (by omega) (by omega) (by omega)), (hf66.fin (by omega) (by omega)), hf67, (by omega), (by omega)⟩
  ·
   clear ha137 a137
   rintro a202 w140 ⟨vu, us, vr, rs, ha202, hx141, hf142, hf143, hf144, hf145, hf146, hf147, hzl203, hkl⟩
   have hzhx141 := hx141.size
   have hgl204 := hf143.lt
   refine seq_mid (fun fr wl => ∃ (q205 : Str) (q206 : Int) (q207 : Int), Sl 63 fr [(2, .pointer (some (⟨w0.heap.size, 0, none⟩ : Addr))), (3, St q205), (4, .int .i64 (q28 : Int)), (5, .int .i64 (q206 : Int)), (6, .int .i64 (q207 : Int))] ∧ Ext w0 wl ∧ Own shStr 9 w14.heap.size w14.heap.size w140.heap.size wl vu us ∧ Own shRowN 41 w14.heap.size w14.heap.size w140.heap.size wl vr rs ∧ Nst shI64 2 (fun x : List Int => x) w14.heap.size w140.heap.size wl rs ∧ Box wl w0.heap.size 28 [vu, vr] ∧ q205.length ≤ 16 ∧ w140.heap.size ≤ wl.heap.size) ?_ ?_
   ·
    refine dr_enter (fun wa_ wb_ => StpL wa_ wb_ (fun i => i = w0.heap.size ∨ i = g16)) follows_mixed ?_
    intro w214 he215
    have hx216 := hx141.trans' he215
    have hzhx216 := he215.size
    replace hf142 := hf142.ext he215
    replace hf143 := hf143.ext he215
    replace hf144 := hf144.ext he215
    replace hf145 := hf145.ext he215
    replace hf146 := hf146.ext he215
    replace hf147 := hf147.ext he215
    have hs217 : Ext w214 w214 := Ext.rfl' _
    refine dr_val (i := 0) ha202 rfl (by kernel_rfl) (by kernel_rfl) (by kernel_rfl) rfl rfl rfl (StpL.of_ext hs217) (fun w' hw' => op_loadS ha202 rfl Try.underlying28 ti28 rfl rfl (hf147.stpL hw' (by rintro (q | q) <;> first | omega)).cells) ?_
    intro a218 ha218; clear ha202 a202
    refine dr_val (i := 2) ha218 rfl (by kernel_rfl) (by kernel_rfl) (by kernel_rfl) rfl rfl rfl (StpL.of_ext hs217) (fun w' hw' => op_move ha218 rfl rfl) ?_
    intro a219 ha219; clear ha218 a218
    refine dr_val (i := 6) ha219 rfl (by kernel_rfl) (by kernel_rfl) (by kernel_rfl) rfl rfl rfl (StpL.of_ext hs217) (fun w' hw' => op_move ha219 rfl rfl) ?_
    intro a220 ha220; clear ha219 a219
    refine dr_val (i := 7) ha220 rfl (by kernel_rfl) (by kernel_rfl) (by kernel_rfl) rfl rfl rfl (StpL.of_ext hs217) (fun w' hw' => op_move ha220 rfl rfl) ?_
    intro a221 ha221; clear ha220 a220
    refine dr_val (i := 8) ha221 rfl (by kernel_rfl) (by kernel_rfl) (by kernel_rfl) rfl rfl rfl (StpL.of_ext hs217) (fun w' hw' => op_fieldAddr (sz := 0) ha221 rfl Try.underlying28 rfl rfl ti22 rfl) ?_
    intro a222 ha222; clear ha221 a221
    refine dr_val (i := 9) ha222 rfl (by kernel_rfl) (by kernel_rfl) (by kernel_rfl) rfl rfl rfl (StpL.of_ext hs217) (fun w' hw' => op_loadF (off := 0) ha222 rfl Try.underlying22 rfl rfl (hf147.stpL hw' (by rintro (q | q) <;> first | omega)).cells rfl) ?_
    intro a223 ha223; clear ha222 a222
    refine dr_val (i := 10) ha223 rfl (by kernel_rfl) (by kernel_rfl) (by kernel_rfl) rfl rfl rfl (StpL.of_ext hs217) (fun w' hw' => op_len_sl ha223 rfl Try.underlying22 rfl (hf144.rds pos_shStr)) ?_
    intro a224 ha224; clear ha223 a223
    refine dr_val (i := 12) ha224 rfl (by kernel_rfl) (by kernel_rfl) (by kernel_rfl) rfl rfl rfl (StpL.of_ext hs217) (fun w' hw' => op_move ha224 rfl rfl) ?_
    intro a225 ha225; clear ha224 a224
    refine dr_three (i := 1) (j := 3) (k := 13) (by kernel_rfl) ?_ ?_ ?_
    ·
     refine po_eff ha225 rfl rfl rfl rfl (op_buildSlice (s := shStr) (xs := [([112, 114, 111, 102, 105, 116] : Str), ([115, 117, 109] : Str), ([100, 97, 121] : Str), ([88] : Str), ([100, 105, 102, 102] : Str)]) (cs := [St (([112, 114, 111, 102, 105, 116] : Str)), St (([115, 117, 109] : Str)), St (([100, 97, 121] : Str)), St (([88] : Str)), St (([100, 105, 102, 102] : Str))]) (vs := [(0, St (([112, 114, 111, 102, 105, 116] : Str))), (1, St (([115, 117, 109] : Str))), (2, St (([100, 97, 121] : Str))), (3, St (([88] : Str))), (4, St (([100, 105, 102, 102] : Str)))]) (S := fun _ => False) (le := w214.heap.size) ha225 rfl pos_shStr Try.underlying22 ti9 rfl rfl (by decide) (by kernel_rfl) ⟨mk_shStr (([112, 114, 111, 102, 105, 116] : Str)) (by first | omega | simp), mk_shStr (([115, 117, 109] : Str)) (by first | omega | simp), mk_shStr (([100, 97, 121] : Str)) (by first | omega | simp), mk_shStr (([88] : Str)) (by first | omega | simp), mk_shStr (([100, 105, 102, 102] : Str)) (by first | omega | simp), rfl⟩ (fun _ h => h.elim)) ?_
     rintro v226 w227 ⟨ho228, he229, hob230⟩ a231 ha231; clear ha225 a225
     have hs232 := hs217.trans' he229
     have hx233 := hx216.trans' he229
     have hzhx233 := he229.size
     refine ⟨(StpL.of_ext hs232), ?_⟩
     replace hf142 := hf142.ext hs232
     replace hf143 := hf143.ext hs232
     replace hf144 := hf144.ext hs232
     replace hf145 := hf145.ext hs232
     replace hf146 := hf146.ext hs232
     replace hf147 := hf147.ext hs232
     refine dr_narrow (S' := fun w' => StpL w227 w' _) (fun w' h' => (StpL.of_ext hs232).trans' h') _ _ _ _ ?_
     have hs234 : Ext w227 w227 := Ext.rfl' _
     refine dr_two (i := 3) (j := 13) (by kernel_rfl) ?_ ?_
     ·
      refine po_callS ha231 rfl rfl rfl rfl (op_call ha231 rfl cb81 rfl) (c_spec_l01Next _ g16 w0.heap.size (5 : Int) hf143) ?_
      rintro v235 w236 he237 ⟨hS238, ⟨q239, hq240, hq241, hq242, rfl⟩⟩ a243 ha243; clear ha231 a231
      have hx244 := hx233.stp he237 (by intro q hq; cases hq; exact (by omega))
      have hzhx244 := he237.size
      replace hf142 := hf142.stp he237 (by intro q hq; cases hq; omega)
      first | replace hf144 := hf144.stp he237 (by intro q hq; cases hq; omega) | replace hf144 := hf144.stpF flat_shStr he237 (by intro q hq; cases hq; exact hf144.ne_box (by assumption) rfl)
      first | replace hf145 := hf145.stp he237 (by intro q hq; cases hq; omega) | replace hf145 := hf145.stpF flat_shRowN he237 (by intro q hq; cases hq; exact hf145.ne_box (by assumption) rfl)
      first | replace hf146 := hf146.stp he237 (by intro q hq; cases hq; omega) | replace hf146 := hf146.stpB flat_shI64 he237 (by assumption) rfl
      replace hf147 := hf147.stp he237 (by intro q hq; cases hq; omega)
      first | replace ho228 := ho228.stp he237 (by intro q hq; cases hq; omega) | replace ho228 := ho228.stpF flat_shStr he237 (by intro q hq; cases hq; exact ho228.ne_box (by assumption) rfl)
      clear hf143
      have hSlhS238 := hS238.lt
      have hs245 := (StpL.of_ext (B := fun i => i = w0.heap.size ∨ i = g16) hs234).trans' (Stp.toL he237 (by intro q hq; cases hq; exact Or.inr (rfl)))
      refine ⟨hs245, ?_⟩
      refine dr_narrow (S' := fun w' => StpL w236 w' _) (fun w' h' => hs245.trans' h') _ _ _ _ ?_
      have hs246 : Ext w236 w236 := Ext.rfl' _
      obtain ⟨x247, hx247⟩ := get_ex (xs := [([112, 114, 111, 102, 105, 116] : Str), ([115, 117, 109] : Str), ([100, 97, 121] : Str), ([88] : Str), ([100, 105, 102, 102] : Str)]) (j := ((q239 : Int)).toNat) (by first | omega | (simp only [List.length_cons, List.length_nil]; omega))
      obtain ⟨p248, c249, hi250, hc251, hr252, hs253⟩ := Rds.at_ (ho228.rds pos_shStr) hx247
      obtain ⟨rfl, b254⟩ := inv_shStr hr252
      obtain ⟨_, _⟩ : _ ∧ _ := hs253
      have hdlx247 := el_len 16 (by rfl) hx247
      refine dr_val (i := 4) ha243 rfl (by kernel_rfl) (by kernel_rfl) (by kernel_rfl) rfl rfl rfl (StpL.of_ext hs246) (fun w' hw' => op_indexAddr ha243 rfl Try.underlying22 ti9 rfl rfl (by omega) hi250) ?_
      intro a255 ha255; clear ha243 a243
      refine dr_val (i := 5) ha255 rfl (by kernel_rfl) (by kernel_rfl) (by kernel_rfl) rfl rfl rfl (StpL.of_ext hs246) (fun w' hw' => op_loadH ha255 rfl Try.underlying9 rfl rfl (hc251.stpL hw' (by rintro (q | q) <;> first | omega)) rfl) ?_
      intro a256 ha256; clear ha255 a255
      refine dr_two (i := 11) (j := 13) (by kernel_rfl) ?_ ?_
      ·
       refine po_callS ha256 rfl rfl rfl rfl (op_call ha256 rfl cb81 rfl) (c_spec_l01Next _ g16 w0.heap.size ((us.length : Nat) : Int) hS238) ?_
       rintro v257 w258 he259 ⟨hS260, ⟨q261, hq262, hq263, hq264, rfl⟩⟩ a265 ha265; clear ha256 a256
       have hx266 := hx244.stp he259 (by intro q hq; cases hq; exact (by omega))
       have hzhx266 := he259.size
       replace hf142 := hf142.stp he259 (by intro q hq; cases hq; omega)
       first | replace hf144 := hf144.stp he259 (by intro q hq; cases hq; omega) | replace hf144 := hf144.stpF flat_shStr he259 (by intro q hq; cases hq; exact hf144.ne_box (by assumption) rfl)
       first | replace hf145 := hf145.stp he259 (by intro q hq; cases hq; omega) | replace hf145 := hf145.stpF flat_shRowN he259 (by intro q hq; cases hq; exact hf145.ne_box (by assumption) rfl)
       first | replace hf146 := hf146.stp he259 (by intro q hq; cases hq; omega) | replace hf146 := hf146.stpB flat_shI64 he259 (by assumption) rfl
       replace hf147 := hf147.stp he259 (by intro q hq; cases hq; omega)
       first | replace ho228 := ho228.stp he259 (by intro q hq; cases hq; omega) | replace ho228 := ho228.stpF flat_shStr he259 (by intro q hq; cases hq; exact ho228.ne_box (by assumption) rfl)
       replace hc251 := hc251.stp he259 (by intro q hq; cases hq; omega)
       clear hS238
       have hSlhS260 := hS260.lt
       have hs267 := (StpL.of_ext (B := fun i => i = w0.heap.size ∨ i = g16) hs246).trans' (Stp.toL he259 (by intro q hq; cases hq; exact Or.inr (rfl)))
       refine ⟨hs267, ?_⟩
       refine dr_narrow (S' := fun w' => StpL w258 w' _) (fun w' h' => hs267.trans' h') _ _ _ _ ?_
       have hs268 : Ext w258 w258 := Ext.rfl' _
       refine dr_one (i := 13) (by kernel_rfl) ?_
       refine po_eff ha265 rfl rfl rfl rfl (op_buildSlice (s := shI64) (xs := [(1 : Int), (-1 : Int), (2 : Int), (1000 : Int), (1001 : Int), (-1001 : Int), (0 : Int)]) (cs := [.int .i64 (1 : Int), .int .i64 (-1 : Int), .int .i64 (2 : Int), .int .i64 (1000 : Int), .int .i64 (1001 : Int), .int .i64 (-1001 : Int), .int .i64 (0 : Int)]) (vs := [(0, .int .i64 (1 : Int)), (1, .int .i64 (-1 : Int)), (2, .int .i64 (2 : Int)), (3, .int .i64 (1000 : Int)), (4, .int .i64 (1001 : Int)), (5, .int .i64 (-1001 : Int)), (6, .int .i64 (0 : Int))]) (S := fun _ => False) (le := w258.heap.size) ha265 rfl pos_shI64 Try.underlying41 ti2 rfl rfl (by decide) (by kernel_rfl) ⟨mk_shI64 ((1 : Int)) (by first | omega | simp), mk_shI64 ((-1 : Int)) (by first | omega | simp), mk_shI64 ((2 : Int)) (by first | omega | simp), mk_shI64 ((1000 : Int)) (by first | omega | simp), mk_shI64 ((1001 : Int)) (by first | omega | simp), mk_shI64 ((-1001 : Int)) (by first | omega | simp), mk_shI64 ((0 : Int)) (by first | omega | simp), rfl⟩ (fun _ h => h.elim)) ?_
       rintro v269 w270 ⟨ho271, he272, hob273⟩ a274 ha274; clear ha265 a265
       have hs275 := hs268.trans' he272
       have hx276 := hx266.trans' he272
       have hzhx276 := he272.size
       refine ⟨(StpL.of_ext hs275), ?_⟩
       replace hf142 := hf142.ext hs275
       replace hf144 := hf144.ext hs275
       replace hf145 := hf145.ext hs275
       replace hf146 := hf146.ext hs275
       replace hf147 := hf147.ext hs275
       replace ho228 := ho228.ext hs275
       replace hc251 := hc251.ext hs275
       replace hS260 := hS260.ext hs275
       refine dr_narrow (S' := fun w' => StpL w270 w' _) (fun w' h' => (StpL.of_ext hs275).trans' h') _ _ _ _ ?_
       have hs277 : Ext w270 w270 := Ext.rfl' _
       refine dr_one (i := 14) (by kernel_rfl) ?_
       refine po_callS ha274 rfl rfl rfl rfl (op_call ha274 rfl cb90 rfl) (c_spec_l01Pick _ g16 w0.heap.size v269 ([(1 : Int), (-1 : Int), (2 : Int), (1000 : Int), (1001 : Int), (-1001 : Int), (0 : Int)]) hS260 (ho271.rds pos_shI64) (by rintro ⟨_, _⟩; omega) (by first | assumption | omega | (simp; done) | (simp; omega))) ?_
       rintro v278 w279 he280 ⟨hS281, ⟨q282, hq283, rfl⟩⟩ a284 ha284; clear ha274 a274
       have hx285 := hx276.stp he280 (by intro q hq; cases hq; exact (by omega))
       have hzhx285 := he280.size
       replace hf142 := hf142.stp he280 (by intro q hq; cases hq; omega)
       first | replace hf144 := hf144.stp he280 (by intro q hq; cases hq; omega) | replace hf144 := hf144.stpF flat_shStr he280 (by intro q hq; cases hq; exact hf144.ne_box (by assumption) rfl)
       first | replace hf145 := hf145.stp he280 (by intro q hq; cases hq; omega) | replace hf145 := hf145.stpF flat_shRowN he280 (by intro q hq; cases hq; exact hf145.ne_box (by assumption) rfl)
       first | replace hf146 := hf146.stp he280 (by intro q hq; cases hq; omega) | replace hf146 := hf146.stpB flat_shI64 he280 (by assumption) rfl
       replace hf147 := hf147.stp he280 (by intro q hq; cases hq; omega)
       first | replace ho228 := ho228.stp he280 (by intro q hq; cases hq; omega) | replace ho228 := ho228.stpF flat_shStr he280 (by intro q hq; cases hq; exact ho228.ne_box (by assumption) rfl)
       replace hc251 := hc251.stp he280 (by intro q hq; cases hq; omega)
       first | replace ho271 := ho271.stp he280 (by intro q hq; cases hq; omega) | replace ho271 := ho271.stpF flat_shI64 he280 (by intro q hq; cases hq; exact ho271.ne_box (by assumption) rfl)
       clear hS260
       have hSlhS281 := hS281.lt
       have hs286 := (StpL.of_ext (B := fun i => i = w0.heap.size ∨ i = g16) hs277).trans' (Stp.toL he280 (by intro q hq; cases hq; exact Or.inr (rfl)))
       refine ⟨hs286, ?_⟩
       simp only [List.mem_cons, List.not_mem_nil, or_false] at hq283
       refine dr_narrow (S' := fun w' => StpL w279 w' _) (fun w' h' => hs286.trans' h') _ _ _ _ ?_
       have hs287 : Ext w279 w279 := Ext.rfl' _
       refine dr_one (i := 15) (by kernel_rfl) ?_
       refine po_effS ha284 rfl rfl rfl (op_storeAll' ha284 rfl ti28 rfl rfl hf142 rfl rfl (by intro u hu; have hu : u ∈ ([vu, vr] : List Value) := hu; simp only [List.mem_cons, List.mem_nil_iff, or_false] at hu; rcases hu with rfl | rfl <;> first | rfl | exact hf144.one | exact hf145.one) rfl) ?_
       rintro w288 ⟨hb290, hst289, hz291⟩
       have hx292 := hx285.stp hst289 (by intro q hq; cases hq; exact (by omega))
       have hzhx292 := hst289.size
       replace hf144 := hf144.stp hst289 (by intro q hq; cases hq; omega)
       replace hf145 := hf145.stp hst289 (by intro q hq; cases hq; omega)
       replace hf146 := hf146.stp hst289 (by intro q hq; cases hq; omega)
       replace hf147 := hf147.stp hst289 (by intro q hq; cases hq; omega)
       replace ho228 := ho228.stp hst289 (by intro q hq; cases hq; omega)
       replace hc251 := hc251.stp hst289 (by intro q hq; cases hq; omega)
       replace ho271 := ho271.stp hst289 (by intro q hq; cases hq; omega)
       replace hS281 := hS281.stp hst289 (by intro q hq; cases hq; omega)
       clear hf142
       have hs293 := (StpL.of_ext (B := fun i => i = w0.heap.size ∨ i = g16) hs287).trans' (Stp.toL hst289 (by intro q hq; cases hq; exact Or.inl rfl))
       refine ⟨hs293, ?_⟩
       refine dr_narrow (S' := fun w' => StpL w288 w' _) (fun w' h' => hs293.trans' h') _ _ _ _ ?_
       have hs294 : Ext w288 w288 := Ext.rfl' _
       refine dr_val (i := 16) ha284 rfl (by kernel_rfl) (by kernel_rfl) (by kernel_rfl) rfl rfl rfl (StpL.of_ext hs294) (fun w' hw' => op_assign ha284 rfl rfl) ?_
       intro a295 ha295; clear ha284 a284
       refine dr_val (i := 17) ha295 rfl (by kernel_rfl) (by kernel_rfl) (by kernel_rfl) rfl rfl rfl (StpL.of_ext hs294) (fun w' hw' => op_assign ha295 rfl rfl) ?_
       intro a296 ha296; clear ha295 a295
       refine dr_val (i := 18) ha296 rfl (by kernel_rfl) (by kernel_rfl) (by kernel_rfl) rfl rfl rfl (StpL.of_ext hs294) (fun w' hw' => op_assign ha296 rfl rfl) ?_
       intro a297 ha297; clear ha296 a296
       refine dr_val (i := 19) ha297 rfl (by kernel_rfl) (by kernel_rfl) (by kernel_rfl) rfl rfl rfl (StpL.of_ext hs294) (fun w' hw' => op_assign ha297 rfl rfl) ?_
       intro a298 ha298; clear ha297 a297
       refine dr_end (by kernel_rfl) ?_
       refine then_n ?_
       exact ⟨x247, q261, q282, (Sl.cons_ ha298 rfl rfl (Sl.cons_ ha298 rfl rfl (Sl.cons_ ha298 rfl rfl (Sl.cons_ ha298 rfl rfl (Sl.cons_ ha298 rfl rfl (Sl.nil_ ha298)))))), hx292, (hf144.fin (by omega) (by omega) (by omega)), (hf145.fin (by omega) (by omega) (by omega)), (hf146.fin (by omega) (by omega)), hb290, (by omega), (by omega)⟩
      ·
       refine po_eff ha256 rfl rfl rfl rfl (op_buildSlice (s := shI64) (xs := [(1 : Int), (-1 : Int), (2 : Int), (1000 : Int), (1001 : Int), (-1001 : Int), (0 : Int)]) (cs := [.int .i64 (1 : Int), .int .i64 (-1 : Int), .int .i64 (2 : Int), .int .i64 (1000 : Int), .int .i64 (1001 : Int), .int .i64 (-1001 : Int), .int .i64 (0 : Int)]) (vs := [(0, .int .i64 (1 : Int)), (1, .int .i64 (-1 : Int)), (2, .int .i64 (2 : Int)), (3, .int .i64 (1000 : Int)), (4, .int .i64 (1001 : Int)), (5, .int .i64 (-1001 : Int)), (6, .int .i64 (0 : Int))]) (S := fun _ => False) (le := w236.heap.size) ha256 rfl pos_shI64 Try.underlying41 ti2 rfl rfl (by decide) (by kernel_rfl) ⟨mk_shI64 ((1 : Int)) (by first | omega | simp), mk_shI64 ((-1 : Int)) (by first | omega | simp), mk_shI64 ((2 : Int)) (by first | omega | simp), mk_shI64 ((1000 : Int)) (by first | omega | simp), mk_shI64 ((1001 : Int)) (by first | omega | simp), mk_shI64 ((-1001 : Int)) (by first | omega | simp), mk_shI64 ((0 : Int)) (by first | omega | simp), rfl⟩ (fun _ h => h.elim)) ?_
       rintro v299 w300 ⟨ho301, he302, hob303⟩ a304 ha304; clear ha256 a256
       have hs305 := hs246.trans' he302
       have hx306 := hx244.trans' he302
       have hzhx306 := he302.size
       refine ⟨(StpL.of_ext hs305), ?_⟩
       replace hf142 := hf142.ext hs305
       replace hf144 := hf144.ext hs305
       replace hf145 := hf145.ext hs305
       replace hf146 := hf146.ext hs305
       replace hf147 := hf147.ext hs305
       replace ho228 := ho228.ext hs305
       replace hS238 := hS238.ext hs305
       replace hc251 := hc251.ext hs305
       refine dr_narrow (S' := fun w' => StpL w300 w' _) (fun w' h' => (StpL.of_ext hs305).trans' h') _ _ _ _ ?_
       have hs307 : Ext w300 w300 := Ext.rfl' _
       refine dr_one (i := 11) (by kernel_rfl) ?_
       refine po_callS ha304 rfl rfl rfl rfl (op_call ha304 rfl cb81 rfl) (c_spec_l01Next _ g16 w0.heap.size ((us.length : Nat) : Int) hS238) ?_
       rintro v308 w309 he310 ⟨hS311, ⟨q312, hq313, hq314, hq315, rfl⟩⟩ a316 ha316; clear ha304 a304
       have hx317 := hx306.stp he310 (by intro q hq; cases hq; exact (by omega))
       have hzhx317 := he310.size
       replace hf142 := hf142.stp he310 (by intro q hq; cases hq; omega)
       first | replace hf144 := hf144.stp he310 (by intro q hq; cases hq; omega) | replace hf144 := hf144.stpF flat_shStr he310 (by intro q hq; cases hq; exact hf144.ne_box (by assumption) rfl)
       first | replace hf145 := hf145.stp he310 (by intro q hq; cases hq; omega) | replace hf145 := hf145.stpF flat_shRowN he310 (by intro q hq; cases hq; exact hf145.ne_box (by assumption) rfl)
       first | replace hf146 := hf146.stp he310 (by intro q hq; cases hq; omega) | replace hf146 := hf146.stpB flat_shI64 he310 (by assumption) rfl
       replace hf147 := hf147.stp he310 (by intro q hq; cases hq; omega)
       first | replace ho228 := ho228.stp he310 (by intro q hq; cases hq; omega) | replace ho228 := ho228.stpF flat_shStr he310 (by intro q hq; cases hq; exact ho228.ne_box (by assumption) rfl)
       replace hc251 := hc251.stp he310 (by intro q hq; cases hq; omega)
       first | replace ho301 := ho301.stp he310 (by intro q hq; cases hq; omega) | replace ho301 := ho301.stpF flat_shI64 he310 (by intro q hq; cases hq; exact ho301.ne_box (by assumption) rfl)
       clear hS238
       have hSlhS311 := hS311.lt
       have hs318 := (StpL.of_ext (B := fun i => i = w0.heap.size ∨ i = g16) hs307).trans' (Stp.toL he310 (by intro q hq; cases hq; exact Or.inr (rfl)))
       refine ⟨hs318, ?_⟩
       refine dr_narrow (S' := fun w' => StpL w309 w' _) (fun w' h' => hs318.trans' h') _ _ _ _ ?_
       have hs319 : Ext w309 w309 := Ext.rfl' _
       refine dr_one (i := 14) (by kernel_rfl) ?_
       refine po_callS ha316 rfl rfl rfl rfl (op_call ha316 rfl cb90 rfl) (c_spec_l01Pick _ g16 w0.heap.size v299 ([(1 : Int), (-1 : Int), (2 : Int), (1000 : Int), (1001 : Int), (-1001 : Int), (0 : Int)]) hS311 (ho301.rds pos_shI64) (by rintro ⟨_, _⟩; omega) (by first | assumption | omega | (simp; done) | (simp; omega))) ?_
       rintro v320 w321 he322 ⟨hS323, ⟨q324, hq325, rfl⟩⟩ a326 ha326; clear ha316 a316
       have hx327 := hx317.stp he322 (by intro q hq; cases hq; exact (by omega))
       have hzhx327 := he322.size
       replace hf142 := hf142.stp he322 (by intro q hq; cases hq; omega)
       first | replace hf144 := hf144.stp he322 (by intro q hq; cases hq; omega) | replace hf144 := hf144.stpF flat_shStr he322 (by intro q hq; cases hq; exact hf144.ne_box (by assumption) rfl)
       first | replace hf145 := hf145.stp he322 (by intro q hq; cases hq; omega) | replace hf145 := hf145.stpF flat_shRowN he322 (by intro q hq; cases hq; exact hf145.ne_box (by assumption) rfl)
       first | replace hf146 := hf146.stp he322 (by intro q hq; cases hq; omega) | replace hf146 := hf146.stpB flat_shI64 he322 (by assumption) rfl
       replace hf147 := hf147.stp he322 (by intro q hq; cases hq; omega)
       first | replace ho228 := ho228.stp he322 (by intro q hq; cases hq; omega) | replace ho228 := ho228.stpF flat_shStr he322 (by intro q hq; cases hq; exact ho228.ne_box (by assumption) rfl)
       replace hc251 := hc251.stp he322 (by intro q hq; cases hq; omega)
       first | replace ho301 := ho301.stp he322 (by intro q hq; cases hq; omega) | replace ho301 := ho301.stpF flat_shI64 he322 (by intro q hq; cases hq; exact ho301.ne_box (by assumption) rfl)
       clear hS311
       have hSlhS323 := hS323.lt
       have hs328 := (StpL.of_ext (B := fun i => i = w0.heap.size ∨ i = g16) hs319).trans' (Stp.toL he322 (by intro q hq; cases hq; exact Or.inr (rfl)))
       refine ⟨hs328, ?_⟩
       simp only [List.mem_cons, List.not_mem_nil, or_false] at hq325
       refine dr_narrow (S' := fun w' => StpL w321 w' _) (fun w' h' => hs328.trans' h') _ _ _ _ ?_
       have hs329 : Ext w321 w321 := Ext.rfl' _
       refine dr_one (i := 15) (by kernel_rfl) ?_
       refine po_effS ha326 rfl rfl rfl (op_storeAll' ha326 rfl ti28 rfl rfl hf142 rfl rfl (by intro u hu; have hu : u ∈ ([vu, vr] : List Value) := hu; simp only [List.mem_cons, List.mem_nil_iff, or_false] at hu; rcases hu with rfl | rfl <;> first | rfl | exact hf144.one | exact hf145.one) rfl) ?_
       rintro w330 ⟨hb332, hst331, hz333⟩
       have hx334 := hx327.stp hst331 (by intro q hq; cases hq; exact (by omega))
       have hzhx334 := hst331.size
       replace hf144 := hf144.stp hst331 (by intro q hq; cases hq; omega)
       replace hf145 := hf145.stp hst331 (by intro q hq; cases hq; omega)
       replace hf146 := hf146.stp hst331 (by intro q hq; cases hq; omega)
       replace hf147 := hf147.stp hst331 (by intro q hq; cases hq; omega)
       replace ho228 := ho228.stp hst331 (by intro q hq; cases hq; omega)
       replace hc251 := hc251.stp hst331 (by intro q hq; cases hq; omega)
       replace ho301 := ho301.stp hst331 (by intro q hq; cases hq; omega)
       replace hS323 := hS323.stp hst331 (by intro q hq; cases hq; omega)
       clear hf142
       have hs335 := (StpL.of_ext (B := fun i => i = w0.heap.size ∨ i = g16) hs329).trans' (Stp.toL hst331 (by intro q hq; cases hq; exact Or.inl rfl))
       refine ⟨hs335, ?_⟩
       refine dr_narrow (S' := fun w' => StpL w330 w' _) (fun w' h' => hs335.trans' h') _ _ _ _ ?_
       have hs336 : Ext w330 w330 := Ext.rfl' _
       refine dr_val (i := 16) ha326 rfl (by kernel_rfl) (by kernel_rfl) (by kernel_rfl) rfl rfl rfl (StpL.of_ext hs336) (fun w' hw' => op_assign ha326 rfl rfl) ?_
       intro a337 ha337; clear ha326 a326
       refine dr_val (i := 17) ha337 rfl (by kernel_rfl) (by kernel_rfl) (by kernel_rfl) rfl rfl rfl (StpL.of_ext hs336) (fun w' hw' => op_assign ha337 rfl rfl) ?_
       intro a338 ha338; clear ha337 a337
       refine dr_val (i := 18) ha338 rfl (by kernel_rfl) (by kernel_rfl) (by kernel_rfl) rfl rfl rfl (StpL.of_ext hs336) (fun w' hw' => op_assign ha338 rfl rfl) ?_
       intro a339 ha339; clear ha338 a338
       refine dr_val (i := 19) ha339 rfl (by kernel_rfl) (by kernel_rfl) (by kernel_rfl) rfl rfl rfl (StpL.of_ext hs336) (fun w' hw' => op_assign ha339 rfl rfl) ?_
       intro a340 ha340; clear ha339 a339
       refine dr_end (by kernel_rfl) ?_
       refine then_n ?_
       exact ⟨x247, q312, q324, (Sl.cons_ ha340 rfl rfl (Sl.cons_ ha340 rfl rfl (Sl.cons_ ha340 rfl rfl (Sl.cons_ ha340 rfl rfl (Sl.cons_ ha340 rfl rfl (Sl.nil_ ha340)))))), hx334, (hf144.fin (by omega) (by omega) (by omega)), (hf145.fin (by omega) (by omega) (by omega)), (hf146.fin (by omega) (by omega)), hb332, (by omega), (by omega)⟩
     ·
      refine po_eff ha231 rfl rfl rfl rfl (op_buildSlice (s := shI64) (xs := [(1 : Int), (-1 : Int), (2 : Int), (1000 : Int), (1001 : Int), (-1001 : Int), (0 : Int)]) (cs := [.int .i64 (1 : Int), .int .i64 (-1 : Int), .int .i64 (2 : Int), .int .i64 (1000 : Int), .int .i64 (1001 : Int), .int .i64 (-1001 : Int), .int .i64 (0 : Int)]) (vs := [(0, .int .i64 (1 : Int)), (1, .int .i64 (-1 : Int)), (2, .int .i64 (2 : Int)), (3, .int .i64 (1000 : Int)), (4, .int .i64 (1001 : Int)), (5, .int .i64 (-1001 : Int)), (6, .int .i64 (0 : Int))]) (S := fun _ => False) (le := w227.heap.size) ha231 rfl pos_shI64 Try.underlying41 ti2 rfl rfl (by decide) (by kernel_rfl) ⟨mk_shI64 ((1 : Int)) (by first | omega | simp), mk_shI64 ((-1 : Int)) (by first | omega | simp), mk_shI64 ((2 : Int)) (by first | omega | simp), mk_shI64 ((1000 : Int)) (by first | omega | simp), mk_shI64 ((1001 : Int)) (by first | omega | simp), mk_shI64 ((-1001 : Int)) (by first | omega | simp), mk_shI64 ((0 : Int)) (by first | omega | simp), rfl⟩ (fun _ h => h.elim)) ?_
      rintro v341 w342 ⟨ho343, he344, hob345⟩ a346 ha346; clear ha231 a231
      have hs347 := hs234.trans' he344
      have hx348 := hx233.trans' he344
      have hzhx348 := he344.size
      refine ⟨(StpL.of_ext hs347), ?_⟩
      replace hf142 := hf142.ext hs347
      replace hf143 := hf143.ext hs347
      replace hf144 := hf144.ext hs347
      replace hf145 := hf145.ext hs347
      replace hf146 := hf146.ext hs347
      replace hf147 := hf147.ext hs347
      replace ho228 := ho228.ext hs347
      refine dr_narrow (S' := fun w' => StpL w342 w' _) (fun w' h' => (StpL.of_ext hs347).trans' h') _ _ _ _ ?_
      have hs349 : Ext w342 w342 := Ext.rfl' _
      refine dr_one (i := 3) (by kernel_rfl) ?_
      refine po_callS ha346 rfl rfl rfl rfl (op_call ha346 rfl cb81 rfl) (c_spec_l01Next _ g16 w0.heap.size (5 : Int) hf143) ?_
      rintro v350 w351 he352 ⟨hS353, ⟨q354, hq355, hq356, hq357, rfl⟩⟩ a358 ha358; clear ha346 a346
      have hx359 := hx348.stp he352 (by intro q hq; cases hq; exact (by omega))
      have hzhx359 := he352.size
      replace hf142 := hf142.stp he352 (by intro q hq; cases hq; omega)
      first | replace hf144 := hf144.stp he352 (by intro q hq; cases hq; omega) | replace hf144 := hf144.stpF flat_shStr he352 (by intro q hq; cases hq; exact hf144.ne_box (by assumption) rfl)
      first | replace hf145 := hf145.stp he352 (by intro q hq; cases hq; omega) | replace hf145 := hf145.stpF flat_shRowN he352 (by intro q hq; cases hq; exact hf145.ne_box (by assumption) rfl)
      first | replace hf146 := hf146.stp he352 (by intro q hq; cases hq; omega) | replace hf146 := hf146.stpB flat_shI64 he352 (by assumption) rfl
      replace hf147 := hf147.stp he352 (by intro q hq; cases hq; omega)
      first | replace ho228 := ho228.stp he352 (by intro q hq; cases hq; omega) | replace ho228 := ho228.stpF flat_shStr he352 (by intro q hq; cases hq; exact ho228.ne_box (by assumption) rfl)
      first | replace ho343 := ho343.stp he352 (by intro q hq; cases hq; omega) | replace ho343 := ho343.stpF flat_shI64 he352 (by intro q hq; cases hq; exact ho343.ne_box (by assumption) rfl)
      clear hf143
      have hSlhS353 := hS353.lt
      have hs360 := (StpL.of_ext (B := fun i => i = w0.heap.size ∨ i = g16) hs349).trans' (Stp.toL he352 (by intro q hq; cases hq; exact Or.inr (rfl)))
      refine ⟨hs360, ?_⟩
      refine dr_narrow (S' := fun w' => StpL w351 w' _) (fun w' h' => hs360.trans' h') _ _ _ _ ?_
      have hs361 : Ext w351 w351 := Ext.rfl' _
      obtain ⟨x362, hx362⟩ := get_ex (xs := [([112, 114, 111, 102, 105, 116] : Str), ([115, 117, 109] : Str), ([100, 97, 121] : Str), ([88] : Str), ([100, 105, 102, 102] : Str)]) (j := ((q354 : Int)).toNat) (by first | omega | (simp only [List.length_cons, List.length_nil]; omega))
      obtain ⟨p363, c364, hi365, hc366, hr367, hs368⟩ := Rds.at_ (ho228.rds pos_shStr) hx362
      obtain ⟨rfl, b369⟩ := inv_shStr hr367
      obtain ⟨_, _⟩ : _ ∧ _ := hs368
      have hdlx362 := el_len 16 (by rfl) hx362
      refine dr_val (i := 4) ha358 rfl (by kernel_rfl) (by kernel_rfl) (by kernel_rfl) rfl rfl rfl (StpL.of_ext hs361) (fun w' hw' => op_indexAddr ha358 rfl Try.underlying22 ti9 rfl rfl (by omega) hi365) ?_
      intro a370 ha370; clear ha358 a358
      refine dr_val (i := 5) ha370 rfl (by kernel_rfl) (by kernel_rfl) (by kernel_rfl) rfl rfl rfl (StpL.of_ext hs361) (fun w' hw' => op_loadH ha370 rfl Try.underlying9 rfl rfl (hc366.stpL hw' (by rintro (q | q) <;> first | omega)) rfl) ?_
      intro a371 ha371; clear ha370 a370
      refine dr_one (i := 11) (by kernel_rfl) ?_
      refine po_callS ha371 rfl rfl rfl rfl (op_call ha371 rfl cb81 rfl) (c_spec_l01Next _ g16 w0.heap.size ((us.length : Nat) : Int) hS353) ?_
      rintro v372 w373 he374 ⟨hS375, ⟨q376, hq377, hq378, hq379, rfl⟩⟩ a380 ha380; clear ha371 a371
      have hx381 := hx359.stp he374 (by intro q hq; cases hq; exact (by omega))
      have hzhx381 := he374.size
      replace hf142 := hf142.stp he374 (by intro q hq; cases hq; omega)
      first | replace hf144 := hf144.stp he374 (by intro q hq; cases hq; omega) | replace hf144 := hf144.stpF flat_shStr he374 (by intro q hq; cases hq; exact hf144.ne_box (by assumption) rfl)
      first | replace hf145 := hf145.stp he374 (by intro q hq; cases hq; omega) | replace hf145 := hf145.stpF flat_shRowN he374 (by intro q hq; cases hq; exact hf145.ne_box (by assumption) rfl)
      first | replace hf146 := hf146.stp he374 (by intro q hq; cases hq; omega) | replace hf146 := hf146.stpB flat_shI64 he374 (by assumption) rfl
      replace hf147 := hf147.stp he374 (by intro q hq; cases hq; omega)
      first | replace ho228 := ho228.stp he374 (by intro q hq; cases hq; omega) | replace ho228 := ho228.stpF flat_shStr he374 (by intro q hq; cases hq; exact ho228.ne_box (by assumption) rfl)
      first | replace ho343 := ho343.stp he374 (by intro q hq; cases hq; omega) | replace ho343 := ho343.stpF flat_shI64 he374 (by intro q hq; cases hq; exact ho343.ne_box (by assumption) rfl)
      replace hc366 := hc366.stp he374 (by intro q hq; cases hq; omega)
      clear hS353
      have hSlhS375 := hS375.lt
      have hs382 := (StpL.of_ext (B := fun i => i = w0.heap.size ∨ i = g16) hs361).trans' (Stp.toL he374 (by intro q hq; cases hq; exact Or.inr (rfl)))
      refine ⟨hs382, ?_⟩
      refine dr_narrow (S' := fun w' => StpL w373 w' _) (fun w' h' => hs382.trans' h') _ _ _ _ ?_
      have hs383 : Ext w373 w373 := Ext.rfl' _
      refine dr_one (i := 14) (by kernel_rfl) ?_
      refine po_callS ha380 rfl rfl rfl rfl (op_call ha380 rfl cb90 rfl) (c_spec_l01Pick _ g16 w0.heap.size v341 ([(1 : Int), (-1 : Int), (2 : Int), (1000 : Int), (1001 : Int), (-1001 : Int), (0 : Int)]) hS375 (ho343.rds pos_shI64) (by rintro ⟨_, _⟩; omega) (by first | assumption | omega | (simp; done) | (simp; omega))) ?_
      rintro v384 w385 he386 ⟨hS387, ⟨q388, hq389, rfl⟩⟩ a390 ha390; clear ha380 a380
      have hx391 := hx381.stp he386 (by intro q hq; cases hq; exact (by omega))
      have hzhx391 := he386.size
      replace hf142 := hf142.stp he386 (by intro q hq; cases hq; omega)
      first | replace hf144 := hf144.stp he386 (by intro q hq; cases hq; omega) | replace hf144 := hf144.stpF flat_shStr he386 (by intro q hq; cases hq; exact hf144.ne_box (by assumption) rfl)
      first | replace hf145 := hf145.stp he386 (by intro q hq; cases hq; omega) | replace hf145 := hf145.stpF flat_shRowN he386 (by intro q hq; cases hq; exact hf145.ne_box (by assumption) rfl)
      first | replace hf146 := hf146.stp he386 (by intro q hq; cases hq; omega) | replace hf146 := hf146.stpB flat_shI64 he386 (by assumption) rfl
      replace hf147 := hf147.stp he386 (by intro q hq; cases hq; omega)
      first | replace ho228 := ho228.stp he386 (by intro q hq; cases hq; omega) | replace ho228 := ho228.stpF flat_shStr he386 (by intro q hq; cases hq; exact ho228.ne_box (by assumption) rfl)
      first | replace ho343 := ho343.stp he386 (by intro q hq; cases hq; omega) | replace ho343 := ho343.stpF flat_shI64 he386 (by intro q hq; cases hq; exact ho343.ne_box (by assumption) rfl)
      replace hc366 := hc366.stp he386 (by intro q hq; cases hq; omega)
      clear hS375
      have hSlhS387 := hS387.lt
      have hs392 := (StpL.of_ext (B := fun i => i = w0.heap.size ∨ i = g16) hs383).trans' (Stp.toL he386 (by intro q hq; cases hq; exact Or.inr (rfl)))
      refine ⟨hs392, ?_⟩
      simp only [List.mem_cons, List.not_mem_nil, or_false] at hq389
      refine dr_narrow (S' := fun w' => StpL w385 w' _) (fun w' h' => hs392.trans' h') _ _ _ _ ?_
      have hs393 : Ext w385 w385 := Ext.rfl' _
      refine dr_one (i := 15) (by kernel_rfl) ?_
      refine po_effS ha390 rfl rfl rfl (op_storeAll' ha390 rfl ti28 rfl rfl hf142 rfl rfl (by intro u hu; have hu : u ∈ ([vu, vr] : List Value) := hu; simp only [List.mem_cons, List.mem_nil_iff, or_false] at hu; rcases hu with rfl | rfl <;> first | rfl | exact hf144.one | exact hf145.one) rfl) ?_
      rintro w394 ⟨hb396, hst395, hz397⟩
      have hx398 := hx391.stp hst395 (by intro q hq; cases hq; exact (by omega))
      have hzhx398 := hst395.size
      replace hf144 := hf144.stp hst395 (by intro q hq; cases hq; omega)
      replace hf145 := hf145.stp hst395 (by intro q hq; cases hq; omega)
      replace hf146 := hf146.stp hst395 (by intro q hq; cases hq; omega)
      replace hf147 := hf147.stp hst395 (by intro q hq; cases hq; omega)
      replace ho228 := ho228.stp hst395 (by intro q hq; cases hq; omega)
      replace ho343 := ho343.stp hst395 (by intro q hq; cases hq; omega)
      replace hc366 := hc366.stp hst395 (by intro q hq; cases hq; omega)
      replace hS387 := hS387.stp hst395 (by intro q hq; cases hq; omega)
      clear hf142
      have hs399 := (StpL.of_ext (B := fun i => i = w0.heap.size ∨ i = g16) hs393).trans' (Stp.toL hst395 (by intro q hq; cases hq; exact Or.inl rfl))
      refine ⟨hs399, ?_⟩
      refine dr_narrow (S' := fun w' => StpL w394 w' _) (fun w' h' => hs399.trans' h') _ _ _ _ ?_
      have hs400 : Ext w394 w394 := Ext.rfl' _
      refine dr_val (i := 16) ha390 rfl (by kernel_rfl) (by kernel_rfl) (by kernel_rfl) rfl rfl rfl (StpL.of_ext hs400) (fun w' hw' => op_assign ha390 rfl rfl) ?_
      intro a401 ha401; clear ha390 a390
      refine dr_val (i := 17) ha401 rfl (by kernel_rfl) (by kernel_rfl) (by kernel_rfl) rfl rfl rfl (StpL.of_ext hs400) (fun w' hw' => op_assign ha401 rfl rfl) ?_
      intro a402 ha402; clear ha401 a401
      refine dr_val (i := 18) ha402 rfl (by kernel_rfl) (by kernel_rfl) (by kernel_rfl) rfl rfl rfl (StpL.of_ext hs400) (fun w' hw' => op_assign ha402 rfl rfl) ?_
      intro a403 ha403; clear ha402 a402
      refine dr_val (i := 19) ha403 rfl (by kernel_rfl) (by kernel_rfl) (by kernel_rfl) rfl rfl rfl (StpL.of_ext hs400) (fun w' hw' => op_assign ha403 rfl rfl) ?_
      intro a404 ha404; clear ha403 a403
      refine dr_end (by kernel_rfl) ?_
      refine then_n ?_
      exact ⟨x362, q376, q388, (Sl.cons_ ha404 rfl rfl (Sl.cons_ ha404 rfl rfl (Sl.cons_ ha404 rfl rfl (Sl.cons_ ha404 rfl rfl (Sl.cons_ ha404 rfl rfl (Sl.nil_ ha404)))))), hx398, (hf144.fin (by omega) (by omega) (by omega)), (hf145.fin (by omega) (by omega) (by omega)), (hf146.fin (by omega) (by omega)), hb396, (by omega), (by omega)⟩
    ·
     refine po_callS ha225 rfl rfl rfl rfl (op_call ha225 rfl cb81 rfl) (c_spec_l01Next _ g16 w0.heap.size (5 : Int) hf143) ?_
     rintro v405 w406 he407 ⟨hS408, ⟨q409, hq410, hq411, hq412, rfl⟩⟩ a413 ha413; clear ha225 a225
     have hx414 := hx216.stp he407 (by intro q hq; cases hq; exact (by omega))
     have hzhx414 := he407.size
     replace hf142 := hf142.stp he407 (by intro q hq; cases hq; omega)
     first | replace hf144 := hf144.stp he407 (by intro q hq; cases hq; omega) | replace hf144 := hf144.stpF flat_shStr he407 (by intro q hq; cases hq; exact hf144.ne_box (by assumption) rfl)
     first | replace hf145 := hf145.stp he407 (by intro q hq; cases hq; omega) | replace hf145 := hf145.stpF flat_shRowN he407 (by intro q hq; cases hq; exact hf145.ne_box (by assumption) rfl)
     first | replace hf146 := hf146.stp he407 (by intro q hq; cases hq; omega) | replace hf146 := hf146.stpB flat_shI64 he407 (by assumption) rfl
     replace hf147 := hf147.stp he407 (by intro q hq; cases hq; omega)
     clear hf143
     have hSlhS408 := hS408.lt
     have hs415 := (StpL.of_ext (B := fun i => i = w0.heap.size ∨ i = g16) hs217).trans' (Stp.toL he407 (by intro q hq; cases hq; exact Or.inr (rfl)))
     refine ⟨hs415, ?_⟩
     refine dr_narrow (S' := fun w' => StpL w406 w' _) (fun w' h' => hs415.trans' h') _ _ _ _ ?_
     have hs416 : Ext w406 w406 := Ext.rfl' _
     refine dr_three (i := 1) (j := 11) (k := 13) (by kernel_rfl) ?_ ?_ ?_
     ·
      refine po_eff ha413 rfl rfl rfl rfl (op_buildSlice (s := shStr) (xs := [([112, 114, 111, 102, 105, 116] : Str), ([115, 117, 109] : Str), ([100, 97, 121] : Str), ([88] : Str), ([100, 105, 102, 102] : Str)]) (cs := [St (([112, 114, 111, 102, 105, 116] : Str)), St (([115, 117, 109] : Str)), St (([100, 97, 121] : Str)), St (([88] : Str)), St (([100, 105, 102, 102] : Str))]) (vs := [(0, St (([112, 114, 111, 102, 105, 116] : Str))), (1, St (([115, 117, 109] : Str))), (2, St (([100, 97, 121] : Str))), (3, St (([88] : Str))), (4, St (([100, 105, 102, 102] : Str)))]) (S := fun _ => False) (le := w406.heap.size) ha413 rfl pos_shStr Try.underlying22 ti9 rfl rfl (by decide) (by kernel_rfl) ⟨mk_shStr (([112, 114, 111, 102, 105, 116] : Str)) (by first | omega | simp), mk_shStr (([115, 117, 109] : Str)) (by first | omega | simp), mk_shStr (([100, 97, 121] : Str)) (by first | omega | simp), mk_shStr (([88] : Str)) (by first | omega | simp), mk_shStr (([100, 105, 102, 102] : Str)) (by first | omega | simp), rfl⟩ (fun _ h => h.elim)) ?_
      rintro v417 w418 ⟨ho419, he420, hob421⟩ a422 ha422; clear ha413 a413
      have hs423 := hs416.trans' he420
      have hx424 := hx414.trans' he420
      have hzhx424 := he420.size
      refine ⟨(StpL.of_ext hs423), ?_⟩
      replace hf142 := hf142.ext hs423
      replace hf144 := hf144.ext hs423
      replace hf145 := hf145.ext hs423
      replace hf146 := hf146.ext hs423
      replace hf147 := hf147.ext hs423
      replace hS408 := hS408.ext hs423
      refine dr_narrow (S' := fun w' => StpL w418 w' _) (fun w' h' => (StpL.of_ext hs423).trans' h') _ _ _ _ ?_
      have hs425 : Ext w418 w418 := Ext.rfl' _
      obtain ⟨x426, hx426⟩ := get_ex (xs := [([112, 114, 111, 102, 105, 116] : Str), ([115, 117, 109] : Str), ([100, 97, 121] : Str), ([88] : Str), ([100, 105, 102, 102] : Str)]) (j := ((q409 : Int)).toNat) (by first | omega | (simp only [List.length_cons, List.length_nil]; omega))
      obtain ⟨p427, c428, hi429, hc430, hr431, hs432⟩ := Rds.at_ (ho419.rds pos_shStr) hx426
      obtain ⟨rfl, b433⟩ := inv_shStr hr431
      obtain ⟨_, _⟩ : _ ∧ _ := hs432
      have hdlx426 := el_len 16 (by rfl) hx426
      refine dr_val (i := 4) ha422 rfl (by kernel_rfl) (by kernel_rfl) (by kernel_rfl) rfl rfl rfl (StpL.of_ext hs425) (fun w' hw' => op_indexAddr ha422 rfl Try.underlying22 ti9 rfl rfl (by omega) hi429) ?_
      intro a434 ha434; clear ha422 a422
      refine dr_val (i := 5) ha434 rfl (by kernel_rfl) (by kernel_rfl) (by kernel_rfl) rfl rfl rfl (StpL.of_ext hs425) (fun w' hw' => op_loadH ha434 rfl Try.underlying9 rfl rfl (hc430.stpL hw' (by rintro (q | q) <;> first | omega)) rfl) ?_
      intro a435 ha435; clear ha434 a434
      refine dr_two (i := 11) (j := 13) (by kernel_rfl) ?_ ?_
      ·
       refine po_callS ha435 rfl rfl rfl rfl (op_call ha435 rfl cb81 rfl) (c_spec_l01Next _ g16 w0.heap.size ((us.length : Nat) : Int) hS408) ?_
       rintro v436 w437 he438 ⟨hS439, ⟨q440, hq441, hq442, hq443, rfl⟩⟩ a444 ha444; clear ha435 a435
       have hx445 := hx424.stp he438 (by intro q hq; cases hq; exact (by omega))
       have hzhx445 := he438.size
       replace hf142 := hf142.stp he438 (by intro q hq; cases hq; omega)
       first | replace hf144 := hf144.stp he438 (by intro q hq; cases hq; omega) | replace hf144 := hf144.stpF flat_shStr he438 (by intro q hq; cases hq; exact hf144.ne_box (by assumption) rfl)
       first | replace hf145 := hf145.stp he438 (by intro q hq; cases hq; omega) | replace hf145 := hf145.stpF flat_shRowN he438 (by intro q hq; cases hq; exact hf145.ne_box (by assumption) rfl)
       first | replace hf146 := hf146.stp he438 (by intro q hq; cases hq; omega) | replace hf146 := hf146.stpB flat_shI64 he438 (by assumption) rfl
       replace hf147 := hf147.stp he438 (by intro q hq; cases hq; omega)
       first | replace ho419 := ho419.stp he438 (by intro q hq; cases hq; omega) | replace ho419 := ho419.stpF flat_shStr he438 (by intro q hq; cases hq; exact ho419.ne_box (by assumption) rfl)
       replace hc430 := hc430.stp he438 (by intro q hq; cases hq; omega)
       clear hS408
       have hSlhS439 := hS439.lt
       have hs446 := (StpL.of_ext (B := fun i => i = w0.heap.size ∨ i = g16) hs425).trans' (Stp.toL he438 (by intro q hq; cases hq; exact Or.inr (rfl)))
       refine ⟨hs446, ?_⟩
       refine dr_narrow (S' := fun w' => StpL w437 w' _) (fun w' h' => hs446.trans' h') _ _ _ _ ?_
       have hs447 : Ext w437 w437 := Ext.rfl' _
       refine dr_one (i := 13) (by kernel_rfl) ?_
       refine po_eff ha444 rfl rfl rfl rfl (op_buildSlice (s := shI64) (xs := [(1 : Int), (-1 : Int), (2 : Int), (1000 : Int), (1001 : Int), (-1001 : Int), (0 : Int)]) (cs := [.int .i64 (1 : Int), .int .i64 (-1 : Int), .int .i64 (2 : Int), .int .i64 (1000 : Int), .int .i64 (1001 : Int), .int .i64 (-1001 : Int), .int .i64 (0 : Int)]) (vs := [(0, .int .i64 (1 : Int)), (1, .int .i64 (-1 : Int)), (2, .int .i64 (2 : Int)), (3, .int .i64 (1000 : Int)), (4, .int .i64 (1001 : Int)), (5, .int .i64 (-1001 : Int)), (6, .int .i64 (0 : Int))]) (S := fun _ => False) (le := w437.heap.size) ha444 rfl pos_shI64 Try.underlying41 ti2 rfl rfl (by decide) (by kernel_rfl) ⟨mk_shI64 ((1 : Int)) (by first | omega | simp), mk_shI64 ((-1 : Int)) (by first | omega | simp), mk_shI64 ((2 : Int)) (by first | omega | simp), mk_shI64 ((1000 : Int)) (by first | omega | simp), mk_shI64 ((1001 : Int)) (by first | omega | simp), mk_shI64 ((-1001 : Int)) (by first | omega | simp), mk_shI64 ((0 : Int)) (by first | omega | simp), rfl⟩ (fun _ h => h.elim)) ?_
       rintro v448 w449 ⟨ho450, he451, hob452⟩ a453 ha453; clear ha444 a444
       have hs454 := hs447.trans' he451
       have hx455 := hx445.trans' he451
       have hzhx455 := he451.size
       refine ⟨(StpL.of_ext hs454), ?_⟩
       replace hf142 := hf142.ext hs454
       replace hf144 := hf144.ext hs454
       replace hf145 := hf145.ext hs454
       replace hf146 := hf146.ext hs454
       replace hf147 := hf147.ext hs454
       replace ho419 := ho419.ext hs454
       replace hc430 := hc430.ext hs454
       replace hS439 := hS439.ext hs454
       refine dr_narrow (S' := fun w' => StpL w449 w' _) (fun w' h' => (StpL.of_ext hs454).trans' h') _ _ _ _ ?_
       have hs456 : Ext w449 w449 := Ext.rfl' _
       refine dr_one (i := 14) (by kernel_rfl) ?_
       refine po_callS ha453 rfl rfl rfl rfl (op_call ha453 rfl cb90 rfl) (c_spec_l01Pick _ g16 w0.heap.size v448 ([(1 : Int), (-1 : Int), (2 : Int), (1000 : Int), (1001 : Int), (-1001 : Int), (0 : Int)]) hS439 (ho450.rds pos_shI64) (by rintro ⟨_, _⟩; omega) (by first | assumption | omega | (simp; done) | (simp; omega))) ?_
       rintro v457 w458 he459 ⟨hS460, ⟨q461, hq462, rfl⟩⟩ a463 ha463; clear ha453 a453
       have hx464 := hx455.stp he459 (by intro q hq; cases hq; exact (by omega))
       have hzhx464 := he459.size
       replace hf142 := hf142.stp he459 (by intro q hq; cases hq; omega)
       first | replace hf144 := hf144.stp he459 (by intro q hq; cases hq; omega) | replace hf144 := hf144.stpF flat_shStr he459 (by intro q hq; cases hq; exact hf144.ne_box (by assumption) rfl)
       first | replace hf145 := hf145.stp he459 (by intro q hq; cases hq; omega) | replace hf145 := hf145.stpF flat_shRowN he459 (by intro q hq; cases hq; exact hf145.ne_box (by assumption) rfl)
       first | replace hf146 := hf146.stp he459 (by intro q hq; cases hq; omega) | replace hf146 := hf146.stpB flat_shI64 he459 (by assumption) rfl
       replace hf147 := hf147.stp he459 (by intro q hq; cases hq; omega)
       first | replace ho419 := ho419.stp he459 (by intro q hq; cases hq; omega) | replace ho419 := ho419.stpF flat_shStr he459 (by intro q hq; cases hq; exact ho419.ne_box (by assumption) rfl)
       replace hc430 := hc430.stp he459 (by intro q hq; cases hq; omega)
       first | replace ho450 := ho450.stp he459 (by intro q hq; cases hq; omega) | replace ho450 := ho450.stpF flat_shI64 he459 (by intro q hq; cases hq; exact ho450.ne_box (by assumption) rfl)
       clear hS439
       have hSlhS460 := hS460.lt
       have hs465 := (StpL.of_ext (B := fun i => i = w0.heap.size ∨ i = g16) hs456).trans' (Stp.toL he459 (by intro q hq; cases hq; exact Or.inr (rfl)))
       refine ⟨hs465, ?_⟩
       simp only [List.mem_cons, List.not_mem_nil, or_false] at hq462
       refine dr_narrow (S' := fun w' => StpL w458 w' _) (fun w' h' => hs465.trans' h') _ _ _ _ ?_
       have hs466 : Ext w458 w458 := Ext.rfl' _
       refine dr_one (i := 15) (by kernel_rfl) ?_
       refine po_effS ha463 rfl rfl rfl (op_storeAll' ha463 rfl ti28 rfl rfl hf142 rfl rfl (by intro u hu; have hu : u ∈ ([vu, vr] : List Value) := hu; simp only [List.mem_cons, List.mem_nil_iff, or_false] at hu; rcases hu with rfl | rfl <;> first | rfl | exact hf144.one | exact hf145.one) rfl) ?_
       rintro w467 ⟨hb469, hst468, hz470⟩
       have hx471 := hx464.stp hst468 (by intro q hq; cases hq; exact (by omega))
       have hzhx471 := hst468.size
       replace hf144 := hf144.stp hst468 (by intro q hq; cases hq; omega)
       replace hf145 := hf145.stp hst468 (by intro q hq; cases hq; omega)
       replace hf146 := hf146.stp hst468 (by intro q hq; cases hq; omega)
       replace hf147 := hf147.stp hst468 (by intro q hq; cases hq; omega)
       replace ho419 := ho419.stp hst468 (by intro q hq; cases hq; omega)
       replace hc430 := hc430.stp hst468 (by intro q hq; cases hq; omega)
       replace ho450 := ho450.stp hst468 (by intro q hq; cases hq; omega)
       replace hS460 := hS460.stp hst468 (by intro q hq; cases hq; omega)
       clear hf142
       have hs472 := (StpL.of_ext (B := fun i => i = w0.heap.size ∨ i = g16) hs466).trans' (Stp.toL hst468 (by intro q hq; cases hq; exact Or.inl rfl))
       refine ⟨hs472, ?_⟩
       refine dr_narrow (S' := fun w' => StpL w467 w' _) (fun w' h' => hs472.trans' h') _ _ _ _ ?_
       have hs473 : Ext w467 w467 := Ext.rfl' _
       refine dr_val (i := 16) ha463 rfl (by kernel_rfl) (by kernel_rfl) (by kernel_rfl) rfl rfl rfl (StpL.of_ext hs473) (fun w' hw' => op_assign ha463 rfl rfl) ?_
       intro a474 ha474; clear ha463 a463
       refine dr_val (i := 17) ha474 rfl (by kernel_rfl) (by kernel_rfl) (by kernel_rfl) rfl rfl rfl (StpL.of_ext hs473) (fun w' hw' => op_assign ha474 rfl rfl) ?_
       intro a475 ha475; clear ha474 a474
       refine dr_val (i := 18) ha475 rfl (by kernel_rfl) (by kernel_rfl) (by kernel_rfl) rfl rfl rfl (StpL.of_ext hs473) (fun w' hw' => op_assign ha475 rfl rfl) ?_
       intro a476 ha476; clear ha475 a475
       refine dr_val (i := 19) ha476 rfl (by kernel_rfl) (by kernel_rfl) (by kernel_rfl) rfl rfl rfl (StpL.of_ext hs473) (fun w' hw' => op_assign ha476 rfl rfl) ?_
       intro a477 ha477; clear ha476 a476
       refine dr_end (by kernel_rfl) ?_
       refine then_n ?_
       exact ⟨x426, q440, q461, (Sl.cons_ ha477 rfl rfl (Sl.cons_ ha477 rfl rfl (Sl.cons_ ha477 rfl rfl (Sl.cons_ ha477 rfl rfl (Sl.cons_ ha477 rfl rfl (Sl.nil_ ha477)))))), hx471, (hf144.fin (by omega) (by omega) (by omega)), (hf145.fin (by omega) (by omega) (by omega)), (hf146.fin (by omega) (by omega)), hb469, (by omega), (by omega)⟩
      ·
       refine po_eff ha435 rfl rfl rfl rfl (op_buildSlice (s := shI64) (xs := [(1 : Int), (-1 : Int), (2 : Int), (1000 : Int), (1001 : Int), (-1001 : Int), (0 : Int)]) (cs := [.int .i64 (1 : Int), .int .i64 (-1 : Int), .int .i64 (2 : Int), .int .i64 (1000 : Int), .int .i64 (1001 : Int), .int .i64 (-1001 : Int), .int .i64 (0 : Int)]) (vs := [(0, .int .i64 (1 : Int)), (1, .int .i64 (-1 : Int)), (2, .int .i64 (2 : Int)), (3, .int .i64 (1000 : Int)), (4, .int .i64 (1001 : Int)), (5, .int .i64 (-1001 : Int)), (6, .int .i64 (0 : Int))]) (S := fun _ => False) (le := w418.heap.size) ha435 rfl pos_shI64 Try.underlying41 ti2 rfl rfl (by decide) (by kernel_rfl) ⟨mk_shI64 ((1 : Int)) (by first | omega | simp), mk_shI64 ((-1 : Int)) (by first | omega | simp), mk_shI64 ((2 : Int)) (by first | omega | simp), mk_shI64 ((1000 : Int)) (by first | omega | simp), mk_shI64 ((1001 : Int)) (by first | omega | simp), mk_shI64 ((-1001 : Int)) (by first | omega | simp), mk_shI64 ((0 : Int)) (by first | omega | simp), rfl⟩ (fun _ h => h.elim)) ?_
       rintro v478 w479 ⟨ho480, he481, hob482⟩ a483 ha483; clear ha435 a435
       have hs484 := hs425.trans' he481
       have hx485 := hx424.trans' he481
       have hzhx485 := he481.size
       refine ⟨(StpL.of_ext hs484), ?_⟩
       replace hf142 := hf142.ext hs484
       replace hf144 := hf144.ext hs484
       replace hf145 := hf145.ext hs484
       replace hf146 := hf146.ext hs484
       replace hf147 := hf147.ext hs484
       replace hS408 := hS408.ext hs484
       replace ho419 := ho419.ext hs484
       replace hc430 := hc430.ext hs484
       refine dr_narrow (S' := fun w' => StpL w479 w' _) (fun w' h' => (StpL.of_ext hs484).trans' h') _ _ _ _ ?_
       have hs486 : Ext w479 w479 := Ext.rfl' _
       refine dr_one (i := 11) (by kernel_rfl) ?_
       refine po_callS ha483 rfl rfl rfl rfl (op_call ha483 rfl cb81 rfl) (c_spec_l01Next _ g16 w0.heap.size ((us.length : Nat) : Int) hS408) ?_
       rintro v487 w488 he489 ⟨hS490, ⟨q491, hq492, hq493, hq494, rfl⟩⟩ a495 ha495; clear ha483 a483
       have hx496 := hx485.stp he489 (by intro q hq; cases hq; exact (by omega))
       have hzhx496 := he489.size
       replace hf142 := hf142.stp he489 (by intro q hq; cases hq; omega)
       first | replace hf144 := hf144.stp he489 (by intro q hq; cases hq; omega) | replace hf144 := hf144.stpF flat_shStr he489 (by intro q hq; cases hq; exact hf144.ne_box (by assumption) rfl)
       first | replace hf145 := hf145.stp he489 (by intro q hq; cases hq; omega) | replace hf145 := hf145.stpF flat_shRowN he489 (by intro q hq; cases hq; exact hf145.ne_box (by assumption) rfl)
       first | replace hf146 := hf146.stp he489 (by intro q hq; cases hq; omega) | replace hf146 := hf146.stpB flat_shI64 he489 (by assumption) rfl
       replace hf147 := hf147.stp he489 (by intro q hq; cases hq; omega)
       first | replace ho419 := ho419.stp he489 (by intro q hq; cases hq; omega) | replace ho419 := ho419.stpF flat_shStr he489 (by intro q hq; cases hq; exact ho419.ne_box (by assumption) rfl)
       replace hc430 := hc430.stp he489 (by intro q hq; cases hq; omega)
       first | replace ho480 := ho480.stp he489 (by intro q hq; cases hq; omega) | replace ho480 := ho480.stpF flat_shI64 he489 (by intro q hq; cases hq; exact ho480.ne_box (by assumption) rfl)
       clear hS408
       have hSlhS490 := hS490.lt
       have hs497 := (StpL.of_ext (B := fun i => i = w0.heap.size ∨ i = g16) hs486).trans' (Stp.toL he489 (by intro q hq; cases hq; exact Or.inr (rfl)))
       refine ⟨hs497, ?_⟩
       refine dr_narrow (S' := fun w' => StpL w488 w' _) (fun w' h' => hs497.trans' h') _ _ _ _ ?_
       have hs498 : Ext w488 w488 := Ext.rfl' _
       refine dr_one (i := 14) (by kernel_rfl) ?_
       refine po_callS ha495 rfl rfl rfl rfl (op_call ha495 rfl cb90 rfl) (c_spec_l01Pick _ g16 w0.heap.size v478 ([(1 : Int), (-1 : Int), (2 : Int), (1000 : Int), (1001 : Int), (-1001 : Int), (0 : Int)]) hS490 (ho480.rds pos_shI64) (by rintro ⟨_, _⟩; omega) (by first | assumption | omega | (simp; done) | (simp; omega))) ?_
       rintro v499 w500 he501 ⟨hS502, ⟨q503, hq504, rfl⟩⟩ a505 ha505; clear ha495 a495
       have hx506 := hx496.stp he501 (by intro q hq; cases hq; exact (by omega))
       have hzhx506 := he501.size
       replace hf142 := hf142.stp he501 (by intro q hq; cases hq; omega)
       first | replace hf144 := hf144.stp he501 (by intro q hq; cases hq; omega) | replace hf144 := hf144.stpF flat_shStr he501 (by intro q hq; cases hq; exact hf144.ne_box (by assumption) rfl)
       first | replace hf145 := hf145.stp he501 (by intro q hq; cases hq; omega) | replace hf145 := hf145.stpF flat_shRowN he501 (by intro q hq; cases hq; exact hf145.ne_box (by assumption) rfl)
       first | replace hf146 := hf146.stp he501 (by intro q hq; cases hq; omega) | replace hf146 := hf146.stpB flat_shI64 he501 (by assumption) rfl
       replace hf147 := hf147.stp he501 (by intro q hq; cases hq; omega)
       first | replace ho419 := ho419.stp he501 (by intro q hq; cases hq; omega) | replace ho419 := ho419.stpF flat_shStr he501 (by intro q hq; cases hq; exact ho419.ne_box (by assumption) rfl)
       replace hc430 := hc430.stp he501 (by intro q hq; cases hq; omega)
       first | replace ho480 := ho480.stp he501 (by intro q hq; cases hq; omega) | replace ho480 := ho480.stpF flat_shI64 he501 (by intro q hq; cases hq; exact ho480.ne_box (by assumption) rfl)
       clear hS490
       have hSlhS502 := hS502.lt
       have hs507 := (StpL.of_ext (B := fun i => i = w0.heap.size ∨ i = g16) hs498).trans' (Stp.toL he501 (by intro q hq; cases hq; exact Or.inr (rfl)))
       refine ⟨hs507, ?_⟩
       simp only [List.mem_cons, List.not_mem_nil, or_false] at hq504
       refine dr_narrow (S' := fun w' => StpL w500 w' _) (fun w' h' => hs507.trans' h') _ _ _ _ ?_
       have hs508 : Ext w500 w500 := Ext.rfl' _
       refine dr_one (i := 15) (by kernel_rfl) ?_
       refine po_effS ha505 rfl rfl rfl (op_storeAll' ha505 rfl ti28 rfl rfl hf142 rfl rfl (by intro u hu; have hu : u ∈ ([vu, vr] : List Value) := hu; simp only [List.mem_cons, List.mem_nil_iff, or_false] at hu; rcases hu with rfl | rfl <;> first | rfl | exact hf144.one | exact hf145.one) rfl) ?_
       rintro w509 ⟨hb511, hst510, hz512⟩
       have hx513 := hx506.stp hst510 (by intro q hq; cases hq; exact (by omega))
       have hzhx513 := hst510.size
       replace hf144 := hf144.stp hst510 (by intro q hq; cases hq; omega)
       replace hf145 := hf145.stp hst510 (by intro q hq; cases hq; omega)
       replace hf146 := hf146.stp hst510 (by intro q hq; cases hq; omega)
       replace hf147 := hf147.stp hst510 (by intro q hq; cases hq; omega)
       replace ho419 := ho419.stp hst510 (by intro q hq; cases hq; omega)
       replace hc430 := hc430.stp hst510 (by intro q hq; cases hq; omega)
       replace ho480 := ho480.stp hst510 (by intro q hq; cases hq; omega)
       replace hS502 := hS502.stp hst510 (by intro q hq; cases hq; omega)
       clear hf142
       have hs514 := (StpL.of_ext (B := fun i => i = w0.heap.size ∨ i = g16) hs508).trans' (Stp.toL hst510 (by intro q hq; cases hq; exact Or.inl rfl))
       refine ⟨hs514, ?_⟩
       refine dr_narrow (S' := fun w' => StpL w509 w' _) (fun w' h' => hs514.trans' h') _ _ _ _ ?_
       have hs515 : Ext w509 w509 := Ext.rfl' _
       refine dr_val (i := 16) ha505 rfl (by kernel_rfl) (by kernel_rfl) (by kernel_rfl) rfl rfl rfl (StpL.of_ext hs515) (fun w' hw' => op_assign ha505 rfl rfl) ?_
       intro a516 ha516; clear ha505 a505
       refine dr_val (i := 17) ha516 rfl (by kernel_rfl) (by kernel_rfl) (by kernel_rfl) rfl rfl rfl (StpL.of_ext hs515) (fun w' hw' => op_assign ha516 rfl rfl) ?_
       intro a517 ha517; clear ha516 a516
       refine dr_val (i := 18) ha517 rfl (by kernel_rfl) (by kernel_rfl) (by kernel_rfl) rfl rfl rfl (StpL.of_ext hs515) (fun w' hw' => op_assign ha517 rfl rfl) ?_
       intro a518 ha518; clear ha517 a517
       refine dr_val (i := 19) ha518 rfl (by kernel_rfl) (by kernel_rfl) (by kernel_rfl) rfl rfl rfl (StpL.of_ext hs515) (fun w' hw' => op_assign ha518 rfl rfl) ?_
       intro a519 ha519; clear ha518 a518
       refine dr_end (by kernel_rfl) ?_
       refine then_n ?_
       exact ⟨x426, q491, q503, (Sl.cons_ ha519 rfl rfl (Sl.cons_ ha519 rfl rfl (Sl.cons_ ha519 rfl rfl (Sl.cons_ ha519 rfl rfl (Sl.cons_ ha519 rfl rfl (Sl.nil_ ha519)))))), hx513, (hf144.fin (by omega) (by omega) (by omega)), (hf145.fin (by omega) (by omega) (by omega)), (hf146.fin (by omega) (by omega)), hb511, (by omega), (by omega)⟩
     ·
      refine po_callS ha413 rfl rfl rfl rfl (op_call ha413 rfl cb81 rfl) (c_spec_l01Next _ g16 w0.heap.size ((us.length : Nat) : Int) hS408) ?_
      rintro v520 w521 he522 ⟨hS523, ⟨q524, hq525, hq526, hq527, rfl⟩⟩ a528 ha528; clear ha413 a413
      have hx529 := hx414.stp he522 (by intro q hq; cases hq; exact (by omega))
      have hzhx529 := he522.size
      replace hf142 := hf142.stp he522 (by intro q hq; cases hq; omega)
      first | replace hf144 := hf144.stp he522 (by intro q hq; cases hq; omega) | replace hf144 := hf144.stpF flat_shStr he522 (by intro q hq; cases hq; exact hf144.ne_box (by assumption) rfl)
      first | replace hf145 := hf145.stp he522 (by intro q hq; cases hq; omega) | replace hf145 := hf145.stpF flat_shRowN he522 (by intro q hq; cases hq; exact hf145.ne_box (by assumption) rfl)
      first | replace hf146 := hf146.stp he522 (by intro q hq; cases hq; omega) | replace hf146 := hf146.stpB flat_shI64 he522 (by assumption) rfl
      replace hf147 := hf147.stp he522 (by intro q hq; cases hq; omega)
      clear hS408
      have hSlhS523 := hS523.lt
      have hs530 := (StpL.of_ext (B := fun i => i = w0.heap.size ∨ i = g16) hs416).trans' (Stp.toL he522 (by intro q hq; cases hq; exact Or.inr (rfl)))
      refine ⟨hs530, ?_⟩
      refine dr_narrow (S' := fun w' => StpL w521 w' _) (fun w' h' => hs530.trans' h') _ _ _ _ ?_
      have hs531 : Ext w521 w521 := Ext.rfl' _
      refine dr_two (i := 1) (j := 13) (by kernel_rfl) ?_ ?_
      ·
       refine po_eff ha528 rfl rfl rfl rfl (op_buildSlice (s := shStr) (xs := [([112, 114, 111, 102, 105, 116] : Str), ([115, 117, 109] : Str), ([100, 97, 121] : Str), ([88] : Str), ([100, 105, 102, 102] : Str)]) (cs := [St (([112, 114, 111, 102, 105, 116] : Str)), St (([115, 117, 109] : Str)), St (([100, 97, 121] : Str)), St (([88] : Str)), St (([100, 105, 102, 102] : Str))]) (vs := [(0, St (([112, 114, 111, 102, 105, 116] : Str))), (1, St (([115, 117, 109] : Str))), (2, St (([100, 97, 121] : Str))), (3, St (([88] : Str))), (4, St (([100, 105, 102, 102] : Str)))]) (S := fun _ => False) (le := w521.heap.size) ha528 rfl pos_shStr Try.underlying22 ti9 rfl rfl (by decide) (by kernel_rfl) ⟨mk_shStr (([112, 114, 111, 102, 105, 116] : Str)) (by first | omega | simp), mk_shStr (([115, 117, 109] : Str)) (by first | omega | simp), mk_shStr (([100, 97, 121] : Str)) (by first | omega | simp), mk_shStr (([88] : Str)) (by first | omega | simp), mk_shStr (([100, 105, 102, 102] : Str)) (by first | omega | simp), rfl⟩ (fun _ h => h.elim)) ?_
       rintro v532 w533 ⟨ho534, he535, hob536⟩ a537 ha537; clear ha528 a528
       have hs538 := hs531.trans' he535
       have hx539 := hx529.trans' he535
       have hzhx539 := he535.size
       refine ⟨(StpL.of_ext hs538), ?_⟩
       replace hf142 := hf142.ext hs538
       replace hf144 := hf144.ext hs538
       replace hf145 := hf145.ext hs538
       replace hf146 := hf146.ext hs538
       replace hf147 := hf147.ext hs538
       replace hS523 := hS523.ext hs538
       refine dr_narrow (S' := fun w' => StpL w533 w' _) (fun w' h' => (StpL.of_ext hs538).trans' h') _ _ _ _ ?_
       have hs540 : Ext w533 w533 := Ext.rfl' _
       obtain ⟨x541, hx541⟩ := get_ex (xs := [([112, 114, 111, 102, 105, 116] : Str), ([115, 117, 109] : Str), ([100, 97, 121] : Str), ([88] : Str), ([100, 105, 102, 102] : Str)]) (j := ((q409 : Int)).toNat) (by first | omega | (simp only [List.length_cons, List.length_nil]; omega))
       obtain ⟨p542, c543, hi544, hc545, hr546, hs547⟩ := Rds.at_ (ho534.rds pos_shStr) hx541
       obtain ⟨rfl, b548⟩ := inv_shStr hr546
       obtain ⟨_, _⟩ : _ ∧ _ := hs547
       have hdlx541 := el_len 16 (by rfl) hx541
       refine dr_val (i := 4) ha537 rfl (by kernel_rfl) (by kernel_rfl) (by kernel_rfl) rfl rfl rfl (StpL.of_ext hs540) (fun w' hw' => op_indexAddr ha537 rfl Try.underlying22 ti9 rfl rfl (by omega) hi544) ?_
       intro a549 ha549; clear ha537 a537
       refine dr_val (i := 5) ha549 rfl (by kernel_rfl) (by kernel_rfl) (by kernel_rfl) rfl rfl rfl (StpL.of_ext hs540) (fun w' hw' => op_loadH ha549 rfl Try.underlying9 rfl rfl (hc545.stpL hw' (by rintro (q | q) <;> first | omega)) rfl) ?_
       intro a550 ha550; clear ha549 a549
       refine dr_one (i := 13) (by kernel_rfl) ?_
       refine po_eff ha550 rfl rfl rfl rfl (op_buildSlice (s := shI64) (xs := [(1 : Int), (-1 : Int), (2 : Int), (1000 : Int), (1001 : Int), (-1001 : Int), (0 : Int)]) (cs := [.int .i64 (1 : Int), .int .i64 (-1 : Int), .int .i64 (2 : Int), .int .i64 (1000 : Int), .int .i64 (1001 : Int), .int .i64 (-1001 : Int), .int .i64 (0 : Int)]) (vs := [(0, .int .i64 (1 : Int)), (1, .int .i64 (-1 : Int)), (2, .int .i64 (2 : Int)), (3, .int .i64 (1000 : Int)), (4, .int .i64 (1001 : Int)), (5, .int .i64 (-1001 : Int)), (6, .int .i64 (0 : Int))]) (S := fun _ => False) (le := w533.heap.size) ha550 rfl pos_shI64 Try.underlying41 ti2 rfl rfl (by decide) (by kernel_rfl) ⟨mk_shI64 ((1 : Int)) (by first | omega | simp), mk_shI64 ((-1 : Int)) (by first | omega | simp), mk_shI64 ((2 : Int)) (by first | omega | simp), mk_shI64 ((1000 : Int)) (by first | omega | simp), mk_shI64 ((1001 : Int)) (by first | omega | simp), mk_shI64 ((-1001 : Int)) (by first | omega | simp), mk_shI64 ((0 : Int)) (by first | omega | simp), rfl⟩ (fun _ h => h.elim)) ?_
       rintro v551 w552 ⟨ho553, he554, hob555⟩ a556 ha556; clear ha550 a550
       have hs557 := hs540.trans' he554
       have hx558 := hx539.trans' he554
       have hzhx558 := he554.size
       refine ⟨(StpL.of_ext hs557), ?_⟩
       replace hf142 := hf142.ext hs557
       replace hf144 := hf144.ext hs557
       replace hf145 := hf145.ext hs557
       replace hf146 := hf146.ext hs557
       replace hf147 := hf147.ext hs557
       replace hS523 := hS523.ext hs557
       replace ho534 := ho534.ext hs557
       replace hc545 := hc545.ext hs557
       refine dr_narrow (S' := fun w' => StpL w552 w' _) (fun w' h' => (StpL.of_ext hs557).trans' h') _ _ _ _ ?_
       have hs559 : Ext w552 w552 := Ext.rfl' _
       refine dr_one (i := 14) (by kernel_rfl) ?_
       refine po_callS ha556 rfl rfl rfl rfl (op_call ha556 rfl cb90 rfl) (c_spec_l01Pick _ g16 w0.heap.size v551 ([(1 : Int), (-1 : Int), (2 : Int), (1000 : Int), (1001 : Int), (-1001 : Int), (0 : Int)]) hS523 (ho553.rds pos_shI64) (by rintro ⟨_, _⟩; omega) (by first | assumption | omega | (simp; done) | (simp; omega))) ?_
       rintro v560 w561 he562 ⟨hS563, ⟨q564, hq565, rfl⟩⟩ a566 ha566; clear ha556 a556
       have hx567 := hx558.stp he562 (by intro q hq; cases hq; exact (by omega))
       have hzhx567 := he562.size
       replace hf142 := hf142.stp he562 (by intro q hq; cases hq; omega)
       first | replace hf144 := hf144.stp he562 (by intro q hq; cases hq; omega) | replace hf144 := hf144.stpF flat_shStr he562 (by intro q hq; cases hq; exact hf144.ne_box (by assumption) rfl)
       first | replace hf145 := hf145.stp he562 (by intro q hq; cases hq; omega) | replace hf145 := hf145.stpF flat_shRowN he562 (by intro q hq; cases hq; exact hf145.ne_box (by assumption) rfl)
       first | replace hf146 := hf146.stp he562 (by intro q hq; cases hq; omega) | replace hf146 := hf146.stpB flat_shI64 he562 (by assumption) rfl
       replace hf147 := hf147.stp he562 (by intro q hq; cases hq; omega)
       first | replace ho534 := ho534.stp he562 (by intro q hq; cases hq; omega) | replace ho534 := ho534.stpF flat_shStr he562 (by intro q hq; cases hq; exact ho534.ne_box (by assumption) rfl)
       replace hc545 := hc545.stp he562 (by intro q hq; cases hq; omega)
       first | replace ho553 := ho553.stp he562 (by intro q hq; cases hq; omega) | replace ho553 := ho553.stpF flat_shI64 he562 (by intro q hq; cases hq; exact ho553.ne_box (by assumption) rfl)
       clear hS523
       have hSlhS563 := hS563.lt
       have hs568 := (StpL.of_ext (B := fun i => i = w0.heap.size ∨ i = g16) hs559).trans' (Stp.toL he562 (by intro q hq; cases hq; exact Or.inr (rfl)))
       refine ⟨hs568, ?_⟩
       simp only [List.mem_cons, List.not_mem_nil, or_false] at hq565
       refine dr_narrow (S' := fun w' => StpL w561 w' _) (fun w' h' => hs568.trans' h') _ _ _ _ ?_
       have hs569 : Ext w561 w561 := Ext.rfl' _
       refine dr_one (i := 15) (by kernel_rfl) ?_
       refine po_effS ha566 rfl rfl rfl (op_storeAll' ha566 rfl ti28 rfl rfl hf142 rfl rfl (by intro u hu; have hu : u ∈ ([vu, vr] : List Value) := hu; simp only [List.mem_cons, List.mem_nil_iff, or_false] at hu; rcases hu with rfl | rfl <;> first | rfl | exact hf144.one | exact hf145.one) rfl) ?_
       rintro w570 ⟨hb572, hst571, hz573⟩
       have hx574 := hx567.stp hst571 (by intro q hq; cases hq; exact (by omega))
       have hzhx574 := hst571.size
       replace hf144 := hf144.stp hst571 (by intro q hq; cases hq; omega)
       replace hf145 := hf145.stp hst571 (by intro q hq; cases hq; omega)
       replace hf146 := hf146.stp hst571 (by intro q hq; cases hq; omega)
       replace hf147 := hf147.stp hst571 (by intro q hq; cases hq; omega)
       replace ho534 := ho534.stp hst571 (by intro q hq; cases hq; omega)
       replace hc545 := hc545.stp hst571 (by intro q hq; cases hq; omega)
       replace ho553 := ho553.stp hst571 (by intro q hq; cases hq; omega)
       replace hS563 := hS563.stp hst571 (by intro q hq; cases hq; omega)
       clear hf142
       have hs575 := (StpL.of_ext (B := fun i => i = w0.heap.size ∨ i = g16) hs569).trans' (Stp.toL hst571 (by intro q hq; cases hq; exact Or.inl rfl))
       refine ⟨hs575, ?_⟩
       refine dr_narrow (S' := fun w' => StpL w570 w' _) (fun w' h' => hs575.trans' h') _ _ _ _ ?_
       have hs576 : Ext w570 w570 := Ext.rfl' _
       refine dr_val (i := 16) ha566 rfl (by kernel_rfl) (by kernel_rfl) (by kernel_rfl) rfl rfl rfl (StpL.of_ext hs576) (fun w' hw' => op_assign ha566 rfl rfl) ?_
       intro a577 ha577; clear ha566 a566
       refine dr_val (i := 17) ha577 rfl (by kernel_rfl) (by kernel_rfl) (by kernel_rfl) rfl rfl rfl (StpL.of_ext hs576) (fun w' hw' => op_assign ha577 rfl rfl) ?_
       intro a578 ha578; clear ha577 a577
       refine dr_val (i := 18) ha578 rfl (by kernel_rfl) (by kernel_rfl) (by kernel_rfl) rfl rfl rfl (StpL.of_ext hs576) (fun w' hw' => op_assign ha578 rfl rfl) ?_
       intro a579 ha579; clear ha578 a578
       refine dr_val (i := 19) ha579 rfl (by kernel_rfl) (by kernel_rfl) (by kernel_rfl) rfl rfl rfl (StpL.of_ext hs576) (fun w' hw' => op_assign ha579 rfl rfl) ?_
       intro a580 ha580; clear ha579 a579
       refine dr_end (by kernel_rfl) ?_
       refine then_n ?_
       exact ⟨x541, q524, q564, (Sl.cons_ ha580 rfl rfl (Sl.cons_ ha580 rfl rfl (Sl.cons_ ha580 rfl rfl (Sl.cons_ ha580 rfl rfl (Sl.cons_ ha580 rfl rfl (Sl.nil_ ha580)))))), hx574, (hf144.fin (by omega) (by omega) (by omega)), (hf145.fin (by omega) (by omega) (by omega)), (hf146.fin (by omega) (by omega)), hb572, (by omega), (by omega)⟩
      ·
       refine po_eff ha528 rfl rfl rfl rfl (op_buildSlice (s := shI64) (xs := [(1 : Int), (-1 : Int), (2 : Int), (1000 : Int), (1001 : Int), (-1001 : Int), (0 : Int)]) (cs := [.int .i64 (1 : Int), .int .i64 (-1 : Int), .int .i64 (2 : Int), .int .i64 (1000 : Int), .int .i64 (1001 : Int), .int .i64 (-1001 : Int), .int .i64 (0 : Int)]) (vs := [(0, .int .i64 (1 : Int)), (1, .int .i64 (-1 : Int)), (2, .int .i64 (2 : Int)), (3, .int .i64 (1000 : Int)), (4, .int .i64 (1001 : Int)), (5, .int .i64 (-1001 : Int)), (6, .int .i64 (0 : Int))]) (S := fun _ => False) (le := w521.heap.size) ha528 rfl pos_shI64 Try.underlying41 ti2 rfl rfl (by decide) (by kernel_rfl) ⟨mk_shI64 ((1 : Int)) (by first | omega | simp), mk_shI64 ((-1 : Int)) (by first | omega | simp), mk_shI64 ((2 : Int)) (by first | omega | simp), mk_shI64 ((1000 : Int)) (by first | omega | simp), mk_shI64 ((1001 : Int)) (by first | omega | simp), mk_shI64 ((-1001 : Int)) (by first | omega | simp), mk_shI64 ((0 : Int)) (by first | omega | simp), rfl⟩ (fun _ h => h.elim)) ?_
       rintro v581 w582 ⟨ho583, he584, hob585⟩ a586 ha586; clear ha528 a528
       have hs587 := hs531.trans' he584
       have hx588 := hx529.trans' he584
       have hzhx588 := he584.size
       refine ⟨(StpL.of_ext hs587), ?_⟩
       replace hf142 := hf142.ext hs587
       replace hf144 := hf144.ext hs587
       replace hf145 := hf145.ext hs587
       replace hf146 := hf146.ext hs587
       replace hf147 := hf147.ext hs587
       replace hS523 := hS523.ext hs587
       refine dr_narrow (S' := fun w' => StpL w582 w' _) (fun w' h' => (StpL.of_ext hs587).trans' h') _ _ _ _ ?_
       have hs589 : Ext w582 w582 := Ext.rfl' _
       refine dr_two (i := 1) (j := 14) (by kernel_rfl) ?_ ?_
       ·
        refine po_eff ha586 rfl rfl rfl rfl (op_buildSlice (s := shStr) (xs := [([112, 114, 111, 102, 105, 116] : Str), ([115, 117, 109] : Str), ([100, 97, 121] : Str), ([88] : Str), ([100, 105, 102, 102] : Str)]) (cs := [St (([112, 114, 111, 102, 105, 116] : Str)), St (([115, 117, 109] : Str)), St (([100, 97, 121] : Str)), St (([88] : Str)), St (([100, 105, 102, 102] : Str))]) (vs := [(0, St (([112, 114, 111, 102, 105, 116] : Str))), (1, St (([115, 117, 109] : Str))), (2, St (([100, 97, 121] : Str))), (3, St (([88] : Str))), (4, St (([100, 105, 102, 102] : Str)))]) (S := fun _ => False) (le := w582.heap.size) ha586 rfl pos_shStr Try.underlying22 ti9 rfl rfl (by decide) (by kernel_rfl) ⟨mk_shStr (([112, 114, 111, 102, 105, 116] : Str)) (by first | omega | simp), mk_shStr (([115, 117, 109] : Str)) (by first | omega | simp), mk_shStr (([100, 97, 121] : Str)) (by first | omega | simp), mk_shStr (([88] : Str)) (by first | omega | simp), mk_shStr (([100, 105, 102, 102] : Str)) (by first | omega | simp), rfl⟩ (fun _ h => h.elim)) ?_
        rintro v590 w591 ⟨ho592, he593, hob594⟩ a595 ha595; clear ha586 a586
        have hs596 := hs589.trans' he593
        have hx597 := hx588.trans' he593
        have hzhx597 := he593.size
        refine ⟨(StpL.of_ext hs596), ?_⟩
        replace hf142 := hf142.ext hs596
        replace hf144 := hf144.ext hs596
        replace hf145 := hf145.ext hs596
        replace hf146 := hf146.ext hs596
        replace hf147 := hf147.ext hs596
        replace hS523 := hS523.ext hs596
        replace ho583 := ho583.ext hs596
        refine dr_narrow (S' := fun w' => StpL w591 w' _) (fun w' h' => (StpL.of_ext hs596).trans' h') _ _ _ _ ?_
        have hs598 : Ext w591 w591 := Ext.rfl' _
        obtain ⟨x599, hx599⟩ := get_ex (xs := [([112, 114, 111, 102, 105, 116] : Str), ([115, 117, 109] : Str), ([100, 97, 121] : Str), ([88] : Str), ([100, 105, 102, 102] : Str)]) (j := ((q409 : Int)).toNat) (by first | omega | (simp only [List.length_cons, List.length_nil]; omega))
        obtain ⟨p600, c601, hi602, hc603, hr604, hs605⟩ := Rds.at_ (ho592.rds pos_shStr) hx599
        obtain ⟨rfl, b606⟩ := inv_shStr hr604
        obtain ⟨_, _⟩ : _ ∧ _ := hs605
        have hdlx599 := el_len 16 (by rfl) hx599
        refine dr_val (i := 4) ha595 rfl (by kernel_rfl) (by kernel_rfl) (by kernel_rfl) rfl rfl rfl (StpL.of_ext hs598) (fun w' hw' => op_indexAddr ha595 rfl Try.underlying22 ti9 rfl rfl (by omega) hi602) ?_
        intro a607 ha607; clear ha595 a595
        refine dr_val (i := 5) ha607 rfl (by kernel_rfl) (by kernel_rfl) (by kernel_rfl) rfl rfl rfl (StpL.of_ext hs598) (fun w' hw' => op_loadH ha607 rfl Try.underlying9 rfl rfl (hc603.stpL hw' (by rintro (q | q) <;> first | omega)) rfl) ?_
        intro a608 ha608; clear ha607 a607
        refine dr_one (i := 14) (by kernel_rfl) ?_
        refine po_callS ha608 rfl rfl rfl rfl (op_call ha608 rfl cb90 rfl) (c_spec_l01Pick _ g16 w0.heap.size v581 ([(1 : Int), (-1 : Int), (2 : Int), (1000 : Int), (1001 : Int), (-1001 : Int), (0 : Int)]) hS523 (ho583.rds pos_shI64) (by rintro ⟨_, _⟩; omega) (by first | assumption | omega | (simp; done) | (simp; omega))) ?_
        rintro v609 w610 he611 ⟨hS612, ⟨q613, hq614, rfl⟩⟩ a615 ha615; clear ha608 a608
        have hx616 := hx597.stp he611 (by intro q hq; cases hq; exact (by omega))
        have hzhx616 := he611.size
        replace hf142 := hf142.stp he611 (by intro q hq; cases hq; omega)
        first | replace hf144 := hf144.stp he611 (by intro q hq; cases hq; omega) | replace hf144 := hf144.stpF flat_shStr he611 (by intro q hq; cases hq; exact hf144.ne_box (by assumption) rfl)
        first | replace hf145 := hf145.stp he611 (by intro q hq; cases hq; omega) | replace hf145 := hf145.stpF flat_shRowN he611 (by intro q hq; cases hq; exact hf145.ne_box (by assumption) rfl)
        first | replace hf146 := hf146.stp he611 (by intro q hq; cases hq; omega) | replace hf146 := hf146.stpB flat_shI64 he611 (by assumption) rfl
        replace hf147 := hf147.stp he611 (by intro q hq; cases hq; omega)
        first | replace ho583 := ho583.stp he611 (by intro q hq; cases hq; omega) | replace ho583 := ho583.stpF flat_shI64 he611 (by intro q hq; cases hq; exact ho583.ne_box (by assumption) rfl)
        first | replace ho592 := ho592.stp he611 (by intro q hq; cases hq; omega) | replace ho592 := ho592.stpF flat_shStr he611 (by intro q hq; cases hq; exact ho592.ne_box (by assumption) rfl)
        replace hc603 := hc603.stp he611 (by intro q hq; cases hq; omega)
        clear hS523
        have hSlhS612 := hS612.lt
        have hs617 := (StpL.of_ext (B := fun i => i = w0.heap.size ∨ i = g16) hs598).trans' (Stp.toL he611 (by intro q hq; cases hq; exact Or.inr (rfl)))
        refine ⟨hs617, ?_⟩
        simp only [List.mem_cons, List.not_mem_nil, or_false] at hq614
        refine dr_narrow (S' := fun w' => StpL w610 w' _) (fun w' h' => hs617.trans' h') _ _ _ _ ?_
        have hs618 : Ext w610 w610 := Ext.rfl' _
        refine dr_one (i := 15) (by kernel_rfl) ?_
        refine po_effS ha615 rfl rfl rfl (op_storeAll' ha615 rfl ti28 rfl rfl hf142 rfl rfl (by intro u hu; have hu : u ∈ ([vu, vr] : List Value) := hu; simp only [List.mem_cons, List.mem_nil_iff, or_false] at hu; rcases hu with rfl | rfl <;> first | rfl | exact hf144.one | exact hf145.one) rfl) ?_
        rintro w619 ⟨hb621, hst620, hz622⟩
        have hx623 := hx616.stp hst620 (by intro q hq; cases hq; exact (by omega))
        have hzhx623 := hst620.size
        replace hf144 := hf144.stp hst620 (by intro q hq; cases hq; omega)
        replace hf145 := hf145.stp hst620 (by intro q hq; cases hq; omega)
        replace hf146 := hf146.stp hst620 (by intro q hq; cases hq; omega)
        replace hf147 := hf147.stp hst620 (by intro q hq; cases hq; omega)
        replace ho583 := ho583.stp hst620 (by intro q hq; cases hq; omega)
        replace ho592 := ho592.stp hst620 (by intro q hq; cases hq; omega)
        replace hc603 := hc603.stp hst620 (by intro q hq; cases hq; omega)
        replace hS612 := hS612.stp hst620 (by intro q hq; cases hq; omega)
        clear hf142
        have hs624 := (StpL.of_ext (B := fun i => i = w0.heap.size ∨ i = g16) hs618).trans' (Stp.toL hst620 (by intro q hq; cases hq; exact Or.inl rfl))
        refine ⟨hs624, ?_⟩
        refine dr_narrow (S' := fun w' => StpL w619 w' _) (fun w' h' => hs624.trans' h') _ _ _ _ ?_
        have hs625 : Ext w619 w619 := Ext.rfl' _
        refine dr_val (i := 16) ha615 rfl (by kernel_rfl) (by kernel_rfl) (by kernel_rfl) rfl rfl rfl (StpL.of_ext hs625) (fun w' hw' => op_assign ha615 rfl rfl) ?_
        intro a626 ha626; clear ha615 a615
        refine dr_val (i := 17) ha626 rfl (by kernel_rfl) (by kernel_rfl) (by kernel_rfl) rfl rfl rfl (StpL.of_ext hs625) (fun w' hw' => op_assign ha626 rfl rfl) ?_
        intro a627 ha627; clear ha626 a626
        refine dr_val (i := 18) ha627 rfl (by kernel_rfl) (by kernel_rfl) (by kernel_rfl) rfl rfl rfl (StpL.of_ext hs625) (fun w' hw' => op_assign ha627 rfl rfl) ?_
        intro a628 ha628; clear ha627 a627
        refine dr_val (i := 19) ha628 rfl (by kernel_rfl) (by kernel_rfl) (by kernel_rfl) rfl rfl rfl (StpL.of_ext hs625) (fun w' hw' => op_assign ha628 rfl rfl) ?_
        intro a629 ha629; clear ha628 a628
        refine dr_end (by kernel_rfl) ?_
        refine then_n ?_
        exact ⟨x599, q524, q613, (Sl.cons_ ha629 rfl rfl (Sl.cons_ ha629 rfl rfl (Sl.cons_ ha629 rfl rfl (Sl.cons_ ha629 rfl rfl (Sl.cons_ ha629 rfl rfl (Sl.nil_ ha629)))))), hx623, (hf144.fin (by omega) (by omega) (by omega)), (hf145.fin (by omega) (by omega) (by omega)), (hf146.fin (by omega) (by omega)), hb621, (by omega), (by omega)⟩
       ·
        refine po_callS ha586 rfl rfl rfl rfl (op_call ha586 rfl cb90 rfl) (c_spec_l01Pick _ g16 w0.heap.size v581 ([(1 : Int), (-1 : Int), (2 : Int), (1000 : Int), (1001 : Int), (-1001 : Int), (0 : Int)]) hS523 (ho583.rds pos_shI64) (by rintro ⟨_, _⟩; omega) (by first | assumption | omega | (simp; done) | (simp; omega))) ?_
        rintro v630 w631 he632 ⟨hS633, ⟨q634, hq635, rfl⟩⟩ a636 ha636; clear ha586 a586
        have hx637 := hx588.stp he632 (by intro q hq; cases hq; exact (by omega))
        have hzhx637 := he632.size
        replace hf142 := hf142.stp he632 (by intro q hq; cases hq; omega)
        first | replace hf144 := hf144.stp he632 (by intro q hq; cases hq; omega) | replace hf144 := hf144.stpF flat_shStr he632 (by intro q hq; cases hq; exact hf144.ne_box (by assumption) rfl)
        first | replace hf145 := hf145.stp he632 (by intro q hq; cases hq; omega) | replace hf145 := hf145.stpF flat_shRowN he632 (by intro q hq; cases hq; exact hf145.ne_box (by assumption) rfl)
        first | replace hf146 := hf146.stp he632 (by intro q hq; cases hq; omega) | replace hf146 := hf146.stpB flat_shI64 he632 (by assumption) rfl
        replace hf147 := hf147.stp he632 (by intro q hq; cases hq; omega)
        first | replace ho583 := ho583.stp he632 (by intro q hq; cases hq; omega) | replace ho583 := ho583.stpF flat_shI64 he632 (by intro q hq; cases hq; exact ho583.ne_box (by assumption) rfl)
        clear hS523
        have hSlhS633 := hS633.lt
        have hs638 := (StpL.of_ext (B := fun i => i = w0.heap.size ∨ i = g16) hs589).trans' (Stp.toL he632 (by intro q hq; cases hq; exact Or.inr (rfl)))
        refine ⟨hs638, ?_⟩
        simp only [List.mem_cons, List.not_mem_nil, or_false] at hq635
        refine dr_narrow (S' := fun w' => StpL w631 w' _) (fun w' h' => hs638.trans' h') _ _ _ _ ?_
        have hs639 : Ext w631 w631 := Ext.rfl' _
        refine dr_two (i := 1) (j := 15) (by kernel_rfl) ?_ ?_
        ·
         refine po_eff ha636 rfl rfl rfl rfl (op_buildSlice (s := shStr) (xs := [([112, 114, 111, 102, 105, 116] : Str), ([115, 117, 109] : Str), ([100, 97, 121] : Str), ([88] : Str), ([100, 105, 102, 102] : Str)]) (cs := [St (([112, 114, 111, 102, 105, 116] : Str)), St (([115, 117, 109] : Str)), St (([100, 97, 121] : Str)), St (([88] : Str)), St (([100, 105, 102, 102] : Str))]) (vs := [(0, St (([112, 114, 111, 102, 105, 116] : Str))), (1, St (([115, 117, 109] : Str))), (2, St (([100, 97, 121] : Str))), (3, St (([88] : Str))), (4, St (([100, 105, 102, 102] : Str)))]) (S := fun _ => False) (le := w631.heap.size) ha636 rfl pos_shStr Try.underlying22 ti9 rfl rfl (by decide) (by kernel_rfl) ⟨mk_shStr (([112, 114, 111, 102, 105, 116] : Str)) (by first | omega | simp), mk_shStr (([115, 117, 109] : Str)) (by first | omega | simp), mk_shStr (([100, 97, 121] : Str)) (by first | omega | simp), mk_shStr (([88] : Str)) (by first | omega | simp), mk_shStr (([100, 105, 102, 102] : Str)) (by first | omega | simp), rfl⟩ (fun _ h => h.elim)) ?_
         rintro v640 w641 ⟨ho642, he643, hob644⟩ a645 ha645; clear ha636 a636
         have hs646 := hs639.trans' he643
         have hx647 := hx637.trans' he643
         have hzhx647 := he643.size
         refine ⟨(StpL.of_ext hs646), ?_⟩
         replace hf142 := hf142.ext hs646
         replace hf144 := hf144.ext hs646
         replace hf145 := hf145.ext hs646
         replace hf146 := hf146.ext hs646
         replace hf147 := hf147.ext hs646
         replace ho583 := ho583.ext hs646
         replace hS633 := hS633.ext hs646
         refine dr_narrow (S' := fun w' => StpL w641 w' _) (fun w' h' => (StpL.of_ext hs646).trans' h') _ _ _ _ ?_
         have hs648 : Ext w641 w641 := Ext.rfl' _
         obtain ⟨x649, hx649⟩ := get_ex (xs := [([112, 114, 111, 102, 105, 116] : Str), ([115, 117, 109] : Str), ([100, 97, 121] : Str), ([88] : Str), ([100, 105, 102, 102] : Str)]) (j := ((q409 : Int)).toNat) (by first | omega | (simp only [List.length_cons, List.length_nil]; omega))
         obtain ⟨p650, c651, hi652, hc653, hr654, hs655⟩ := Rds.at_ (ho642.rds pos_shStr) hx649
         obtain ⟨rfl, b656⟩ := inv_shStr hr654
         obtain ⟨_, _⟩ : _ ∧ _ := hs655
         have hdlx649 := el_len 16 (by rfl) hx649
         refine dr_val (i := 4) ha645 rfl (by kernel_rfl) (by kernel_rfl) (by kernel_rfl) rfl rfl rfl (StpL.of_ext hs648) (fun w' hw' => op_indexAddr ha645 rfl Try.underlying22 ti9 rfl rfl (by omega) hi652) ?_
         intro a657 ha657; clear ha645 a645
         refine dr_val (i := 5) ha657 rfl (by kernel_rfl) (by kernel_rfl) (by kernel_rfl) rfl rfl rfl (StpL.of_ext hs648) (fun w' hw' => op_loadH ha657 rfl Try.underlying9 rfl rfl (hc653.stpL hw' (by rintro (q | q) <;> first | omega)) rfl) ?_
         intro a658 ha658; clear ha657 a657
         refine dr_one (i := 15) (by kernel_rfl) ?_
         refine po_effS ha658 rfl rfl rfl (op_storeAll' ha658 rfl ti28 rfl rfl hf142 rfl rfl (by intro u hu; have hu : u ∈ ([vu, vr] : List Value) := hu; simp only [List.mem_cons, List.mem_nil_iff, or_false] at hu; rcases hu with rfl | rfl <;> first | rfl | exact hf144.one | exact hf145.one) rfl) ?_
         rintro w659 ⟨hb661, hst660, hz662⟩
         have hx663 := hx647.stp hst660 (by intro q hq; cases hq; exact (by omega))
         have hzhx663 := hst660.size
         replace hf144 := hf144.stp hst660 (by intro q hq; cases hq; omega)
         replace hf145 := hf145.stp hst660 (by intro q hq; cases hq; omega)
         replace hf146 := hf146.stp hst660 (by intro q hq; cases hq; omega)
         replace hf147 := hf147.stp hst660 (by intro q hq; cases hq; omega)
         replace ho583 := ho583.stp hst660 (by intro q hq; cases hq; omega)
         replace hS633 := hS633.stp hst660 (by intro q hq; cases hq; omega)
         replace ho642 := ho642.stp hst660 (by intro q hq; cases hq; omega)
         replace hc653 := hc653.stp hst660 (by intro q hq; cases hq; omega)
         clear hf142
         have hs664 := (StpL.of_ext (B := fun i => i = w0.heap.size ∨ i = g16) hs648).trans' (Stp.toL hst660 (by intro q hq; cases hq; exact Or.inl rfl))
         refine ⟨hs664, ?_⟩
         refine dr_narrow (S' := fun w' => StpL w659 w' _) (fun w' h' => hs664.trans' h') _ _ _ _ ?_
         have hs665 : Ext w659 w659 := Ext.rfl' _
         refine dr_val (i := 16) ha658 rfl (by kernel_rfl) (by kernel_rfl) (by kernel_rfl) rfl rfl rfl (StpL.of_ext hs665) (fun w' hw' => op_assign ha658 rfl rfl) ?_
         intro a666 ha666; clear ha658 a658
         refine dr_val (i := 17) ha666 rfl (by kernel_rfl) (by kernel_rfl) (by kernel_rfl) rfl rfl rfl (StpL.of_ext hs665) (fun w' hw' => op_assign ha666 rfl rfl) ?_
         intro a667 ha667; clear ha666 a666
         refine dr_val (i := 18) ha667 rfl (by kernel_rfl) (by kernel_rfl) (by kernel_rfl) rfl rfl rfl (StpL.of_ext hs665) (fun w' hw' => op_assign ha667 rfl rfl) ?_
         intro a668 ha668; clear ha667 a667
         refine dr_val (i := 19) ha668 rfl (by kernel_rfl) (by kernel_rfl) (by kernel_rfl) rfl rfl rfl (StpL.of_ext hs665) (fun w' hw' => op_assign ha668 rfl rfl) ?_
         intro a669 ha669; clear ha668 a668
         refine dr_end (by kernel_rfl) ?_
         refine then_n ?_
         exact ⟨x649, q524, q634, (Sl.cons_ ha669 rfl rfl (Sl.cons_ ha669 rfl rfl (Sl.cons_ ha669 rfl rfl (Sl.cons_ ha669 rfl rfl (Sl.cons_ ha669 rfl rfl (Sl.nil_ ha669)))))), hx663, (hf144.fin (by omega) (by omega) (by omega)), (hf145.fin (by omega) (by omega) (by omega)), (hf146.fin (by omega) (by omega)), hb661, (by omega), (by omega)⟩
        ·
         refine po_effS ha636 rfl rfl rfl (op_storeAll' ha636 rfl ti28 rfl rfl hf142 rfl rfl (by intro u hu; have hu : u ∈ ([vu, vr] : List Value) := hu; simp only [List.mem_cons, List.mem_nil_iff, or_false] at hu; rcases hu with rfl | rfl <;> first | rfl | exact hf144.one | exact hf145.one) rfl) ?_
         rintro w670 ⟨hb672, hst671, hz673⟩
         have hx674 := hx637.stp hst671 (by intro q hq; cases hq; exact (by omega))
         have hzhx674 := hst671.size
         replace hf144 := hf144.stp hst671 (by intro q hq; cases hq; omega)
         replace hf145 := hf145.stp hst671 (by intro q hq; cases hq; omega)
         replace hf146 := hf146.stp hst671 (by intro q hq; cases hq; omega)
         replace hf147 := hf147.stp hst671 (by intro q hq; cases hq; omega)
         replace ho583 := ho583.stp hst671 (by intro q hq; cases hq; omega)
         replace hS633 := hS633.stp hst671 (by intro q hq; cases hq; omega)
         clear hf142
         have hs675 := (StpL.of_ext (B := fun i => i = w0.heap.size ∨ i = g16) hs639).trans' (Stp.toL hst671 (by intro q hq; cases hq; exact Or.inl rfl))
         refine ⟨hs675, ?_⟩
         refine dr_narrow (S' := fun w' => StpL w670 w' _) (fun w' h' => hs675.trans' h') _ _ _ _ ?_
         have hs676 : Ext w670 w670 := Ext.rfl' _
         refine dr_one (i := 1) (by kernel_rfl) ?_
         refine po_eff ha636 rfl rfl rfl rfl (op_buildSlice (s := shStr) (xs := [([112, 114, 111, 102, 105, 116] : Str), ([115, 117, 109] : Str), ([100, 97, 121] : Str), ([88] : Str), ([100, 105, 102, 102] : Str)]) (cs := [St (([112, 114, 111, 102, 105, 116] : Str)), St (([115, 117, 109] : Str)), St (([100, 97, 121] : Str)), St (([88] : Str)), St (([100, 105, 102, 102] : Str))]) (vs := [(0, St (([112, 114, 111, 102, 105, 116] : Str))), (1, St (([115, 117, 109] : Str))), (2, St (([100, 97, 121] : Str))), (3, St (([88] : Str))), (4, St (([100, 105, 102, 102] : Str)))]) (S := fun _ => False) (le := w670.heap.size) ha636 rfl pos_shStr Try.underlying22 ti9 rfl rfl (by decide) (by kernel_rfl) ⟨mk_shStr (([112, 114, 111, 102, 105, 116] : Str)) (by first | omega | simp), mk_shStr (([115, 117, 109] : Str)) (by first | omega | simp), mk_shStr (([100, 97, 121] : Str)) (by first | omega | simp), mk_shStr (([88] : Str)) (by first | omega | simp), mk_shStr (([100, 105, 102, 102] : Str)) (by first | omega | simp), rfl⟩ (fun _ h => h.elim)) ?_
         rintro v677 w678 ⟨ho679, he680, hob681⟩ a682 ha682; clear ha636 a636
         have hs683 := hs676.trans' he680
         have hx684 := hx674.trans' he680
         have hzhx684 := he680.size
         refine ⟨(StpL.of_ext hs683), ?_⟩
         replace hf144 := hf144.ext hs683
         replace hf145 := hf145.ext hs683
         replace hf146 := hf146.ext hs683
         replace hf147 := hf147.ext hs683
         replace ho583 := ho583.ext hs683
         replace hS633 := hS633.ext hs683
         replace hb672 := hb672.ext hs683
         refine dr_narrow (S' := fun w' => StpL w678 w' _) (fun w' h' => (StpL.of_ext hs683).trans' h') _ _ _ _ ?_
         have hs685 : Ext w678 w678 := Ext.rfl' _
         obtain ⟨x686, hx686⟩ := get_ex (xs := [([112, 114, 111, 102, 105, 116] : Str), ([115, 117, 109] : Str), ([100, 97, 121] : Str), ([88] : Str), ([100, 105, 102, 102] : Str)]) (j := ((q409 : Int)).toNat) (by first | omega | (simp only [List.length_cons, List.length_nil]; omega))
         obtain ⟨p687, c688, hi689, hc690, hr691, hs692⟩ := Rds.at_ (ho679.rds pos_shStr) hx686
         obtain ⟨rfl, b693⟩ := inv_shStr hr691
         obtain ⟨_, _⟩ : _ ∧ _ := hs692
         have hdlx686 := el_len 16 (by rfl) hx686
         refine dr_val (i := 4) ha682 rfl (by kernel_rfl) (by kernel_rfl) (by kernel_rfl) rfl rfl rfl (StpL.of_ext hs685) (fun w' hw' => op_indexAddr ha682 rfl Try.underlying22 ti9 rfl rfl (by omega) hi689) ?_
         intro a694 ha694; clear ha682 a682
         refine dr_val (i := 5) ha694 rfl (by kernel_rfl) (by kernel_rfl) (by kernel_rfl) rfl rfl rfl (StpL.of_ext hs685) (fun w' hw' => op_loadH ha694 rfl Try.underlying9 rfl rfl (hc690.stpL hw' (by rintro (q | q) <;> first | omega)) rfl) ?_
         intro a695 ha695; clear ha694 a694
         refine dr_val (i := 16) ha695 rfl (by kernel_rfl) (by kernel_rfl) (by kernel_rfl) rfl rfl rfl (StpL.of_ext hs685) (fun w' hw' => op_assign ha695 rfl rfl) ?_
         intro a696 ha696; clear ha695 a695
         refine dr_val (i := 17) ha696 rfl (by kernel_rfl) (by kernel_rfl) (by kernel_rfl) rfl rfl rfl (StpL.of_ext hs685) (fun w' hw' => op_assign ha696 rfl rfl) ?_
         intro a697 ha697; clear ha696 a696
         refine dr_val (i := 18) ha697 rfl (by kernel_rfl) (by kernel_rfl) (by kernel_rfl) rfl rfl rfl (StpL.of_ext hs685) (fun w' hw' => op_assign ha697 rfl rfl) ?_
         intro a698 ha698; clear ha697 a697
         refine dr_val (i := 19) ha698 rfl (by kernel_rfl) (by kernel_rfl) (by kernel_rfl) rfl rfl rfl (StpL.of_ext hs685) (fun w' hw' => op_assign ha698 rfl rfl) ?_
         intro a699 ha699; clear ha698 a698
         refine dr_end (by kernel_rfl) ?_
         refine then_n ?_
         exact ⟨x686, q524, q634, (Sl.cons_ ha699 rfl rfl (Sl.cons_ ha699 rfl rfl (Sl.cons_ ha699 rfl rfl (Sl.cons_ ha699 rfl rfl (Sl.cons_ ha699 rfl rfl (Sl.nil_ ha699)))))), hx684, (hf144.fin (by omega) (by omega) (by omega)), (hf145.fin (by omega) (by omega) (by omega)), (hf146.fin (by omega) (by omega)), hb672, (by omega), (by omega)⟩
     ·
      refine po_eff ha413 rfl rfl rfl rfl (op_buildSlice (s := shI64) (xs := [(1 : Int), (-1 : Int), (2 : Int), (1000 : Int), (1001 : Int), (-1001 : Int), (0 : Int)]) (cs := [.int .i64 (1 : Int), .int .i64 (-1 : Int), .int .i64 (2 : Int), .int .i64 (1000 : Int), .int .i64 (1001 : Int), .int .i64 (-1001 : Int), .int .i64 (0 : Int)]) (vs := [(0, .int .i64 (1 : Int)), (1, .int .i64 (-1 : Int)), (2, .int .i64 (2 : Int)), (3, .int .i64 (1000 : Int)), (4, .int .i64 (1001 : Int)), (5, .int .i64 (-1001 : Int)), (6, .int .i64 (0 : Int))]) (S := fun _ => False) (le := w406.heap.size) ha413 rfl pos_shI64 Try.underlying41 ti2 rfl rfl (by decide) (by kernel_rfl) ⟨mk_shI64 ((1 : Int)) (by first | omega | simp), mk_shI64 ((-1 : Int)) (by first | omega | simp), mk_shI64 ((2 : Int)) (by first | omega | simp), mk_shI64 ((1000 : Int)) (by first | omega | simp), mk_shI64 ((1001 : Int)) (by first | omega | simp), mk_shI64 ((-1001 : Int)) (by first | omega | simp), mk_shI64 ((0 : Int)) (by first | omega | simp), rfl⟩ (fun _ h => h.elim)) ?_
      rintro v700 w701 ⟨ho702, he703, hob704⟩ a705 ha705; clear ha413 a413
      have hs706 := hs416.trans' he703
      have hx707 := hx414.trans' he703
      have hzhx707 := he703.size
      refine ⟨(StpL.of_ext hs706), ?_⟩
      replace hf142 := hf142.ext hs706
      replace hf144 := hf144.ext hs706
      replace hf145 := hf145.ext hs706
      replace hf146 := hf146.ext hs706
      replace hf147 := hf147.ext hs706
      replace hS408 := hS408.ext hs706
      refine dr_narrow (S' := fun w' => StpL w701 w' _) (fun w' h' => (StpL.of_ext hs706).trans' h') _ _ _ _ ?_
      have hs708 : Ext w701 w701 := Ext.rfl' _
      refine dr_two (i := 1) (j := 11) (by kernel_rfl) ?_ ?_
      ·
       refine po_eff ha705 rfl rfl rfl rfl (op_buildSlice (s := shStr) (xs := [([112, 114, 111, 102, 105, 116] : Str), ([115, 117, 109] : Str), ([100, 97, 121] : Str), ([88] : Str), ([100, 105, 102, 102] : Str)]) (cs := [St (([112, 114, 111, 102, 105, 116] : Str)), St (([115, 117, 109] : Str)), St (([100, 97, 121] : Str)), St (([88] : Str)), St (([100, 105, 102, 102] : Str))]) (vs := [(0, St (([112, 114, 111, 102, 105, 116] : Str))), (1, St (([115, 117, 109] : Str))), (2, St (([100, 97, 121] : Str))), (3, St (([88] : Str))), (4, St (([100, 105, 102, 102] : Str)))]) (S := fun _ => False) (le := w701.heap.size) ha705 rfl pos_shStr Try.underlying22 ti9 rfl rfl (by decide) (by kernel_rfl) ⟨mk_shStr (([112, 114, 111, 102, 105, 116] : Str)) (by first | omega | simp), mk_shStr (([115, 117, 109] : Str)) (by first | omega | simp), mk_shStr (([100, 97, 121] : Str)) (by first | omega | simp), mk_shStr (([88] : Str)) (by first | omega | simp), mk_shStr (([100, 105, 102, 102] : Str)) (by first | omega | simp), rfl⟩ (fun _ h => h.elim)) ?_
       rintro v709 w710 ⟨ho711, he712, hob713⟩ a714 ha714; clear ha705 a705
       have hs715 := hs708.trans' he712
       have hx716 := hx707.trans' he712
       have hzhx716 := he712.size
       refine ⟨(StpL.of_ext hs715), ?_⟩
       replace hf142 := hf142.ext hs715
       replace hf144 := hf144.ext hs715
       replace hf145 := hf145.ext hs715
       replace hf146 := hf146.ext hs715
       replace hf147 := hf147.ext hs715
       replace hS408 := hS408.ext hs715
       replace ho702 := ho702.ext hs715
       refine dr_narrow (S' := fun w' => StpL w710 w' _) (fun w' h' => (StpL.of_ext hs715).trans' h') _ _ _ _ ?_
       have hs717 : Ext w710 w710 := Ext.rfl' _
       obtain ⟨x718, hx718⟩ := get_ex (xs := [([112, 114, 111, 102, 105, 116] : Str), ([115, 117, 109] : Str), ([100, 97, 121] : Str), ([88] : Str), ([100, 105, 102, 102] : Str)]) (j := ((q409 : Int)).toNat) (by first | omega | (simp only [List.length_cons, List.length_nil]; omega))
       obtain ⟨p719, c720, hi721, hc722, hr723, hs724⟩ := Rds.at_ (ho711.rds pos_shStr) hx718
       obtain ⟨rfl, b725⟩ := inv_shStr hr723
       obtain ⟨_, _⟩ : _ ∧ _ := hs724
       have hdlx718 := el_len 16 (by rfl) hx718
       refine dr_val (i := 4) ha714 rfl (by kernel_rfl) (by kernel_rfl) (by kernel_rfl) rfl rfl rfl (StpL.of_ext hs717) (fun w' hw' => op_indexAddr ha714 rfl Try.underlying22 ti9 rfl rfl (by omega) hi721) ?_
       intro a726 ha726; clear ha714 a714
       refine dr_val (i := 5) ha726 rfl (by kernel_rfl) (by kernel_rfl) (by kernel_rfl) rfl rfl rfl (StpL.of_ext hs717) (fun w' hw' => op_loadH ha726 rfl Try.underlying9 rfl rfl (hc722.stpL hw' (by rintro (q | q) <;> first | omega)) rfl) ?_
       intro a727 ha727; clear ha726 a726
       refine dr_one (i := 11) (by kernel_rfl) ?_
       refine po_callS ha727 rfl rfl rfl rfl (op_call ha727 rfl cb81 rfl) (c_spec_l01Next _ g16 w0.heap.size ((us.length : Nat) : Int) hS408) ?_
       rintro v728 w729 he730 ⟨hS731, ⟨q732, hq733, hq734, hq735, rfl⟩⟩ a736 ha736; clear ha727 a727
       have hx737 := hx716.stp he730 (by intro q hq; cases hq; exact (by omega))
       have hzhx737 := he730.size
       replace hf142 := hf142.stp he730 (by intro q hq; cases hq; omega)
       first | replace hf144 := hf144.stp he730 (by intro q hq; cases hq; omega) | replace hf144 := hf144.stpF flat_shStr he730 (by intro q hq; cases hq; exact hf144.ne_box (by assumption) rfl)
       first | replace hf145 := hf145.stp he730 (by intro q hq; cases hq; omega) | replace hf145 := hf145.stpF flat_shRowN he730 (by intro q hq; cases hq; exact hf145.ne_box (by assumption) rfl)
       first | replace hf146 := hf146.stp he730 (by intro q hq; cases hq; omega) | replace hf146 := hf146.stpB flat_shI64 he730 (by assumption) rfl
       replace hf147 := hf147.stp he730 (by intro q hq; cases hq; omega)
       first | replace ho702 := ho702.stp he730 (by intro q hq; cases hq; omega) | replace ho702 := ho702.stpF flat_shI64 he730 (by intro q hq; cases hq; exact ho702.ne_box (by assumption) rfl)
       first | replace ho711 := ho711.stp he730 (by intro q hq; cases hq; omega) | replace ho711 := ho711.stpF flat_shStr he730 (by intro q hq; cases hq; exact ho711.ne_box (by assumption) rfl)
       replace hc722 := hc722.stp he730 (by intro q hq; cases hq; omega)
       clear hS408
       have hSlhS731 := hS731.lt
       have hs738 := (StpL.of_ext (B := fun i => i = w0.heap.size ∨ i = g16) hs717).trans' (Stp.toL he730 (by intro q hq; cases hq; exact Or.inr (rfl)))
       refine ⟨hs738, ?_⟩
       refine dr_narrow (S' := fun w' => StpL w729 w' _) (fun w' h' => hs738.trans' h') _ _ _ _ ?_
       have hs739 : Ext w729 w729 := Ext.rfl' _
       refine dr_one (i := 14) (by kernel_rfl) ?_
       refine po_callS ha736 rfl rfl rfl rfl (op_call ha736 rfl cb90 rfl) (c_spec_l01Pick _ g16 w0.heap.size v700 ([(1 : Int), (-1 : Int), (2 : Int), (1000 : Int), (1001 : Int), (-1001 : Int), (0 : Int)]) hS731 (ho702.rds pos_shI64) (by rintro ⟨_, _⟩; omega) (by first | assumption | omega | (simp; done) | (simp; omega))) ?_
       rintro v740 w741 he742 ⟨hS743, ⟨q744, hq745, rfl⟩⟩ a746 ha746; clear ha736 a736
       have hx747 := hx737.stp he742 (by intro q hq; cases hq; exact (by omega))
       have hzhx747 := he742.size
       replace hf142 := hf142.stp he742 (by intro q hq; cases hq; omega)
       first | replace hf144 := hf144.stp he742 (by intro q hq; cases hq; omega) | replace hf144 := hf144.stpF flat_shStr he742 (by intro q hq; cases hq; exact hf144.ne_box (by assumption) rfl)
       first | replace hf145 := hf145.stp he742 (by intro q hq; cases hq; omega) | replace hf145 := hf145.stpF flat_shRowN he742 (by intro q hq; cases hq; exact hf145.ne_box (by assumption) rfl)
       first | replace hf146 := hf146.stp he742 (by intro q hq; cases hq; omega) | replace hf146 := hf146.stpB flat_shI64 he742 (by assumption) rfl
       replace hf147 := hf147.stp he742 (by intro q hq; cases hq; omega)
       first | replace ho702 := ho702.stp he742 (by intro q hq; cases hq; omega) | replace ho702 := ho702.stpF flat_shI64 he742 (by intro q hq; cases hq; exact ho702.ne_box (by assumption) rfl)
       first | replace ho711 := ho711.stp he742 (by intro q hq; cases hq; omega) | replace ho711 := ho711.stpF flat_shStr he742 (by intro q hq; cases hq; exact ho711.ne_box (by assumption) rfl)
       replace hc722 := hc722.stp he742 (by intro q hq; cases hq; omega)
       clear hS731
       have hSlhS743 := hS743.lt
       have hs748 := (StpL.of_ext (B := fun i => i = w0.heap.size ∨ i = g16) hs739).trans' (Stp.toL he742 (by intro q hq; cases hq; exact Or.inr (rfl)))
       refine ⟨hs748, ?_⟩
       simp only [List.mem_cons, List.not_mem_nil, or_false] at hq745
       refine dr_narrow (S' := fun w' => StpL w741 w' _) (fun w' h' => hs748.trans' h') _ _ _ _ ?_
       have hs749 : Ext w741 w741 := Ext.rfl' _
       refine dr_one (i := 15) (by kernel_rfl) ?_
       refine po_effS ha746 rfl rfl rfl (op_storeAll' ha746 rfl ti28 rfl rfl hf142 rfl rfl (by intro u hu; have hu : u ∈ ([vu, vr] : List Value) := hu; simp only [List.mem_cons, List.mem_nil_iff, or_false] at hu; rcases hu with rfl | rfl <;> first | rfl | exact hf144.one | exact hf145.one) rfl) ?_
       rintro w750 ⟨hb752, hst751, hz753⟩
       have hx754 := hx747.stp hst751 (by intro q hq; cases hq; exact (by omega))
       have hzhx754 := hst751.size
       replace hf144 := hf144.stp hst751 (by intro q hq; cases hq; omega)
       replace hf145 := hf145.stp hst751 (by intro q hq; cases hq; omega)
       replace hf146 := hf146.stp hst751 (by intro q hq; cases hq; omega)
       replace hf147 := hf147.stp hst751 (by intro q hq; cases hq; omega)
       replace ho702 := ho702.stp hst751 (by intro q hq; cases hq; omega)
       replace ho711 := ho711.stp hst751 (by intro q hq; cases hq; omega)
       replace hc722 := hc722.stp hst751 (by intro q hq; cases hq; omega)
       replace hS743 := hS743.stp hst751 (by intro q hq; cases hq; omega)
       clear hf142
       have hs755 := (StpL.of_ext (B := fun i => i = w0.heap.size ∨ i = g16) hs749).trans' (Stp.toL hst751 (by intro q hq; cases hq; exact Or.inl rfl))
       refine ⟨hs755, ?_⟩
       refine dr_narrow (S' := fun w' => StpL w750 w' _) (fun w' h' => hs755.trans' h') _ _ _ _ ?_
       have hs756 : Ext w750 w750 := Ext.rfl' _
       refine dr_val (i := 16) ha746 rfl (by kernel_rfl) (by kernel_rfl) (by kernel_rfl) rfl rfl rfl (StpL.of_ext hs756) (fun w' hw' => op_assign ha746 rfl rfl) ?_
       intro a757 ha757; clear ha746 a746
       refine dr_val (i := 17) ha757 rfl (by kernel_rfl) (by kernel_rfl) (by kernel_rfl) rfl rfl rfl (StpL.of_ext hs756) (fun w' hw' => op_assign ha757 rfl rfl) ?_
       intro a758 ha758; clear ha757 a757
       refine dr_val (i := 18) ha758 rfl (by kernel_rfl) (by kernel_rfl) (by kernel_rfl) rfl rfl rfl (StpL.of_ext hs756) (fun w' hw' => op_assign ha758 rfl rfl) ?_
       intro a759 ha759; clear ha758 a758
       refine dr_val (i := 19) ha759 rfl (by kernel_rfl) (by kernel_rfl) (by kernel_rfl) rfl rfl rfl (StpL.of_ext hs756) (fun w' hw' => op_assign ha759 rfl rfl) ?_
       intro a760 ha760; clear ha759 a759
       refine dr_end (by kernel_rfl) ?_
       refine then_n ?_
       exact ⟨x718, q732, q744, (Sl.cons_ ha760 rfl rfl (Sl.cons_ ha760 rfl rfl (Sl.cons_ ha760 rfl rfl (Sl.cons_ ha760 rfl rfl (Sl.cons_ ha760 rfl rfl (Sl.nil_ ha760)))))), hx754, (hf144.fin (by omega) (by omega) (by omega)), (hf145.fin (by omega) (by omega) (by omega)), (hf146.fin (by omega) (by omega)), hb752, (by omega), (by omega)⟩
      ·
       refine po_callS ha705 rfl rfl rfl rfl (op_call ha705 rfl cb81 rfl) (c_spec_l01Next _ g16 w0.heap.size ((us.length : Nat) : Int) hS408) ?_
       rintro v761 w762 he763 ⟨hS764, ⟨q765, hq766, hq767, hq768, rfl⟩⟩ a769 ha769; clear ha705 a705
       have hx770 := hx707.stp he763 (by intro q hq; cases hq; exact (by omega))
       have hzhx770 := he763.size
       replace hf142 := hf142.stp he763 (by intro q hq; cases hq; omega)
       first | replace hf144 := hf144.stp he763 (by intro q hq; cases hq; omega) | replace hf144 := hf144.stpF flat_shStr he763 (by intro q hq; cases hq; exact hf144.ne_box (by assumption) rfl)
       first | replace hf145 := hf145.stp he763 (by intro q hq; cases hq; omega) | replace hf145 := hf145.stpF flat_shRowN he763 (by intro q hq; cases hq; exact hf145.ne_box (by assumption) rfl)
       first | replace hf146 := hf146.stp he763 (by intro q hq; cases hq; omega) | replace hf146 := hf146.stpB flat_shI64 he763 (by assumption) rfl
       replace hf147 := hf147.stp he763 (by intro q hq; cases hq; omega)
       first | replace ho702 := ho702.stp he763 (by intro q hq; cases hq; omega) | replace ho702 := ho702.stpF flat_shI64 he763 (by intro q hq; cases hq; exact ho702.ne_box (by assumption) rfl)
       clear hS408
       have hSlhS764 := hS764.lt
       have hs771 := (StpL.of_ext (B := fun i => i = w0.heap.size ∨ i = g16) hs708).trans' (Stp.toL he763 (by intro q hq; cases hq; exact Or.inr (rfl)))
       refine ⟨hs771, ?_⟩
       refine dr_narrow (S' := fun w' => StpL w762 w' _) (fun w' h' => hs771.trans' h') _ _ _ _ ?_
       have hs772 : Ext w762 w762 := Ext.rfl' _
       refine dr_two (i := 1) (j := 14) (by kernel_rfl) ?_ ?_
       ·
        refine po_eff ha769 rfl rfl rfl rfl (op_buildSlice (s := shStr) (xs := [([112, 114, 111, 102, 105, 116] : Str), ([115, 117, 109] : Str), ([100, 97, 121] : Str), ([88] : Str), ([100, 105, 102, 102] : Str)]) (cs := [St (([112, 114, 111, 102, 105, 116] : Str)), St (([115, 117, 109] : Str)), St (([100, 97, 121] : Str)), St (([88] : Str)), St (([100, 105, 102, 102] : Str))]) (vs := [(0, St (([112, 114, 111, 102, 105, 116] : Str))), (1, St (([115, 117, 109] : Str))), (2, St (([100, 97, 121] : Str))), (3, St (([88] : Str))), (4, St (([100, 105, 102, 102] : Str)))]) (S := fun _ => False) (le := w762.heap.size) ha769 rfl pos_shStr Try.underlying22 ti9 rfl rfl (by decide) (by kernel_rfl) ⟨mk_shStr (([112, 114, 111, 102, 105, 116] : Str)) (by first | omega | simp), mk_shStr (([115, 117, 109] : Str)) (by first | omega | simp), mk_shStr (([100, 97, 121] : Str)) (by first | omega | simp), mk_shStr (([88] : Str)) (by first | omega | simp), mk_shStr (([100, 105, 102, 102] : Str)) (by first | omega | simp), rfl⟩ (fun _ h => h.elim)) ?_
        rintro v773 w774 ⟨ho775, he776, hob777⟩ a778 ha778; clear ha769 a769
        have hs779 := hs772.trans' he776
        have hx780 := hx770.trans' he776
        have hzhx780 := he776.size
        refine ⟨(StpL.of_ext hs779), ?_⟩
        replace hf142 := hf142.ext hs779
        replace hf144 := hf144.ext hs779
        replace hf145 := hf145.ext hs779
        replace hf146 := hf146.ext hs779
        replace hf147 := hf147.ext hs779
        replace ho702 := ho702.ext hs779
        replace hS764 := hS764.ext hs779
        refine dr_narrow (S' := fun w' => StpL w774 w' _) (fun w' h' => (StpL.of_ext hs779).trans' h') _ _ _ _ ?_
        have hs781 : Ext w774 w774 := Ext.rfl' _
        obtain ⟨x782, hx782⟩ := get_ex (xs := [([112, 114, 111, 102, 105, 116] : Str), ([115, 117, 109] : Str), ([100, 97, 121] : Str), ([88] : Str), ([100, 105, 102, 102] : Str)]) (j := ((q409 : Int)).toNat) (by first | omega | (simp only [List.length_cons, List.length_nil]; omega))
        obtain ⟨p783, c784, hi785, hc786, hr787, hs788⟩ := Rds.at_ (ho775.rds pos_shStr) hx782
        obtain ⟨rfl, b789⟩ := inv_shStr hr787
        obtain ⟨_, _⟩ : _ ∧ _ := hs788
        have hdlx782 := el_len 16 (by rfl) hx782
        refine dr_val (i := 4) ha778 rfl (by kernel_rfl) (by kernel_rfl) (by kernel_rfl) rfl rfl rfl (StpL.of_ext hs781) (fun w' hw' => op_indexAddr ha778 rfl Try.underlying22 ti9 rfl rfl (by omega) hi785) ?_
        intro a790 ha790; clear ha778 a778
        refine dr_val (i := 5) ha790 rfl (by kernel_rfl) (by kernel_rfl) (by kernel_rfl) rfl rfl rfl (StpL.of_ext hs781) (fun w' hw' => op_loadH ha790 rfl Try.underlying9 rfl rfl (hc786.stpL hw' (by rintro (q | q) <;> first | omega)) rfl) ?_
        intro a791 ha791; clear ha790 a790
        refine dr_one (i := 14) (by kernel_rfl) ?_
        refine po_callS ha791 rfl rfl rfl rfl (op_call ha791 rfl cb90 rfl) (c_spec_l01Pick _ g16 w0.heap.size v700 ([(1 : Int), (-1 : Int), (2 : Int), (1000 : Int), (1001 : Int), (-1001 : Int), (0 : Int)]) hS764 (ho702.rds pos_shI64) (by rintro ⟨_, _⟩; omega) (by first | assumption | omega | (simp; done) | (simp; omega))) ?_
        rintro v792 w793 he794 ⟨hS795, ⟨q796, hq797, rfl⟩⟩ a798 ha798; clear ha791 a791
        have hx799 := hx780.stp he794 (by intro q hq; cases hq; exact (by omega))
        have hzhx799 := he794.size
        replace hf142 := hf142.stp he794 (by intro q hq; cases hq; omega)
        first | replace hf144 := hf144.stp he794 (by intro q hq; cases hq; omega) | replace hf144 := hf144.stpF flat_shStr he794 (by intro q hq; cases hq; exact hf144.ne_box (by assumption) rfl)
        first | replace hf145 := hf145.stp he794 (by intro q hq; cases hq; omega) | replace hf145 := hf145.stpF flat_shRowN he794 (by intro q hq; cases hq; exact hf145.ne_box (by assumption) rfl)
        first | replace hf146 := hf146.stp he794 (by intro q hq; cases hq; omega) | replace hf146 := hf146.stpB flat_shI64 he794 (by assumption) rfl
        replace hf147 := hf147.stp he794 (by intro q hq; cases hq; omega)
        first | replace ho702 := ho702.stp he794 (by intro q hq; cases hq; omega) | replace ho702 := ho702.stpF flat_shI64 he794 (by intro q hq; cases hq; exact ho702.ne_box (by assumption) rfl)
        first | replace ho775 := ho775.stp he794 (by intro q hq; cases hq; omega) | replace ho775 := ho775.stpF flat_shStr he794 (by intro q hq; cases hq; exact ho775.ne_box (by assumption) rfl)
        replace hc786 := hc786.stp he794 (by intro q hq; cases hq; omega)
        clear hS764
        have hSlhS795 := hS795.lt
        have hs800 := (StpL.of_ext (B := fun i => i = w0.heap.size ∨ i = g16) hs781).trans' (Stp.toL he794 (by intro q hq; cases hq; exact Or.inr (rfl)))
        refine ⟨hs800, ?_⟩
        simp only [List.mem_cons, List.not_mem_nil, or_false] at hq797
        refine dr_narrow (S' := fun w' => StpL w793 w' _) (fun w' h' => hs800.trans' h') _ _ _ _ ?_
        have hs801 : Ext w793 w793 := Ext.rfl' _
        refine dr_one (i := 15) (by kernel_rfl) ?_
        refine po_effS ha798 rfl rfl rfl (op_storeAll' ha798 rfl ti28 rfl rfl hf142 rfl rfl (by intro u hu; have hu : u ∈ ([vu, vr] : List Value) := hu; simp only [List.mem_cons, List.mem_nil_iff, or_false] at hu; rcases hu with rfl | rfl <;> first | rfl | exact hf144.one | exact hf145.one) rfl) ?_
        rintro w802 ⟨hb804, hst803, hz805⟩
        have hx806 := hx799.stp hst803 (by intro q hq; cases hq; exact (by omega))
        have hzhx806 := hst803.size
        replace hf144 := hf144.stp hst803 (by intro q hq; cases hq; omega)
        replace hf145 := hf145.stp hst803 (by intro q hq; cases hq; omega)
        replace hf146 := hf146.stp hst803 (by intro q hq; cases hq; omega)
        replace hf147 := hf147.stp hst803 (by intro q hq; cases hq; omega)
        replace ho702 := ho702.stp hst803 (by intro q hq; cases hq; omega)
        replace ho775 := ho775.stp hst803 (by intro q hq; cases hq; omega)
        replace hc786 := hc786.stp hst803 (by intro q hq; cases hq; omega)
        replace hS795 := hS795.stp hst803 (by intro q hq; cases hq; omega)
        clear hf142
        have hs807 := (StpL.of_ext (B := fun i => i = w0.heap.size ∨ i = g16) hs801).trans' (Stp.toL hst803 (by intro q hq; cases hq; exact Or.inl rfl))
        refine ⟨hs807, ?_⟩
        refine dr_narrow (S' := fun w' => StpL w802 w' _) (fun w' h' => hs807.trans' h') _ _ _ _ ?_
        have hs808 : Ext w802 w802 := Ext.rfl' _
        refine dr_val (i := 16) ha798 rfl (by kernel_rfl) (by kernel_rfl) (by kernel_rfl) rfl rfl rfl (StpL.of_ext hs808) (fun w' hw' => op_assign ha798 rfl rfl) ?_
        intro a809 ha809; clear ha798 a798
        refine dr_val (i := 17) ha809 rfl (by kernel_rfl) (by kernel_rfl) (by kernel_rfl) rfl rfl rfl (StpL.of_ext hs808) (fun w' hw' => op_assign ha809 rfl rfl) ?_
        intro a810 ha810; clear ha809 a809
        refine dr_val (i := 18) ha810 rfl (by kernel_rfl) (by kernel_rfl) (by kernel_rfl) rfl rfl rfl (StpL.of_ext hs808) (fun w' hw' => op_assign ha810 rfl rfl) ?_
        intro a811 ha811; clear ha810 a810
        refine dr_val (i := 19) ha811 rfl (by kernel_rfl) (by kernel_rfl) (by kernel_rfl) rfl rfl rfl (StpL.of_ext hs808) (fun w' hw' => op_assign ha811 rfl rfl) ?_
        intro a812 ha812; clear ha811 a811
        refine dr_end (by kernel_rfl) ?_
        refine then_n ?_
        exact ⟨x782, q765, q796, (Sl.cons_ ha812 rfl rfl (Sl.cons_ ha812 rfl rfl (Sl.cons_ ha812 rfl rfl (Sl.cons_ ha812 rfl rfl (Sl.cons_ ha812 rfl rfl (Sl.nil_ ha812)))))), hx806, (hf144.fin (by omega) (by omega) (by omega)), (hf145.fin (by omega) (by omega) (by omega)), (hf146.fin (by omega) (by omega)), hb804, (by omega), (by omega)⟩
       ·
        refine po_callS ha769 rfl rfl rfl rfl (op_call ha769 rfl cb90 rfl) (c_spec_l01Pick _ g16 w0.heap.size v700 ([(1 : Int), (-1 : Int), (2 : Int), (1000 : Int), (1001 : Int), (-1001 : Int), (0 : Int)]) hS764 (ho702.rds pos_shI64) (by rintro ⟨_, _⟩; omega) (by first | assumption | omega | (simp; done) | (simp; omega))) ?_
        rintro v813 w814 he815 ⟨hS816, ⟨q817, hq818, rfl⟩⟩ a819 ha819; clear ha769 a769
        have hx820 := hx770.stp he815 (by intro q hq; cases hq; exact (by omega))
        have hzhx820 := he815.size
        replace hf142 := hf142.stp he815 (by intro q hq; cases hq; omega)
        first | replace hf144 := hf144.stp he815 (by intro q hq; cases hq; omega) | replace hf144 := hf144.stpF flat_shStr he815 (by intro q hq; cases hq; exact hf144.ne_box (by assumption) rfl)
        first | replace hf145 := hf145.stp he815 (by intro q hq; cases hq; omega) | replace hf145 := hf145.stpF flat_shRowN he815 (by intro q hq; cases hq; exact hf145.ne_box (by assumption) rfl)
        first | replace hf146 := hf146.stp he815 (by intro q hq; cases hq; omega) | replace hf146 := hf146.stpB flat_shI64 he815 (by assumption) rfl
        replace hf147 := hf147.stp he815 (by intro q hq; cases hq; omega)
        first | replace ho702 := ho702.stp he815 (by intro q hq; cases hq; omega) | replace ho702 := ho702.stpF flat_shI64 he815 (by intro q hq; cases hq; exact ho702.ne_box (by assumption) rfl)
        clear hS764
        have hSlhS816 := hS816.lt
        have hs821 := (StpL.of_ext (B := fun i => i = w0.heap.size ∨ i = g16) hs772).trans' (Stp.toL he815 (by intro q hq; cases hq; exact Or.inr (rfl)))
        refine ⟨hs821, ?_⟩
        simp only [List.mem_cons, List.not_mem_nil, or_false] at hq818
        refine dr_narrow (S' := fun w' => StpL w814 w' _) (fun w' h' => hs821.trans' h') _ _ _ _ ?_
        have hs822 : Ext w814 w814 := Ext.rfl' _
        refine dr_two (i := 1) (j := 15) (by kernel_rfl) ?_ ?_
        ·
         refine po_eff ha819 rfl rfl rfl rfl (op_buildSlice (s := shStr) (xs := [([112, 114, 111, 102, 105, 116] : Str), ([115, 117, 109] : Str), ([100, 97, 121] : Str), ([88] : Str), ([100, 105, 102, 102] : Str)]) (cs := [St (([112, 114, 111, 102, 105, 116] : Str)), St (([115, 117, 109] : Str)), St (([100, 97, 121] : Str)), St (([88] : Str)), St (([100, 105, 102, 102] : Str))]) (vs := [(0, St (([112, 114, 111, 102, 105, 116] : Str))), (1, St (([115, 117, 109] : Str))), (2, St (([100, 97, 121] : Str))), (3, St (([88] : Str))), (4, St (([100, 105, 102, 102] : Str)))]) (S := fun _ => False) (le := w814.heap.size) ha819 rfl pos_shStr Try.underlying22 ti9 rfl rfl (by decide) (by kernel_rfl) ⟨mk_shStr (([112, 114, 111, 102, 105, 116] : Str)) (by first | omega | simp), mk_shStr (([115, 117, 109] : Str)) (by first | omega | simp), mk_shStr (([100, 97, 121] : Str)) (by first | omega | simp), mk_shStr (([88] : Str)) (by first | omega | simp), mk_shStr (([100, 105, 102, 102] : Str)) (by first | omega | simp), rfl⟩ (fun _ h => h.elim)) ?_
         rintro v823 w824 ⟨ho825, he826, hob827⟩ a828 ha828; clear ha819 a819
         have hs829 := hs822.trans' he826
         have hx830 := hx820.trans' he826
         have hzhx830 := he826.size
         refine ⟨(StpL.of_ext hs829), ?_⟩
         replace hf142 := hf142.ext hs829
         replace hf144 := hf144.ext hs829
         replace hf145 := hf145.ext hs829
         replace hf146 := hf146.ext hs829
         replace hf147 := hf147.ext hs829
         replace ho702 := ho702.ext hs829
         replace hS816 := hS816.ext hs829
         refine dr_narrow (S' := fun w' => StpL w824 w' _) (fun w' h' => (StpL.of_ext hs829).trans' h') _ _ _ _ ?_
         have hs831 : Ext w824 w824 := Ext.rfl' _
         obtain ⟨x832, hx832⟩ := get_ex (xs := [([112, 114, 111, 102, 105, 116] : Str), ([115, 117, 109] : Str), ([100, 97, 121] : Str), ([88] : Str), ([100, 105, 102, 102] : Str)]) (j := ((q409 : Int)).toNat) (by first | omega | (simp only [List.length_cons, List.length_nil]; omega))
         obtain ⟨p833, c834, hi835, hc836, hr837, hs838⟩ := Rds.at_ (ho825.rds pos_shStr) hx832
         obtain ⟨rfl, b839⟩ := inv_shStr hr837
         obtain ⟨_, _⟩ : _ ∧ _ := hs838
         have hdlx832 := el_len 16 (by rfl) hx832
         refine dr_val (i := 4) ha828 rfl (by kernel_rfl) (by kernel_rfl) (by kernel_rfl) rfl rfl rfl (StpL.of_ext hs831) (fun w' hw' => op_indexAddr ha828 rfl Try.underlying22 ti9 rfl rfl (by omega) hi835) ?_
         intro a840 ha840; clear ha828 a828
         refine dr_val (i := 5) ha840 rfl (by kernel_rfl) (by kernel_rfl) (by kernel_rfl) rfl rfl rfl (StpL.of_ext hs831) (fun w' hw' => op_loadH ha840 rfl Try.underlying9 rfl rfl (hc836.stpL hw' (by rintro (q | q) <;> first | omega)) rfl) ?_
         intro a841 ha841; clear ha840 a840
         refine dr_one (i := 15) (by kernel_rfl) ?_
         refine po_effS ha841 rfl rfl rfl (op_storeAll' ha841 rfl ti28 rfl rfl hf142 rfl rfl (by intro u hu; have hu : u ∈ ([vu, vr] : List Value) := hu; simp only [List.mem_cons, List.mem_nil_iff, or_false] at hu; rcases hu with rfl | rfl <;> first | rfl | exact hf144.one | exact hf145.one) rfl) ?_
         rintro w842 ⟨hb844, hst843, hz845⟩
         have hx846 := hx830.stp hst843 (by intro q hq; cases hq; exact (by omega))
         have hzhx846 := hst843.size
         replace hf144 := hf144.stp hst843 (by intro q hq; cases hq; omega)
         replace hf145 := hf145.stp hst843 (by intro q hq; cases hq; omega)
         replace hf146 := hf146.stp hst843 (by intro q hq; cases hq; omega)
         replace hf147 := hf147.stp hst843 (by intro q hq; cases hq; omega)
         replace ho702 := ho702.stp hst843 (by intro q hq; cases hq; omega)
         replace hS816 := hS816.stp hst843 (by intro q hq; cases hq; omega)
         replace ho825 := ho825.stp hst843 (by intro q hq; cases hq; omega)
         replace hc836 := hc836.stp hst843 (by intro q hq; cases hq; omega)
         clear hf142
         have hs847 := (StpL.of_ext (B := fun i => i = w0.heap.size ∨ i = g16) hs831).trans' (Stp.toL hst843 (by intro q hq; cases hq; exact Or.inl rfl))
         refine ⟨hs847, ?_⟩
         refine dr_narrow (S' := fun w' => StpL w842 w' _) (fun w' h' => hs847.trans' h') _ _ _ _ ?_
         have hs848 : Ext w842 w842 := Ext.rfl' _
         refine dr_val (i := 16) ha841 rfl (by kernel_rfl) (by kernel_rfl) (by kernel_rfl) rfl rfl rfl (StpL.of_ext hs848) (fun w' hw' => op_assign ha841 rfl rfl) ?_
         intro a849 ha849; clear ha841 a841
         refine dr_val (i := 17) ha849 rfl (by kernel_rfl) (by kernel_rfl) (by kernel_rfl) rfl rfl rfl (StpL.of_ext hs848) (fun w' hw' => op_assign ha849 rfl rfl) ?_
         intro a850 ha850; clear ha849 a849
         refine dr_val (i := 18) ha850 rfl (by kernel_rfl) (by kernel_rfl) (by kernel_rfl) rfl rfl rfl (StpL.of_ext hs848) (fun w' hw' => op_assign ha850 rfl rfl) ?_
         intro a851 ha851; clear ha850 a850
         refine dr_val (i := 19) ha851 rfl (by kernel_rfl) (by kernel_rfl) (by kernel_rfl) rfl rfl rfl (StpL.of_ext hs848) (fun w' hw' => op_assign ha851 rfl rfl) ?_
         intro a852 ha852; clear ha851 a851
         refine dr_end (by kernel_rfl) ?_
         refine then_n ?_
         exact ⟨x832, q765, q817, (Sl.cons_ ha852 rfl rfl (Sl.cons_ ha852 rfl rfl (Sl.cons_ ha852 rfl rfl (Sl.cons_ ha852 rfl rfl (Sl.cons_ ha852 rfl rfl (Sl.nil_ ha852)))))), hx846, (hf144.fin (by omega) (by omega) (by omega)), (hf145.fin (by omega) (by omega) (by omega)), (hf146.fin (by omega) (by omega)), hb844, (by omega), (by omega)⟩
        ·
         refine po_effS ha819 rfl rfl rfl (op_storeAll' ha819 rfl ti28 rfl rfl hf142 rfl rfl (by intro u hu; have hu : u ∈ ([vu, vr] : List Value) := hu; simp only [List.mem_cons, List.mem_nil_iff, or_false] at hu; rcases hu with rfl | rfl <;> first | rfl | exact hf144.one | exact hf145.one) rfl) ?_
         rintro w853 ⟨hb855, hst854, hz856⟩
         have hx857 := hx820.stp hst854 (by intro q hq; cases hq; exact (by omega))
         have hzhx857 := hst854.size
         replace hf144 := hf144.stp hst854 (by intro q hq; cases hq; omega)
         replace hf145 := hf145.stp hst854 (by intro q hq; cases hq; omega)
         replace hf146 := hf146.stp hst854 (by intro q hq; cases hq; omega)
         replace hf147 := hf147.stp hst854 (by intro q hq; cases hq; omega)
         replace ho702 := ho702.stp hst854 (by intro q hq; cases hq; omega)
         replace hS816 := hS816.stp hst854 (by intro q hq; cases hq; omega)
         clear hf142
         have hs858 := (StpL.of_ext (B := fun i => i = w0.heap.size ∨ i = g16) hs822).trans' (Stp.toL hst854 (by intro q hq; cases hq; exact Or.inl rfl))
         refine ⟨hs858, ?_⟩
         refine dr_narrow (S' := fun w' => StpL w853 w' _) (fun w' h' => hs858.trans' h') _ _ _ _ ?_
         have hs859 : Ext w853 w853 := Ext.rfl' _
         refine dr_one (i := 1) (by kernel_rfl) ?_
         refine po_eff ha819 rfl rfl rfl rfl (op_buildSlice (s := shStr) (xs := [([112, 114, 111, 102, 105, 116] : Str), ([115, 117, 109] : Str), ([100, 97, 121] : Str), ([88] : Str), ([100, 105, 102, 102] : Str)]) (cs := [St (([112, 114, 111, 102, 105, 116] : Str)), St (([115, 117, 109] : Str)), St (([100, 97, 121] : Str)), St (([88] : Str)), St (([100, 105, 102, 102] : Str))]) (vs := [(0, St (([112, 114, 111, 102, 105, 116] : Str))), (1, St (([115, 117, 109] : Str))), (2, St (([100, 97, 121] : Str))), (3, St (([88] : Str))), (4, St (([100, 105, 102, 102] : Str)))]) (S := fun _ => False) (le := w853.heap.size) ha819 rfl pos_shStr Try.underlying22 ti9 rfl rfl (by decide) (by kernel_rfl) ⟨mk_shStr (([112, 114, 111, 102, 105, 116] : Str)) (by first | omega | simp), mk_shStr (([115, 117, 109] : Str)) (by first | omega | simp), mk_shStr (([100, 97, 121] : Str)) (by first | omega | simp), mk_shStr (([88] : Str)) (by first | omega | simp), mk_shStr (([100, 105, 102, 102] : Str)) (by first | omega | simp), rfl⟩ (fun _ h => h.elim)) ?_
         rintro v860 w861 ⟨ho862, he863, hob864⟩ a865 ha865; clear ha819 a819
         have hs866 := hs859.trans' he863
         have hx867 := hx857.trans' he863
         have hzhx867 := he863.size
         refine ⟨(StpL.of_ext hs866), ?_⟩
         replace hf144 := hf144.ext hs866
         replace hf145 := hf145.ext hs866
         replace hf146 := hf146.ext hs866
         replace hf147 := hf147.ext hs866
         replace ho702 := ho702.ext hs866
         replace hS816 := hS816.ext hs866
         replace hb855 := hb855.ext hs866
         refine dr_narrow (S' := fun w' => StpL w861 w' _) (fun w' h' => (StpL.of_ext hs866).trans' h') _ _ _ _ ?_
         have hs868 : Ext w861 w861 := Ext.rfl' _
         obtain ⟨x869, hx869⟩ := get_ex (xs := [([112, 114, 111, 102, 105, 116] : Str), ([115, 117, 109] : Str), ([100, 97, 121] : Str), ([88] : Str), ([100, 105, 102, 102] : Str)]) (j := ((q409 : Int)).toNat) (by first | omega | (simp only [List.length_cons, List.length_nil]; omega))
         obtain ⟨p870, c871, hi872, hc873, hr874, hs875⟩ := Rds.at_ (ho862.rds pos_shStr) hx869
         obtain ⟨rfl, b876⟩ := inv_shStr hr874
         obtain ⟨_, _⟩ : _ ∧ _ := hs875
         have hdlx869 := el_len 16 (by rfl) hx869
         refine dr_val (i := 4) ha865 rfl (by kernel_rfl) (by kernel_rfl) (by kernel_rfl) rfl rfl rfl (StpL.of_ext hs868) (fun w' hw' => op_indexAddr ha865 rfl Try.underlying22 ti9 rfl rfl (by omega) hi872) ?_
         intro a877 ha877; clear ha865 a865
         refine dr_val (i := 5) ha877 rfl (by kernel_rfl) (by kernel_rfl) (by kernel_rfl) rfl rfl rfl (StpL.of_ext hs868) (fun w' hw' => op_loadH ha877 rfl Try.underlying9 rfl rfl (hc873.stpL hw' (by rintro (q | q) <;> first | omega)) rfl) ?_
         intro a878 ha878; clear ha877 a877
         refine dr_val (i := 16) ha878 rfl (by kernel_rfl) (by kernel_rfl) (by kernel_rfl) rfl rfl rfl (StpL.of_ext hs868) (fun w' hw' => op_assign ha878 rfl rfl) ?_
         intro a879 ha879; clear ha878 a878
         refine dr_val (i := 17) ha879 rfl (by kernel_rfl) (by kernel_rfl) (by kernel_rfl) rfl rfl rfl (StpL.of_ext hs868) (fun w' hw' => op_assign ha879 rfl rfl) ?_
         intro a880 ha880; clear ha879 a879
         refine dr_val (i := 18) ha880 rfl (by kernel_rfl) (by kernel_rfl) (by kernel_rfl) rfl rfl rfl (StpL.of_ext hs868) (fun w' hw' => op_assign ha880 rfl rfl) ?_
         intro a881 ha881; clear ha880 a880
         refine dr_val (i := 19) ha881 rfl (by kernel_rfl) (by kernel_rfl) (by kernel_rfl) rfl rfl rfl (StpL.of_ext hs868) (fun w' hw' => op_assign ha881 rfl rfl) ?_
         intro a882 ha882; clear ha881 a881
         refine dr_end (by kernel_rfl) ?_
         refine then_n ?_
         exact ⟨x869, q765, q817, (Sl.cons_ ha882 rfl rfl (Sl.cons_ ha882 rfl rfl (Sl.cons_ ha882 rfl rfl (Sl.cons_ ha882 rfl rfl (Sl.cons_ ha882 rfl rfl (Sl.nil_ ha882)))))), hx867, (hf144.fin (by omega) (by omega) (by omega)), (hf145.fin (by omega) (by omega) (by omega)), (hf146.fin (by omega) (by omega)), hb855, (by omega), (by omega)⟩
    ·
     refine po_eff ha225 rfl rfl rfl rfl (op_buildSlice (s := shI64) (xs := [(1 : Int), (-1 : Int), (2 : Int), (1000 : Int), (1001 : Int), (-1001 : Int), (0 : Int)]) (cs := [.int .i64 (1 : Int), .int .i64 (-1 : Int), .int .i64 (2 : Int), .int .i64 (1000 : Int), .int .i64 (1001 : Int), .int .i64 (-1001 : Int), .int .i64 (0 : Int)]) (vs := [(0, .int .i64 (1 : Int)), (1, .int .i64 (-1 : Int)), (2, .int .i64 (2 : Int)), (3, .int .i64 (1000 : Int)), (4, .int .i64 (1001 : Int)), (5, .int .i64 (-1001 : Int)), (6, .int .i64 (0 : Int))]) (S := fun _ => False) (le := w214.heap.size) ha225 rfl pos_shI64 Try.underlying41 ti2 rfl rfl (by decide) (by kernel_rfl) ⟨mk_shI64 ((1 : Int)) (by first | omega | simp), mk_shI64 ((-1 : Int)) (by first | omega | simp), mk_shI64 ((2 : Int)) (by first | omega | simp), mk_shI64 ((1000 : Int)) (by first | omega | simp), mk_shI64 ((1001 : Int)) (by first | omega | simp), mk_shI64 ((-1001 : Int)) (by first | omega | simp), mk_shI64 ((0 : Int)) (by first | omega | simp), rfl⟩ (fun _ h => h.elim)) ?_
     rintro v883 w884 ⟨ho885, he886, hob887⟩ a888 ha888; clear ha225 a225
     have hs889 := hs217.trans' he886
     have hx890 := hx216.trans' he886
     have hzhx890 := he886.size
     refine ⟨(StpL.of_ext hs889), ?_⟩
     replace hf142 := hf142.ext hs889
     replace hf143 := hf143.ext hs889
     replace hf144 := hf144.ext hs889
     replace hf145 := hf145.ext hs889
     replace hf146 := hf146.ext hs889
     replace hf147 := hf147.ext hs889
     refine dr_narrow (S' := fun w' => StpL w884 w' _) (fun w' h' => (StpL.of_ext hs889).trans' h') _ _ _ _ ?_
     have hs891 : Ext w884 w884 := Ext.rfl' _
     refine dr_two (i := 1) (j := 3) (by kernel_rfl) ?_ ?_
     ·
      refine po_eff ha888 rfl rfl rfl rfl (op_buildSlice (s := shStr) (xs := [([112, 114, 111, 102, 105, 116] : Str), ([115, 117, 109] : Str), ([100, 97, 121] : Str), ([88] : Str), ([100, 105, 102, 102] : Str)]) (cs := [St (([112, 114, 111, 102, 105, 116] : Str)), St (([115, 117, 109] : Str)), St (([100, 97, 121] : Str)), St (([88] : Str)), St (([100, 105, 102, 102] : Str))]) (vs := [(0, St (([112, 114, 111, 102, 105, 116] : Str))), (1, St (([115, 117, 109] : Str))), (2, St (([100, 97, 121] : Str))), (3, St (([88] : Str))), (4, St (([100, 105, 102, 102] : Str)))]) (S := fun _ => False) (le := w884.heap.size) ha888 rfl pos_shStr Try.underlying22 ti9 rfl rfl (by decide) (by kernel_rfl) ⟨mk_shStr (([112, 114, 111, 102, 105, 116] : Str)) (by first | omega | simp), mk_shStr (([115, 117, 109] : Str)) (by first | omega | simp), mk_shStr (([100, 97, 121] : Str)) (by first | omega | simp), mk_shStr (([88] : Str)) (by first | omega | simp), mk_shStr (([100, 105, 102, 102] : Str)) (by first | omega | simp), rfl⟩ (fun _ h => h.elim)) ?_
      rintro v892 w893 ⟨ho894, he895, hob896⟩ a897 ha897; clear ha888 a888
      have hs898 := hs891.trans' he895
      have hx899 := hx890.trans' he895
      have hzhx899 := he895.size
      refine ⟨(StpL.of_ext hs898), ?_⟩
      replace hf142 := hf142.ext hs898
      replace hf143 := hf143.ext hs898
      replace hf144 := hf144.ext hs898
      replace hf145 := hf145.ext hs898
      replace hf146 := hf146.ext hs898
      replace hf147 := hf147.ext hs898
      replace ho885 := ho885.ext hs898
      refine dr_narrow (S' := fun w' => StpL w893 w' _) (fun w' h' => (StpL.of_ext hs898).trans' h') _ _ _ _ ?_
      have hs900 : Ext w893 w893 := Ext.rfl' _
      refine dr_one (i := 3) (by kernel_rfl) ?_
      refine po_callS ha897 rfl rfl rfl rfl (op_call ha897 rfl cb81 rfl) (c_spec_l01Next _ g16 w0.heap.size (5 : Int) hf143) ?_
      rintro v901 w902 he903 ⟨hS904, ⟨q905, hq906, hq907, hq908, rfl⟩⟩ a909 ha909; clear ha897 a897
      have hx910 := hx899.stp he903 (by intro q hq; cases hq; exact (by omega))
      have hzhx910 := he903.size
      replace hf142 := hf142.stp he903 (by intro q hq; cases hq; omega)
      first | replace hf144 := hf144.stp he903 (by intro q hq; cases hq; omega) | replace hf144 := hf144.stpF flat_shStr he903 (by intro q hq; cases hq; exact hf144.ne_box (by assumption) rfl)
      first | replace hf145 := hf145.stp he903 (by intro q hq; cases hq; omega) | replace hf145 := hf145.stpF flat_shRowN he903 (by intro q hq; cases hq; exact hf145.ne_box (by assumption) rfl)
      first | replace hf146 := hf146.stp he903 (by intro q hq; cases hq; omega) | replace hf146 := hf146.stpB flat_shI64 he903 (by assumption) rfl
      replace hf147 := hf147.stp he903 (by intro q hq; cases hq; omega)
      first | replace ho885 := ho885.stp he903 (by intro q hq; cases hq; omega) | replace ho885 := ho885.stpF flat_shI64 he903 (by intro q hq; cases hq; exact ho885.ne_box (by assumption) rfl)
      first | replace ho894 := ho894.stp he903 (by intro q hq; cases hq; omega) | replace ho894 := ho894.stpF flat_shStr he903 (by intro q hq; cases hq; exact ho894.ne_box (by assumption) rfl)
      clear hf143
      have hSlhS904 := hS904.lt
      have hs911 := (StpL.of_ext (B := fun i => i = w0.heap.size ∨ i = g16) hs900).trans' (Stp.toL he903 (by intro q hq; cases hq; exact Or.inr (rfl)))
      refine ⟨hs911, ?_⟩
      refine dr_narrow (S' := fun w' => StpL w902 w' _) (fun w' h' => hs911.trans' h') _ _ _ _ ?_
      have hs912 : Ext w902 w902 := Ext.rfl' _
      obtain ⟨x913, hx913⟩ := get_ex (xs := [([112, 114, 111, 102, 105, 116] : Str), ([115, 117, 109] : Str), ([100, 97, 121] : Str), ([88] : Str), ([100, 105, 102, 102] : Str)]) (j := ((q905 : Int)).toNat) (by first | omega | (simp only [List.length_cons, List.length_nil]; omega))
      obtain ⟨p914, c915, hi916, hc917, hr918, hs919⟩ := Rds.at_ (ho894.rds pos_shStr) hx913
      obtain ⟨rfl, b920⟩ := inv_shStr hr918
      obtain ⟨_, _⟩ : _ ∧ _ := hs919
      have hdlx913 := el_len 16 (by rfl) hx913
      refine dr_val (i := 4) ha909 rfl (by kernel_rfl) (by kernel_rfl) (by kernel_rfl) rfl rfl rfl (StpL.of_ext hs912) (fun w' hw' => op_indexAddr ha909 rfl Try.underlying22 ti9 rfl rfl (by omega) hi916) ?_
      intro a921 ha921; clear ha909 a909
      refine dr_val (i := 5) ha921 rfl (by kernel_rfl) (by kernel_rfl) (by kernel_rfl) rfl rfl rfl (StpL.of_ext hs912) (fun w' hw' => op_loadH ha921 rfl Try.underlying9 rfl rfl (hc917.stpL hw' (by rintro (q | q) <;> first | omega)) rfl) ?_
      intro a922 ha922; clear ha921 a921
      refine dr_one (i := 11) (by kernel_rfl) ?_
      refine po_callS ha922 rfl rfl rfl rfl (op_call ha922 rfl cb81 rfl) (c_spec_l01Next _ g16 w0.heap.size ((us.length : Nat) : Int) hS904) ?_
      rintro v923 w924 he925 ⟨hS926, ⟨q927, hq928, hq929, hq930, rfl⟩⟩ a931 ha931; clear ha922 a922
      have hx932 := hx910.stp he925 (by intro q hq; cases hq; exact (by omega))
      have hzhx932 := he925.size
      replace hf142 := hf142.stp he925 (by intro q hq; cases hq; omega)
      first | replace hf144 := hf144.stp he925 (by intro q hq; cases hq; omega) | replace hf144 := hf144.stpF flat_shStr he925 (by intro q hq; cases hq; exact hf144.ne_box (by assumption) rfl)
      first | replace hf145 := hf145.stp he925 (by intro q hq; cases hq; omega) | replace hf145 := hf145.stpF flat_shRowN he925 (by intro q hq; cases hq; exact hf145.ne_box (by assumption) rfl)
      first | replace hf146 := hf146.stp he925 (by intro q hq; cases hq; omega) | replace hf146 := hf146.stpB flat_shI64 he925 (by assumption) rfl
      replace hf147 := hf147.stp he925 (by intro q hq; cases hq; omega)
      first | replace ho885 := ho885.stp he925 (by intro q hq; cases hq; omega) | replace ho885 := ho885.stpF flat_shI64 he925 (by intro q hq; cases hq; exact ho885.ne_box (by assumption) rfl)
      first | replace ho894 := ho894.stp he925 (by intro q hq; cases hq; omega) | replace ho894 := ho894.stpF flat_shStr he925 (by intro q hq; cases hq; exact ho894.ne_box (by assumption) rfl)
      replace hc917 := hc917.stp he925 (by intro q hq; cases hq; omega)
      clear hS904
      have hSlhS926 := hS926.lt
      have hs933 := (StpL.of_ext (B := fun i => i = w0.heap.size ∨ i = g16) hs912).trans' (Stp.toL he925 (by intro q hq; cases hq; exact Or.inr (rfl)))
      refine ⟨hs933, ?_⟩
      refine dr_narrow (S' := fun w' => StpL w924 w' _) (fun w' h' => hs933.trans' h') _ _ _ _ ?_
      have hs934 : Ext w924 w924 := Ext.rfl' _
      refine dr_one (i := 14) (by kernel_rfl) ?_
      refine po_callS ha931 rfl rfl rfl rfl (op_call ha931 rfl cb90 rfl) (c_spec_l01Pick _ g16 w0.heap.size v883 ([(1 : Int), (-1 : Int), (2 : Int), (1000 : Int), (1001 : Int), (-1001 : Int), (0 : Int)]) hS926 (ho885.rds pos_shI64) (by rintro ⟨_, _⟩; omega) (by first | assumption | omega | (simp; done) | (simp; omega))) ?_
      rintro v935 w936 he937 ⟨hS938, ⟨q939, hq940, rfl⟩⟩ a941 ha941; clear ha931 a931
      have hx942 := hx932.stp he937 (by intro q hq; cases hq; exact (by omega))
      have hzhx942 := he937.size
      replace hf142 := hf142.stp he937 (by intro q hq; cases hq; omega)
      first | replace hf144 := hf144.stp he937 (by intro q hq; cases hq; omega) | replace hf144 := hf144.stpF flat_shStr he937 (by intro q hq; cases hq; exact hf144.ne_box (by assumption) rfl)
      first | replace hf145 := hf145.stp he937 (by intro q hq; cases hq; omega) | replace hf145 := hf145.stpF flat_shRowN he937 (by intro q hq; cases hq; exact hf145.ne_box (by assumption) rfl)
      first | replace hf146 := hf146.stp he937 (by intro q hq; cases hq; omega) | replace hf146 := hf146.stpB flat_shI64 he937 (by assumption) rfl
      replace hf147 := hf147.stp he937 (by intro q hq; cases hq; omega)
      first | replace ho885 := ho885.stp he937 (by intro q hq; cases hq; omega) | replace ho885 := ho885.stpF flat_shI64 he937 (by intro q hq; cases hq; exact ho885.ne_box (by assumption) rfl)
      first | replace ho894 := ho894.stp he937 (by intro q hq; cases hq; omega) | replace ho894 := ho894.stpF flat_shStr he937 (by intro q hq; cases hq; exact ho894.ne_box (by assumption) rfl)
      replace hc917 := hc917.stp he937 (by intro q hq; cases hq; omega)
      clear hS926
      have hSlhS938 := hS938.lt
      have hs943 := (StpL.of_ext (B := fun i => i = w0.heap.size ∨ i = g16) hs934).trans' (Stp.toL he937 (by intro q hq; cases hq; exact Or.inr (rfl)))
      refine ⟨hs943, ?_⟩
      simp only [List.mem_cons, List.not_mem_nil, or_false] at hq940
      refine dr_narrow (S' := fun w' => StpL w936 w' _) (fun w' h' => hs943.trans' h') _ _ _ _ ?_
      have hs944 : Ext w936 w936 := Ext.rfl' _
      refine dr_one (i := 15) (by kernel_rfl) ?_
      refine po_effS ha941 rfl rfl rfl (op_storeAll' ha941 rfl ti28 rfl rfl hf142 rfl rfl (by intro u hu; have hu : u ∈ ([vu, vr] : List Value) := hu; simp only [List.mem_cons, List.mem_nil_iff, or_false] at hu; rcases hu with rfl | rfl <;> first | rfl | exact hf144.one | exact hf145.one) rfl) ?_
      rintro w945 ⟨hb947, hst946, hz948⟩
      have hx949 := hx942.stp hst946 (by intro q hq; cases hq; exact (by omega))
      have hzhx949 := hst946.size
      replace hf144 := hf144.stp hst946 (by intro q hq; cases hq; omega)
      replace hf145 := hf145.stp hst946 (by intro q hq; cases hq; omega)
      replace hf146 := hf146.stp hst946 (by intro q hq; cases hq; omega)
      replace hf147 := hf147.stp hst946 (by intro q hq; cases hq; omega)
      replace ho885 := ho885.stp hst946 (by intro q hq; cases hq; omega)
      replace ho894 := ho894.stp hst946 (by intro q hq; cases hq; omega)
      replace hc917 := hc917.stp hst946 (by intro q hq; cases hq; omega)
      replace hS938 := hS938.stp hst946 (by intro q hq; cases hq; omega)
      clear hf142
      have hs950 := (StpL.of_ext (B := fun i => i = w0.heap.size ∨ i = g16) hs944).trans' (Stp.toL hst946 (by intro q hq; cases hq; exact Or.inl rfl))
      refine ⟨hs950, ?_⟩
      refine dr_narrow (S' := fun w' => StpL w945 w' _) (fun w' h' => hs950.trans' h') _ _ _ _ ?_
      have hs951 : Ext w945 w945 := Ext.rfl' _
      refine dr_val (i := 16) ha941 rfl (by kernel_rfl) (by kernel_rfl) (by kernel_rfl) rfl rfl rfl (StpL.of_ext hs951) (fun w' hw' => op_assign ha941 rfl rfl) ?_
      intro a952 ha952; clear ha941 a941
      refine dr_val (i := 17) ha952 rfl (by kernel_rfl) (by kernel_rfl) (by kernel_rfl) rfl rfl rfl (StpL.of_ext hs951) (fun w' hw' => op_assign ha952 rfl rfl) ?_
      intro a953 ha953; clear ha952 a952
      refine dr_val (i := 18) ha953 rfl (by kernel_rfl) (by kernel_rfl) (by kernel_rfl) rfl rfl rfl (StpL.of_ext hs951) (fun w' hw' => op_assign ha953 rfl rfl) ?_
      intro a954 ha954; clear ha953 a953
      refine dr_val (i := 19) ha954 rfl (by kernel_rfl) (by kernel_rfl) (by kernel_rfl) rfl rfl rfl (StpL.of_ext hs951) (fun w' hw' => op_assign ha954 rfl rfl) ?_
      intro a955 ha955; clear ha954 a954
      refine dr_end (by kernel_rfl) ?_
      refine then_n ?_
      exact ⟨x913, q927, q939, (Sl.cons_ ha955 rfl rfl (Sl.cons_ ha955 rfl rfl (Sl.cons_ ha955 rfl rfl (Sl.cons_ ha955 rfl rfl (Sl.cons_ ha955 rfl rfl (Sl.nil_ ha955)))))), hx949, (hf144.fin (by omega) (by omega) (by omega)), (hf145.fin (by omega) (by omega) (by omega)), (hf146.fin (by omega) (by omega)), hb947, (by omega), (by omega)⟩
     ·
      refine po_callS ha888 rfl rfl rfl rfl (op_call ha888 rfl cb81 rfl) (c_spec_l01Next _ g16 w0.heap.size (5 : Int) hf143) ?_
      rintro v956 w957 he958 ⟨hS959, ⟨q960, hq961, hq962, hq963, rfl⟩⟩ a964 ha964; clear ha888 a888
      have hx965 := hx890.stp he958 (by intro q hq; cases hq; exact (by omega))
      have hzhx965 := he958.size
      replace hf142 := hf142.stp he958 (by intro q hq; cases hq; omega)
      first | replace hf144 := hf144.stp he958 (by intro q hq; cases hq; omega) | replace hf144 := hf144.stpF flat_shStr he958 (by intro q hq; cases hq; exact hf144.ne_box (by assumption) rfl)
      first | replace hf145 := hf145.stp he958 (by intro q hq; cases hq; omega) | replace hf145 := hf145.stpF flat_shRowN he958 (by intro q hq; cases hq; exact hf145.ne_box (by assumption) rfl)
      first | replace hf146 := hf146.stp he958 (by intro q hq; cases hq; omega) | replace hf146 := hf146.stpB flat_shI64 he958 (by assumption) rfl
      replace hf147 := hf147.stp he958 (by intro q hq; cases hq; omega)
      first | replace ho885 := ho885.stp he958 (by intro q hq; cases hq; omega) | replace ho885 := ho885.stpF flat_shI64 he958 (by intro q hq; cases hq; exact ho885.ne_box (by assumption) rfl)
      clear hf143
      have hSlhS959 := hS959.lt
      have hs966 := (StpL.of_ext (B := fun i => i = w0.heap.size ∨ i = g16) hs891).trans' (Stp.toL he958 (by intro q hq; cases hq; exact Or.inr (rfl)))
      refine ⟨hs966, ?_⟩
      refine dr_narrow (S' := fun w' => StpL w957 w' _) (fun w' h' => hs966.trans' h') _ _ _ _ ?_
      have hs967 : Ext w957 w957 := Ext.rfl' _
      refine dr_two (i := 1) (j := 11) (by kernel_rfl) ?_ ?_
      ·
       refine po_eff ha964 rfl rfl rfl rfl (op_buildSlice (s := shStr) (xs := [([112, 114, 111, 102, 105, 116] : Str), ([115, 117, 109] : Str), ([100, 97, 121] : Str), ([88] : Str), ([100, 105, 102, 102] : Str)]) (cs := [St (([112, 114, 111, 102, 105, 116] : Str)), St (([115, 117, 109] : Str)), St (([100, 97, 121] : Str)), St (([88] : Str)), St (([100, 105, 102, 102] : Str))]) (vs := [(0, St (([112, 114, 111, 102, 105, 116] : Str))), (1, St (([115, 117, 109] : Str))), (2, St (([100, 97, 121] : Str))), (3, St (([88] : Str))), (4, St (([100, 105, 102, 102] : Str)))]) (S := fun _ => False) (le := w957.heap.size) ha964 rfl pos_shStr Try.underlying22 ti9 rfl rfl (by decide) (by kernel_rfl) ⟨mk_shStr (([112, 114, 111, 102, 105, 116] : Str)) (by first | omega | simp), mk_shStr (([115, 117, 109] : Str)) (by first | omega | simp), mk_shStr (([100, 97, 121] : Str)) (by first | omega | simp), mk_shStr (([88] : Str)) (by first | omega | simp), mk_shStr (([100, 105, 102, 102] : Str)) (by first | omega | simp), rfl⟩ (fun _ h => h.elim)) ?_
       rintro v968 w969 ⟨ho970, he971, hob972⟩ a973 ha973; clear ha964 a964
       have hs974 := hs967.trans' he971
       have hx975 := hx965.trans' he971
       have hzhx975 := he971.size
       refine ⟨(StpL.of_ext hs974), ?_⟩
       replace hf142 := hf142.ext hs974
       replace hf144 := hf144.ext hs974
       replace hf145 := hf145.ext hs974
       replace hf146 := hf146.ext hs974
       replace hf147 := hf147.ext hs974
       replace ho885 := ho885.ext hs974
       replace hS959 := hS959.ext hs974
       refine dr_narrow (S' := fun w' => StpL w969 w' _) (fun w' h' => (StpL.of_ext hs974).trans' h') _ _ _ _ ?_
       have hs976 : Ext w969 w969 := Ext.rfl' _
       obtain ⟨x977, hx977⟩ := get_ex (xs := [([112, 114, 111, 102, 105, 116] : Str), ([115, 117, 109] : Str), ([100, 97, 121] : Str), ([88] : Str), ([100, 105, 102, 102] : Str)]) (j := ((q960 : Int)).toNat) (by first | omega | (simp only [List.length_cons, List.length_nil]; omega))
       obtain ⟨p978, c979, hi980, hc981, hr982, hs983⟩ := Rds.at_ (ho970.rds pos_shStr) hx977
       obtain ⟨rfl, b984⟩ := inv_shStr hr982
       obtain ⟨_, _⟩ : _ ∧ _ := hs983
       have hdlx977 := el_len 16 (by rfl) hx977
       refine dr_val (i := 4) ha973 rfl (by kernel_rfl) (by kernel_rfl) (by kernel_rfl) rfl rfl rfl (StpL.of_ext hs976) (fun w' hw' => op_indexAddr ha973 rfl Try.underlying22 ti9 rfl rfl (by omega) hi980) ?_
       intro a985 ha985; clear ha973 a973
       refine dr_val (i := 5) ha985 rfl (by kernel_rfl) (by kernel_rfl) (by kernel_rfl) rfl rfl rfl (StpL.of_ext hs976) (fun w' hw' => op_loadH ha985 rfl Try.underlying9 rfl rfl (hc981.stpL hw' (by rintro (q | q) <;> first | omega)) rfl) ?_
       intro a986 ha986; clear ha985 a985
       refine dr_one (i := 11) (by kernel_rfl) ?_
       refine po_callS ha986 rfl rfl rfl rfl (op_call ha986 rfl cb81 rfl) (c_spec_l01Next _ g16 w0.heap.size ((us.length : Nat) : Int) hS959) ?_
       rintro v987 w988 he989 ⟨hS990, ⟨q991, hq992, hq993, hq994, rfl⟩⟩ a995 ha995; clear ha986 a986
       have hx996 := hx975.stp he989 (by intro q hq; cases hq; exact (by omega))
       have hzhx996 := he989.size
       replace hf142 := hf142.stp he989 (by intro q hq; cases hq; omega)
       first | replace hf144 := hf144.stp he989 (by intro q hq; cases hq; omega) | replace hf144 := hf144.stpF flat_shStr he989 (by intro q hq; cases hq; exact hf144.ne_box (by assumption) rfl)
       first | replace hf145 := hf145.stp he989 (by intro q hq; cases hq; omega) | replace hf145 := hf145.stpF flat_shRowN he989 (by intro q hq; cases hq; exact hf145.ne_box (by assumption) rfl)
       first | replace hf146 := hf146.stp he989 (by intro q hq; cases hq; omega) | replace hf146 := hf146.stpB flat_shI64 he989 (by assumption) rfl
       replace hf147 := hf147.stp he989 (by intro q hq; cases hq; omega)
       first | replace ho885 := ho885.stp he989 (by intro q hq; cases hq; omega) | replace ho885 := ho885.stpF flat_shI64 he989 (by intro q hq; cases hq; exact ho885.ne_box (by assumption) rfl)
       first | replace ho970 := ho970.stp he989 (by intro q hq; cases hq; omega) | replace ho970 := ho970.stpF flat_shStr he989 (by intro q hq; cases hq; exact ho970.ne_box (by assumption) rfl)
       replace hc981 := hc981.stp he989 (by intro q hq; cases hq; omega)
       clear hS959
       have hSlhS990 := hS990.lt
       have hs997 := (StpL.of_ext (B := fun i => i = w0.heap.size ∨ i = g16) hs976).trans' (Stp.toL he989 (by intro q hq; cases hq; exact Or.inr (rfl)))
       refine ⟨hs997, ?_⟩
       refine dr_narrow (S' := fun w' => StpL w988 w' _) (fun w' h' => hs997.trans' h') _ _ _ _ ?_
       have hs998 : Ext w988 w988 := Ext.rfl' _
       refine dr_one (i := 14) (by kernel_rfl) ?_
       refine po_callS ha995 rfl rfl rfl rfl (op_call ha995 rfl cb90 rfl) (c_spec_l01Pick _ g16 w0.heap.size v883 ([(1 : Int), (-1 : Int), (2 : Int), (1000 : Int), (1001 : Int), (-1001 : Int), (0 : Int)]) hS990 (ho885.rds pos_shI64) (by rintro ⟨_, _⟩; omega) (by first | assumption | omega | (simp; done) | (simp; omega))) ?_
       rintro v999 w1000 he1001 ⟨hS1002, ⟨q1003, hq1004, rfl⟩⟩ a1005 ha1005; clear ha995 a995
       have hx1006 := hx996.stp he1001 (by intro q hq; cases hq; exact (by omega))
       have hzhx1006 := he1001.size
       replace hf142 := hf142.stp he1001 (by intro q hq; cases hq; omega)
       first | replace hf144 := hf144.stp he1001 (by intro q hq; cases hq; omega) | replace hf144 := hf144.stpF flat_shStr he1001 (by intro q hq; cases hq; exact hf144.ne_box (by assumption) rfl)
       first | replace hf145 := hf145.stp he1001 (by intro q hq; cases hq; omega) | replace hf145 := hf145.stpF flat_shRowN he1001 (by intro q hq; cases hq; exact hf145.ne_box (by assumption) rfl)
       first | replace hf146 := hf146.stp he1001 (by intro q hq; cases hq; omega) | replace hf146 := hf146.stpB flat_shI64 he1001 (by assumption) rfl
       replace hf147 := hf147.stp he1001 (by intro q hq; cases hq; omega)
       first | replace ho885 := ho885.stp he1001 (by intro q hq; cases hq; omega) | replace ho885 := ho885.stpF flat_shI64 he1001 (by intro q hq; cases hq; exact ho885.ne_box (by assumption) rfl)
       first | replace ho970 := ho970.stp he1001 (by intro q hq; cases hq; omega) | replace ho970 := ho970.stpF flat_shStr he1001 (by intro q hq; cases hq; exact ho970.ne_box (by assumption) rfl)
       replace hc981 := hc981.stp he1001 (by intro q hq; cases hq; omega)
       clear hS990
       have hSlhS1002 := hS1002.lt
       have hs1007 := (StpL.of_ext (B := fun i => i = w0.heap.size ∨ i = g16) hs998).trans' (Stp.toL he1001 (by intro q hq; cases hq; exact Or.inr (rfl)))
       refine ⟨hs1007, ?_⟩
       simp only [List.mem_cons, List.not_mem_nil, or_false] at hq1004
       refine dr_narrow (S' := fun w' => StpL w1000 w' _) (fun w' h' => hs1007.trans' h') _ _ _ _ ?_
       have hs1008 : Ext w1000 w1000 := Ext.rfl' _
       refine dr_one (i := 15) (by kernel_rfl) ?_
       refine po_effS ha1005 rfl rfl rfl (op_storeAll' ha1005 rfl ti28 rfl rfl hf142 rfl rfl (by intro u hu; have hu : u ∈ ([vu, vr] : List Value) := hu; simp only [List.mem_cons, List.mem_nil_iff, or_false] at hu; rcases hu with rfl | rfl <;> first | rfl | exact hf144.one | exact hf145.one) rfl) ?_
       rintro w1009 ⟨hb1011, hst1010, hz1012⟩
       have hx1013 := hx1006.stp hst1010 (by intro q hq; cases hq; exact (by omega))
       have hzhx1013 := hst1010.size
       replace hf144 := hf144.stp hst1010 (by intro q hq; cases hq; omega)
       replace hf145 := hf145.stp hst1010 (by intro q hq; cases hq; omega)
       replace hf146 := hf146.stp hst1010 (by intro q hq; cases hq; omega)
       replace hf147 := hf147.stp hst1010 (by intro q hq; cases hq; omega)
       replace ho885 := ho885.stp hst1010 (by intro q hq; cases hq; omega)
       replace ho970 := ho970.stp hst1010 (by intro q hq; cases hq; omega)
       replace hc981 := hc981.stp hst1010 (by intro q hq; cases hq; omega)
       replace hS1002 := hS1002.stp hst1010 (by intro q hq; cases hq; omega)
       clear hf142
       have hs1014 := (StpL.of_ext (B := fun i => i = w0.heap.size ∨ i = g16) hs1008).trans' (Stp.toL hst1010 (by intro q hq; cases hq; exact Or.inl rfl))
       refine ⟨hs1014, ?_⟩
       refine dr_narrow (S' := fun w' => StpL w1009 w' _) (fun w' h' => hs1014.trans' h') _ _ _ _ ?_
       have hs1015 : Ext w1009 w1009 := Ext.rfl' _
       refine dr_val (i := 16) ha1005 rfl (by kernel_rfl) (by kernel_rfl) (by kernel_rfl) rfl rfl rfl (StpL.of_ext hs1015) (fun w' hw' => op_assign ha1005 rfl rfl) ?_
       intro a1016 ha1016; clear ha1005 a1005
       refine dr_val (i := 17) ha1016 rfl (by kernel_rfl) (by kernel_rfl) (by kernel_rfl) rfl rfl rfl (StpL.of_ext hs1015) (fun w' hw' => op_assign ha1016 rfl rfl) ?_
       intro a1017 ha1017; clear ha1016 a1016
       refine dr_val (i := 18) ha1017 rfl (by kernel_rfl) (by kernel_rfl) (by kernel_rfl) rfl rfl rfl (StpL.of_ext hs1015) (fun w' hw' => op_assign ha1017 rfl rfl) ?_
       intro a1018 ha1018; clear ha1017 a1017
       refine dr_val (i := 19) ha1018 rfl (by kernel_rfl) (by kernel_rfl) (by kernel_rfl) rfl rfl rfl (StpL.of_ext hs1015) (fun w' hw' => op_assign ha1018 rfl rfl) ?_
       intro a1019 ha1019; clear ha1018 a1018
       refine dr_end (by kernel_rfl) ?_
       refine then_n ?_
       exact ⟨x977, q991, q1003, (Sl.cons_ ha1019 rfl rfl (Sl.cons_ ha1019 rfl rfl (Sl.cons_ ha1019 rfl rfl (Sl.cons_ ha1019 rfl rfl (Sl.cons_ ha1019 rfl rfl (Sl.nil_ ha1019)))))), hx1013, (hf144.fin (by omega) (by omega) (by omega)), (hf145.fin (by omega) (by omega) (by omega)), (hf146.fin (by omega) (by omega)), hb1011, (by omega), (by omega)⟩
      ·
       refine po_callS ha964 rfl rfl rfl rfl (op_call ha964 rfl cb81 rfl) (c_spec_l01Next _ g16 w0.heap.size ((us.length : Nat) : Int) hS959) ?_
       rintro v1020 w1021 he1022 ⟨hS1023, ⟨q1024, hq1025, hq1026, hq1027, rfl⟩⟩ a1028 ha1028; clear ha964 a964
       have hx1029 := hx965.stp he1022 (by intro q hq; cases hq; exact (by omega))
       have hzhx1029 := he1022.size
       replace hf142 := hf142.stp he1022 (by intro q hq; cases hq; omega)
       first | replace hf144 := hf144.stp he1022 (by intro q hq; cases hq; omega) | replace hf144 := hf144.stpF flat_shStr he1022 (by intro q hq; cases hq; exact hf144.ne_box (by assumption) rfl)
       first | replace hf145 := hf145.stp he1022 (by intro q hq; cases hq; omega) | replace hf145 := hf145.stpF flat_shRowN he1022 (by intro q hq; cases hq; exact hf145.ne_box (by assumption) rfl)
       first | replace hf146 := hf146.stp he1022 (by intro q hq; cases hq; omega) | replace hf146 := hf146.stpB flat_shI64 he1022 (by assumption) rfl
       replace hf147 := hf147.stp he1022 (by intro q hq; cases hq; omega)
       first | replace ho885 := ho885.stp he1022 (by intro q hq; cases hq; omega) | replace ho885 := ho885.stpF flat_shI64 he1022 (by intro q hq; cases hq; exact ho885.ne_box (by assumption) rfl)
       clear hS959
       have hSlhS1023 := hS1023.lt
       have hs1030 := (StpL.of_ext (B := fun i => i = w0.heap.size ∨ i = g16) hs967).trans' (Stp.toL he1022 (by intro q hq; cases hq; exact Or.inr (rfl)))
       refine ⟨hs1030, ?_⟩
       refine dr_narrow (S' := fun w' => StpL w1021 w' _) (fun w' h' => hs1030.trans' h') _ _ _ _ ?_
       have hs1031 : Ext w1021 w1021 := Ext.rfl' _
       refine dr_two (i := 1) (j := 14) (by kernel_rfl) ?_ ?_
       ·
        refine po_eff ha1028 rfl rfl rfl rfl (op_buildSlice (s := shStr) (xs := [([112, 114, 111, 102, 105, 116] : Str), ([115, 117, 109] : Str), ([100, 97, 121] : Str), ([88] : Str), ([100, 105, 102, 102] : Str)]) (cs := [St (([112, 114, 111, 102, 105, 116] : Str)), St (([115, 117, 109] : Str)), St (([100, 97, 121] : Str)), St (([88] : Str)), St (([100, 105, 102, 102] : Str))]) (vs := [(0, St (([112, 114, 111, 102, 105, 116] : Str))), (1, St (([115, 117, 109] : Str))), (2, St (([100, 97, 121] : Str))), (3, St (([88] : Str))), (4, St (([100, 105, 102, 102] : Str)))]) (S := fun _ => False) (le := w1021.heap.size) ha1028 rfl pos_shStr Try.underlying22 ti9 rfl rfl (by decide) (by kernel_rfl) ⟨mk_shStr (([112, 114, 111, 102, 105, 116] : Str)) (by first | omega | simp), mk_shStr (([115, 117, 109] : Str)) (by first | omega | simp), mk_shStr (([100, 97, 121] : Str)) (by first | omega | simp), mk_shStr (([88] : Str)) (by first | omega | simp), mk_shStr (([100, 105, 102, 102] : Str)) (by first | omega | simp), rfl⟩ (fun _ h => h.elim)) ?_
        rintro v1032 w1033 ⟨ho1034, he1035, hob1036⟩ a1037 ha1037; clear ha1028 a1028
        have hs1038 := hs1031.trans' he1035
        have hx1039 := hx1029.trans' he1035
        have hzhx1039 := he1035.size
        refine ⟨(StpL.of_ext hs1038), ?_⟩
        replace hf142 := hf142.ext hs1038
        replace hf144 := hf144.ext hs1038
        replace hf145 := hf145.ext hs1038
        replace hf146 := hf146.ext hs1038
        replace hf147 := hf147.ext hs1038
        replace ho885 := ho885.ext hs1038
        replace hS1023 := hS1023.ext hs1038
        refine dr_narrow (S' := fun w' => StpL w1033 w' _) (fun w' h' => (StpL.of_ext hs1038).trans' h') _ _ _ _ ?_
        have hs1040 : Ext w1033 w1033 := Ext.rfl' _
        obtain ⟨x1041, hx1041⟩ := get_ex (xs := [([112, 114, 111, 102, 105, 116] : Str), ([115, 117, 109] : Str), ([100, 97, 121] : Str), ([88] : Str), ([100, 105, 102, 102] : Str)]) (j := ((q960 : Int)).toNat) (by first | omega | (simp only [List.length_cons, List.length_nil]; omega))
        obtain ⟨p1042, c1043, hi1044, hc1045, hr1046, hs1047⟩ := Rds.at_ (ho1034.rds pos_shStr) hx1041
        obtain ⟨rfl, b1048⟩ := inv_shStr hr1046
        obtain ⟨_, _⟩ : _ ∧ _ := hs1047
        have hdlx1041 := el_len 16 (by rfl) hx1041
        refine dr_val (i := 4) ha1037 rfl (by kernel_rfl) (by kernel_rfl) (by kernel_rfl) rfl rfl rfl (StpL.of_ext hs1040) (fun w' hw' => op_indexAddr ha1037 rfl Try.underlying22 ti9 rfl rfl (by omega) hi1044) ?_
        intro a1049 ha1049; clear ha1037 a1037
        refine dr_val (i := 5) ha1049 rfl (by kernel_rfl) (by kernel_rfl) (by kernel_rfl) rfl rfl rfl (StpL.of_ext hs1040) (fun w' hw' => op_loadH ha1049 rfl Try.underlying9 rfl rfl (hc1045.stpL hw' (by rintro (q | q) <;> first | omega)) rfl) ?_
        intro a1050 ha1050; clear ha1049 a1049
        refine dr_one (i := 14) (by kernel_rfl) ?_
        refine po_callS ha1050 rfl rfl rfl rfl (op_call ha1050 rfl cb90 rfl) (c_spec_l01Pick _ g16 w0.heap.size v883 ([(1 : Int), (-1 : Int), (2 : Int), (1000 : Int), (1001 : Int), (-1001 : Int), (0 : Int)]) hS1023 (ho885.rds pos_shI64) (by rintro ⟨_, _⟩; omega) (by first | assumption | omega | (simp; done) | (simp; omega))) ?_
        rintro v1051 w1052 he1053 ⟨hS1054, ⟨q1055, hq1056, rfl⟩⟩ a1057 ha1057; clear ha1050 a1050
        have hx1058 := hx1039.stp he1053 (by intro q hq; cases hq; exact (by omega))
        have hzhx1058 := he1053.size
        replace hf142 := hf142.stp he1053 (by intro q hq; cases hq; omega)
        first | replace hf144 := hf144.stp he1053 (by intro q hq; cases hq; omega) | replace hf144 := hf144.stpF flat_shStr he1053 (by intro q hq; cases hq; exact hf144.ne_box (by assumption) rfl)
        first | replace hf145 := hf145.stp he1053 (by intro q hq; cases hq; omega) | replace hf145 := hf145.stpF flat_shRowN he1053 (by intro q hq; cases hq; exact hf145.ne_box (by assumption) rfl)
        first | replace hf146 := hf146.stp he1053 (by intro q hq; cases hq; omega) | replace hf146 := hf146.stpB flat_shI64 he1053 (by assumption) rfl
        replace hf147 := hf147.stp he1053 (by intro q hq; cases hq; omega)
        first | replace ho885 := ho885.stp he1053 (by intro q hq; cases hq; omega) | replace ho885 := ho885.stpF flat_shI64 he1053 (by intro q hq; cases hq; exact ho885.ne_box (by assumption) rfl)
        first | replace ho1034 := ho1034.stp he1053 (by intro q hq; cases hq; omega) | replace ho1034 := ho1034.stpF flat_shStr he1053 (by intro q hq; cases hq; exact ho1034.ne_box (by assumption) rfl)
        replace hc1045 := hc1045.stp he1053 (by intro q hq; cases hq; omega)
        clear hS1023
        have hSlhS1054 := hS1054.lt
        have hs1059 := (StpL.of_ext (B := fun i => i = w0.heap.size ∨ i = g16) hs1040).trans' (Stp.toL he1053 (by intro q hq; cases hq; exact Or.inr (rfl)))
        refine ⟨hs1059, ?_⟩
        simp only [List.mem_cons, List.not_mem_nil, or_false] at hq1056
        refine dr_narrow (S' := fun w' => StpL w1052 w' _) (fun w' h' => hs1059.trans' h') _ _ _ _ ?_
        have hs1060 : Ext w1052 w1052 := Ext.rfl' _
        refine dr_one (i := 15) (by kernel_rfl) ?_
        refine po_effS ha1057 rfl rfl rfl (op_storeAll' ha1057 rfl ti28 rfl rfl hf142 rfl rfl (by intro u hu; have hu : u ∈ ([vu, vr] : List Value) := hu; simp only [List.mem_cons, List.mem_nil_iff, or_false] at hu; rcases hu with rfl | rfl <;> first | rfl | exact hf144.one | exact hf145.one) rfl) ?_
        rintro w1061 ⟨hb1063, hst1062, hz1064⟩
        have hx1065 := hx1058.stp hst1062 (by intro q hq; cases hq; exact (by omega))
        have hzhx1065 := hst1062.size
        replace hf144 := hf144.stp hst1062 (by intro q hq; cases hq; omega)
        replace hf145 := hf145.stp hst1062 (by intro q hq; cases hq; omega)
        replace hf146 := hf146.stp hst1062 (by intro q hq; cases hq; omega)
        replace hf147 := hf147.stp hst1062 (by intro q hq; cases hq; omega)
        replace ho885 := ho885.stp hst1062 (by intro q hq; cases hq; omega)
        replace ho1034 := ho1034.stp hst1062 (by intro q hq; cases hq; omega)
        replace hc1045 := hc1045.stp hst1062 (by intro q hq; cases hq; omega)
        replace hS1054 := hS1054.stp hst1062 (by intro q hq; cases hq; omega)
        clear hf142
        have hs1066 := (StpL.of_ext (B := fun i => i = w0.heap.size ∨ i = g16) hs1060).trans' (Stp.toL hst1062 (by intro q hq; cases hq; exact Or.inl rfl))
        refine ⟨hs1066, ?_⟩
        refine dr_narrow (S' := fun w' => StpL w1061 w' _) (fun w' h' => hs1066.trans' h') _ _ _ _ ?_
        have hs1067 : Ext w1061 w1061 := Ext.rfl' _
        refine dr_val (i := 16) ha1057 rfl (by kernel_rfl) (by kernel_rfl) (by kernel_rfl) rfl rfl rfl (StpL.of_ext hs1067) (fun w' hw' => op_assign ha1057 rfl rfl) ?_
        intro a1068 ha1068; clear ha1057 a1057
        refine dr_val (i := 17) ha1068 rfl (by kernel_rfl) (by kernel_rfl) (by kernel_rfl) rfl rfl rfl (StpL.of_ext hs1067) (fun w' hw' => op_assign ha1068 rfl rfl) ?_
        intro a1069 ha1069; clear ha1068 a1068
        refine dr_val (i := 18) ha1069 rfl (by kernel_rfl) (by kernel_rfl) (by kernel_rfl) rfl rfl rfl (StpL.of_ext hs1067) (fun w' hw' => op_assign ha1069 rfl rfl) ?_
        intro a1070 ha1070; clear ha1069 a1069
        refine dr_val (i := 19) ha1070 rfl (by kernel_rfl) (by kernel_rfl) (by kernel_rfl) rfl rfl rfl (StpL.of_ext hs1067) (fun w' hw' => op_assign ha1070 rfl rfl) ?_
        intro a1071 ha1071; clear ha1070 a1070
        refine dr_end (by kernel_rfl) ?_
        refine then_n ?_
        exact ⟨x1041, q1024, q1055, (Sl.cons_ ha1071 rfl rfl (Sl.cons_ ha1071 rfl rfl (Sl.cons_ ha1071 rfl rfl (Sl.cons_ ha1071 rfl rfl (Sl.cons_ ha1071 rfl rfl (Sl.nil_ ha1071)))))), hx1065, (hf144.fin (by omega) (by omega) (by omega)), (hf145.fin (by omega) (by omega) (by omega)), (hf146.fin (by omega) (by omega)), hb1063, (by omega), (by omega)⟩
       ·
        refine po_callS ha1028 rfl rfl rfl rfl (op_call ha1028 rfl cb90 rfl) (c_spec_l01Pick _ g16 w0.heap.size v883 ([(1 : Int), (-1 : Int), (2 : Int), (1000 : Int), (1001 : Int), (-1001 : Int), (0 : Int)]) hS1023 (ho885.rds pos_shI64) (by rintro ⟨_, _⟩; omega) (by first | assumption | omega | (simp; done) | (simp; omega))) ?_
        rintro v1072 w1073 he1074 ⟨hS1075, ⟨q1076, hq1077, rfl⟩⟩ a1078 ha1078; clear ha1028 a1028
        have hx1079 := hx1029.stp he1074 (by intro q hq; cases hq; exact (by omega))
        have hzhx1079 := he1074.size
        replace hf142 := hf142.stp he1074 (by intro q hq; cases hq; omega)
        first | replace hf144 := hf144.stp he1074 (by intro q hq; cases hq; omega) | replace hf144 := hf144.stpF flat_shStr he1074 (by intro q hq; cases hq; exact hf144.ne_box (by assumption) rfl)
        first | replace hf145 := hf145.stp he1074 (by intro q hq; cases hq; omega) | replace hf145 := hf145.stpF flat_shRowN he1074 (by intro q hq; cases hq; exact hf145.ne_box (by assumption) rfl)
        first | replace hf146 := hf146.stp he1074 (by intro q hq; cases hq; omega) | replace hf146 := hf146.stpB flat_shI64 he1074 (by assumption) rfl
        replace hf147 := hf147.stp he1074 (by intro q hq; cases hq; omega)
        first | replace ho885 := ho885.stp he1074 (by intro q hq; cases hq; omega) | replace ho885 := ho885.stpF flat_shI64 he1074 (by intro q hq; cases hq; exact ho885.ne_box (by assumption) rfl)
        clear hS1023
        have hSlhS1075 := hS1075.lt
        have hs1080 := (StpL.of_ext (B := fun i => i = w0.heap.size ∨ i = g16) hs1031).trans' (Stp.toL he1074 (by intro q hq; cases hq; exact Or.inr (rfl)))
        refine ⟨hs1080, ?_⟩
        simp only [List.mem_cons, List.not_mem_nil, or_false] at hq1077
        refine dr_narrow (S' := fun w' => StpL w1073 w' _) (fun w' h' => hs1080.trans' h') _ _ _ _ ?_
        have hs1081 : Ext w1073 w1073 := Ext.rfl' _
        refine dr_two (i := 1) (j := 15) (by kernel_rfl) ?_ ?_
        ·
         refine po_eff ha1078 rfl rfl rfl rfl (op_buildSlice (s := shStr) (xs := [([112, 114, 111, 102, 105, 116] : Str), ([115, 117, 109] : Str), ([100, 97, 121] : Str), ([88] : Str), ([100, 105, 102, 102] : Str)]) (cs := [St (([112, 114, 111, 102, 105, 116] : Str)), St (([115, 117, 109] : Str)), St (([100, 97, 121] : Str)), St (([88] : Str)), St (([100, 105, 102, 102] : Str))]) (vs := [(0, St (([112, 114, 111, 102, 105, 116] : Str))), (1, St (([115, 117, 109] : Str))), (2, St (([100, 97, 121] : Str))), (3, St (([88] : Str))), (4, St (([100, 105, 102, 102] : Str)))]) (S := fun _ => False) (le := w1073.heap.size) ha1078 rfl pos_shStr Try.underlying22 ti9 rfl rfl (by decide) (by kernel_rfl) ⟨mk_shStr (([112, 114, 111, 102, 105, 116] : Str)) (by first | omega | simp), mk_shStr (([115, 117, 109] : Str)) (by first | omega | simp), mk_shStr (([100, 97, 121] : Str)) (by first | omega | simp), mk_shStr (([88] : Str)) (by first | omega | simp), mk_shStr (([100, 105, 102, 102] : Str)) (by first | omega | simp), rfl⟩ (fun _ h => h.elim)) ?_
         rintro v1082 w1083 ⟨ho1084, he1085, hob1086⟩ a1087 ha1087; clear ha1078 a1078
         have hs1088 := hs1081.trans' he1085
         have hx1089 := hx1079.trans' he1085
         have hzhx1089 := he1085.size
         refine ⟨(StpL.of_ext hs1088), ?_⟩
         replace hf142 := hf142.ext hs1088
         replace hf144 := hf144.ext hs1088
         replace hf145 := hf145.ext hs1088
         replace hf146 := hf146.ext hs1088
         replace hf147 := hf147.ext hs1088
         replace ho885 := ho885.ext hs1088
         replace hS1075 := hS1075.ext hs1088
         refine dr_narrow (S' := fun w' => StpL w1083 w' _) (fun w' h' => (StpL.of_ext hs1088).trans' h') _ _ _ _ ?_
         have hs1090 : Ext w1083 w1083 := Ext.rfl' _
         obtain ⟨x1091, hx1091⟩ := get_ex (xs := [([112, 114, 111, 102, 105, 116] : Str), ([115, 117, 109] : Str), ([100, 97, 121] : Str), ([88] : Str), ([100, 105, 102, 102] : Str)]) (j := ((q960 : Int)).toNat) (by first | omega | (simp only [List.length_cons, List.length_nil]; omega))
         obtain ⟨p1092, c1093, hi1094, hc1095, hr1096, hs1097⟩ := Rds.at_ (ho1084.rds pos_shStr) hx1091
         obtain ⟨rfl, b1098⟩ := inv_shStr hr1096
         obtain ⟨_, _⟩ : _ ∧ _ := hs1097
         have hdlx1091 := el_len 16 (by rfl) hx1091
         refine dr_val (i := 4) ha1087 rfl (by kernel_rfl) (by kernel_rfl) (by kernel_rfl) rfl rfl rfl (StpL.of_ext hs1090) (fun w' hw' => op_indexAddr ha1087 rfl Try.underlying22 ti9 rfl rfl (by omega) hi1094) ?_
         intro a1099 ha1099; clear ha1087 a1087
         refine dr_val (i := 5) ha1099 rfl (by kernel_rfl) (by kernel_rfl) (by kernel_rfl) rfl rfl rfl (StpL.of_ext hs1090) (fun w' hw' => op_loadH ha1099 rfl Try.underlying9 rfl rfl (hc1095.stpL hw' (by rintro (q | q) <;> first | omega)) rfl) ?_
         intro a1100 ha1100; clear ha1099 a1099
         refine dr_one (i := 15) (by kernel_rfl) ?_
         refine po_effS ha1100 rfl rfl rfl (op_storeAll' ha1100 rfl ti28 rfl rfl hf142 rfl rfl (by intro u hu; have hu : u ∈ ([vu, vr] : List Value) := hu; simp only [List.mem_cons, List.mem_nil_iff, or_false] at hu; rcases hu with rfl | rfl <;> first | rfl | exact hf144.one | exact hf145.one) rfl) ?_
         rintro w1101 ⟨hb1103, hst1102, hz1104⟩
         have hx1105 := hx1089.stp hst1102 (by intro q hq; cases hq; exact (by omega))
         have hzhx1105 := hst1102.size
         replace hf144 := hf144.stp hst1102 (by intro q hq; cases hq; omega)
         replace hf145 := hf145.stp hst1102 (by intro q hq; cases hq; omega)
         replace hf146 := hf146.stp hst1102 (by intro q hq; cases hq; omega)
         replace hf147 := hf147.stp hst1102 (by intro q hq; cases hq; omega)
         replace ho885 := ho885.stp hst1102 (by intro q hq; cases hq; omega)
         replace hS1075 := hS1075.stp hst1102 (by intro q hq; cases hq; omega)
         replace ho1084 := ho1084.stp hst1102 (by intro q hq; cases hq; omega)
         replace hc1095 := hc1095.stp hst1102 (by intro q hq; cases hq; omega)
         clear hf142
         have hs1106 := (StpL.of_ext (B := fun i => i = w0.heap.size ∨ i = g16) hs1090).trans' (Stp.toL hst1102 (by intro q hq; cases hq; exact Or.inl rfl))
         refine ⟨hs1106, ?_⟩
         refine dr_narrow (S' := fun w' => StpL w1101 w' _) (fun w' h' => hs1106.trans' h') _ _ _ _ ?_
         have hs1107 : Ext w1101 w1101 := Ext.rfl' _
         refine dr_val (i := 16) ha1100 rfl (by kernel_rfl) (by kernel_rfl) (by kernel_rfl) rfl rfl rfl (StpL.of_ext hs1107) (fun w' hw' => op_assign ha1100 rfl rfl) ?_
         intro a1108 ha1108; clear ha1100 a1100
         refine dr_val (i := 17) ha1108 rfl (by kernel_rfl) (by kernel_rfl) (by kernel_rfl) rfl rfl rfl (StpL.of_ext hs1107) (fun w' hw' => op_assign ha1108 rfl rfl) ?_
         intro a1109 ha1109; clear ha1108 a1108
         refine dr_val (i := 18) ha1109 rfl (by kernel_rfl) (by kernel_rfl) (by kernel_rfl) rfl rfl rfl (StpL.of_ext hs1107) (fun w' hw' => op_assign ha1109 rfl rfl) ?_
         intro a1110 ha1110; clear ha1109 a1109
         refine dr_val (i := 19) ha1110 rfl (by kernel_rfl) (by kernel_rfl) (by kernel_rfl) rfl rfl rfl (StpL.of_ext hs1107) (fun w' hw' => op_assign ha1110 rfl rfl) ?_
         intro a1111 ha1111; clear ha1110 a1110
         refine dr_end (by kernel_rfl) ?_
         refine then_n ?_
         exact ⟨x1091, q1024, q1076, (Sl.cons_ ha1111 rfl rfl (Sl.cons_ ha1111 rfl rfl (Sl.cons_ ha1111 rfl rfl (Sl.cons_ ha1111 rfl rfl (Sl.cons_ ha1111 rfl rfl (Sl.nil_ ha1111)))))), hx1105, (hf144.fin (by omega) (by omega) (by omega)), (hf145.fin (by omega) (by omega) (by omega)), (hf146.fin (by omega) (by omega)), hb1103, (by omega), (by omega)⟩
        ·
         refine po_effS ha1078 rfl rfl rfl (op_storeAll' ha1078 rfl ti28 rfl rfl hf142 rfl rfl (by intro u hu; have hu : u ∈ ([vu, vr] : List Value) := hu; simp only [List.mem_cons, List.mem_nil_iff, or_false] at hu; rcases hu with rfl | rfl <;> first | rfl | exact hf144.one | exact hf145.one) rfl) ?_
         rintro w1112 ⟨hb1114, hst1113, hz1115⟩
         have hx1116 := hx1079.stp hst1113 (by intro q hq; cases hq; exact (by omega))
         have hzhx1116 := hst1113.size
         replace hf144 := hf144.stp hst1113 (by intro q hq; cases hq; omega)
         replace hf145 := hf145.stp hst1113 (by intro q hq; cases hq; omega)
         replace hf146 := hf146.stp hst1113 (by intro q hq; cases hq; omega)
         replace hf147 := hf147.stp hst1113 (by intro q hq; cases hq; omega)
         replace ho885 := ho885.stp hst1113 (by intro q hq; cases hq; omega)
         replace hS1075 := hS1075.stp hst1113 (by intro q hq; cases hq; omega)
         clear hf142
         have hs1117 := (StpL.of_ext (B := fun i => i = w0.heap.size ∨ i = g16) hs1081).trans' (Stp.toL hst1113 (by intro q hq; cases hq; exact Or.inl rfl))
         refine ⟨hs1117, ?_⟩
         refine dr_narrow (S' := fun w' => StpL w1112 w' _) (fun w' h' => hs1117.trans' h') _ _ _ _ ?_
         have hs1118 : Ext w1112 w1112 := Ext.rfl' _
         refine dr_one (i := 1) (by kernel_rfl) ?_
         refine po_eff ha1078 rfl rfl rfl rfl (op_buildSlice (s := shStr) (xs := [([112, 114, 111, 102, 105, 116] : Str), ([115, 117, 109] : Str), ([100, 97, 121] : Str), ([88] : Str), ([100, 105, 102, 102] : Str)]) (cs := [St (([112, 114, 111, 102, 105, 116] : Str)), St (([115, 117, 109] : Str)), St (([100, 97, 121] : Str)), St (([88] : Str)), St (([100, 105, 102, 102] : Str))]) (vs := [(0, St (([112, 114, 111, 102, 105, 116] : Str))), (1, St (([115, 117, 109] : Str))), (2, St (([100, 97, 121] : Str))), (3, St (([88] : Str))), (4, St (([100, 105, 102, 102] : Str)))]) (S := fun _ => False) (le := w1112.heap.size) ha1078 rfl pos_shStr Try.underlying22 ti9 rfl rfl (by decide) (by kernel_rfl) ⟨mk_shStr (([112, 114, 111, 102, 105, 116] : Str)) (by first | omega | simp), mk_shStr (([115, 117, 109] : Str)) (by first | omega | simp), mk_shStr (([100, 97, 121] : Str)) (by first | omega | simp), mk_shStr (([88] : Str)) (by first | omega | simp), mk_shStr (([100, 105, 102, 102] : Str)) (by first | omega | simp), rfl⟩ (fun _ h => h.elim)) ?_
         rintro v1119 w1120 ⟨ho1121, he1122, hob1123⟩ a1124 ha1124; clear ha1078 a1078
         have hs1125 := hs1118.trans' he1122
         have hx1126 := hx1116.trans' he1122
         have hzhx1126 := he1122.size
         refine ⟨(StpL.of_ext hs1125), ?_⟩
         replace hf144 := hf144.ext hs1125
         replace hf145 := hf145.ext hs1125
         replace hf146 := hf146.ext hs1125
         replace hf147 := hf147.ext hs1125
         replace ho885 := ho885.ext hs1125
         replace hS1075 := hS1075.ext hs1125
         replace hb1114 := hb1114.ext hs1125
         refine dr_narrow (S' := fun w' => StpL w1120 w' _) (fun w' h' => (StpL.of_ext hs1125).trans' h') _ _ _ _ ?_
         have hs1127 : Ext w1120 w1120 := Ext.rfl' _
         obtain ⟨x1128, hx1128⟩ := get_ex (xs := [([112, 114, 111, 102, 105, 116] : Str), ([115, 117, 109] : Str), ([100, 97, 121] : Str), ([88] : Str), ([100, 105, 102, 102] : Str)]) (j := ((q960 : Int)).toNat) (by first | omega | (simp only [List.length_cons, List.length_nil]; omega))
         obtain ⟨p1129, c1130, hi1131, hc1132, hr1133, hs1134⟩ := Rds.at_ (ho1121.rds pos_shStr) hx1128
         obtain ⟨rfl, b1135⟩ := inv_shStr hr1133
         obtain ⟨_, _⟩ : _ ∧ _ := hs1134
         have hdlx1128 := el_len 16 (by rfl) hx1128
         refine dr_val (i := 4) ha1124 rfl (by kernel_rfl) (by kernel_rfl) (by kernel_rfl) rfl rfl rfl (StpL.of_ext hs1127) (fun w' hw' => op_indexAddr ha1124 rfl Try.underlying22 ti9 rfl rfl (by omega) hi1131) ?_
         intro a1136 ha1136; clear ha1124 a1124
         refine dr_val (i := 5) ha1136 rfl (by kernel_rfl) (by kernel_rfl) (by kernel_rfl) rfl rfl rfl (StpL.of_ext hs1127) (fun w' hw' => op_loadH ha1136 rfl Try.underlying9 rfl rfl (hc1132.stpL hw' (by rintro (q | q) <;> first | omega)) rfl) ?_
         intro a1137 ha1137; clear ha1136 a1136
         refine dr_val (i := 16) ha1137 rfl (by kernel_rfl) (by kernel_rfl) (by kernel_rfl) rfl rfl rfl (StpL.of_ext hs1127) (fun w' hw' => op_assign ha1137 rfl rfl) ?_
         intro a1138 ha1138; clear ha1137 a1137
         refine dr_val (i := 17) ha1138 rfl (by kernel_rfl) (by kernel_rfl) (by kernel_rfl) rfl rfl rfl (StpL.of_ext hs1127) (fun w' hw' => op_assign ha1138 rfl rfl) ?_
         intro a1139 ha1139; clear ha1138 a1138
         refine dr_val (i := 18) ha1139 rfl (by kernel_rfl) (by kernel_rfl) (by kernel_rfl) rfl rfl rfl (StpL.of_ext hs1127) (fun w' hw' => op_assign ha1139 rfl rfl) ?_
         intro a1140 ha1140; clear ha1139 a1139
         refine dr_val (i := 19) ha1140 rfl (by kernel_rfl) (by kernel_rfl) (by kernel_rfl) rfl rfl rfl (StpL.of_ext hs1127) (fun w' hw' => op_assign ha1140 rfl rfl) ?_
         intro a1141 ha1141; clear ha1140 a1140
         refine dr_end (by kernel_rfl) ?_
         refine then_n ?_
         exact ⟨x1128, q1024, q1076, (Sl.cons_ ha1141 rfl rfl (Sl.cons_ ha1141 rfl rfl (Sl.cons_ ha1141 rfl rfl (Sl.cons_ ha1141 rfl rfl (Sl.cons_ ha1141 rfl rfl (Sl.nil_ ha1141)))))), hx1126, (hf144.fin (by omega) (by omega) (by omega)), (hf145.fin (by omega) (by omega) (by omega)), (hf146.fin (by omega) (by omega)), hb1114, (by omega), (by omega)⟩
   ·
    clear ha202 a202
    rintro a1142 w208 ⟨q205, q206, q207, ha1142, hx209, hf211, hf212, hf213, hf210, hg1144, hzl1143⟩
    have hzhx209 := hx209.size
    refine wp_ret ?_
    refine ret_ctttt ha1142 rfl rfl Try.underlying28 ti28 rfl hf210.cells rfl rfl rfl rfl ?_
    clear ha1142 a1142
    refine ret_mk hx209 ?_
    refine ⟨((us, (rs.map (·.1))) : Tab), (q205 : Str), (q28 : Int), (q206 : Int), (q207 : Int), (by first | omega | (simp; omega)), ?_⟩
    refine ⟨vu, vr, rs, (tup5_eq (by rfl) (congrArg St (by rfl)) (int_eq (by rfl)) (int_eq (by rfl)) (int_eq (by rfl))), ?_, hf212.fin (by omega) (by omega) (by omega), hf213.fin (by omega) (by omega), ?_⟩
    ·
     refine (hf211.fin (by omega) (by omega) (by omega)).cast ?_
     rfl
    ·
     rfl


end Go.Proofs.Ytjpldgicibnkcaa
