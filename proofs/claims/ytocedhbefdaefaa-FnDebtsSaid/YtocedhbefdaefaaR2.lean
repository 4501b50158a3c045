/- Words and day books drawn. -/
import Derived.Test.YtocedhbefdaefaaR1
import Derived.Test.YtocedhbefdaefaaW4
import Derived.Test.YtocedhbefdaefaaNarrow
namespace Go.Proofs.Ytocedhbefdaefaa
open Go Go.RowKit

theorem el_len {xs : List Str} {i : Nat} {x : Str} (n : Nat) (h : (xs.all fun s => decide (s.length ≤ n)) = true) (hx : xs[i]? = some x) : x.length ≤ n := by
  rw [List.all_eq_true] at h
  simpa using h x (List.mem_of_getElem? hx)

theorem ret_tc {fn : Func} {R : Ending → World → Prop} {N : Nat} {a : Act} {w : World} {l : List (Nat × Value)} {P : Program} {t0 : Tmp} {v0 : Value} {t1 : Tmp} {e1 : TypeId} {fs1 : Array Field} {p1 : Addr} {cs1 : List Value} {sz1 by1 : Nat} {z1 : Value}
    (ha : Sl N a l) (hr : fn.results = #[.tmp t0, .cell t1 e1]) (x0 : lk l t0 = some v0) (x1 : lk l t1 = some (.pointer (some p1))) (T1 : P.underlying e1 = some (.struct fs1)) (E1 : TI P e1 sz1 by1 z1) (l1 : cs1.length = sz1) (c1 : CellsAt w p1 cs1)
    (h : R (.returned (.tuple #[v0, .agg cs1.toArray])) w) : bodyPost P fn R .ret a w := by
  subst l1
  have e0' := ha.get t0 _ x0
  have e1' := ha.get t1 _ x1
  rw [Array.getD_eq_getD_getElem?] at e0' e1'
  refine ⟨ha.defers, _, ?_, h⟩
  simp [results, hr, e0', e1', asAddr, loadVar, isAgg, run_underlying T1, E1.sizeOf, run_loadCells_list w p1 cs1 (fun j v hv => c1 j v hv)]

theorem add_ok {xs : List Ent} {e : Ent} (h : addC xs e = 0) : dbB xs = true ∧ xs.length < 60 ∧ dbB (xs ++ [e]) = true ∧ addL xs e = xs ++ [e] := by
  unfold addC at h
  split at h
  · rename_i h1
    have hl := dbB_len h1
    split at h
    · cases h
    · rename_i h2
      split at h
      · rename_i h3
        refine ⟨h1, by omega, h3, ?_⟩
        unfold addL; rw [if_pos h1, if_neg h2, if_pos h3]
      · cases h
  · cases h
theorem add_db {xs : List Ent} {e : Ent} (h : addC xs e = 0) : dbB (addL xs e) = true := by
  have h1 := add_ok h; rw [h1.2.2.2]; exact h1.2.2.1

set_option maxHeartbeats 8000000 in
theorem c_spec_l01Good (w0 : World) (g_s b_s : Nat) (h_s : Src w0 g_s b_s 81) :
  Calls Try.prog 80 #[.pointer (some (⟨g_s, 0, none⟩ : Addr))] w0 (RetS w0 (some g_s) (fun v w1 => Src w1 g_s b_s 81 ∧ (fun v w1 => ∃ (d : Str), (d.length ≤ 17) ∧ (fun v _ => v = St (d)) v w1) v w1)) := by
 refine enter (N := 8) Try.func80 rfl rfl rfl ?_
 intro a0 ha0
 have hx0 := Stp.rfl' w0 (some g_s)
 have hgl_s := h_s.lt
 refine wp_seq ?_
 refine wp_region_lit ?_
 refine wl_val ha0 rfl rfl rfl (op_assign ha0 rfl rfl) ?_
 intro a1 ha1; clear ha0 a0
 refine wpList_nil ?_
 refine then_n ?_
 refine wp_seq ?_
 refine wp_region_lit ?_
 refine wl_eff ha1 rfl rfl rfl (op_buildSlice (s := shStr) (xs := [([97, 100, 97] : Str), ([98, 114, 117, 110, 111] : Str), ([99, 108, 97, 114, 97] : Str), ([100, 111, 114, 97] : Str), ([101, 109, 105, 108] : Str), ([102, 114, 105, 100, 97] : Str), ([103, 117, 115, 116, 97, 118] : Str), ([104, 97, 110, 110, 97] : Str), ([105, 118, 97, 110] : Str), ([106, 97, 110, 97] : Str), ([107, 97, 114, 108] : Str), ([108, 101, 110, 97] : Str)]) (cs := [St (([97, 100, 97] : Str)), St (([98, 114, 117, 110, 111] : Str)), St (([99, 108, 97, 114, 97] : Str)), St (([100, 111, 114, 97] : Str)), St (([101, 109, 105, 108] : Str)), St (([102, 114, 105, 100, 97] : Str)), St (([103, 117, 115, 116, 97, 118] : Str)), St (([104, 97, 110, 110, 97] : Str)), St (([105, 118, 97, 110] : Str)), St (([106, 97, 110, 97] : Str)), St (([107, 97, 114, 108] : Str)), St (([108, 101, 110, 97] : Str))]) (vs := [(0, St (([97, 100, 97] : Str))), (1, St (([98, 114, 117, 110, 111] : Str))), (2, St (([99, 108, 97, 114, 97] : Str))), (3, St (([100, 111, 114, 97] : Str))), (4, St (([101, 109, 105, 108] : Str))), (5, St (([102, 114, 105, 100, 97] : Str))), (6, St (([103, 117, 115, 116, 97, 118] : Str))), (7, St (([104, 97, 110, 110, 97] : Str))), (8, St (([105, 118, 97, 110] : Str))), (9, St (([106, 97, 110, 97] : Str))), (10, St (([107, 97, 114, 108] : Str))), (11, St (([108, 101, 110, 97] : Str)))]) (S := fun _ => False) (le := w0.heap.size) ha1 rfl pos_shStr Try.underlying52 ti9 rfl rfl (by decide) (by kernel_rfl) ⟨mk_shStr (([97, 100, 97] : Str)) (by first | omega | (simp only []; omega) | (simp; done)), mk_shStr (([98, 114, 117, 110, 111] : Str)) (by first | omega | (simp only []; omega) | (simp; done)), mk_shStr (([99, 108, 97, 114, 97] : Str)) (by first | omega | (simp only []; omega) | (simp; done)), mk_shStr (([100, 111, 114, 97] : Str)) (by first | omega | (simp only []; omega) | (simp; done)), mk_shStr (([101, 109, 105, 108] : Str)) (by first | omega | (simp only []; omega) | (simp; done)), mk_shStr (([102, 114, 105, 100, 97] : Str)) (by first | omega | (simp only []; omega) | (simp; done)), mk_shStr (([103, 117, 115, 116, 97, 118] : Str)) (by first | omega | (simp only []; omega) | (simp; done)), mk_shStr (([104, 97, 110, 110, 97] : Str)) (by first | omega | (simp only []; omega) | (simp; done)), mk_shStr (([105, 118, 97, 110] : Str)) (by first | omega | (simp only []; omega) | (simp; done)), mk_shStr (([106, 97, 110, 97] : Str)) (by first | omega | (simp only []; omega) | (simp; done)), mk_shStr (([107, 97, 114, 108] : Str)) (by first | omega | (simp only []; omega) | (simp; done)), mk_shStr (([108, 101, 110, 97] : Str)) (by first | omega | (simp only []; omega) | (simp; done)), rfl⟩ (fun _ h => h.elim)) ?_
 rintro v2 w3 ⟨ho4, he5, hob6⟩ a7 ha7; clear ha1 a1
 have hx8 := hx0.trans' (Stp.of_ext he5 _)
 have hzhx8 := he5.size
 replace h_s := h_s.ext he5
 refine wl_val ha7 rfl rfl rfl (op_move ha7 rfl rfl) ?_
 intro a9 ha9; clear ha7 a7
 refine wl_callS ha9 rfl rfl rfl (op_call ha9 rfl cb73 rfl) (c_spec_l01Next _ g_s b_s (12 : Int) h_s) ?_
 rintro v10 w11 he12 ⟨hS13, ⟨q14, hq15, hq16, hq17, rfl⟩⟩ a18 ha18; clear ha9 a9
 have hx19 := hx8.trans' he12
 have hzhx19 := he12.size
 first | replace ho4 := ho4.stp he12 (by intro q hq; cases hq; omega) | replace ho4 := ho4.stpF flat_shStr he12 (by intro q hq; cases hq; exact ho4.ne_box (by assumption) rfl)
 have hSlhS13 := hS13.lt
 obtain ⟨x20, hx20⟩ := get_ex (xs := [([97, 100, 97] : Str), ([98, 114, 117, 110, 111] : Str), ([99, 108, 97, 114, 97] : Str), ([100, 111, 114, 97] : Str), ([101, 109, 105, 108] : Str), ([102, 114, 105, 100, 97] : Str), ([103, 117, 115, 116, 97, 118] : Str), ([104, 97, 110, 110, 97] : Str), ([105, 118, 97, 110] : Str), ([106, 97, 110, 97] : Str), ([107, 97, 114, 108] : Str), ([108, 101, 110, 97] : Str)]) (j := ((q14 : Int)).toNat) (by first | omega | (simp only [List.length_cons, List.length_nil]; omega))
 obtain ⟨p21, c22, hi23, hc24, hr25, hs26⟩ := Rds.at_ (ho4.rds pos_shStr) hx20
 obtain ⟨rfl, b27⟩ := inv_shStr hr25
 obtain ⟨_, _⟩ : _ ∧ _ := hs26
 have hdlx20 := el_len 17 (by rfl) hx20
 refine wl_val ha18 rfl rfl rfl (op_indexAddr ha18 rfl Try.underlying52 ti9 rfl rfl (by omega) hi23) ?_
 intro a28 ha28; clear ha18 a18
 refine wl_val ha28 rfl rfl rfl (op_loadH ha28 rfl Try.underlying9 rfl rfl hc24 rfl) ?_
 intro a29 ha29; clear ha28 a28
 refine wl_val ha29 rfl rfl rfl (op_assign ha29 rfl rfl) ?_
 intro a30 ha30; clear ha29 a29
 refine wpList_nil ?_
 refine then_n ?_
 refine wp_ret ?_
 refine ret1 ha30 rfl rfl ?_
 clear ha30 a30
 refine ret_mkS hx19 ⟨hS13, ?_⟩
 refine ⟨(x20 : Str), (by first | omega | (simp; omega)), ?_⟩
 exact (congrArg St (by rfl))

set_option maxHeartbeats 8000000 in
theorem c_spec_l01DrawWord (w0 : World) (g_s b_s : Nat) (h_s : Src w0 g_s b_s 81) :
  Calls Try.prog 78 #[.pointer (some (⟨g_s, 0, none⟩ : Addr))] w0 (RetS w0 (some g_s) (fun v w1 => Src w1 g_s b_s 81 ∧ (fun v w1 => ∃ (d : Str), (d.length ≤ 17) ∧ (fun v _ => v = St (d)) v w1) v w1)) := by
 refine enter (N := 13) Try.func78 rfl rfl rfl ?_
 intro a0 ha0
 have hx0 := Stp.rfl' w0 (some g_s)
 have hgl_s := h_s.lt
 refine wp_seq ?_
 refine wp_region_lit ?_
 refine wl_val ha0 rfl rfl rfl (op_assign ha0 rfl rfl) ?_
 intro a1 ha1; clear ha0 a0
 refine wpList_nil ?_
 refine then_n ?_
 refine wp_seq ?_
 refine wp_seq ?_
 refine wp_region_lit ?_
 refine wl_val ha1 rfl rfl rfl (op_move ha1 rfl rfl) ?_
 intro a2 ha2; clear ha1 a1
 refine wl_callS ha2 rfl rfl rfl (op_call ha2 rfl cb73 rfl) (c_spec_l01Next _ g_s b_s (24 : Int) h_s) ?_
 rintro v3 w4 he5 ⟨hS6, ⟨q7, hq8, hq9, hq10, rfl⟩⟩ a11 ha11; clear ha2 a2
 have hx12 := hx0.trans' he5
 have hzhx12 := he5.size
 have hSlhS6 := hS6.lt
 refine wl_val ha11 rfl rfl rfl (op_eql ha11 rfl rfl rfl) ?_
 intro a13 ha13; clear ha11 a11
 refine wpList_nil ?_
 refine then_n ?_
 by_cases c14 : (q7 : Int) = (0 : Int)
 ·
  rw [decide_eq_true c14] at ha13
  refine cond_t ha13 rfl ?_
  refine wp_seq ?_
  refine wp_region_lit ?_
  refine wl_eff ha13 rfl rfl rfl (op_buildSlice (s := shStr) (xs := [([] : Str), ([65, 100, 97] : Str), ([97, 49] : Str), ([97, 98, 99, 100, 101, 102, 103, 104, 105, 106, 107, 108, 109, 110, 111, 112] : Str), ([97, 98, 99, 100, 101, 102, 103, 104, 105, 106, 107, 108, 109, 110, 111, 112, 113] : Str), ([97, 32, 98] : Str)]) (cs := [St (([] : Str)), St (([65, 100, 97] : Str)), St (([97, 49] : Str)), St (([97, 98, 99, 100, 101, 102, 103, 104, 105, 106, 107, 108, 109, 110, 111, 112] : Str)), St (([97, 98, 99, 100, 101, 102, 103, 104, 105, 106, 107, 108, 109, 110, 111, 112, 113] : Str)), St (([97, 32, 98] : Str))]) (vs := [(0, St (([] : Str))), (1, St (([65, 100, 97] : Str))), (2, St (([97, 49] : Str))), (3, St (([97, 98, 99, 100, 101, 102, 103, 104, 105, 106, 107, 108, 109, 110, 111, 112] : Str))), (4, St (([97, 98, 99, 100, 101, 102, 103, 104, 105, 106, 107, 108, 109, 110, 111, 112, 113] : Str))), (5, St (([97, 32, 98] : Str)))]) (S := fun _ => False) (le := w4.heap.size) ha13 rfl pos_shStr Try.underlying52 ti9 rfl rfl (by decide) (by kernel_rfl) ⟨mk_shStr (([] : Str)) (by first | omega | (simp only []; omega) | (simp; done)), mk_shStr (([65, 100, 97] : Str)) (by first | omega | (simp only []; omega) | (simp; done)), mk_shStr (([97, 49] : Str)) (by first | omega | (simp only []; omega) | (simp; done)), mk_shStr (([97, 98, 99, 100, 101, 102, 103, 104, 105, 106, 107, 108, 109, 110, 111, 112] : Str)) (by first | omega | (simp only []; omega) | (simp; done)), mk_shStr (([97, 98, 99, 100, 101, 102, 103, 104, 105, 106, 107, 108, 109, 110, 111, 112, 113] : Str)) (by first | omega | (simp only []; omega) | (simp; done)), mk_shStr (([97, 32, 98] : Str)) (by first | omega | (simp only []; omega) | (simp; done)), rfl⟩ (fun _ h => h.elim)) ?_
  rintro v15 w16 ⟨ho17, he18, hob19⟩ a20 ha20; clear ha13 a13
  have hx21 := hx12.trans' (Stp.of_ext he18 _)
  have hzhx21 := he18.size
  replace hS6 := hS6.ext he18
  refine wl_val ha20 rfl rfl rfl (op_move ha20 rfl rfl) ?_
  intro a22 ha22; clear ha20 a20
  refine wl_callS ha22 rfl rfl rfl (op_call ha22 rfl cb73 rfl) (c_spec_l01Next _ g_s b_s (6 : Int) hS6) ?_
  rintro v23 w24 he25 ⟨hS26, ⟨q27, hq28, hq29, hq30, rfl⟩⟩ a31 ha31; clear ha22 a22
  have hx32 := hx21.trans' he25
  have hzhx32 := he25.size
  first | replace ho17 := ho17.stp he25 (by intro q hq; cases hq; omega) | replace ho17 := ho17.stpF flat_shStr he25 (by intro q hq; cases hq; exact ho17.ne_box (by assumption) rfl)
  clear hS6
  have hSlhS26 := hS26.lt
  obtain ⟨x33, hx33⟩ := get_ex (xs := [([] : Str), ([65, 100, 97] : Str), ([97, 49] : Str), ([97, 98, 99, 100, 101, 102, 103, 104, 105, 106, 107, 108, 109, 110, 111, 112] : Str), ([97, 98, 99, 100, 101, 102, 103, 104, 105, 106, 107, 108, 109, 110, 111, 112, 113] : Str), ([97, 32, 98] : Str)]) (j := ((q27 : Int)).toNat) (by first | omega | (simp only [List.length_cons, List.length_nil]; omega))
  obtain ⟨p34, c35, hi36, hc37, hr38, hs39⟩ := Rds.at_ (ho17.rds pos_shStr) hx33
  obtain ⟨rfl, b40⟩ := inv_shStr hr38
  obtain ⟨_, _⟩ : _ ∧ _ := hs39
  have hdlx33 := el_len 17 (by rfl) hx33
  refine wl_val ha31 rfl rfl rfl (op_indexAddr ha31 rfl Try.underlying52 ti9 rfl rfl (by omega) hi36) ?_
  intro a41 ha41; clear ha31 a31
  refine wl_val ha41 rfl rfl rfl (op_loadH ha41 rfl Try.underlying9 rfl rfl hc37 rfl) ?_
  intro a42 ha42; clear ha41 a41
  refine wl_val ha42 rfl rfl rfl (op_assign ha42 rfl rfl) ?_
  intro a43 ha43; clear ha42 a42
  refine wpList_nil ?_
  refine then_n ?_
  refine wp_ret ?_
  refine then_r ?_
  refine ret1 ha43 rfl rfl ?_
  clear ha43 a43
  refine ret_mkS hx32 ⟨hS26, ?_⟩
  refine ⟨(x33 : Str), (by first | omega | (simp; omega)), ?_⟩
  exact (congrArg St (by rfl))
 ·
  rw [decide_eq_false c14] at ha13
  refine cond_f ha13 rfl ?_
  refine wp_skip ?_
  refine then_n ?_
  refine wp_seq ?_
  refine wp_region_lit ?_
  refine wl_val ha13 rfl rfl rfl (op_move ha13 rfl rfl) ?_
  intro a44 ha44; clear ha13 a13
  refine wl_callS ha44 rfl rfl rfl (op_call ha44 rfl cb80 rfl) (c_spec_l01Good _ g_s b_s hS6) ?_
  rintro v45 w46 he47 ⟨hS48, ⟨q49, hq50, rfl⟩⟩ a51 ha51; clear ha44 a44
  have hx52 := hx12.trans' he47
  have hzhx52 := he47.size
  clear hS6
  have hSlhS48 := hS48.lt
  refine wl_val ha51 rfl rfl rfl (op_assign ha51 rfl rfl) ?_
  intro a53 ha53; clear ha51 a51
  refine wpList_nil ?_
  refine then_n ?_
  refine wp_ret ?_
  refine ret1 ha53 rfl rfl ?_
  clear ha53 a53
  refine ret_mkS hx52 ⟨hS48, ?_⟩
  refine ⟨((q49) : Str), (by first | omega | (simp; omega)), ?_⟩
  exact (congrArg St (by rfl))

set_option maxHeartbeats 8000000 in
theorem c_spec_l33Good (w0 : World) (g_s b_s : Nat) (h_s : Src w0 g_s b_s 81) :
  Calls Try.prog 77 #[.pointer (some (⟨g_s, 0, none⟩ : Addr))] w0 (RetS w0 (some g_s) (fun v w1 => Src w1 g_s b_s 81 ∧ (fun v w1 => ∃ (l : List Ent), (dbB l = true) ∧ (fun v w1 => Own shEnt 41 w0.heap.size w0.heap.size w1.heap.size w1 v (l)) v w1) v w1)) := by
 refine enter (N := 72) Try.func77 rfl rfl rfl ?_
 intro a0 ha0
 have hx0 := Stp.rfl' w0 (some g_s)
 have hgl_s := h_s.lt
 refine wp_seq ?_
 refine wp_region_lit ?_
 refine wl_val ha0 rfl rfl rfl (op_assign ha0 rfl rfl) ?_
 intro a1 ha1; clear ha0 a0
 refine wpList_nil ?_
 refine then_n ?_
 refine wp_seq ?_
 refine wp_region_lit ?_
 refine wl_eff ha1 rfl rfl rfl (op_buildSlice (s := shEnt) (xs := ([] : List (Int × Int × Str × Int))) (cs := []) (vs := []) (S := fun _ => False) (le := w0.heap.size) ha1 rfl pos_shEnt Try.underlying25 ti41 rfl rfl (by decide) (by kernel_rfl) rfl (fun _ h => h.elim)) ?_
 rintro v2 w3 ⟨ho4, he5, hob6⟩ a7 ha7; clear ha1 a1
 have hx8 := hx0.trans' (Stp.of_ext he5 _)
 have hzhx8 := he5.size
 replace h_s := h_s.ext he5
 refine wl_val ha7 rfl rfl rfl (op_assign ha7 rfl rfl) ?_
 intro a9 ha9; clear ha7 a7
 refine wpList_nil ?_
 refine then_n ?_
 refine wp_seq ?_
 refine wp_region_lit ?_
 refine wl_val ha9 rfl rfl rfl (op_move ha9 rfl rfl) ?_
 intro a10 ha10; clear ha9 a9
 refine wl_callS ha10 rfl rfl rfl (op_call ha10 rfl cb73 rfl) (c_spec_l01Next _ g_s b_s (20 : Int) h_s) ?_
 rintro v11 w12 he13 ⟨hS14, ⟨q15, hq16, hq17, hq18, rfl⟩⟩ a19 ha19; clear ha10 a10
 have hx20 := hx8.trans' he13
 have hzhx20 := he13.size
 first | replace ho4 := ho4.stp he13 (by intro q hq; cases hq; omega) | replace ho4 := ho4.stpF flat_shEnt he13 (by intro q hq; cases hq; exact ho4.ne_box (by assumption) rfl)
 have hSlhS14 := hS14.lt
 refine wl_val ha19 rfl rfl rfl (op_assign ha19 rfl rfl) ?_
 intro a21 ha21; clear ha19 a19
 refine wpList_nil ?_
 refine then_n ?_
 refine wp_seq ?_
 refine wp_seq ?_
 refine wp_region_lit ?_
 refine wl_val ha21 rfl rfl rfl (op_move ha21 rfl rfl) ?_
 intro a22 ha22; clear ha21 a21
 refine wl_callS ha22 rfl rfl rfl (op_call ha22 rfl cb73 rfl) (c_spec_l01Next _ g_s b_s (12 : Int) hS14) ?_
 rintro v23 w24 he25 ⟨hS26, ⟨q27, hq28, hq29, hq30, rfl⟩⟩ a31 ha31; clear ha22 a22
 have hx32 := hx20.trans' he25
 have hzhx32 := he25.size
 first | replace ho4 := ho4.stp he25 (by intro q hq; cases hq; omega) | replace ho4 := ho4.stpF flat_shEnt he25 (by intro q hq; cases hq; exact ho4.ne_box (by assumption) rfl)
 clear hS14
 have hSlhS26 := hS26.lt
 refine wl_val ha31 rfl rfl rfl (op_assign ha31 rfl rfl) ?_
 intro a33 ha33; clear ha31 a31
 refine wpList_nil ?_
 refine then_n ?_
 refine wp_block ?_
 refine loop_inv (X := Int × Int × Value × (List Ent)) (fun (⟨m, d, v, xs⟩ : Int × Int × Value × (List Ent)) fr wl => Sl 72 fr [(0, .pointer (some (⟨g_s, 0, none⟩ : Addr))), (3, v), (4, .int .i64 d), (5, .int .i64 m)] ∧ Stp w0 wl (some g_s) ∧ Src wl g_s b_s 81 ∧ Own shEnt 41 w0.heap.size w0.heap.size wl.heap.size wl v xs ∧ w24.heap.size ≤ wl.heap.size ∧ (0 ≤ m) ∧ (m ≤ 12) ∧ (0 ≤ d) ∧ (d + 2 * m ≤ 100) ∧ (dbB xs = true)) (fun (⟨m, d, v, xs⟩ : Int × Int × Value × (List Ent)) => m.toNat) ((q27 : Int), (q15 : Int), v2, ([] : List (Int × Int × Str × Int))) ?_ ?_
 ·
  exact ⟨(Sl.cons_ ha33 rfl rfl (Sl.cons_ ha33 rfl rfl (Sl.cons_ ha33 rfl (int_eq (by omega)) (Sl.cons_ ha33 rfl (int_eq (by omega)) (Sl.nil_ ha33))))), hx32, hS26, (ho4.fin (by omega) (by omega) (by omega)), (by omega), (by omega), (by omega), (by omega), (by omega), (by rfl)⟩
 ·
  clear ha33 a33
  rintro ⟨m, d, v, xs⟩ a38 w34 ⟨ha38, hx35, hf36, hf37, hzl39, hm0, hm1, hd0, hd1, hV⟩
  have hzhx35 := hx35.size
  have hgl40 := hf36.lt
  have hlv := dbB_len hV
  have hev := dbB_ent hV
  refine wp_seq ?_
  refine wp_seq ?_
  refine wp_region_lit ?_
  refine wl_val ha38 rfl rfl rfl (op_move ha38 rfl rfl) ?_
  intro a41 ha41; clear ha38 a38
  refine wl_val ha41 rfl rfl rfl (op_gtr ha41 rfl rfl rfl) ?_
  intro a42 ha42; clear ha41 a41
  refine wpList_nil ?_
  refine then_n ?_
  by_cases c43 : (0 : Int) < m
  ·
   rw [decide_eq_true c43] at ha42
   refine cond_t ha42 rfl ?_
   refine wp_skip ?_
   refine then_n ?_
   refine wp_seq ?_
   refine wp_block ?_
   refine seq_mid (fun fr wl => ∃ (g44 : Nat) (q45 : Int) (q46 : Str) (q47 : Int), Sl 72 fr [(0, .pointer (some (⟨g_s, 0, none⟩ : Addr))), (3, v), (4, .int .i64 d), (5, .int .i64 m), (6, .pointer (some (⟨g44, 0, none⟩ : Addr)))] ∧ Stp w0 wl (some g_s) ∧ Src wl g_s b_s 81 ∧ Own shEnt 41 w0.heap.size w0.heap.size w34.heap.size wl v xs ∧ Box wl g44 41 [.int .i64 d, .int .i64 (q45 : Int), St q46, .int .i64 ((100 : Int) * ((1 : Int) + (q47 : Int)))] ∧ w34.heap.size ≤ g44 ∧ (0 : Int) ≤ q45 ∧ q45 ≤ (100 : Int) ∧ q46.length ≤ 17 ∧ (0 : Int) ≤ q47 ∧ q47 ≤ (100 : Int) ∧ w34.heap.size ≤ wl.heap.size) ?_ ?_
   ·
    refine dr_enter (fun wa_ wb_ => Stp wa_ wb_ (some g_s)) follows_mixed ?_
    intro w53 he54
    have hx55 := hx35.trans' (Stp.of_ext he54 _)
    have hzhx55 := he54.size
    replace hf36 := hf36.ext he54
    replace hf37 := hf37.ext he54
    have hs56 : Ext w53 w53 := Ext.rfl' _
    refine dr_val (i := 0) ha42 rfl (by kernel_rfl) (by kernel_rfl) (by kernel_rfl) rfl rfl rfl (Stp.of_ext hs56 _) (fun w' hw' => op_move ha42 rfl rfl) ?_
    intro a57 ha57; clear ha42 a42
    refine dr_val (i := 1) ha57 rfl (by kernel_rfl) (by kernel_rfl) (by kernel_rfl) rfl rfl rfl (Stp.of_ext hs56 _) (fun w' hw' => op_move ha57 rfl rfl) ?_
    intro a58 ha58; clear ha57 a57
    refine dr_val (i := 5) ha58 rfl (by kernel_rfl) (by kernel_rfl) (by kernel_rfl) rfl rfl rfl (Stp.of_ext hs56 _) (fun w' hw' => op_move ha58 rfl rfl) ?_
    intro a59 ha59; clear ha58 a58
    refine dr_val (i := 9) ha59 rfl (by kernel_rfl) (by kernel_rfl) (by kernel_rfl) rfl rfl rfl (Stp.of_ext hs56 _) (fun w' hw' => op_move ha59 rfl rfl) ?_
    intro a60 ha60; clear ha59 a59
    refine dr_three (i := 2) (j := 4) (k := 14) (by kernel_rfl) ?_ ?_ ?_
    ·
     refine po_eff ha60 rfl rfl rfl rfl (op_buildSlice (s := shI64) (xs := [(0 : Int), (0 : Int), (1 : Int), (2 : Int), (3 : Int)]) (cs := [.int .i64 (0 : Int), .int .i64 (0 : Int), .int .i64 (1 : Int), .int .i64 (2 : Int), .int .i64 (3 : Int)]) (vs := [(0, .int .i64 (0 : Int)), (1, .int .i64 (0 : Int)), (2, .int .i64 (1 : Int)), (3, .int .i64 (2 : Int)), (4, .int .i64 (3 : Int))]) (S := fun _ => False) (le := w53.heap.size) ha60 rfl pos_shI64 Try.underlying45 ti2 rfl rfl (by decide) (by kernel_rfl) ⟨mk_shI64 ((0 : Int)) (by first | assumption | omega | (constructor <;> omega) | (dsimp only; omega) | (simp; done) | (simp; omega)), mk_shI64 ((0 : Int)) (by first | assumption | omega | (constructor <;> omega) | (dsimp only; omega) | (simp; done) | (simp; omega)), mk_shI64 ((1 : Int)) (by first | assumption | omega | (constructor <;> omega) | (dsimp only; omega) | (simp; done) | (simp; omega)), mk_shI64 ((2 : Int)) (by first | assumption | omega | (constructor <;> omega) | (dsimp only; omega) | (simp; done) | (simp; omega)), mk_shI64 ((3 : Int)) (by first | assumption | omega | (constructor <;> omega) | (dsimp only; omega) | (simp; done) | (simp; omega)), rfl⟩ (fun _ h => h.elim)) ?_
     rintro v61 w62 ⟨ho63, he64, hob65⟩ a66 ha66; clear ha60 a60
     have hs67 := hs56.trans' he64
     have hx68 := hx55.trans' (Stp.of_ext he64 _)
     have hzhx68 := he64.size
     refine ⟨(Stp.of_ext hs67 _), ?_⟩
     replace hf36 := hf36.ext hs67
     replace hf37 := hf37.ext hs67
     refine dr_narrow (S' := fun w' => Stp w62 w' _) (fun w' h' => (Stp.of_ext hs67 _).trans' h') _ _ _ _ ?_
     have hs69 : Ext w62 w62 := Ext.rfl' _
     refine dr_three (i := 3) (j := 4) (k := 14) (by kernel_rfl) ?_ ?_ ?_
     ·
      refine po_callS ha66 rfl rfl rfl rfl (op_call ha66 rfl cb72 rfl) (c_spec_l01Pick _ g_s b_s v61 ([(0 : Int), (0 : Int), (1 : Int), (2 : Int), (3 : Int)]) hf36 (ho63.rds pos_shI64) (by rintro ⟨_, _⟩; omega) (by first | assumption | omega | (constructor <;> omega) | (dsimp only; omega) | (simp; done) | (simp; omega))) ?_
      rintro v70 w71 he72 ⟨hS73, ⟨q74, hq75, rfl⟩⟩ a76 ha76; clear ha66 a66
      have hx77 := hx68.trans' he72
      have hzhx77 := he72.size
      first | replace hf37 := hf37.stp he72 (by intro q hq; cases hq; omega) | replace hf37 := hf37.stpF flat_shEnt he72 (by intro q hq; cases hq; exact hf37.ne_box (by assumption) rfl)
      first | replace ho63 := ho63.stp he72 (by intro q hq; cases hq; omega) | replace ho63 := ho63.stpF flat_shI64 he72 (by intro q hq; cases hq; exact ho63.ne_box (by assumption) rfl)
      clear hf36
      have hSlhS73 := hS73.lt
      have hs78 := (Stp.of_ext hs69 (some g_s)).trans' he72
      refine ⟨hs78, ?_⟩
      simp only [List.mem_cons, List.not_mem_nil, or_false] at hq75
      refine dr_narrow (S' := fun w' => Stp w71 w' _) (fun w' h' => hs78.trans' h') _ _ _ _ ?_
      have hs79 : Ext w71 w71 := Ext.rfl' _
      refine dr_three (i := 4) (j := 6) (k := 14) (by kernel_rfl) ?_ ?_ ?_
      ·
       refine po_eff ha76 rfl rfl rfl rfl (op_buildSlice (s := shStr) (xs := [([97, 100, 97] : Str), ([98, 111] : Str), ([99, 121] : Str)]) (cs := [St (([97, 100, 97] : Str)), St (([98, 111] : Str)), St (([99, 121] : Str))]) (vs := [(0, St (([97, 100, 97] : Str))), (1, St (([98, 111] : Str))), (2, St (([99, 121] : Str)))]) (S := fun _ => False) (le := w71.heap.size) ha76 rfl pos_shStr Try.underlying52 ti9 rfl rfl (by decide) (by kernel_rfl) ⟨mk_shStr (([97, 100, 97] : Str)) (by first | assumption | omega | (constructor <;> omega) | (dsimp only; omega) | (simp; done) | (simp; omega)), mk_shStr (([98, 111] : Str)) (by first | assumption | omega | (constructor <;> omega) | (dsimp only; omega) | (simp; done) | (simp; omega)), mk_shStr (([99, 121] : Str)) (by first | assumption | omega | (constructor <;> omega) | (dsimp only; omega) | (simp; done) | (simp; omega)), rfl⟩ (fun _ h => h.elim)) ?_
       rintro v80 w81 ⟨ho82, he83, hob84⟩ a85 ha85; clear ha76 a76
       have hs86 := hs79.trans' he83
       have hx87 := hx77.trans' (Stp.of_ext he83 _)
       have hzhx87 := he83.size
       refine ⟨(Stp.of_ext hs86 _), ?_⟩
       replace hf37 := hf37.ext hs86
       replace ho63 := ho63.ext hs86
       replace hS73 := hS73.ext hs86
       refine dr_narrow (S' := fun w' => Stp w81 w' _) (fun w' h' => (Stp.of_ext hs86 _).trans' h') _ _ _ _ ?_
       have hs88 : Ext w81 w81 := Ext.rfl' _
       refine dr_two (i := 6) (j := 14) (by kernel_rfl) ?_ ?_
       ·
        refine po_callS ha85 rfl rfl rfl rfl (op_call ha85 rfl cb73 rfl) (c_spec_l01Next _ g_s b_s (3 : Int) hS73) ?_
        rintro v89 w90 he91 ⟨hS92, ⟨q93, hq94, hq95, hq96, rfl⟩⟩ a97 ha97; clear ha85 a85
        have hx98 := hx87.trans' he91
        have hzhx98 := he91.size
        first | replace hf37 := hf37.stp he91 (by intro q hq; cases hq; omega) | replace hf37 := hf37.stpF flat_shEnt he91 (by intro q hq; cases hq; exact hf37.ne_box (by assumption) rfl)
        first | replace ho63 := ho63.stp he91 (by intro q hq; cases hq; omega) | replace ho63 := ho63.stpF flat_shI64 he91 (by intro q hq; cases hq; exact ho63.ne_box (by assumption) rfl)
        first | replace ho82 := ho82.stp he91 (by intro q hq; cases hq; omega) | replace ho82 := ho82.stpF flat_shStr he91 (by intro q hq; cases hq; exact ho82.ne_box (by assumption) rfl)
        clear hS73
        have hSlhS92 := hS92.lt
        have hs99 := (Stp.of_ext hs88 (some g_s)).trans' he91
        refine ⟨hs99, ?_⟩
        refine dr_narrow (S' := fun w' => Stp w90 w' _) (fun w' h' => hs99.trans' h') _ _ _ _ ?_
        have hs100 : Ext w90 w90 := Ext.rfl' _
        obtain ⟨x101, hx101⟩ := get_ex (xs := [([97, 100, 97] : Str), ([98, 111] : Str), ([99, 121] : Str)]) (j := ((q93 : Int)).toNat) (by first | omega | (simp only [List.length_cons, List.length_nil]; omega))
        obtain ⟨p102, c103, hi104, hc105, hr106, hs107⟩ := Rds.at_ (ho82.rds pos_shStr) hx101
        obtain ⟨rfl, b108⟩ := inv_shStr hr106
        obtain ⟨_, _⟩ : _ ∧ _ := hs107
        have hdlx101 := el_len 17 (by rfl) hx101
        refine dr_val (i := 7) ha97 rfl (by kernel_rfl) (by kernel_rfl) (by kernel_rfl) rfl rfl rfl (Stp.of_ext hs100 _) (fun w' hw' => op_indexAddr ha97 rfl Try.underlying52 ti9 rfl rfl (by omega) hi104) ?_
        intro a109 ha109; clear ha97 a97
        refine dr_val (i := 8) ha109 rfl (by kernel_rfl) (by kernel_rfl) (by kernel_rfl) rfl rfl rfl (Stp.of_ext hs100 _) (fun w' hw' => op_loadH ha109 rfl Try.underlying9 rfl rfl (hc105.stp hw' (by intro q hq; cases hq; omega)) rfl) ?_
        intro a110 ha110; clear ha109 a109
        refine dr_two (i := 10) (j := 14) (by kernel_rfl) ?_ ?_
        ·
         refine po_callS ha110 rfl rfl rfl rfl (op_call ha110 rfl cb73 rfl) (c_spec_l01Next _ g_s b_s (30 : Int) hS92) ?_
         rintro v111 w112 he113 ⟨hS114, ⟨q115, hq116, hq117, hq118, rfl⟩⟩ a119 ha119; clear ha110 a110
         have hx120 := hx98.trans' he113
         have hzhx120 := he113.size
         first | replace hf37 := hf37.stp he113 (by intro q hq; cases hq; omega) | replace hf37 := hf37.stpF flat_shEnt he113 (by intro q hq; cases hq; exact hf37.ne_box (by assumption) rfl)
         first | replace ho63 := ho63.stp he113 (by intro q hq; cases hq; omega) | replace ho63 := ho63.stpF flat_shI64 he113 (by intro q hq; cases hq; exact ho63.ne_box (by assumption) rfl)
         first | replace ho82 := ho82.stp he113 (by intro q hq; cases hq; omega) | replace ho82 := ho82.stpF flat_shStr he113 (by intro q hq; cases hq; exact ho82.ne_box (by assumption) rfl)
         replace hc105 := hc105.stp he113 (by intro q hq; cases hq; omega)
         clear hS92
         have hSlhS114 := hS114.lt
         have hs121 := (Stp.of_ext hs100 (some g_s)).trans' he113
         refine ⟨hs121, ?_⟩
         refine dr_narrow (S' := fun w' => Stp w112 w' _) (fun w' h' => hs121.trans' h') _ _ _ _ ?_
         have hs122 : Ext w112 w112 := Ext.rfl' _
         refine dr_val (i := 11) ha119 rfl (by kernel_rfl) (by kernel_rfl) (by kernel_rfl) rfl rfl rfl (Stp.of_ext hs122 _) (fun w' hw' => (op_add ha119 rfl rfl rfl).int (IntWalk.i64_in _ (by omega))) ?_
         intro a123 ha123; clear ha119 a119
         refine dr_val (i := 12) ha123 rfl (by kernel_rfl) (by kernel_rfl) (by kernel_rfl) rfl rfl rfl (Stp.of_ext hs122 _) (fun w' hw' => (op_mul ha123 rfl rfl rfl).int (IntWalk.i64_in _ (by omega))) ?_
         intro a124 ha124; clear ha123 a123
         refine dr_val (i := 13) ha124 rfl (by kernel_rfl) (by kernel_rfl) (by kernel_rfl) rfl rfl rfl (Stp.of_ext hs122 _) (fun w' hw' => op_build (vs := [(0, .int .i64 d), (1, .int .i64 (q74 : Int)), (2, St x101), (3, .int .i64 ((100 : Int) * ((1 : Int) + (q115 : Int))))]) (cs := #[.int .i64 d, .int .i64 (q74 : Int), St x101, .int .i64 ((100 : Int) * ((1 : Int) + (q115 : Int)))]) ha124 rfl Try.underlying41 ti41 bp41 rfl rfl) ?_
         intro a125 ha125; clear ha124 a124
         refine dr_one (i := 14) (by kernel_rfl) ?_
         refine po_eff ha125 rfl rfl rfl rfl (op_alloc' rfl ti41 rfl) ?_
         rintro _ w126 ⟨rfl, he127, hb128, hz129⟩ a130 ha130; clear ha125 a125
         have hs131 := hs122.trans' he127
         have hx132 := hx120.trans' (Stp.of_ext he127 _)
         have hzhx132 := he127.size
         refine ⟨(Stp.of_ext hs131 _), ?_⟩
         replace hf37 := hf37.ext hs131
         replace ho63 := ho63.ext hs131
         replace ho82 := ho82.ext hs131
         replace hc105 := hc105.ext hs131
         replace hS114 := hS114.ext hs131
         refine dr_narrow (S' := fun w' => StpL w126 w' (fun i => i = g_s ∨ i = w112.heap.size)) (fun w' h' => ((Stp.of_ext hs131 _)).freshL h' (by intro i hi; rcases hi with q | q <;> first | (exact Or.inl (congrArg some q.symm)) | (right; omega))) _ _ _ _ ?_
         have hs133 : Ext w126 w126 := Ext.rfl' _
         refine dr_one (i := 15) (by kernel_rfl) ?_
         refine po_effS ha130 rfl rfl rfl (op_storeAll' ha130 rfl ti41 rfl rfl hb128 rfl rfl (by simp [Value.oneCell']) rfl) ?_
         rintro w134 ⟨hb136, hst135, hz137⟩
         have hx138 := hx132.fresh hst135 (by intro q hq; cases hq; exact (by omega))
         have hzhx138 := hst135.size
         replace hf37 := hf37.stp hst135 (by intro q hq; cases hq; omega)
         replace ho63 := ho63.stp hst135 (by intro q hq; cases hq; omega)
         replace ho82 := ho82.stp hst135 (by intro q hq; cases hq; omega)
         replace hc105 := hc105.stp hst135 (by intro q hq; cases hq; omega)
         replace hS114 := hS114.stp hst135 (by intro q hq; cases hq; omega)
         clear hb128
         have hs139 := (StpL.of_ext (B := fun i => i = g_s ∨ i = w112.heap.size) hs133).trans' (Stp.toL hst135 (by intro q hq; cases hq; exact Or.inr (rfl)))
         refine ⟨hs139, ?_⟩
         refine dr_narrow (S' := fun w' => StpL w134 w' _) (fun w' h' => hs139.trans' h') _ _ _ _ ?_
         have hs140 : Ext w134 w134 := Ext.rfl' _
         refine dr_end (by kernel_rfl) ?_
         refine then_n ?_
         exact ⟨w112.heap.size, q74, x101, q115, (Sl.cons_ ha130 rfl rfl (Sl.cons_ ha130 rfl rfl (Sl.cons_ ha130 rfl rfl (Sl.cons_ ha130 rfl rfl (Sl.cons_ ha130 rfl rfl (Sl.nil_ ha130)))))), hx138, hS114, (hf37.fin (by omega) (by omega) (by omega)), hb136, (by omega), (by omega), (by omega), (by omega), (by omega), (by omega), (by omega)⟩
        ·
         refine po_eff ha110 rfl rfl rfl rfl (op_alloc' rfl ti41 rfl) ?_
         rintro _ w141 ⟨rfl, he142, hb143, hz144⟩ a145 ha145; clear ha110 a110
         have hs146 := hs100.trans' he142
         have hx147 := hx98.trans' (Stp.of_ext he142 _)
         have hzhx147 := he142.size
         refine ⟨(Stp.of_ext hs146 _), ?_⟩
         replace hf37 := hf37.ext hs146
         replace ho63 := ho63.ext hs146
         replace ho82 := ho82.ext hs146
         replace hS92 := hS92.ext hs146
         replace hc105 := hc105.ext hs146
         refine dr_narrow (S' := fun w' => StpL w141 w' (fun i => i = g_s ∨ i = w90.heap.size)) (fun w' h' => ((Stp.of_ext hs146 _)).freshL h' (by intro i hi; rcases hi with q | q <;> first | (exact Or.inl (congrArg some q.symm)) | (right; omega))) _ _ _ _ ?_
         have hs148 : Ext w141 w141 := Ext.rfl' _
         refine dr_one (i := 10) (by kernel_rfl) ?_
         refine po_callS ha145 rfl rfl rfl rfl (op_call ha145 rfl cb73 rfl) (c_spec_l01Next _ g_s b_s (30 : Int) hS92) ?_
         rintro v149 w150 he151 ⟨hS152, ⟨q153, hq154, hq155, hq156, rfl⟩⟩ a157 ha157; clear ha145 a145
         have hx158 := hx147.trans' he151
         have hzhx158 := he151.size
         first | replace hf37 := hf37.stp he151 (by intro q hq; cases hq; omega) | replace hf37 := hf37.stpF flat_shEnt he151 (by intro q hq; cases hq; exact hf37.ne_box (by assumption) rfl)
         first | replace ho63 := ho63.stp he151 (by intro q hq; cases hq; omega) | replace ho63 := ho63.stpF flat_shI64 he151 (by intro q hq; cases hq; exact ho63.ne_box (by assumption) rfl)
         first | replace ho82 := ho82.stp he151 (by intro q hq; cases hq; omega) | replace ho82 := ho82.stpF flat_shStr he151 (by intro q hq; cases hq; exact ho82.ne_box (by assumption) rfl)
         replace hc105 := hc105.stp he151 (by intro q hq; cases hq; omega)
         replace hb143 := hb143.stp he151 (by intro q hq; cases hq; omega)
         clear hS92
         have hSlhS152 := hS152.lt
         have hs159 := (StpL.of_ext (B := fun i => i = g_s ∨ i = w90.heap.size) hs148).trans' (Stp.toL he151 (by intro q hq; cases hq; exact Or.inl rfl))
         refine ⟨hs159, ?_⟩
         refine dr_narrow (S' := fun w' => StpL w150 w' _) (fun w' h' => hs159.trans' h') _ _ _ _ ?_
         have hs160 : Ext w150 w150 := Ext.rfl' _
         refine dr_val (i := 11) ha157 rfl (by kernel_rfl) (by kernel_rfl) (by kernel_rfl) rfl rfl rfl (StpL.of_ext hs160) (fun w' hw' => (op_add ha157 rfl rfl rfl).int (IntWalk.i64_in _ (by omega))) ?_
         intro a161 ha161; clear ha157 a157
         refine dr_val (i := 12) ha161 rfl (by kernel_rfl) (by kernel_rfl) (by kernel_rfl) rfl rfl rfl (StpL.of_ext hs160) (fun w' hw' => (op_mul ha161 rfl rfl rfl).int (IntWalk.i64_in _ (by omega))) ?_
         intro a162 ha162; clear ha161 a161
         refine dr_val (i := 13) ha162 rfl (by kernel_rfl) (by kernel_rfl) (by kernel_rfl) rfl rfl rfl (StpL.of_ext hs160) (fun w' hw' => op_build (vs := [(0, .int .i64 d), (1, .int .i64 (q74 : Int)), (2, St x101), (3, .int .i64 ((100 : Int) * ((1 : Int) + (q153 : Int))))]) (cs := #[.int .i64 d, .int .i64 (q74 : Int), St x101, .int .i64 ((100 : Int) * ((1 : Int) + (q153 : Int)))]) ha162 rfl Try.underlying41 ti41 bp41 rfl rfl) ?_
         intro a163 ha163; clear ha162 a162
         refine dr_one (i := 15) (by kernel_rfl) ?_
         refine po_effS ha163 rfl rfl rfl (op_storeAll' ha163 rfl ti41 rfl rfl hb143 rfl rfl (by simp [Value.oneCell']) rfl) ?_
         rintro w164 ⟨hb166, hst165, hz167⟩
         have hx168 := hx158.fresh hst165 (by intro q hq; cases hq; exact (by omega))
         have hzhx168 := hst165.size
         replace hf37 := hf37.stp hst165 (by intro q hq; cases hq; omega)
         replace ho63 := ho63.stp hst165 (by intro q hq; cases hq; omega)
         replace ho82 := ho82.stp hst165 (by intro q hq; cases hq; omega)
         replace hc105 := hc105.stp hst165 (by intro q hq; cases hq; omega)
         replace hS152 := hS152.stp hst165 (by intro q hq; cases hq; omega)
         clear hb143
         have hs169 := (StpL.of_ext (B := fun i => i = g_s ∨ i = w90.heap.size) hs160).trans' (Stp.toL hst165 (by intro q hq; cases hq; exact Or.inr (rfl)))
         refine ⟨hs169, ?_⟩
         refine dr_narrow (S' := fun w' => StpL w164 w' _) (fun w' h' => hs169.trans' h') _ _ _ _ ?_
         have hs170 : Ext w164 w164 := Ext.rfl' _
         refine dr_end (by kernel_rfl) ?_
         refine then_n ?_
         exact ⟨w90.heap.size, q74, x101, q153, (Sl.cons_ ha163 rfl rfl (Sl.cons_ ha163 rfl rfl (Sl.cons_ ha163 rfl rfl (Sl.cons_ ha163 rfl rfl (Sl.cons_ ha163 rfl rfl (Sl.nil_ ha163)))))), hx168, hS152, (hf37.fin (by omega) (by omega) (by omega)), hb166, (by omega), (by omega), (by omega), (by omega), (by omega), (by omega), (by omega)⟩
       ·
        refine po_eff ha85 rfl rfl rfl rfl (op_alloc' rfl ti41 rfl) ?_
        rintro _ w171 ⟨rfl, he172, hb173, hz174⟩ a175 ha175; clear ha85 a85
        have hs176 := hs88.trans' he172
        have hx177 := hx87.trans' (Stp.of_ext he172 _)
        have hzhx177 := he172.size
        refine ⟨(Stp.of_ext hs176 _), ?_⟩
        replace hf37 := hf37.ext hs176
        replace ho63 := ho63.ext hs176
        replace hS73 := hS73.ext hs176
        replace ho82 := ho82.ext hs176
        refine dr_narrow (S' := fun w' => StpL w171 w' (fun i => i = g_s ∨ i = w81.heap.size)) (fun w' h' => ((Stp.of_ext hs176 _)).freshL h' (by intro i hi; rcases hi with q | q <;> first | (exact Or.inl (congrArg some q.symm)) | (right; omega))) _ _ _ _ ?_
        have hs178 : Ext w171 w171 := Ext.rfl' _
        refine dr_one (i := 6) (by kernel_rfl) ?_
        refine po_callS ha175 rfl rfl rfl rfl (op_call ha175 rfl cb73 rfl) (c_spec_l01Next _ g_s b_s (3 : Int) hS73) ?_
        rintro v179 w180 he181 ⟨hS182, ⟨q183, hq184, hq185, hq186, rfl⟩⟩ a187 ha187; clear ha175 a175
        have hx188 := hx177.trans' he181
        have hzhx188 := he181.size
        first | replace hf37 := hf37.stp he181 (by intro q hq; cases hq; omega) | replace hf37 := hf37.stpF flat_shEnt he181 (by intro q hq; cases hq; exact hf37.ne_box (by assumption) rfl)
        first | replace ho63 := ho63.stp he181 (by intro q hq; cases hq; omega) | replace ho63 := ho63.stpF flat_shI64 he181 (by intro q hq; cases hq; exact ho63.ne_box (by assumption) rfl)
        first | replace ho82 := ho82.stp he181 (by intro q hq; cases hq; omega) | replace ho82 := ho82.stpF flat_shStr he181 (by intro q hq; cases hq; exact ho82.ne_box (by assumption) rfl)
        replace hb173 := hb173.stp he181 (by intro q hq; cases hq; omega)
        clear hS73
        have hSlhS182 := hS182.lt
        have hs189 := (StpL.of_ext (B := fun i => i = g_s ∨ i = w81.heap.size) hs178).trans' (Stp.toL he181 (by intro q hq; cases hq; exact Or.inl rfl))
        refine ⟨hs189, ?_⟩
        refine dr_narrow (S' := fun w' => StpL w180 w' _) (fun w' h' => hs189.trans' h') _ _ _ _ ?_
        have hs190 : Ext w180 w180 := Ext.rfl' _
        obtain ⟨x191, hx191⟩ := get_ex (xs := [([97, 100, 97] : Str), ([98, 111] : Str), ([99, 121] : Str)]) (j := ((q183 : Int)).toNat) (by first | omega | (simp only [List.length_cons, List.length_nil]; omega))
        obtain ⟨p192, c193, hi194, hc195, hr196, hs197⟩ := Rds.at_ (ho82.rds pos_shStr) hx191
        obtain ⟨rfl, b198⟩ := inv_shStr hr196
        obtain ⟨_, _⟩ : _ ∧ _ := hs197
        have hdlx191 := el_len 17 (by rfl) hx191
        refine dr_val (i := 7) ha187 rfl (by kernel_rfl) (by kernel_rfl) (by kernel_rfl) rfl rfl rfl (StpL.of_ext hs190) (fun w' hw' => op_indexAddr ha187 rfl Try.underlying52 ti9 rfl rfl (by omega) hi194) ?_
        intro a199 ha199; clear ha187 a187
        refine dr_val (i := 8) ha199 rfl (by kernel_rfl) (by kernel_rfl) (by kernel_rfl) rfl rfl rfl (StpL.of_ext hs190) (fun w' hw' => op_loadH ha199 rfl Try.underlying9 rfl rfl (hc195.stpL hw' (by rintro (q | q) <;> first | omega)) rfl) ?_
        intro a200 ha200; clear ha199 a199
        refine dr_one (i := 10) (by kernel_rfl) ?_
        refine po_callS ha200 rfl rfl rfl rfl (op_call ha200 rfl cb73 rfl) (c_spec_l01Next _ g_s b_s (30 : Int) hS182) ?_
        rintro v201 w202 he203 ⟨hS204, ⟨q205, hq206, hq207, hq208, rfl⟩⟩ a209 ha209; clear ha200 a200
        have hx210 := hx188.trans' he203
        have hzhx210 := he203.size
        first | replace hf37 := hf37.stp he203 (by intro q hq; cases hq; omega) | replace hf37 := hf37.stpF flat_shEnt he203 (by intro q hq; cases hq; exact hf37.ne_box (by assumption) rfl)
        first | replace ho63 := ho63.stp he203 (by intro q hq; cases hq; omega) | replace ho63 := ho63.stpF flat_shI64 he203 (by intro q hq; cases hq; exact ho63.ne_box (by assumption) rfl)
        first | replace ho82 := ho82.stp he203 (by intro q hq; cases hq; omega) | replace ho82 := ho82.stpF flat_shStr he203 (by intro q hq; cases hq; exact ho82.ne_box (by assumption) rfl)
        replace hb173 := hb173.stp he203 (by intro q hq; cases hq; omega)
        replace hc195 := hc195.stp he203 (by intro q hq; cases hq; omega)
        clear hS182
        have hSlhS204 := hS204.lt
        have hs211 := (StpL.of_ext (B := fun i => i = g_s ∨ i = w81.heap.size) hs190).trans' (Stp.toL he203 (by intro q hq; cases hq; exact Or.inl rfl))
        refine ⟨hs211, ?_⟩
        refine dr_narrow (S' := fun w' => StpL w202 w' _) (fun w' h' => hs211.trans' h') _ _ _ _ ?_
        have hs212 : Ext w202 w202 := Ext.rfl' _
        refine dr_val (i := 11) ha209 rfl (by kernel_rfl) (by kernel_rfl) (by kernel_rfl) rfl rfl rfl (StpL.of_ext hs212) (fun w' hw' => (op_add ha209 rfl rfl rfl).int (IntWalk.i64_in _ (by omega))) ?_
        intro a213 ha213; clear ha209 a209
        refine dr_val (i := 12) ha213 rfl (by kernel_rfl) (by kernel_rfl) (by kernel_rfl) rfl rfl rfl (StpL.of_ext hs212) (fun w' hw' => (op_mul ha213 rfl rfl rfl).int (IntWalk.i64_in _ (by omega))) ?_
        intro a214 ha214; clear ha213 a213
        refine dr_val (i := 13) ha214 rfl (by kernel_rfl) (by kernel_rfl) (by kernel_rfl) rfl rfl rfl (StpL.of_ext hs212) (fun w' hw' => op_build (vs := [(0, .int .i64 d), (1, .int .i64 (q74 : Int)), (2, St x191), (3, .int .i64 ((100 : Int) * ((1 : Int) + (q205 : Int))))]) (cs := #[.int .i64 d, .int .i64 (q74 : Int), St x191, .int .i64 ((100 : Int) * ((1 : Int) + (q205 : Int)))]) ha214 rfl Try.underlying41 ti41 bp41 rfl rfl) ?_
        intro a215 ha215; clear ha214 a214
        refine dr_one (i := 15) (by kernel_rfl) ?_
        refine po_effS ha215 rfl rfl rfl (op_storeAll' ha215 rfl ti41 rfl rfl hb173 rfl rfl (by simp [Value.oneCell']) rfl) ?_
        rintro w216 ⟨hb218, hst217, hz219⟩
        have hx220 := hx210.fresh hst217 (by intro q hq; cases hq; exact (by omega))
        have hzhx220 := hst217.size
        replace hf37 := hf37.stp hst217 (by intro q hq; cases hq; omega)
        replace ho63 := ho63.stp hst217 (by intro q hq; cases hq; omega)
        replace ho82 := ho82.stp hst217 (by intro q hq; cases hq; omega)
        replace hc195 := hc195.stp hst217 (by intro q hq; cases hq; omega)
        replace hS204 := hS204.stp hst217 (by intro q hq; cases hq; omega)
        clear hb173
        have hs221 := (StpL.of_ext (B := fun i => i = g_s ∨ i = w81.heap.size) hs212).trans' (Stp.toL hst217 (by intro q hq; cases hq; exact Or.inr (rfl)))
        refine ⟨hs221, ?_⟩
        refine dr_narrow (S' := fun w' => StpL w216 w' _) (fun w' h' => hs221.trans' h') _ _ _ _ ?_
        have hs222 : Ext w216 w216 := Ext.rfl' _
        refine dr_end (by kernel_rfl) ?_
        refine then_n ?_
        exact ⟨w81.heap.size, q74, x191, q205, (Sl.cons_ ha215 rfl rfl (Sl.cons_ ha215 rfl rfl (Sl.cons_ ha215 rfl rfl (Sl.cons_ ha215 rfl rfl (Sl.cons_ ha215 rfl rfl (Sl.nil_ ha215)))))), hx220, hS204, (hf37.fin (by omega) (by omega) (by omega)), hb218, (by omega), (by omega), (by omega), (by omega), (by omega), (by omega), (by omega)⟩
      ·
       refine po_callS ha76 rfl rfl rfl rfl (op_call ha76 rfl cb73 rfl) (c_spec_l01Next _ g_s b_s (3 : Int) hS73) ?_
       rintro v223 w224 he225 ⟨hS226, ⟨q227, hq228, hq229, hq230, rfl⟩⟩ a231 ha231; clear ha76 a76
       have hx232 := hx77.trans' he225
       have hzhx232 := he225.size
       first | replace hf37 := hf37.stp he225 (by intro q hq; cases hq; omega) | replace hf37 := hf37.stpF flat_shEnt he225 (by intro q hq; cases hq; exact hf37.ne_box (by assumption) rfl)
       first | replace ho63 := ho63.stp he225 (by intro q hq; cases hq; omega) | replace ho63 := ho63.stpF flat_shI64 he225 (by intro q hq; cases hq; exact ho63.ne_box (by assumption) rfl)
       clear hS73
       have hSlhS226 := hS226.lt
       have hs233 := (Stp.of_ext hs79 (some g_s)).trans' he225
       refine ⟨hs233, ?_⟩
       refine dr_narrow (S' := fun w' => Stp w224 w' _) (fun w' h' => hs233.trans' h') _ _ _ _ ?_
       have hs234 : Ext w224 w224 := Ext.rfl' _
       refine dr_three (i := 4) (j := 10) (k := 14) (by kernel_rfl) ?_ ?_ ?_
       ·
        refine po_eff ha231 rfl rfl rfl rfl (op_buildSlice (s := shStr) (xs := [([97, 100, 97] : Str), ([98, 111] : Str), ([99, 121] : Str)]) (cs := [St (([97, 100, 97] : Str)), St (([98, 111] : Str)), St (([99, 121] : Str))]) (vs := [(0, St (([97, 100, 97] : Str))), (1, St (([98, 111] : Str))), (2, St (([99, 121] : Str)))]) (S := fun _ => False) (le := w224.heap.size) ha231 rfl pos_shStr Try.underlying52 ti9 rfl rfl (by decide) (by kernel_rfl) ⟨mk_shStr (([97, 100, 97] : Str)) (by first | assumption | omega | (constructor <;> omega) | (dsimp only; omega) | (simp; done) | (simp; omega)), mk_shStr (([98, 111] : Str)) (by first | assumption | omega | (constructor <;> omega) | (dsimp only; omega) | (simp; done) | (simp; omega)), mk_shStr (([99, 121] : Str)) (by first | assumption | omega | (constructor <;> omega) | (dsimp only; omega) | (simp; done) | (simp; omega)), rfl⟩ (fun _ h => h.elim)) ?_
        rintro v235 w236 ⟨ho237, he238, hob239⟩ a240 ha240; clear ha231 a231
        have hs241 := hs234.trans' he238
        have hx242 := hx232.trans' (Stp.of_ext he238 _)
        have hzhx242 := he238.size
        refine ⟨(Stp.of_ext hs241 _), ?_⟩
        replace hf37 := hf37.ext hs241
        replace ho63 := ho63.ext hs241
        replace hS226 := hS226.ext hs241
        refine dr_narrow (S' := fun w' => Stp w236 w' _) (fun w' h' => (Stp.of_ext hs241 _).trans' h') _ _ _ _ ?_
        have hs243 : Ext w236 w236 := Ext.rfl' _
        obtain ⟨x244, hx244⟩ := get_ex (xs := [([97, 100, 97] : Str), ([98, 111] : Str), ([99, 121] : Str)]) (j := ((q227 : Int)).toNat) (by first | omega | (simp only [List.length_cons, List.length_nil]; omega))
        obtain ⟨p245, c246, hi247, hc248, hr249, hs250⟩ := Rds.at_ (ho237.rds pos_shStr) hx244
        obtain ⟨rfl, b251⟩ := inv_shStr hr249
        obtain ⟨_, _⟩ : _ ∧ _ := hs250
        have hdlx244 := el_len 17 (by rfl) hx244
        refine dr_val (i := 7) ha240 rfl (by kernel_rfl) (by kernel_rfl) (by kernel_rfl) rfl rfl rfl (Stp.of_ext hs243 _) (fun w' hw' => op_indexAddr ha240 rfl Try.underlying52 ti9 rfl rfl (by omega) hi247) ?_
        intro a252 ha252; clear ha240 a240
        refine dr_val (i := 8) ha252 rfl (by kernel_rfl) (by kernel_rfl) (by kernel_rfl) rfl rfl rfl (Stp.of_ext hs243 _) (fun w' hw' => op_loadH ha252 rfl Try.underlying9 rfl rfl (hc248.stp hw' (by intro q hq; cases hq; omega)) rfl) ?_
        intro a253 ha253; clear ha252 a252
        refine dr_two (i := 10) (j := 14) (by kernel_rfl) ?_ ?_
        ·
         refine po_callS ha253 rfl rfl rfl rfl (op_call ha253 rfl cb73 rfl) (c_spec_l01Next _ g_s b_s (30 : Int) hS226) ?_
         rintro v254 w255 he256 ⟨hS257, ⟨q258, hq259, hq260, hq261, rfl⟩⟩ a262 ha262; clear ha253 a253
         have hx263 := hx242.trans' he256
         have hzhx263 := he256.size
         first | replace hf37 := hf37.stp he256 (by intro q hq; cases hq; omega) | replace hf37 := hf37.stpF flat_shEnt he256 (by intro q hq; cases hq; exact hf37.ne_box (by assumption) rfl)
         first | replace ho63 := ho63.stp he256 (by intro q hq; cases hq; omega) | replace ho63 := ho63.stpF flat_shI64 he256 (by intro q hq; cases hq; exact ho63.ne_box (by assumption) rfl)
         first | replace ho237 := ho237.stp he256 (by intro q hq; cases hq; omega) | replace ho237 := ho237.stpF flat_shStr he256 (by intro q hq; cases hq; exact ho237.ne_box (by assumption) rfl)
         replace hc248 := hc248.stp he256 (by intro q hq; cases hq; omega)
         clear hS226
         have hSlhS257 := hS257.lt
         have hs264 := (Stp.of_ext hs243 (some g_s)).trans' he256
         refine ⟨hs264, ?_⟩
         refine dr_narrow (S' := fun w' => Stp w255 w' _) (fun w' h' => hs264.trans' h') _ _ _ _ ?_
         have hs265 : Ext w255 w255 := Ext.rfl' _
         refine dr_val (i := 11) ha262 rfl (by kernel_rfl) (by kernel_rfl) (by kernel_rfl) rfl rfl rfl (Stp.of_ext hs265 _) (fun w' hw' => (op_add ha262 rfl rfl rfl).int (IntWalk.i64_in _ (by omega))) ?_
         intro a266 ha266; clear ha262 a262
         refine dr_val (i := 12) ha266 rfl (by kernel_rfl) (by kernel_rfl) (by kernel_rfl) rfl rfl rfl (Stp.of_ext hs265 _) (fun w' hw' => (op_mul ha266 rfl rfl rfl).int (IntWalk.i64_in _ (by omega))) ?_
         intro a267 ha267; clear ha266 a266
         refine dr_val (i := 13) ha267 rfl (by kernel_rfl) (by kernel_rfl) (by kernel_rfl) rfl rfl rfl (Stp.of_ext hs265 _) (fun w' hw' => op_build (vs := [(0, .int .i64 d), (1, .int .i64 (q74 : Int)), (2, St x244), (3, .int .i64 ((100 : Int) * ((1 : Int) + (q258 : Int))))]) (cs := #[.int .i64 d, .int .i64 (q74 : Int), St x244, .int .i64 ((100 : Int) * ((1 : Int) + (q258 : Int)))]) ha267 rfl Try.underlying41 ti41 bp41 rfl rfl) ?_
         intro a268 ha268; clear ha267 a267
         refine dr_one (i := 14) (by kernel_rfl) ?_
         refine po_eff ha268 rfl rfl rfl rfl (op_alloc' rfl ti41 rfl) ?_
         rintro _ w269 ⟨rfl, he270, hb271, hz272⟩ a273 ha273; clear ha268 a268
         have hs274 := hs265.trans' he270
         have hx275 := hx263.trans' (Stp.of_ext he270 _)
         have hzhx275 := he270.size
         refine ⟨(Stp.of_ext hs274 _), ?_⟩
         replace hf37 := hf37.ext hs274
         replace ho63 := ho63.ext hs274
         replace ho237 := ho237.ext hs274
         replace hc248 := hc248.ext hs274
         replace hS257 := hS257.ext hs274
         refine dr_narrow (S' := fun w' => StpL w269 w' (fun i => i = g_s ∨ i = w255.heap.size)) (fun w' h' => ((Stp.of_ext hs274 _)).freshL h' (by intro i hi; rcases hi with q | q <;> first | (exact Or.inl (congrArg some q.symm)) | (right; omega))) _ _ _ _ ?_
         have hs276 : Ext w269 w269 := Ext.rfl' _
         refine dr_one (i := 15) (by kernel_rfl) ?_
         refine po_effS ha273 rfl rfl rfl (op_storeAll' ha273 rfl ti41 rfl rfl hb271 rfl rfl (by simp [Value.oneCell']) rfl) ?_
         rintro w277 ⟨hb279, hst278, hz280⟩
         have hx281 := hx275.fresh hst278 (by intro q hq; cases hq; exact (by omega))
         have hzhx281 := hst278.size
         replace hf37 := hf37.stp hst278 (by intro q hq; cases hq; omega)
         replace ho63 := ho63.stp hst278 (by intro q hq; cases hq; omega)
         replace ho237 := ho237.stp hst278 (by intro q hq; cases hq; omega)
         replace hc248 := hc248.stp hst278 (by intro q hq; cases hq; omega)
         replace hS257 := hS257.stp hst278 (by intro q hq; cases hq; omega)
         clear hb271
         have hs282 := (StpL.of_ext (B := fun i => i = g_s ∨ i = w255.heap.size) hs276).trans' (Stp.toL hst278 (by intro q hq; cases hq; exact Or.inr (rfl)))
         refine ⟨hs282, ?_⟩
         refine dr_narrow (S' := fun w' => StpL w277 w' _) (fun w' h' => hs282.trans' h') _ _ _ _ ?_
         have hs283 : Ext w277 w277 := Ext.rfl' _
         refine dr_end (by kernel_rfl) ?_
         refine then_n ?_
         exact ⟨w255.heap.size, q74, x244, q258, (Sl.cons_ ha273 rfl rfl (Sl.cons_ ha273 rfl rfl (Sl.cons_ ha273 rfl rfl (Sl.cons_ ha273 rfl rfl (Sl.cons_ ha273 rfl rfl (Sl.nil_ ha273)))))), hx281, hS257, (hf37.fin (by omega) (by omega) (by omega)), hb279, (by omega), (by omega), (by omega), (by omega), (by omega), (by omega), (by omega)⟩
        ·
         refine po_eff ha253 rfl rfl rfl rfl (op_alloc' rfl ti41 rfl) ?_
         rintro _ w284 ⟨rfl, he285, hb286, hz287⟩ a288 ha288; clear ha253 a253
         have hs289 := hs243.trans' he285
         have hx290 := hx242.trans' (Stp.of_ext he285 _)
         have hzhx290 := he285.size
         refine ⟨(Stp.of_ext hs289 _), ?_⟩
         replace hf37 := hf37.ext hs289
         replace ho63 := ho63.ext hs289
         replace hS226 := hS226.ext hs289
         replace ho237 := ho237.ext hs289
         replace hc248 := hc248.ext hs289
         refine dr_narrow (S' := fun w' => StpL w284 w' (fun i => i = g_s ∨ i = w236.heap.size)) (fun w' h' => ((Stp.of_ext hs289 _)).freshL h' (by intro i hi; rcases hi with q | q <;> first | (exact Or.inl (congrArg some q.symm)) | (right; omega))) _ _ _ _ ?_
         have hs291 : Ext w284 w284 := Ext.rfl' _
         refine dr_one (i := 10) (by kernel_rfl) ?_
         refine po_callS ha288 rfl rfl rfl rfl (op_call ha288 rfl cb73 rfl) (c_spec_l01Next _ g_s b_s (30 : Int) hS226) ?_
         rintro v292 w293 he294 ⟨hS295, ⟨q296, hq297, hq298, hq299, rfl⟩⟩ a300 ha300; clear ha288 a288
         have hx301 := hx290.trans' he294
         have hzhx301 := he294.size
         first | replace hf37 := hf37.stp he294 (by intro q hq; cases hq; omega) | replace hf37 := hf37.stpF flat_shEnt he294 (by intro q hq; cases hq; exact hf37.ne_box (by assumption) rfl)
         first | replace ho63 := ho63.stp he294 (by intro q hq; cases hq; omega) | replace ho63 := ho63.stpF flat_shI64 he294 (by intro q hq; cases hq; exact ho63.ne_box (by assumption) rfl)
         first | replace ho237 := ho237.stp he294 (by intro q hq; cases hq; omega) | replace ho237 := ho237.stpF flat_shStr he294 (by intro q hq; cases hq; exact ho237.ne_box (by assumption) rfl)
         replace hc248 := hc248.stp he294 (by intro q hq; cases hq; omega)
         replace hb286 := hb286.stp he294 (by intro q hq; cases hq; omega)
         clear hS226
         have hSlhS295 := hS295.lt
         have hs302 := (StpL.of_ext (B := fun i => i = g_s ∨ i = w236.heap.size) hs291).trans' (Stp.toL he294 (by intro q hq; cases hq; exact Or.inl rfl))
         refine ⟨hs302, ?_⟩
         refine dr_narrow (S' := fun w' => StpL w293 w' _) (fun w' h' => hs302.trans' h') _ _ _ _ ?_
         have hs303 : Ext w293 w293 := Ext.rfl' _
         refine dr_val (i := 11) ha300 rfl (by kernel_rfl) (by kernel_rfl) (by kernel_rfl) rfl rfl rfl (StpL.of_ext hs303) (fun w' hw' => (op_add ha300 rfl rfl rfl).int (IntWalk.i64_in _ (by omega))) ?_
         intro a304 ha304; clear ha300 a300
         refine dr_val (i := 12) ha304 rfl (by kernel_rfl) (by kernel_rfl) (by kernel_rfl) rfl rfl rfl (StpL.of_ext hs303) (fun w' hw' => (op_mul ha304 rfl rfl rfl).int (IntWalk.i64_in _ (by omega))) ?_
         intro a305 ha305; clear ha304 a304
         refine dr_val (i := 13) ha305 rfl (by kernel_rfl) (by kernel_rfl) (by kernel_rfl) rfl rfl rfl (StpL.of_ext hs303) (fun w' hw' => op_build (vs := [(0, .int .i64 d), (1, .int .i64 (q74 : Int)), (2, St x244), (3, .int .i64 ((100 : Int) * ((1 : Int) + (q296 : Int))))]) (cs := #[.int .i64 d, .int .i64 (q74 : Int), St x244, .int .i64 ((100 : Int) * ((1 : Int) + (q296 : Int)))]) ha305 rfl Try.underlying41 ti41 bp41 rfl rfl) ?_
         intro a306 ha306; clear ha305 a305
         refine dr_one (i := 15) (by kernel_rfl) ?_
         refine po_effS ha306 rfl rfl rfl (op_storeAll' ha306 rfl ti41 rfl rfl hb286 rfl rfl (by simp [Value.oneCell']) rfl) ?_
         rintro w307 ⟨hb309, hst308, hz310⟩
         have hx311 := hx301.fresh hst308 (by intro q hq; cases hq; exact (by omega))
         have hzhx311 := hst308.size
         replace hf37 := hf37.stp hst308 (by intro q hq; cases hq; omega)
         replace ho63 := ho63.stp hst308 (by intro q hq; cases hq; omega)
         replace ho237 := ho237.stp hst308 (by intro q hq; cases hq; omega)
         replace hc248 := hc248.stp hst308 (by intro q hq; cases hq; omega)
         replace hS295 := hS295.stp hst308 (by intro q hq; cases hq; omega)
         clear hb286
         have hs312 := (StpL.of_ext (B := fun i => i = g_s ∨ i = w236.heap.size) hs303).trans' (Stp.toL hst308 (by intro q hq; cases hq; exact Or.inr (rfl)))
         refine ⟨hs312, ?_⟩
         refine dr_narrow (S' := fun w' => StpL w307 w' _) (fun w' h' => hs312.trans' h') _ _ _ _ ?_
         have hs313 : Ext w307 w307 := Ext.rfl' _
         refine dr_end (by kernel_rfl) ?_
         refine then_n ?_
         exact ⟨w236.heap.size, q74, x244, q296, (Sl.cons_ ha306 rfl rfl (Sl.cons_ ha306 rfl rfl (Sl.cons_ ha306 rfl rfl (Sl.cons_ ha306 rfl rfl (Sl.cons_ ha306 rfl rfl (Sl.nil_ ha306)))))), hx311, hS295, (hf37.fin (by omega) (by omega) (by omega)), hb309, (by omega), (by omega), (by omega), (by omega), (by omega), (by omega), (by omega)⟩
       ·
        refine po_callS ha231 rfl rfl rfl rfl (op_call ha231 rfl cb73 rfl) (c_spec_l01Next _ g_s b_s (30 : Int) hS226) ?_
        rintro v314 w315 he316 ⟨hS317, ⟨q318, hq319, hq320, hq321, rfl⟩⟩ a322 ha322; clear ha231 a231
        have hx323 := hx232.trans' he316
        have hzhx323 := he316.size
        first | replace hf37 := hf37.stp he316 (by intro q hq; cases hq; omega) | replace hf37 := hf37.stpF flat_shEnt he316 (by intro q hq; cases hq; exact hf37.ne_box (by assumption) rfl)
        first | replace ho63 := ho63.stp he316 (by intro q hq; cases hq; omega) | replace ho63 := ho63.stpF flat_shI64 he316 (by intro q hq; cases hq; exact ho63.ne_box (by assumption) rfl)
        clear hS226
        have hSlhS317 := hS317.lt
        have hs324 := (Stp.of_ext hs234 (some g_s)).trans' he316
        refine ⟨hs324, ?_⟩
        refine dr_narrow (S' := fun w' => Stp w315 w' _) (fun w' h' => hs324.trans' h') _ _ _ _ ?_
        have hs325 : Ext w315 w315 := Ext.rfl' _
        refine dr_val (i := 11) ha322 rfl (by kernel_rfl) (by kernel_rfl) (by kernel_rfl) rfl rfl rfl (Stp.of_ext hs325 _) (fun w' hw' => (op_add ha322 rfl rfl rfl).int (IntWalk.i64_in _ (by omega))) ?_
        intro a326 ha326; clear ha322 a322
        refine dr_val (i := 12) ha326 rfl (by kernel_rfl) (by kernel_rfl) (by kernel_rfl) rfl rfl rfl (Stp.of_ext hs325 _) (fun w' hw' => (op_mul ha326 rfl rfl rfl).int (IntWalk.i64_in _ (by omega))) ?_
        intro a327 ha327; clear ha326 a326
        refine dr_two (i := 4) (j := 14) (by kernel_rfl) ?_ ?_
        ·
         refine po_eff ha327 rfl rfl rfl rfl (op_buildSlice (s := shStr) (xs := [([97, 100, 97] : Str), ([98, 111] : Str), ([99, 121] : Str)]) (cs := [St (([97, 100, 97] : Str)), St (([98, 111] : Str)), St (([99, 121] : Str))]) (vs := [(0, St (([97, 100, 97] : Str))), (1, St (([98, 111] : Str))), (2, St (([99, 121] : Str)))]) (S := fun _ => False) (le := w315.heap.size) ha327 rfl pos_shStr Try.underlying52 ti9 rfl rfl (by decide) (by kernel_rfl) ⟨mk_shStr (([97, 100, 97] : Str)) (by first | assumption | omega | (constructor <;> omega) | (dsimp only; omega) | (simp; done) | (simp; omega)), mk_shStr (([98, 111] : Str)) (by first | assumption | omega | (constructor <;> omega) | (dsimp only; omega) | (simp; done) | (simp; omega)), mk_shStr (([99, 121] : Str)) (by first | assumption | omega | (constructor <;> omega) | (dsimp only; omega) | (simp; done) | (simp; omega)), rfl⟩ (fun _ h => h.elim)) ?_
         rintro v328 w329 ⟨ho330, he331, hob332⟩ a333 ha333; clear ha327 a327
         have hs334 := hs325.trans' he331
         have hx335 := hx323.trans' (Stp.of_ext he331 _)
         have hzhx335 := he331.size
         refine ⟨(Stp.of_ext hs334 _), ?_⟩
         replace hf37 := hf37.ext hs334
         replace ho63 := ho63.ext hs334
         replace hS317 := hS317.ext hs334
         refine dr_narrow (S' := fun w' => Stp w329 w' _) (fun w' h' => (Stp.of_ext hs334 _).trans' h') _ _ _ _ ?_
         have hs336 : Ext w329 w329 := Ext.rfl' _
         obtain ⟨x337, hx337⟩ := get_ex (xs := [([97, 100, 97] : Str), ([98, 111] : Str), ([99, 121] : Str)]) (j := ((q227 : Int)).toNat) (by first | omega | (simp only [List.length_cons, List.length_nil]; omega))
         obtain ⟨p338, c339, hi340, hc341, hr342, hs343⟩ := Rds.at_ (ho330.rds pos_shStr) hx337
         obtain ⟨rfl, b344⟩ := inv_shStr hr342
         obtain ⟨_, _⟩ : _ ∧ _ := hs343
         have hdlx337 := el_len 17 (by rfl) hx337
         refine dr_val (i := 7) ha333 rfl (by kernel_rfl) (by kernel_rfl) (by kernel_rfl) rfl rfl rfl (Stp.of_ext hs336 _) (fun w' hw' => op_indexAddr ha333 rfl Try.underlying52 ti9 rfl rfl (by omega) hi340) ?_
         intro a345 ha345; clear ha333 a333
         refine dr_val (i := 8) ha345 rfl (by kernel_rfl) (by kernel_rfl) (by kernel_rfl) rfl rfl rfl (Stp.of_ext hs336 _) (fun w' hw' => op_loadH ha345 rfl Try.underlying9 rfl rfl (hc341.stp hw' (by intro q hq; cases hq; omega)) rfl) ?_
         intro a346 ha346; clear ha345 a345
         refine dr_val (i := 13) ha346 rfl (by kernel_rfl) (by kernel_rfl) (by kernel_rfl) rfl rfl rfl (Stp.of_ext hs336 _) (fun w' hw' => op_build (vs := [(0, .int .i64 d), (1, .int .i64 (q74 : Int)), (2, St x337), (3, .int .i64 ((100 : Int) * ((1 : Int) + (q318 : Int))))]) (cs := #[.int .i64 d, .int .i64 (q74 : Int), St x337, .int .i64 ((100 : Int) * ((1 : Int) + (q318 : Int)))]) ha346 rfl Try.underlying41 ti41 bp41 rfl rfl) ?_
         intro a347 ha347; clear ha346 a346
         refine dr_one (i := 14) (by kernel_rfl) ?_
         refine po_eff ha347 rfl rfl rfl rfl (op_alloc' rfl ti41 rfl) ?_
         rintro _ w348 ⟨rfl, he349, hb350, hz351⟩ a352 ha352; clear ha347 a347
         have hs353 := hs336.trans' he349
         have hx354 := hx335.trans' (Stp.of_ext he349 _)
         have hzhx354 := he349.size
         refine ⟨(Stp.of_ext hs353 _), ?_⟩
         replace hf37 := hf37.ext hs353
         replace ho63 := ho63.ext hs353
         replace hS317 := hS317.ext hs353
         replace ho330 := ho330.ext hs353
         replace hc341 := hc341.ext hs353
         refine dr_narrow (S' := fun w' => StpL w348 w' (fun i => i = g_s ∨ i = w329.heap.size)) (fun w' h' => ((Stp.of_ext hs353 _)).freshL h' (by intro i hi; rcases hi with q | q <;> first | (exact Or.inl (congrArg some q.symm)) | (right; omega))) _ _ _ _ ?_
         have hs355 : Ext w348 w348 := Ext.rfl' _
         refine dr_one (i := 15) (by kernel_rfl) ?_
         refine po_effS ha352 rfl rfl rfl (op_storeAll' ha352 rfl ti41 rfl rfl hb350 rfl rfl (by simp [Value.oneCell']) rfl) ?_
         rintro w356 ⟨hb358, hst357, hz359⟩
         have hx360 := hx354.fresh hst357 (by intro q hq; cases hq; exact (by omega))
         have hzhx360 := hst357.size
         replace hf37 := hf37.stp hst357 (by intro q hq; cases hq; omega)
         replace ho63 := ho63.stp hst357 (by intro q hq; cases hq; omega)
         replace hS317 := hS317.stp hst357 (by intro q hq; cases hq; omega)
         replace ho330 := ho330.stp hst357 (by intro q hq; cases hq; omega)
         replace hc341 := hc341.stp hst357 (by intro q hq; cases hq; omega)
         clear hb350
         have hs361 := (StpL.of_ext (B := fun i => i = g_s ∨ i = w329.heap.size) hs355).trans' (Stp.toL hst357 (by intro q hq; cases hq; exact Or.inr (rfl)))
         refine ⟨hs361, ?_⟩
         refine dr_narrow (S' := fun w' => StpL w356 w' _) (fun w' h' => hs361.trans' h') _ _ _ _ ?_
         have hs362 : Ext w356 w356 := Ext.rfl' _
         refine dr_end (by kernel_rfl) ?_
         refine then_n ?_
         exact ⟨w329.heap.size, q74, x337, q318, (Sl.cons_ ha352 rfl rfl (Sl.cons_ ha352 rfl rfl (Sl.cons_ ha352 rfl rfl (Sl.cons_ ha352 rfl rfl (Sl.cons_ ha352 rfl rfl (Sl.nil_ ha352)))))), hx360, hS317, (hf37.fin (by omega) (by omega) (by omega)), hb358, (by omega), (by omega), (by omega), (by omega), (by omega), (by omega), (by omega)⟩
        ·
         refine po_eff ha327 rfl rfl rfl rfl (op_alloc' rfl ti41 rfl) ?_
         rintro _ w363 ⟨rfl, he364, hb365, hz366⟩ a367 ha367; clear ha327 a327
         have hs368 := hs325.trans' he364
         have hx369 := hx323.trans' (Stp.of_ext he364 _)
         have hzhx369 := he364.size
         refine ⟨(Stp.of_ext hs368 _), ?_⟩
         replace hf37 := hf37.ext hs368
         replace ho63 := ho63.ext hs368
         replace hS317 := hS317.ext hs368
         refine dr_narrow (S' := fun w' => StpL w363 w' (fun i => i = g_s ∨ i = w315.heap.size)) (fun w' h' => ((Stp.of_ext hs368 _)).freshL h' (by intro i hi; rcases hi with q | q <;> first | (exact Or.inl (congrArg some q.symm)) | (right; omega))) _ _ _ _ ?_
         have hs370 : Ext w363 w363 := Ext.rfl' _
         refine dr_one (i := 4) (by kernel_rfl) ?_
         refine po_eff ha367 rfl rfl rfl rfl (op_buildSlice (s := shStr) (xs := [([97, 100, 97] : Str), ([98, 111] : Str), ([99, 121] : Str)]) (cs := [St (([97, 100, 97] : Str)), St (([98, 111] : Str)), St (([99, 121] : Str))]) (vs := [(0, St (([97, 100, 97] : Str))), (1, St (([98, 111] : Str))), (2, St (([99, 121] : Str)))]) (S := fun _ => False) (le := w363.heap.size) ha367 rfl pos_shStr Try.underlying52 ti9 rfl rfl (by decide) (by kernel_rfl) ⟨mk_shStr (([97, 100, 97] : Str)) (by first | assumption | omega | (constructor <;> omega) | (dsimp only; omega) | (simp; done) | (simp; omega)), mk_shStr (([98, 111] : Str)) (by first | assumption | omega | (constructor <;> omega) | (dsimp only; omega) | (simp; done) | (simp; omega)), mk_shStr (([99, 121] : Str)) (by first | assumption | omega | (constructor <;> omega) | (dsimp only; omega) | (simp; done) | (simp; omega)), rfl⟩ (fun _ h => h.elim)) ?_
         rintro v371 w372 ⟨ho373, he374, hob375⟩ a376 ha376; clear ha367 a367
         have hs377 := hs370.trans' he374
         have hx378 := hx369.trans' (Stp.of_ext he374 _)
         have hzhx378 := he374.size
         refine ⟨(StpL.of_ext hs377), ?_⟩
         replace hf37 := hf37.ext hs377
         replace ho63 := ho63.ext hs377
         replace hS317 := hS317.ext hs377
         replace hb365 := hb365.ext hs377
         refine dr_narrow (S' := fun w' => StpL w372 w' _) (fun w' h' => (StpL.of_ext hs377).trans' h') _ _ _ _ ?_
         have hs379 : Ext w372 w372 := Ext.rfl' _
         obtain ⟨x380, hx380⟩ := get_ex (xs := [([97, 100, 97] : Str), ([98, 111] : Str), ([99, 121] : Str)]) (j := ((q227 : Int)).toNat) (by first | omega | (simp only [List.length_cons, List.length_nil]; omega))
         obtain ⟨p381, c382, hi383, hc384, hr385, hs386⟩ := Rds.at_ (ho373.rds pos_shStr) hx380
         obtain ⟨rfl, b387⟩ := inv_shStr hr385
         obtain ⟨_, _⟩ : _ ∧ _ := hs386
         have hdlx380 := el_len 17 (by rfl) hx380
         refine dr_val (i := 7) ha376 rfl (by kernel_rfl) (by kernel_rfl) (by kernel_rfl) rfl rfl rfl (StpL.of_ext hs379) (fun w' hw' => op_indexAddr ha376 rfl Try.underlying52 ti9 rfl rfl (by omega) hi383) ?_
         intro a388 ha388; clear ha376 a376
         refine dr_val (i := 8) ha388 rfl (by kernel_rfl) (by kernel_rfl) (by kernel_rfl) rfl rfl rfl (StpL.of_ext hs379) (fun w' hw' => op_loadH ha388 rfl Try.underlying9 rfl rfl (hc384.stpL hw' (by rintro (q | q) <;> first | omega)) rfl) ?_
         intro a389 ha389; clear ha388 a388
         refine dr_val (i := 13) ha389 rfl (by kernel_rfl) (by kernel_rfl) (by kernel_rfl) rfl rfl rfl (StpL.of_ext hs379) (fun w' hw' => op_build (vs := [(0, .int .i64 d), (1, .int .i64 (q74 : Int)), (2, St x380), (3, .int .i64 ((100 : Int) * ((1 : Int) + (q318 : Int))))]) (cs := #[.int .i64 d, .int .i64 (q74 : Int), St x380, .int .i64 ((100 : Int) * ((1 : Int) + (q318 : Int)))]) ha389 rfl Try.underlying41 ti41 bp41 rfl rfl) ?_
         intro a390 ha390; clear ha389 a389
         refine dr_one (i := 15) (by kernel_rfl) ?_
         refine po_effS ha390 rfl rfl rfl (op_storeAll' ha390 rfl ti41 rfl rfl hb365 rfl rfl (by simp [Value.oneCell']) rfl) ?_
         rintro w391 ⟨hb393, hst392, hz394⟩
         have hx395 := hx378.fresh hst392 (by intro q hq; cases hq; exact (by omega))
         have hzhx395 := hst392.size
         replace hf37 := hf37.stp hst392 (by intro q hq; cases hq; omega)
         replace ho63 := ho63.stp hst392 (by intro q hq; cases hq; omega)
         replace hS317 := hS317.stp hst392 (by intro q hq; cases hq; omega)
         replace ho373 := ho373.stp hst392 (by intro q hq; cases hq; omega)
         replace hc384 := hc384.stp hst392 (by intro q hq; cases hq; omega)
         clear hb365
         have hs396 := (StpL.of_ext (B := fun i => i = g_s ∨ i = w315.heap.size) hs379).trans' (Stp.toL hst392 (by intro q hq; cases hq; exact Or.inr (rfl)))
         refine ⟨hs396, ?_⟩
         refine dr_narrow (S' := fun w' => StpL w391 w' _) (fun w' h' => hs396.trans' h') _ _ _ _ ?_
         have hs397 : Ext w391 w391 := Ext.rfl' _
         refine dr_end (by kernel_rfl) ?_
         refine then_n ?_
         exact ⟨w315.heap.size, q74, x380, q318, (Sl.cons_ ha390 rfl rfl (Sl.cons_ ha390 rfl rfl (Sl.cons_ ha390 rfl rfl (Sl.cons_ ha390 rfl rfl (Sl.cons_ ha390 rfl rfl (Sl.nil_ ha390)))))), hx395, hS317, (hf37.fin (by omega) (by omega) (by omega)), hb393, (by omega), (by omega), (by omega), (by omega), (by omega), (by omega), (by omega)⟩
       ·
        refine po_eff ha231 rfl rfl rfl rfl (op_alloc' rfl ti41 rfl) ?_
        rintro _ w398 ⟨rfl, he399, hb400, hz401⟩ a402 ha402; clear ha231 a231
        have hs403 := hs234.trans' he399
        have hx404 := hx232.trans' (Stp.of_ext he399 _)
        have hzhx404 := he399.size
        refine ⟨(Stp.of_ext hs403 _), ?_⟩
        replace hf37 := hf37.ext hs403
        replace ho63 := ho63.ext hs403
        replace hS226 := hS226.ext hs403
        refine dr_narrow (S' := fun w' => StpL w398 w' (fun i => i = g_s ∨ i = w224.heap.size)) (fun w' h' => ((Stp.of_ext hs403 _)).freshL h' (by intro i hi; rcases hi with q | q <;> first | (exact Or.inl (congrArg some q.symm)) | (right; omega))) _ _ _ _ ?_
        have hs405 : Ext w398 w398 := Ext.rfl' _
        refine dr_two (i := 4) (j := 10) (by kernel_rfl) ?_ ?_
        ·
         refine po_eff ha402 rfl rfl rfl rfl (op_buildSlice (s := shStr) (xs := [([97, 100, 97] : Str), ([98, 111] : Str), ([99, 121] : Str)]) (cs := [St (([97, 100, 97] : Str)), St (([98, 111] : Str)), St (([99, 121] : Str))]) (vs := [(0, St (([97, 100, 97] : Str))), (1, St (([98, 111] : Str))), (2, St (([99, 121] : Str)))]) (S := fun _ => False) (le := w398.heap.size) ha402 rfl pos_shStr Try.underlying52 ti9 rfl rfl (by decide) (by kernel_rfl) ⟨mk_shStr (([97, 100, 97] : Str)) (by first | assumption | omega | (constructor <;> omega) | (dsimp only; omega) | (simp; done) | (simp; omega)), mk_shStr (([98, 111] : Str)) (by first | assumption | omega | (constructor <;> omega) | (dsimp only; omega) | (simp; done) | (simp; omega)), mk_shStr (([99, 121] : Str)) (by first | assumption | omega | (constructor <;> omega) | (dsimp only; omega) | (simp; done) | (simp; omega)), rfl⟩ (fun _ h => h.elim)) ?_
         rintro v406 w407 ⟨ho408, he409, hob410⟩ a411 ha411; clear ha402 a402
         have hs412 := hs405.trans' he409
         have hx413 := hx404.trans' (Stp.of_ext he409 _)
         have hzhx413 := he409.size
         refine ⟨(StpL.of_ext hs412), ?_⟩
         replace hf37 := hf37.ext hs412
         replace ho63 := ho63.ext hs412
         replace hS226 := hS226.ext hs412
         replace hb400 := hb400.ext hs412
         refine dr_narrow (S' := fun w' => StpL w407 w' _) (fun w' h' => (StpL.of_ext hs412).trans' h') _ _ _ _ ?_
         have hs414 : Ext w407 w407 := Ext.rfl' _
         obtain ⟨x415, hx415⟩ := get_ex (xs := [([97, 100, 97] : Str), ([98, 111] : Str), ([99, 121] : Str)]) (j := ((q227 : Int)).toNat) (by first | omega | (simp only [List.length_cons, List.length_nil]; omega))
         obtain ⟨p416, c417, hi418, hc419, hr420, hs421⟩ := Rds.at_ (ho408.rds pos_shStr) hx415
         obtain ⟨rfl, b422⟩ := inv_shStr hr420
         obtain ⟨_, _⟩ : _ ∧ _ := hs421
         have hdlx415 := el_len 17 (by rfl) hx415
         refine dr_val (i := 7) ha411 rfl (by kernel_rfl) (by kernel_rfl) (by kernel_rfl) rfl rfl rfl (StpL.of_ext hs414) (fun w' hw' => op_indexAddr ha411 rfl Try.underlying52 ti9 rfl rfl (by omega) hi418) ?_
         intro a423 ha423; clear ha411 a411
         refine dr_val (i := 8) ha423 rfl (by kernel_rfl) (by kernel_rfl) (by kernel_rfl) rfl rfl rfl (StpL.of_ext hs414) (fun w' hw' => op_loadH ha423 rfl Try.underlying9 rfl rfl (hc419.stpL hw' (by rintro (q | q) <;> first | omega)) rfl) ?_
         intro a424 ha424; clear ha423 a423
         refine dr_one (i := 10) (by kernel_rfl) ?_
         refine po_callS ha424 rfl rfl rfl rfl (op_call ha424 rfl cb73 rfl) (c_spec_l01Next _ g_s b_s (30 : Int) hS226) ?_
         rintro v425 w426 he427 ⟨hS428, ⟨q429, hq430, hq431, hq432, rfl⟩⟩ a433 ha433; clear ha424 a424
         have hx434 := hx413.trans' he427
         have hzhx434 := he427.size
         first | replace hf37 := hf37.stp he427 (by intro q hq; cases hq; omega) | replace hf37 := hf37.stpF flat_shEnt he427 (by intro q hq; cases hq; exact hf37.ne_box (by assumption) rfl)
         first | replace ho63 := ho63.stp he427 (by intro q hq; cases hq; omega) | replace ho63 := ho63.stpF flat_shI64 he427 (by intro q hq; cases hq; exact ho63.ne_box (by assumption) rfl)
         replace hb400 := hb400.stp he427 (by intro q hq; cases hq; omega)
         first | replace ho408 := ho408.stp he427 (by intro q hq; cases hq; omega) | replace ho408 := ho408.stpF flat_shStr he427 (by intro q hq; cases hq; exact ho408.ne_box (by assumption) rfl)
         replace hc419 := hc419.stp he427 (by intro q hq; cases hq; omega)
         clear hS226
         have hSlhS428 := hS428.lt
         have hs435 := (StpL.of_ext (B := fun i => i = g_s ∨ i = w224.heap.size) hs414).trans' (Stp.toL he427 (by intro q hq; cases hq; exact Or.inl rfl))
         refine ⟨hs435, ?_⟩
         refine dr_narrow (S' := fun w' => StpL w426 w' _) (fun w' h' => hs435.trans' h') _ _ _ _ ?_
         have hs436 : Ext w426 w426 := Ext.rfl' _
         refine dr_val (i := 11) ha433 rfl (by kernel_rfl) (by kernel_rfl) (by kernel_rfl) rfl rfl rfl (StpL.of_ext hs436) (fun w' hw' => (op_add ha433 rfl rfl rfl).int (IntWalk.i64_in _ (by omega))) ?_
         intro a437 ha437; clear ha433 a433
         refine dr_val (i := 12) ha437 rfl (by kernel_rfl) (by kernel_rfl) (by kernel_rfl) rfl rfl rfl (StpL.of_ext hs436) (fun w' hw' => (op_mul ha437 rfl rfl rfl).int (IntWalk.i64_in _ (by omega))) ?_
         intro a438 ha438; clear ha437 a437
         refine dr_val (i := 13) ha438 rfl (by kernel_rfl) (by kernel_rfl) (by kernel_rfl) rfl rfl rfl (StpL.of_ext hs436) (fun w' hw' => op_build (vs := [(0, .int .i64 d), (1, .int .i64 (q74 : Int)), (2, St x415), (3, .int .i64 ((100 : Int) * ((1 : Int) + (q429 : Int))))]) (cs := #[.int .i64 d, .int .i64 (q74 : Int), St x415, .int .i64 ((100 : Int) * ((1 : Int) + (q429 : Int)))]) ha438 rfl Try.underlying41 ti41 bp41 rfl rfl) ?_
         intro a439 ha439; clear ha438 a438
         refine dr_one (i := 15) (by kernel_rfl) ?_
         refine po_effS ha439 rfl rfl rfl (op_storeAll' ha439 rfl ti41 rfl rfl hb400 rfl rfl (by simp [Value.oneCell']) rfl) ?_
         rintro w440 ⟨hb442, hst441, hz443⟩
         have hx444 := hx434.fresh hst441 (by intro q hq; cases hq; exact (by omega))
         have hzhx444 := hst441.size
         replace hf37 := hf37.stp hst441 (by intro q hq; cases hq; omega)
         replace ho63 := ho63.stp hst441 (by intro q hq; cases hq; omega)
         replace ho408 := ho408.stp hst441 (by intro q hq; cases hq; omega)
         replace hc419 := hc419.stp hst441 (by intro q hq; cases hq; omega)
         replace hS428 := hS428.stp hst441 (by intro q hq; cases hq; omega)
         clear hb400
         have hs445 := (StpL.of_ext (B := fun i => i = g_s ∨ i = w224.heap.size) hs436).trans' (Stp.toL hst441 (by intro q hq; cases hq; exact Or.inr (rfl)))
         refine ⟨hs445, ?_⟩
         refine dr_narrow (S' := fun w' => StpL w440 w' _) (fun w' h' => hs445.trans' h') _ _ _ _ ?_
         have hs446 : Ext w440 w440 := Ext.rfl' _
         refine dr_end (by kernel_rfl) ?_
         refine then_n ?_
         exact ⟨w224.heap.size, q74, x415, q429, (Sl.cons_ ha439 rfl rfl (Sl.cons_ ha439 rfl rfl (Sl.cons_ ha439 rfl rfl (Sl.cons_ ha439 rfl rfl (Sl.cons_ ha439 rfl rfl (Sl.nil_ ha439)))))), hx444, hS428, (hf37.fin (by omega) (by omega) (by omega)), hb442, (by omega), (by omega), (by omega), (by omega), (by omega), (by omega), (by omega)⟩
        ·
         refine po_callS ha402 rfl rfl rfl rfl (op_call ha402 rfl cb73 rfl) (c_spec_l01Next _ g_s b_s (30 : Int) hS226) ?_
         rintro v447 w448 he449 ⟨hS450, ⟨q451, hq452, hq453, hq454, rfl⟩⟩ a455 ha455; clear ha402 a402
         have hx456 := hx404.trans' he449
         have hzhx456 := he449.size
         first | replace hf37 := hf37.stp he449 (by intro q hq; cases hq; omega) | replace hf37 := hf37.stpF flat_shEnt he449 (by intro q hq; cases hq; exact hf37.ne_box (by assumption) rfl)
         first | replace ho63 := ho63.stp he449 (by intro q hq; cases hq; omega) | replace ho63 := ho63.stpF flat_shI64 he449 (by intro q hq; cases hq; exact ho63.ne_box (by assumption) rfl)
         replace hb400 := hb400.stp he449 (by intro q hq; cases hq; omega)
         clear hS226
         have hSlhS450 := hS450.lt
         have hs457 := (StpL.of_ext (B := fun i => i = g_s ∨ i = w224.heap.size) hs405).trans' (Stp.toL he449 (by intro q hq; cases hq; exact Or.inl rfl))
         refine ⟨hs457, ?_⟩
         refine dr_narrow (S' := fun w' => StpL w448 w' _) (fun w' h' => hs457.trans' h') _ _ _ _ ?_
         have hs458 : Ext w448 w448 := Ext.rfl' _
         refine dr_val (i := 11) ha455 rfl (by kernel_rfl) (by kernel_rfl) (by kernel_rfl) rfl rfl rfl (StpL.of_ext hs458) (fun w' hw' => (op_add ha455 rfl rfl rfl).int (IntWalk.i64_in _ (by omega))) ?_
         intro a459 ha459; clear ha455 a455
         refine dr_val (i := 12) ha459 rfl (by kernel_rfl) (by kernel_rfl) (by kernel_rfl) rfl rfl rfl (StpL.of_ext hs458) (fun w' hw' => (op_mul ha459 rfl rfl rfl).int (IntWalk.i64_in _ (by omega))) ?_
         intro a460 ha460; clear ha459 a459
         refine dr_one (i := 4) (by kernel_rfl) ?_
         refine po_eff ha460 rfl rfl rfl rfl (op_buildSlice (s := shStr) (xs := [([97, 100, 97] : Str), ([98, 111] : Str), ([99, 121] : Str)]) (cs := [St (([97, 100, 97] : Str)), St (([98, 111] : Str)), St (([99, 121] : Str))]) (vs := [(0, St (([97, 100, 97] : Str))), (1, St (([98, 111] : Str))), (2, St (([99, 121] : Str)))]) (S := fun _ => False) (le := w448.heap.size) ha460 rfl pos_shStr Try.underlying52 ti9 rfl rfl (by decide) (by kernel_rfl) ⟨mk_shStr (([97, 100, 97] : Str)) (by first | assumption | omega | (constructor <;> omega) | (dsimp only; omega) | (simp; done) | (simp; omega)), mk_shStr (([98, 111] : Str)) (by first | assumption | omega | (constructor <;> omega) | (dsimp only; omega) | (simp; done) | (simp; omega)), mk_shStr (([99, 121] : Str)) (by first | assumption | omega | (constructor <;> omega) | (dsimp only; omega) | (simp; done) | (simp; omega)), rfl⟩ (fun _ h => h.elim)) ?_
         rintro v461 w462 ⟨ho463, he464, hob465⟩ a466 ha466; clear ha460 a460
         have hs467 := hs458.trans' he464
         have hx468 := hx456.trans' (Stp.of_ext he464 _)
         have hzhx468 := he464.size
         refine ⟨(StpL.of_ext hs467), ?_⟩
         replace hf37 := hf37.ext hs467
         replace ho63 := ho63.ext hs467
         replace hb400 := hb400.ext hs467
         replace hS450 := hS450.ext hs467
         refine dr_narrow (S' := fun w' => StpL w462 w' _) (fun w' h' => (StpL.of_ext hs467).trans' h') _ _ _ _ ?_
         have hs469 : Ext w462 w462 := Ext.rfl' _
         obtain ⟨x470, hx470⟩ := get_ex (xs := [([97, 100, 97] : Str), ([98, 111] : Str), ([99, 121] : Str)]) (j := ((q227 : Int)).toNat) (by first | omega | (simp only [List.length_cons, List.length_nil]; omega))
         obtain ⟨p471, c472, hi473, hc474, hr475, hs476⟩ := Rds.at_ (ho463.rds pos_shStr) hx470
         obtain ⟨rfl, b477⟩ := inv_shStr hr475
         obtain ⟨_, _⟩ : _ ∧ _ := hs476
         have hdlx470 := el_len 17 (by rfl) hx470
         refine dr_val (i := 7) ha466 rfl (by kernel_rfl) (by kernel_rfl) (by kernel_rfl) rfl rfl rfl (StpL.of_ext hs469) (fun w' hw' => op_indexAddr ha466 rfl Try.underlying52 ti9 rfl rfl (by omega) hi473) ?_
         intro a478 ha478; clear ha466 a466
         refine dr_val (i := 8) ha478 rfl (by kernel_rfl) (by kernel_rfl) (by kernel_rfl) rfl rfl rfl (StpL.of_ext hs469) (fun w' hw' => op_loadH ha478 rfl Try.underlying9 rfl rfl (hc474.stpL hw' (by rintro (q | q) <;> first | omega)) rfl) ?_
         intro a479 ha479; clear ha478 a478
         refine dr_val (i := 13) ha479 rfl (by kernel_rfl) (by kernel_rfl) (by kernel_rfl) rfl rfl rfl (StpL.of_ext hs469) (fun w' hw' => op_build (vs := [(0, .int .i64 d), (1, .int .i64 (q74 : Int)), (2, St x470), (3, .int .i64 ((100 : Int) * ((1 : Int) + (q451 : Int))))]) (cs := #[.int .i64 d, .int .i64 (q74 : Int), St x470, .int .i64 ((100 : Int) * ((1 : Int) + (q451 : Int)))]) ha479 rfl Try.underlying41 ti41 bp41 rfl rfl) ?_
         intro a480 ha480; clear ha479 a479
         refine dr_one (i := 15) (by kernel_rfl) ?_
         refine po_effS ha480 rfl rfl rfl (op_storeAll' ha480 rfl ti41 rfl rfl hb400 rfl rfl (by simp [Value.oneCell']) rfl) ?_
         rintro w481 ⟨hb483, hst482, hz484⟩
         have hx485 := hx468.fresh hst482 (by intro q hq; cases hq; exact (by omega))
         have hzhx485 := hst482.size
         replace hf37 := hf37.stp hst482 (by intro q hq; cases hq; omega)
         replace ho63 := ho63.stp hst482 (by intro q hq; cases hq; omega)
         replace hS450 := hS450.stp hst482 (by intro q hq; cases hq; omega)
         replace ho463 := ho463.stp hst482 (by intro q hq; cases hq; omega)
         replace hc474 := hc474.stp hst482 (by intro q hq; cases hq; omega)
         clear hb400
         have hs486 := (StpL.of_ext (B := fun i => i = g_s ∨ i = w224.heap.size) hs469).trans' (Stp.toL hst482 (by intro q hq; cases hq; exact Or.inr (rfl)))
         refine ⟨hs486, ?_⟩
         refine dr_narrow (S' := fun w' => StpL w481 w' _) (fun w' h' => hs486.trans' h') _ _ _ _ ?_
         have hs487 : Ext w481 w481 := Ext.rfl' _
         refine dr_end (by kernel_rfl) ?_
         refine then_n ?_
         exact ⟨w224.heap.size, q74, x470, q451, (Sl.cons_ ha480 rfl rfl (Sl.cons_ ha480 rfl rfl (Sl.cons_ ha480 rfl rfl (Sl.cons_ ha480 rfl rfl (Sl.cons_ ha480 rfl rfl (Sl.nil_ ha480)))))), hx485, hS450, (hf37.fin (by omega) (by omega) (by omega)), hb483, (by omega), (by omega), (by omega), (by omega), (by omega), (by omega), (by omega)⟩
      ·
       refine po_eff ha76 rfl rfl rfl rfl (op_alloc' rfl ti41 rfl) ?_
       rintro _ w488 ⟨rfl, he489, hb490, hz491⟩ a492 ha492; clear ha76 a76
       have hs493 := hs79.trans' he489
       have hx494 := hx77.trans' (Stp.of_ext he489 _)
       have hzhx494 := he489.size
       refine ⟨(Stp.of_ext hs493 _), ?_⟩
       replace hf37 := hf37.ext hs493
       replace ho63 := ho63.ext hs493
       replace hS73 := hS73.ext hs493
       refine dr_narrow (S' := fun w' => StpL w488 w' (fun i => i = g_s ∨ i = w71.heap.size)) (fun w' h' => ((Stp.of_ext hs493 _)).freshL h' (by intro i hi; rcases hi with q | q <;> first | (exact Or.inl (congrArg some q.symm)) | (right; omega))) _ _ _ _ ?_
       have hs495 : Ext w488 w488 := Ext.rfl' _
       refine dr_two (i := 4) (j := 6) (by kernel_rfl) ?_ ?_
       ·
        refine po_eff ha492 rfl rfl rfl rfl (op_buildSlice (s := shStr) (xs := [([97, 100, 97] : Str), ([98, 111] : Str), ([99, 121] : Str)]) (cs := [St (([97, 100, 97] : Str)), St (([98, 111] : Str)), St (([99, 121] : Str))]) (vs := [(0, St (([97, 100, 97] : Str))), (1, St (([98, 111] : Str))), (2, St (([99, 121] : Str)))]) (S := fun _ => False) (le := w488.heap.size) ha492 rfl pos_shStr Try.underlying52 ti9 rfl rfl (by decide) (by kernel_rfl) ⟨mk_shStr (([97, 100, 97] : Str)) (by first | assumption | omega | (constructor <;> omega) | (dsimp only; omega) | (simp; done) | (simp; omega)), mk_shStr (([98, 111] : Str)) (by first | assumption | omega | (constructor <;> omega) | (dsimp only; omega) | (simp; done) | (simp; omega)), mk_shStr (([99, 121] : Str)) (by first | assumption | omega | (constructor <;> omega) | (dsimp only; omega) | (simp; done) | (simp; omega)), rfl⟩ (fun _ h => h.elim)) ?_
        rintro v496 w497 ⟨ho498, he499, hob500⟩ a501 ha501; clear ha492 a492
        have hs502 := hs495.trans' he499
        have hx503 := hx494.trans' (Stp.of_ext he499 _)
        have hzhx503 := he499.size
        refine ⟨(StpL.of_ext hs502), ?_⟩
        replace hf37 := hf37.ext hs502
        replace ho63 := ho63.ext hs502
        replace hS73 := hS73.ext hs502
        replace hb490 := hb490.ext hs502
        refine dr_narrow (S' := fun w' => StpL w497 w' _) (fun w' h' => (StpL.of_ext hs502).trans' h') _ _ _ _ ?_
        have hs504 : Ext w497 w497 := Ext.rfl' _
        refine dr_one (i := 6) (by kernel_rfl) ?_
        refine po_callS ha501 rfl rfl rfl rfl (op_call ha501 rfl cb73 rfl) (c_spec_l01Next _ g_s b_s (3 : Int) hS73) ?_
        rintro v505 w506 he507 ⟨hS508, ⟨q509, hq510, hq511, hq512, rfl⟩⟩ a513 ha513; clear ha501 a501
        have hx514 := hx503.trans' he507
        have hzhx514 := he507.size
        first | replace hf37 := hf37.stp he507 (by intro q hq; cases hq; omega) | replace hf37 := hf37.stpF flat_shEnt he507 (by intro q hq; cases hq; exact hf37.ne_box (by assumption) rfl)
        first | replace ho63 := ho63.stp he507 (by intro q hq; cases hq; omega) | replace ho63 := ho63.stpF flat_shI64 he507 (by intro q hq; cases hq; exact ho63.ne_box (by assumption) rfl)
        replace hb490 := hb490.stp he507 (by intro q hq; cases hq; omega)
        first | replace ho498 := ho498.stp he507 (by intro q hq; cases hq; omega) | replace ho498 := ho498.stpF flat_shStr he507 (by intro q hq; cases hq; exact ho498.ne_box (by assumption) rfl)
        clear hS73
        have hSlhS508 := hS508.lt
        have hs515 := (StpL.of_ext (B := fun i => i = g_s ∨ i = w71.heap.size) hs504).trans' (Stp.toL he507 (by intro q hq; cases hq; exact Or.inl rfl))
        refine ⟨hs515, ?_⟩
        refine dr_narrow (S' := fun w' => StpL w506 w' _) (fun w' h' => hs515.trans' h') _ _ _ _ ?_
        have hs516 : Ext w506 w506 := Ext.rfl' _
        obtain ⟨x517, hx517⟩ := get_ex (xs := [([97, 100, 97] : Str), ([98, 111] : Str), ([99, 121] : Str)]) (j := ((q509 : Int)).toNat) (by first | omega | (simp only [List.length_cons, List.length_nil]; omega))
        obtain ⟨p518, c519, hi520, hc521, hr522, hs523⟩ := Rds.at_ (ho498.rds pos_shStr) hx517
        obtain ⟨rfl, b524⟩ := inv_shStr hr522
        obtain ⟨_, _⟩ : _ ∧ _ := hs523
        have hdlx517 := el_len 17 (by rfl) hx517
        refine dr_val (i := 7) ha513 rfl (by kernel_rfl) (by kernel_rfl) (by kernel_rfl) rfl rfl rfl (StpL.of_ext hs516) (fun w' hw' => op_indexAddr ha513 rfl Try.underlying52 ti9 rfl rfl (by omega) hi520) ?_
        intro a525 ha525; clear ha513 a513
        refine dr_val (i := 8) ha525 rfl (by kernel_rfl) (by kernel_rfl) (by kernel_rfl) rfl rfl rfl (StpL.of_ext hs516) (fun w' hw' => op_loadH ha525 rfl Try.underlying9 rfl rfl (hc521.stpL hw' (by rintro (q | q) <;> first | omega)) rfl) ?_
        intro a526 ha526; clear ha525 a525
        refine dr_one (i := 10) (by kernel_rfl) ?_
        refine po_callS ha526 rfl rfl rfl rfl (op_call ha526 rfl cb73 rfl) (c_spec_l01Next _ g_s b_s (30 : Int) hS508) ?_
        rintro v527 w528 he529 ⟨hS530, ⟨q531, hq532, hq533, hq534, rfl⟩⟩ a535 ha535; clear ha526 a526
        have hx536 := hx514.trans' he529
        have hzhx536 := he529.size
        first | replace hf37 := hf37.stp he529 (by intro q hq; cases hq; omega) | replace hf37 := hf37.stpF flat_shEnt he529 (by intro q hq; cases hq; exact hf37.ne_box (by assumption) rfl)
        first | replace ho63 := ho63.stp he529 (by intro q hq; cases hq; omega) | replace ho63 := ho63.stpF flat_shI64 he529 (by intro q hq; cases hq; exact ho63.ne_box (by assumption) rfl)
        replace hb490 := hb490.stp he529 (by intro q hq; cases hq; omega)
        first | replace ho498 := ho498.stp he529 (by intro q hq; cases hq; omega) | replace ho498 := ho498.stpF flat_shStr he529 (by intro q hq; cases hq; exact ho498.ne_box (by assumption) rfl)
        replace hc521 := hc521.stp he529 (by intro q hq; cases hq; omega)
        clear hS508
        have hSlhS530 := hS530.lt
        have hs537 := (StpL.of_ext (B := fun i => i = g_s ∨ i = w71.heap.size) hs516).trans' (Stp.toL he529 (by intro q hq; cases hq; exact Or.inl rfl))
        refine ⟨hs537, ?_⟩
        refine dr_narrow (S' := fun w' => StpL w528 w' _) (fun w' h' => hs537.trans' h') _ _ _ _ ?_
        have hs538 : Ext w528 w528 := Ext.rfl' _
        refine dr_val (i := 11) ha535 rfl (by kernel_rfl) (by kernel_rfl) (by kernel_rfl) rfl rfl rfl (StpL.of_ext hs538) (fun w' hw' => (op_add ha535 rfl rfl rfl).int (IntWalk.i64_in _ (by omega))) ?_
        intro a539 ha539; clear ha535 a535
        refine dr_val (i := 12) ha539 rfl (by kernel_rfl) (by kernel_rfl) (by kernel_rfl) rfl rfl rfl (StpL.of_ext hs538) (fun w' hw' => (op_mul ha539 rfl rfl rfl).int (IntWalk.i64_in _ (by omega))) ?_
        intro a540 ha540; clear ha539 a539
        refine dr_val (i := 13) ha540 rfl (by kernel_rfl) (by kernel_rfl) (by kernel_rfl) rfl rfl rfl (StpL.of_ext hs538) (fun w' hw' => op_build (vs := [(0, .int .i64 d), (1, .int .i64 (q74 : Int)), (2, St x517), (3, .int .i64 ((100 : Int) * ((1 : Int) + (q531 : Int))))]) (cs := #[.int .i64 d, .int .i64 (q74 : Int), St x517, .int .i64 ((100 : Int) * ((1 : Int) + (q531 : Int)))]) ha540 rfl Try.underlying41 ti41 bp41 rfl rfl) ?_
        intro a541 ha541; clear ha540 a540
        refine dr_one (i := 15) (by kernel_rfl) ?_
        refine po_effS ha541 rfl rfl rfl (op_storeAll' ha541 rfl ti41 rfl rfl hb490 rfl rfl (by simp [Value.oneCell']) rfl) ?_
        rintro w542 ⟨hb544, hst543, hz545⟩
        have hx546 := hx536.fresh hst543 (by intro q hq; cases hq; exact (by omega))
        have hzhx546 := hst543.size
        replace hf37 := hf37.stp hst543 (by intro q hq; cases hq; omega)
        replace ho63 := ho63.stp hst543 (by intro q hq; cases hq; omega)
        replace ho498 := ho498.stp hst543 (by intro q hq; cases hq; omega)
        replace hc521 := hc521.stp hst543 (by intro q hq; cases hq; omega)
        replace hS530 := hS530.stp hst543 (by intro q hq; cases hq; omega)
        clear hb490
        have hs547 := (StpL.of_ext (B := fun i => i = g_s ∨ i = w71.heap.size) hs538).trans' (Stp.toL hst543 (by intro q hq; cases hq; exact Or.inr (rfl)))
        refine ⟨hs547, ?_⟩
        refine dr_narrow (S' := fun w' => StpL w542 w' _) (fun w' h' => hs547.trans' h') _ _ _ _ ?_
        have hs548 : Ext w542 w542 := Ext.rfl' _
        refine dr_end (by kernel_rfl) ?_
        refine then_n ?_
        exact ⟨w71.heap.size, q74, x517, q531, (Sl.cons_ ha541 rfl rfl (Sl.cons_ ha541 rfl rfl (Sl.cons_ ha541 rfl rfl (Sl.cons_ ha541 rfl rfl (Sl.cons_ ha541 rfl rfl (Sl.nil_ ha541)))))), hx546, hS530, (hf37.fin (by omega) (by omega) (by omega)), hb544, (by omega), (by omega), (by omega), (by omega), (by omega), (by omega), (by omega)⟩
       ·
        refine po_callS ha492 rfl rfl rfl rfl (op_call ha492 rfl cb73 rfl) (c_spec_l01Next _ g_s b_s (3 : Int) hS73) ?_
        rintro v549 w550 he551 ⟨hS552, ⟨q553, hq554, hq555, hq556, rfl⟩⟩ a557 ha557; clear ha492 a492
        have hx558 := hx494.trans' he551
        have hzhx558 := he551.size
        first | replace hf37 := hf37.stp he551 (by intro q hq; cases hq; omega) | replace hf37 := hf37.stpF flat_shEnt he551 (by intro q hq; cases hq; exact hf37.ne_box (by assumption) rfl)
        first | replace ho63 := ho63.stp he551 (by intro q hq; cases hq; omega) | replace ho63 := ho63.stpF flat_shI64 he551 (by intro q hq; cases hq; exact ho63.ne_box (by assumption) rfl)
        replace hb490 := hb490.stp he551 (by intro q hq; cases hq; omega)
        clear hS73
        have hSlhS552 := hS552.lt
        have hs559 := (StpL.of_ext (B := fun i => i = g_s ∨ i = w71.heap.size) hs495).trans' (Stp.toL he551 (by intro q hq; cases hq; exact Or.inl rfl))
        refine ⟨hs559, ?_⟩
        refine dr_narrow (S' := fun w' => StpL w550 w' _) (fun w' h' => hs559.trans' h') _ _ _ _ ?_
        have hs560 : Ext w550 w550 := Ext.rfl' _
        refine dr_two (i := 4) (j := 10) (by kernel_rfl) ?_ ?_
        ·
         refine po_eff ha557 rfl rfl rfl rfl (op_buildSlice (s := shStr) (xs := [([97, 100, 97] : Str), ([98, 111] : Str), ([99, 121] : Str)]) (cs := [St (([97, 100, 97] : Str)), St (([98, 111] : Str)), St (([99, 121] : Str))]) (vs := [(0, St (([97, 100, 97] : Str))), (1, St (([98, 111] : Str))), (2, St (([99, 121] : Str)))]) (S := fun _ => False) (le := w550.heap.size) ha557 rfl pos_shStr Try.underlying52 ti9 rfl rfl (by decide) (by kernel_rfl) ⟨mk_shStr (([97, 100, 97] : Str)) (by first | assumption | omega | (constructor <;> omega) | (dsimp only; omega) | (simp; done) | (simp; omega)), mk_shStr (([98, 111] : Str)) (by first | assumption | omega | (constructor <;> omega) | (dsimp only; omega) | (simp; done) | (simp; omega)), mk_shStr (([99, 121] : Str)) (by first | assumption | omega | (constructor <;> omega) | (dsimp only; omega) | (simp; done) | (simp; omega)), rfl⟩ (fun _ h => h.elim)) ?_
         rintro v561 w562 ⟨ho563, he564, hob565⟩ a566 ha566; clear ha557 a557
         have hs567 := hs560.trans' he564
         have hx568 := hx558.trans' (Stp.of_ext he564 _)
         have hzhx568 := he564.size
         refine ⟨(StpL.of_ext hs567), ?_⟩
         replace hf37 := hf37.ext hs567
         replace ho63 := ho63.ext hs567
         replace hb490 := hb490.ext hs567
         replace hS552 := hS552.ext hs567
         refine dr_narrow (S' := fun w' => StpL w562 w' _) (fun w' h' => (StpL.of_ext hs567).trans' h') _ _ _ _ ?_
         have hs569 : Ext w562 w562 := Ext.rfl' _
         obtain ⟨x570, hx570⟩ := get_ex (xs := [([97, 100, 97] : Str), ([98, 111] : Str), ([99, 121] : Str)]) (j := ((q553 : Int)).toNat) (by first | omega | (simp only [List.length_cons, List.length_nil]; omega))
         obtain ⟨p571, c572, hi573, hc574, hr575, hs576⟩ := Rds.at_ (ho563.rds pos_shStr) hx570
         obtain ⟨rfl, b577⟩ := inv_shStr hr575
         obtain ⟨_, _⟩ : _ ∧ _ := hs576
         have hdlx570 := el_len 17 (by rfl) hx570
         refine dr_val (i := 7) ha566 rfl (by kernel_rfl) (by kernel_rfl) (by kernel_rfl) rfl rfl rfl (StpL.of_ext hs569) (fun w' hw' => op_indexAddr ha566 rfl Try.underlying52 ti9 rfl rfl (by omega) hi573) ?_
         intro a578 ha578; clear ha566 a566
         refine dr_val (i := 8) ha578 rfl (by kernel_rfl) (by kernel_rfl) (by kernel_rfl) rfl rfl rfl (StpL.of_ext hs569) (fun w' hw' => op_loadH ha578 rfl Try.underlying9 rfl rfl (hc574.stpL hw' (by rintro (q | q) <;> first | omega)) rfl) ?_
         intro a579 ha579; clear ha578 a578
         refine dr_one (i := 10) (by kernel_rfl) ?_
         refine po_callS ha579 rfl rfl rfl rfl (op_call ha579 rfl cb73 rfl) (c_spec_l01Next _ g_s b_s (30 : Int) hS552) ?_
         rintro v580 w581 he582 ⟨hS583, ⟨q584, hq585, hq586, hq587, rfl⟩⟩ a588 ha588; clear ha579 a579
         have hx589 := hx568.trans' he582
         have hzhx589 := he582.size
         first | replace hf37 := hf37.stp he582 (by intro q hq; cases hq; omega) | replace hf37 := hf37.stpF flat_shEnt he582 (by intro q hq; cases hq; exact hf37.ne_box (by assumption) rfl)
         first | replace ho63 := ho63.stp he582 (by intro q hq; cases hq; omega) | replace ho63 := ho63.stpF flat_shI64 he582 (by intro q hq; cases hq; exact ho63.ne_box (by assumption) rfl)
         replace hb490 := hb490.stp he582 (by intro q hq; cases hq; omega)
         first | replace ho563 := ho563.stp he582 (by intro q hq; cases hq; omega) | replace ho563 := ho563.stpF flat_shStr he582 (by intro q hq; cases hq; exact ho563.ne_box (by assumption) rfl)
         replace hc574 := hc574.stp he582 (by intro q hq; cases hq; omega)
         clear hS552
         have hSlhS583 := hS583.lt
         have hs590 := (StpL.of_ext (B := fun i => i = g_s ∨ i = w71.heap.size) hs569).trans' (Stp.toL he582 (by intro q hq; cases hq; exact Or.inl rfl))
         refine ⟨hs590, ?_⟩
         refine dr_narrow (S' := fun w' => StpL w581 w' _) (fun w' h' => hs590.trans' h') _ _ _ _ ?_
         have hs591 : Ext w581 w581 := Ext.rfl' _
         refine dr_val (i := 11) ha588 rfl (by kernel_rfl) (by kernel_rfl) (by kernel_rfl) rfl rfl rfl (StpL.of_ext hs591) (fun w' hw' => (op_add ha588 rfl rfl rfl).int (IntWalk.i64_in _ (by omega))) ?_
         intro a592 ha592; clear ha588 a588
         refine dr_val (i := 12) ha592 rfl (by kernel_rfl) (by kernel_rfl) (by kernel_rfl) rfl rfl rfl (StpL.of_ext hs591) (fun w' hw' => (op_mul ha592 rfl rfl rfl).int (IntWalk.i64_in _ (by omega))) ?_
         intro a593 ha593; clear ha592 a592
         refine dr_val (i := 13) ha593 rfl (by kernel_rfl) (by kernel_rfl) (by kernel_rfl) rfl rfl rfl (StpL.of_ext hs591) (fun w' hw' => op_build (vs := [(0, .int .i64 d), (1, .int .i64 (q74 : Int)), (2, St x570), (3, .int .i64 ((100 : Int) * ((1 : Int) + (q584 : Int))))]) (cs := #[.int .i64 d, .int .i64 (q74 : Int), St x570, .int .i64 ((100 : Int) * ((1 : Int) + (q584 : Int)))]) ha593 rfl Try.underlying41 ti41 bp41 rfl rfl) ?_
         intro a594 ha594; clear ha593 a593
         refine dr_one (i := 15) (by kernel_rfl) ?_
         refine po_effS ha594 rfl rfl rfl (op_storeAll' ha594 rfl ti41 rfl rfl hb490 rfl rfl (by simp [Value.oneCell']) rfl) ?_
         rintro w595 ⟨hb597, hst596, hz598⟩
         have hx599 := hx589.fresh hst596 (by intro q hq; cases hq; exact (by omega))
         have hzhx599 := hst596.size
         replace hf37 := hf37.stp hst596 (by intro q hq; cases hq; omega)
         replace ho63 := ho63.stp hst596 (by intro q hq; cases hq; omega)
         replace ho563 := ho563.stp hst596 (by intro q hq; cases hq; omega)
         replace hc574 := hc574.stp hst596 (by intro q hq; cases hq; omega)
         replace hS583 := hS583.stp hst596 (by intro q hq; cases hq; omega)
         clear hb490
         have hs600 := (StpL.of_ext (B := fun i => i = g_s ∨ i = w71.heap.size) hs591).trans' (Stp.toL hst596 (by intro q hq; cases hq; exact Or.inr (rfl)))
         refine ⟨hs600, ?_⟩
         refine dr_narrow (S' := fun w' => StpL w595 w' _) (fun w' h' => hs600.trans' h') _ _ _ _ ?_
         have hs601 : Ext w595 w595 := Ext.rfl' _
         refine dr_end (by kernel_rfl) ?_
         refine then_n ?_
         exact ⟨w71.heap.size, q74, x570, q584, (Sl.cons_ ha594 rfl rfl (Sl.cons_ ha594 rfl rfl (Sl.cons_ ha594 rfl rfl (Sl.cons_ ha594 rfl rfl (Sl.cons_ ha594 rfl rfl (Sl.nil_ ha594)))))), hx599, hS583, (hf37.fin (by omega) (by omega) (by omega)), hb597, (by omega), (by omega), (by omega), (by omega), (by omega), (by omega), (by omega)⟩
        ·
         refine po_callS ha557 rfl rfl rfl rfl (op_call ha557 rfl cb73 rfl) (c_spec_l01Next _ g_s b_s (30 : Int) hS552) ?_
         rintro v602 w603 he604 ⟨hS605, ⟨q606, hq607, hq608, hq609, rfl⟩⟩ a610 ha610; clear ha557 a557
         have hx611 := hx558.trans' he604
         have hzhx611 := he604.size
         first | replace hf37 := hf37.stp he604 (by intro q hq; cases hq; omega) | replace hf37 := hf37.stpF flat_shEnt he604 (by intro q hq; cases hq; exact hf37.ne_box (by assumption) rfl)
         first | replace ho63 := ho63.stp he604 (by intro q hq; cases hq; omega) | replace ho63 := ho63.stpF flat_shI64 he604 (by intro q hq; cases hq; exact ho63.ne_box (by assumption) rfl)
         replace hb490 := hb490.stp he604 (by intro q hq; cases hq; omega)
         clear hS552
         have hSlhS605 := hS605.lt
         have hs612 := (StpL.of_ext (B := fun i => i = g_s ∨ i = w71.heap.size) hs560).trans' (Stp.toL he604 (by intro q hq; cases hq; exact Or.inl rfl))
         refine ⟨hs612, ?_⟩
         refine dr_narrow (S' := fun w' => StpL w603 w' _) (fun w' h' => hs612.trans' h') _ _ _ _ ?_
         have hs613 : Ext w603 w603 := Ext.rfl' _
         refine dr_val (i := 11) ha610 rfl (by kernel_rfl) (by kernel_rfl) (by kernel_rfl) rfl rfl rfl (StpL.of_ext hs613) (fun w' hw' => (op_add ha610 rfl rfl rfl).int (IntWalk.i64_in _ (by omega))) ?_
         intro a614 ha614; clear ha610 a610
         refine dr_val (i := 12) ha614 rfl (by kernel_rfl) (by kernel_rfl) (by kernel_rfl) rfl rfl rfl (StpL.of_ext hs613) (fun w' hw' => (op_mul ha614 rfl rfl rfl).int (IntWalk.i64_in _ (by omega))) ?_
         intro a615 ha615; clear ha614 a614
         refine dr_one (i := 4) (by kernel_rfl) ?_
         refine po_eff ha615 rfl rfl rfl rfl (op_buildSlice (s := shStr) (xs := [([97, 100, 97] : Str), ([98, 111] : Str), ([99, 121] : Str)]) (cs := [St (([97, 100, 97] : Str)), St (([98, 111] : Str)), St (([99, 121] : Str))]) (vs := [(0, St (([97, 100, 97] : Str))), (1, St (([98, 111] : Str))), (2, St (([99, 121] : Str)))]) (S := fun _ => False) (le := w603.heap.size) ha615 rfl pos_shStr Try.underlying52 ti9 rfl rfl (by decide) (by kernel_rfl) ⟨mk_shStr (([97, 100, 97] : Str)) (by first | assumption | omega | (constructor <;> omega) | (dsimp only; omega) | (simp; done) | (simp; omega)), mk_shStr (([98, 111] : Str)) (by first | assumption | omega | (constructor <;> omega) | (dsimp only; omega) | (simp; done) | (simp; omega)), mk_shStr (([99, 121] : Str)) (by first | assumption | omega | (constructor <;> omega) | (dsimp only; omega) | (simp; done) | (simp; omega)), rfl⟩ (fun _ h => h.elim)) ?_
         rintro v616 w617 ⟨ho618, he619, hob620⟩ a621 ha621; clear ha615 a615
         have hs622 := hs613.trans' he619
         have hx623 := hx611.trans' (Stp.of_ext he619 _)
         have hzhx623 := he619.size
         refine ⟨(StpL.of_ext hs622), ?_⟩
         replace hf37 := hf37.ext hs622
         replace ho63 := ho63.ext hs622
         replace hb490 := hb490.ext hs622
         replace hS605 := hS605.ext hs622
         refine dr_narrow (S' := fun w' => StpL w617 w' _) (fun w' h' => (StpL.of_ext hs622).trans' h') _ _ _ _ ?_
         have hs624 : Ext w617 w617 := Ext.rfl' _
         obtain ⟨x625, hx625⟩ := get_ex (xs := [([97, 100, 97] : Str), ([98, 111] : Str), ([99, 121] : Str)]) (j := ((q553 : Int)).toNat) (by first | omega | (simp only [List.length_cons, List.length_nil]; omega))
         obtain ⟨p626, c627, hi628, hc629, hr630, hs631⟩ := Rds.at_ (ho618.rds pos_shStr) hx625
         obtain ⟨rfl, b632⟩ := inv_shStr hr630
         obtain ⟨_, _⟩ : _ ∧ _ := hs631
         have hdlx625 := el_len 17 (by rfl) hx625
         refine dr_val (i := 7) ha621 rfl (by kernel_rfl) (by kernel_rfl) (by kernel_rfl) rfl rfl rfl (StpL.of_ext hs624) (fun w' hw' => op_indexAddr ha621 rfl Try.underlying52 ti9 rfl rfl (by omega) hi628) ?_
         intro a633 ha633; clear ha621 a621
         refine dr_val (i := 8) ha633 rfl (by kernel_rfl) (by kernel_rfl) (by kernel_rfl) rfl rfl rfl (StpL.of_ext hs624) (fun w' hw' => op_loadH ha633 rfl Try.underlying9 rfl rfl (hc629.stpL hw' (by rintro (q | q) <;> first | omega)) rfl) ?_
         intro a634 ha634; clear ha633 a633
         refine dr_val (i := 13) ha634 rfl (by kernel_rfl) (by kernel_rfl) (by kernel_rfl) rfl rfl rfl (StpL.of_ext hs624) (fun w' hw' => op_build (vs := [(0, .int .i64 d), (1, .int .i64 (q74 : Int)), (2, St x625), (3, .int .i64 ((100 : Int) * ((1 : Int) + (q606 : Int))))]) (cs := #[.int .i64 d, .int .i64 (q74 : Int), St x625, .int .i64 ((100 : Int) * ((1 : Int) + (q606 : Int)))]) ha634 rfl Try.underlying41 ti41 bp41 rfl rfl) ?_
         intro a635 ha635; clear ha634 a634
         refine dr_one (i := 15) (by kernel_rfl) ?_
         refine po_effS ha635 rfl rfl rfl (op_storeAll' ha635 rfl ti41 rfl rfl hb490 rfl rfl (by simp [Value.oneCell']) rfl) ?_
         rintro w636 ⟨hb638, hst637, hz639⟩
         have hx640 := hx623.fresh hst637 (by intro q hq; cases hq; exact (by omega))
         have hzhx640 := hst637.size
         replace hf37 := hf37.stp hst637 (by intro q hq; cases hq; omega)
         replace ho63 := ho63.stp hst637 (by intro q hq; cases hq; omega)
         replace hS605 := hS605.stp hst637 (by intro q hq; cases hq; omega)
         replace ho618 := ho618.stp hst637 (by intro q hq; cases hq; omega)
         replace hc629 := hc629.stp hst637 (by intro q hq; cases hq; omega)
         clear hb490
         have hs641 := (StpL.of_ext (B := fun i => i = g_s ∨ i = w71.heap.size) hs624).trans' (Stp.toL hst637 (by intro q hq; cases hq; exact Or.inr (rfl)))
         refine ⟨hs641, ?_⟩
         refine dr_narrow (S' := fun w' => StpL w636 w' _) (fun w' h' => hs641.trans' h') _ _ _ _ ?_
         have hs642 : Ext w636 w636 := Ext.rfl' _
         refine dr_end (by kernel_rfl) ?_
         refine then_n ?_
         exact ⟨w71.heap.size, q74, x625, q606, (Sl.cons_ ha635 rfl rfl (Sl.cons_ ha635 rfl rfl (Sl.cons_ ha635 rfl rfl (Sl.cons_ ha635 rfl rfl (Sl.cons_ ha635 rfl rfl (Sl.nil_ ha635)))))), hx640, hS605, (hf37.fin (by omega) (by omega) (by omega)), hb638, (by omega), (by omega), (by omega), (by omega), (by omega), (by omega), (by omega)⟩
     ·
      refine po_eff ha66 rfl rfl rfl rfl (op_buildSlice (s := shStr) (xs := [([97, 100, 97] : Str), ([98, 111] : Str), ([99, 121] : Str)]) (cs := [St (([97, 100, 97] : Str)), St (([98, 111] : Str)), St (([99, 121] : Str))]) (vs := [(0, St (([97, 100, 97] : Str))), (1, St (([98, 111] : Str))), (2, St (([99, 121] : Str)))]) (S := fun _ => False) (le := w62.heap.size) ha66 rfl pos_shStr Try.underlying52 ti9 rfl rfl (by decide) (by kernel_rfl) ⟨mk_shStr (([97, 100, 97] : Str)) (by first | assumption | omega | (constructor <;> omega) | (dsimp only; omega) | (simp; done) | (simp; omega)), mk_shStr (([98, 111] : Str)) (by first | assumption | omega | (constructor <;> omega) | (dsimp only; omega) | (simp; done) | (simp; omega)), mk_shStr (([99, 121] : Str)) (by first | assumption | omega | (constructor <;> omega) | (dsimp only; omega) | (simp; done) | (simp; omega)), rfl⟩ (fun _ h => h.elim)) ?_
      rintro v643 w644 ⟨ho645, he646, hob647⟩ a648 ha648; clear ha66 a66
      have hs649 := hs69.trans' he646
      have hx650 := hx68.trans' (Stp.of_ext he646 _)
      have hzhx650 := he646.size
      refine ⟨(Stp.of_ext hs649 _), ?_⟩
      replace hf36 := hf36.ext hs649
      replace hf37 := hf37.ext hs649
      replace ho63 := ho63.ext hs649
      refine dr_narrow (S' := fun w' => Stp w644 w' _) (fun w' h' => (Stp.of_ext hs649 _).trans' h') _ _ _ _ ?_
      have hs651 : Ext w644 w644 := Ext.rfl' _
      refine dr_two (i := 3) (j := 14) (by kernel_rfl) ?_ ?_
      ·
       refine po_callS ha648 rfl rfl rfl rfl (op_call ha648 rfl cb72 rfl) (c_spec_l01Pick _ g_s b_s v61 ([(0 : Int), (0 : Int), (1 : Int), (2 : Int), (3 : Int)]) hf36 (ho63.rds pos_shI64) (by rintro ⟨_, _⟩; omega) (by first | assumption | omega | (constructor <;> omega) | (dsimp only; omega) | (simp; done) | (simp; omega))) ?_
       rintro v652 w653 he654 ⟨hS655, ⟨q656, hq657, rfl⟩⟩ a658 ha658; clear ha648 a648
       have hx659 := hx650.trans' he654
       have hzhx659 := he654.size
       first | replace hf37 := hf37.stp he654 (by intro q hq; cases hq; omega) | replace hf37 := hf37.stpF flat_shEnt he654 (by intro q hq; cases hq; exact hf37.ne_box (by assumption) rfl)
       first | replace ho63 := ho63.stp he654 (by intro q hq; cases hq; omega) | replace ho63 := ho63.stpF flat_shI64 he654 (by intro q hq; cases hq; exact ho63.ne_box (by assumption) rfl)
       first | replace ho645 := ho645.stp he654 (by intro q hq; cases hq; omega) | replace ho645 := ho645.stpF flat_shStr he654 (by intro q hq; cases hq; exact ho645.ne_box (by assumption) rfl)
       clear hf36
       have hSlhS655 := hS655.lt
       have hs660 := (Stp.of_ext hs651 (some g_s)).trans' he654
       refine ⟨hs660, ?_⟩
       simp only [List.mem_cons, List.not_mem_nil, or_false] at hq657
       refine dr_narrow (S' := fun w' => Stp w653 w' _) (fun w' h' => hs660.trans' h') _ _ _ _ ?_
       have hs661 : Ext w653 w653 := Ext.rfl' _
       refine dr_two (i := 6) (j := 14) (by kernel_rfl) ?_ ?_
       ·
        refine po_callS ha658 rfl rfl rfl rfl (op_call ha658 rfl cb73 rfl) (c_spec_l01Next _ g_s b_s (3 : Int) hS655) ?_
        rintro v662 w663 he664 ⟨hS665, ⟨q666, hq667, hq668, hq669, rfl⟩⟩ a670 ha670; clear ha658 a658
        have hx671 := hx659.trans' he664
        have hzhx671 := he664.size
        first | replace hf37 := hf37.stp he664 (by intro q hq; cases hq; omega) | replace hf37 := hf37.stpF flat_shEnt he664 (by intro q hq; cases hq; exact hf37.ne_box (by assumption) rfl)
        first | replace ho63 := ho63.stp he664 (by intro q hq; cases hq; omega) | replace ho63 := ho63.stpF flat_shI64 he664 (by intro q hq; cases hq; exact ho63.ne_box (by assumption) rfl)
        first | replace ho645 := ho645.stp he664 (by intro q hq; cases hq; omega) | replace ho645 := ho645.stpF flat_shStr he664 (by intro q hq; cases hq; exact ho645.ne_box (by assumption) rfl)
        clear hS655
        have hSlhS665 := hS665.lt
        have hs672 := (Stp.of_ext hs661 (some g_s)).trans' he664
        refine ⟨hs672, ?_⟩
        refine dr_narrow (S' := fun w' => Stp w663 w' _) (fun w' h' => hs672.trans' h') _ _ _ _ ?_
        have hs673 : Ext w663 w663 := Ext.rfl' _
        obtain ⟨x674, hx674⟩ := get_ex (xs := [([97, 100, 97] : Str), ([98, 111] : Str), ([99, 121] : Str)]) (j := ((q666 : Int)).toNat) (by first | omega | (simp only [List.length_cons, List.length_nil]; omega))
        obtain ⟨p675, c676, hi677, hc678, hr679, hs680⟩ := Rds.at_ (ho645.rds pos_shStr) hx674
        obtain ⟨rfl, b681⟩ := inv_shStr hr679
        obtain ⟨_, _⟩ : _ ∧ _ := hs680
        have hdlx674 := el_len 17 (by rfl) hx674
        refine dr_val (i := 7) ha670 rfl (by kernel_rfl) (by kernel_rfl) (by kernel_rfl) rfl rfl rfl (Stp.of_ext hs673 _) (fun w' hw' => op_indexAddr ha670 rfl Try.underlying52 ti9 rfl rfl (by omega) hi677) ?_
        intro a682 ha682; clear ha670 a670
        refine dr_val (i := 8) ha682 rfl (by kernel_rfl) (by kernel_rfl) (by kernel_rfl) rfl rfl rfl (Stp.of_ext hs673 _) (fun w' hw' => op_loadH ha682 rfl Try.underlying9 rfl rfl (hc678.stp hw' (by intro q hq; cases hq; omega)) rfl) ?_
        intro a683 ha683; clear ha682 a682
        refine dr_two (i := 10) (j := 14) (by kernel_rfl) ?_ ?_
        ·
         refine po_callS ha683 rfl rfl rfl rfl (op_call ha683 rfl cb73 rfl) (c_spec_l01Next _ g_s b_s (30 : Int) hS665) ?_
         rintro v684 w685 he686 ⟨hS687, ⟨q688, hq689, hq690, hq691, rfl⟩⟩ a692 ha692; clear ha683 a683
         have hx693 := hx671.trans' he686
         have hzhx693 := he686.size
         first | replace hf37 := hf37.stp he686 (by intro q hq; cases hq; omega) | replace hf37 := hf37.stpF flat_shEnt he686 (by intro q hq; cases hq; exact hf37.ne_box (by assumption) rfl)
         first | replace ho63 := ho63.stp he686 (by intro q hq; cases hq; omega) | replace ho63 := ho63.stpF flat_shI64 he686 (by intro q hq; cases hq; exact ho63.ne_box (by assumption) rfl)
         first | replace ho645 := ho645.stp he686 (by intro q hq; cases hq; omega) | replace ho645 := ho645.stpF flat_shStr he686 (by intro q hq; cases hq; exact ho645.ne_box (by assumption) rfl)
         replace hc678 := hc678.stp he686 (by intro q hq; cases hq; omega)
         clear hS665
         have hSlhS687 := hS687.lt
         have hs694 := (Stp.of_ext hs673 (some g_s)).trans' he686
         refine ⟨hs694, ?_⟩
         refine dr_narrow (S' := fun w' => Stp w685 w' _) (fun w' h' => hs694.trans' h') _ _ _ _ ?_
         have hs695 : Ext w685 w685 := Ext.rfl' _
         refine dr_val (i := 11) ha692 rfl (by kernel_rfl) (by kernel_rfl) (by kernel_rfl) rfl rfl rfl (Stp.of_ext hs695 _) (fun w' hw' => (op_add ha692 rfl rfl rfl).int (IntWalk.i64_in _ (by omega))) ?_
         intro a696 ha696; clear ha692 a692
         refine dr_val (i := 12) ha696 rfl (by kernel_rfl) (by kernel_rfl) (by kernel_rfl) rfl rfl rfl (Stp.of_ext hs695 _) (fun w' hw' => (op_mul ha696 rfl rfl rfl).int (IntWalk.i64_in _ (by omega))) ?_
         intro a697 ha697; clear ha696 a696
         refine dr_val (i := 13) ha697 rfl (by kernel_rfl) (by kernel_rfl) (by kernel_rfl) rfl rfl rfl (Stp.of_ext hs695 _) (fun w' hw' => op_build (vs := [(0, .int .i64 d), (1, .int .i64 (q656 : Int)), (2, St x674), (3, .int .i64 ((100 : Int) * ((1 : Int) + (q688 : Int))))]) (cs := #[.int .i64 d, .int .i64 (q656 : Int), St x674, .int .i64 ((100 : Int) * ((1 : Int) + (q688 : Int)))]) ha697 rfl Try.underlying41 ti41 bp41 rfl rfl) ?_
         intro a698 ha698; clear ha697 a697
         refine dr_one (i := 14) (by kernel_rfl) ?_
         refine po_eff ha698 rfl rfl rfl rfl (op_alloc' rfl ti41 rfl) ?_
         rintro _ w699 ⟨rfl, he700, hb701, hz702⟩ a703 ha703; clear ha698 a698
         have hs704 := hs695.trans' he700
         have hx705 := hx693.trans' (Stp.of_ext he700 _)
         have hzhx705 := he700.size
         refine ⟨(Stp.of_ext hs704 _), ?_⟩
         replace hf37 := hf37.ext hs704
         replace ho63 := ho63.ext hs704
         replace ho645 := ho645.ext hs704
         replace hc678 := hc678.ext hs704
         replace hS687 := hS687.ext hs704
         refine dr_narrow (S' := fun w' => StpL w699 w' (fun i => i = g_s ∨ i = w685.heap.size)) (fun w' h' => ((Stp.of_ext hs704 _)).freshL h' (by intro i hi; rcases hi with q | q <;> first | (exact Or.inl (congrArg some q.symm)) | (right; omega))) _ _ _ _ ?_
         have hs706 : Ext w699 w699 := Ext.rfl' _
         refine dr_one (i := 15) (by kernel_rfl) ?_
         refine po_effS ha703 rfl rfl rfl (op_storeAll' ha703 rfl ti41 rfl rfl hb701 rfl rfl (by simp [Value.oneCell']) rfl) ?_
         rintro w707 ⟨hb709, hst708, hz710⟩
         have hx711 := hx705.fresh hst708 (by intro q hq; cases hq; exact (by omega))
         have hzhx711 := hst708.size
         replace hf37 := hf37.stp hst708 (by intro q hq; cases hq; omega)
         replace ho63 := ho63.stp hst708 (by intro q hq; cases hq; omega)
         replace ho645 := ho645.stp hst708 (by intro q hq; cases hq; omega)
         replace hc678 := hc678.stp hst708 (by intro q hq; cases hq; omega)
         replace hS687 := hS687.stp hst708 (by intro q hq; cases hq; omega)
         clear hb701
         have hs712 := (StpL.of_ext (B := fun i => i = g_s ∨ i = w685.heap.size) hs706).trans' (Stp.toL hst708 (by intro q hq; cases hq; exact Or.inr (rfl)))
         refine ⟨hs712, ?_⟩
         refine dr_narrow (S' := fun w' => StpL w707 w' _) (fun w' h' => hs712.trans' h') _ _ _ _ ?_
         have hs713 : Ext w707 w707 := Ext.rfl' _
         refine dr_end (by kernel_rfl) ?_
         refine then_n ?_
         exact ⟨w685.heap.size, q656, x674, q688, (Sl.cons_ ha703 rfl rfl (Sl.cons_ ha703 rfl rfl (Sl.cons_ ha703 rfl rfl (Sl.cons_ ha703 rfl rfl (Sl.cons_ ha703 rfl rfl (Sl.nil_ ha703)))))), hx711, hS687, (hf37.fin (by omega) (by omega) (by omega)), hb709, (by omega), (by omega), (by omega), (by omega), (by omega), (by omega), (by omega)⟩
        ·
         refine po_eff ha683 rfl rfl rfl rfl (op_alloc' rfl ti41 rfl) ?_
         rintro _ w714 ⟨rfl, he715, hb716, hz717⟩ a718 ha718; clear ha683 a683
         have hs719 := hs673.trans' he715
         have hx720 := hx671.trans' (Stp.of_ext he715 _)
         have hzhx720 := he715.size
         refine ⟨(Stp.of_ext hs719 _), ?_⟩
         replace hf37 := hf37.ext hs719
         replace ho63 := ho63.ext hs719
         replace ho645 := ho645.ext hs719
         replace hS665 := hS665.ext hs719
         replace hc678 := hc678.ext hs719
         refine dr_narrow (S' := fun w' => StpL w714 w' (fun i => i = g_s ∨ i = w663.heap.size)) (fun w' h' => ((Stp.of_ext hs719 _)).freshL h' (by intro i hi; rcases hi with q | q <;> first | (exact Or.inl (congrArg some q.symm)) | (right; omega))) _ _ _ _ ?_
         have hs721 : Ext w714 w714 := Ext.rfl' _
         refine dr_one (i := 10) (by kernel_rfl) ?_
         refine po_callS ha718 rfl rfl rfl rfl (op_call ha718 rfl cb73 rfl) (c_spec_l01Next _ g_s b_s (30 : Int) hS665) ?_
         rintro v722 w723 he724 ⟨hS725, ⟨q726, hq727, hq728, hq729, rfl⟩⟩ a730 ha730; clear ha718 a718
         have hx731 := hx720.trans' he724
         have hzhx731 := he724.size
         first | replace hf37 := hf37.stp he724 (by intro q hq; cases hq; omega) | replace hf37 := hf37.stpF flat_shEnt he724 (by intro q hq; cases hq; exact hf37.ne_box (by assumption) rfl)
         first | replace ho63 := ho63.stp he724 (by intro q hq; cases hq; omega) | replace ho63 := ho63.stpF flat_shI64 he724 (by intro q hq; cases hq; exact ho63.ne_box (by assumption) rfl)
         first | replace ho645 := ho645.stp he724 (by intro q hq; cases hq; omega) | replace ho645 := ho645.stpF flat_shStr he724 (by intro q hq; cases hq; exact ho645.ne_box (by assumption) rfl)
         replace hc678 := hc678.stp he724 (by intro q hq; cases hq; omega)
         replace hb716 := hb716.stp he724 (by intro q hq; cases hq; omega)
         clear hS665
         have hSlhS725 := hS725.lt
         have hs732 := (StpL.of_ext (B := fun i => i = g_s ∨ i = w663.heap.size) hs721).trans' (Stp.toL he724 (by intro q hq; cases hq; exact Or.inl rfl))
         refine ⟨hs732, ?_⟩
         refine dr_narrow (S' := fun w' => StpL w723 w' _) (fun w' h' => hs732.trans' h') _ _ _ _ ?_
         have hs733 : Ext w723 w723 := Ext.rfl' _
         refine dr_val (i := 11) ha730 rfl (by kernel_rfl) (by kernel_rfl) (by kernel_rfl) rfl rfl rfl (StpL.of_ext hs733) (fun w' hw' => (op_add ha730 rfl rfl rfl).int (IntWalk.i64_in _ (by omega))) ?_
         intro a734 ha734; clear ha730 a730
         refine dr_val (i := 12) ha734 rfl (by kernel_rfl) (by kernel_rfl) (by kernel_rfl) rfl rfl rfl (StpL.of_ext hs733) (fun w' hw' => (op_mul ha734 rfl rfl rfl).int (IntWalk.i64_in _ (by omega))) ?_
         intro a735 ha735; clear ha734 a734
         refine dr_val (i := 13) ha735 rfl (by kernel_rfl) (by kernel_rfl) (by kernel_rfl) rfl rfl rfl (StpL.of_ext hs733) (fun w' hw' => op_build (vs := [(0, .int .i64 d), (1, .int .i64 (q656 : Int)), (2, St x674), (3, .int .i64 ((100 : Int) * ((1 : Int) + (q726 : Int))))]) (cs := #[.int .i64 d, .int .i64 (q656 : Int), St x674, .int .i64 ((100 : Int) * ((1 : Int) + (q726 : Int)))]) ha735 rfl Try.underlying41 ti41 bp41 rfl rfl) ?_
         intro a736 ha736; clear ha735 a735
         refine dr_one (i := 15) (by kernel_rfl) ?_
         refine po_effS ha736 rfl rfl rfl (op_storeAll' ha736 rfl ti41 rfl rfl hb716 rfl rfl (by simp [Value.oneCell']) rfl) ?_
         rintro w737 ⟨hb739, hst738, hz740⟩
         have hx741 := hx731.fresh hst738 (by intro q hq; cases hq; exact (by omega))
         have hzhx741 := hst738.size
         replace hf37 := hf37.stp hst738 (by intro q hq; cases hq; omega)
         replace ho63 := ho63.stp hst738 (by intro q hq; cases hq; omega)
         replace ho645 := ho645.stp hst738 (by intro q hq; cases hq; omega)
         replace hc678 := hc678.stp hst738 (by intro q hq; cases hq; omega)
         replace hS725 := hS725.stp hst738 (by intro q hq; cases hq; omega)
         clear hb716
         have hs742 := (StpL.of_ext (B := fun i => i = g_s ∨ i = w663.heap.size) hs733).trans' (Stp.toL hst738 (by intro q hq; cases hq; exact Or.inr (rfl)))
         refine ⟨hs742, ?_⟩
         refine dr_narrow (S' := fun w' => StpL w737 w' _) (fun w' h' => hs742.trans' h') _ _ _ _ ?_
         have hs743 : Ext w737 w737 := Ext.rfl' _
         refine dr_end (by kernel_rfl) ?_
         refine then_n ?_
         exact ⟨w663.heap.size, q656, x674, q726, (Sl.cons_ ha736 rfl rfl (Sl.cons_ ha736 rfl rfl (Sl.cons_ ha736 rfl rfl (Sl.cons_ ha736 rfl rfl (Sl.cons_ ha736 rfl rfl (Sl.nil_ ha736)))))), hx741, hS725, (hf37.fin (by omega) (by omega) (by omega)), hb739, (by omega), (by omega), (by omega), (by omega), (by omega), (by omega), (by omega)⟩
       ·
        refine po_eff ha658 rfl rfl rfl rfl (op_alloc' rfl ti41 rfl) ?_
        rintro _ w744 ⟨rfl, he745, hb746, hz747⟩ a748 ha748; clear ha658 a658
        have hs749 := hs661.trans' he745
        have hx750 := hx659.trans' (Stp.of_ext he745 _)
        have hzhx750 := he745.size
        refine ⟨(Stp.of_ext hs749 _), ?_⟩
        replace hf37 := hf37.ext hs749
        replace ho63 := ho63.ext hs749
        replace ho645 := ho645.ext hs749
        replace hS655 := hS655.ext hs749
        refine dr_narrow (S' := fun w' => StpL w744 w' (fun i => i = g_s ∨ i = w653.heap.size)) (fun w' h' => ((Stp.of_ext hs749 _)).freshL h' (by intro i hi; rcases hi with q | q <;> first | (exact Or.inl (congrArg some q.symm)) | (right; omega))) _ _ _ _ ?_
        have hs751 : Ext w744 w744 := Ext.rfl' _
        refine dr_one (i := 6) (by kernel_rfl) ?_
        refine po_callS ha748 rfl rfl rfl rfl (op_call ha748 rfl cb73 rfl) (c_spec_l01Next _ g_s b_s (3 : Int) hS655) ?_
        rintro v752 w753 he754 ⟨hS755, ⟨q756, hq757, hq758, hq759, rfl⟩⟩ a760 ha760; clear ha748 a748
        have hx761 := hx750.trans' he754
        have hzhx761 := he754.size
        first | replace hf37 := hf37.stp he754 (by intro q hq; cases hq; omega) | replace hf37 := hf37.stpF flat_shEnt he754 (by intro q hq; cases hq; exact hf37.ne_box (by assumption) rfl)
        first | replace ho63 := ho63.stp he754 (by intro q hq; cases hq; omega) | replace ho63 := ho63.stpF flat_shI64 he754 (by intro q hq; cases hq; exact ho63.ne_box (by assumption) rfl)
        first | replace ho645 := ho645.stp he754 (by intro q hq; cases hq; omega) | replace ho645 := ho645.stpF flat_shStr he754 (by intro q hq; cases hq; exact ho645.ne_box (by assumption) rfl)
        replace hb746 := hb746.stp he754 (by intro q hq; cases hq; omega)
        clear hS655
        have hSlhS755 := hS755.lt
        have hs762 := (StpL.of_ext (B := fun i => i = g_s ∨ i = w653.heap.size) hs751).trans' (Stp.toL he754 (by intro q hq; cases hq; exact Or.inl rfl))
        refine ⟨hs762, ?_⟩
        refine dr_narrow (S' := fun w' => StpL w753 w' _) (fun w' h' => hs762.trans' h') _ _ _ _ ?_
        have hs763 : Ext w753 w753 := Ext.rfl' _
        obtain ⟨x764, hx764⟩ := get_ex (xs := [([97, 100, 97] : Str), ([98, 111] : Str), ([99, 121] : Str)]) (j := ((q756 : Int)).toNat) (by first | omega | (simp only [List.length_cons, List.length_nil]; omega))
        obtain ⟨p765, c766, hi767, hc768, hr769, hs770⟩ := Rds.at_ (ho645.rds pos_shStr) hx764
        obtain ⟨rfl, b771⟩ := inv_shStr hr769
        obtain ⟨_, _⟩ : _ ∧ _ := hs770
        have hdlx764 := el_len 17 (by rfl) hx764
        refine dr_val (i := 7) ha760 rfl (by kernel_rfl) (by kernel_rfl) (by kernel_rfl) rfl rfl rfl (StpL.of_ext hs763) (fun w' hw' => op_indexAddr ha760 rfl Try.underlying52 ti9 rfl rfl (by omega) hi767) ?_
        intro a772 ha772; clear ha760 a760
        refine dr_val (i := 8) ha772 rfl (by kernel_rfl) (by kernel_rfl) (by kernel_rfl) rfl rfl rfl (StpL.of_ext hs763) (fun w' hw' => op_loadH ha772 rfl Try.underlying9 rfl rfl (hc768.stpL hw' (by rintro (q | q) <;> first | omega)) rfl) ?_
        intro a773 ha773; clear ha772 a772
        refine dr_one (i := 10) (by kernel_rfl) ?_
        refine po_callS ha773 rfl rfl rfl rfl (op_call ha773 rfl cb73 rfl) (c_spec_l01Next _ g_s b_s (30 : Int) hS755) ?_
        rintro v774 w775 he776 ⟨hS777, ⟨q778, hq779, hq780, hq781, rfl⟩⟩ a782 ha782; clear ha773 a773
        have hx783 := hx761.trans' he776
        have hzhx783 := he776.size
        first | replace hf37 := hf37.stp he776 (by intro q hq; cases hq; omega) | replace hf37 := hf37.stpF flat_shEnt he776 (by intro q hq; cases hq; exact hf37.ne_box (by assumption) rfl)
        first | replace ho63 := ho63.stp he776 (by intro q hq; cases hq; omega) | replace ho63 := ho63.stpF flat_shI64 he776 (by intro q hq; cases hq; exact ho63.ne_box (by assumption) rfl)
        first | replace ho645 := ho645.stp he776 (by intro q hq; cases hq; omega) | replace ho645 := ho645.stpF flat_shStr he776 (by intro q hq; cases hq; exact ho645.ne_box (by assumption) rfl)
        replace hb746 := hb746.stp he776 (by intro q hq; cases hq; omega)
        replace hc768 := hc768.stp he776 (by intro q hq; cases hq; omega)
        clear hS755
        have hSlhS777 := hS777.lt
        have hs784 := (StpL.of_ext (B := fun i => i = g_s ∨ i = w653.heap.size) hs763).trans' (Stp.toL he776 (by intro q hq; cases hq; exact Or.inl rfl))
        refine ⟨hs784, ?_⟩
        refine dr_narrow (S' := fun w' => StpL w775 w' _) (fun w' h' => hs784.trans' h') _ _ _ _ ?_
        have hs785 : Ext w775 w775 := Ext.rfl' _
        refine dr_val (i := 11) ha782 rfl (by kernel_rfl) (by kernel_rfl) (by kernel_rfl) rfl rfl rfl (StpL.of_ext hs785) (fun w' hw' => (op_add ha782 rfl rfl rfl).int (IntWalk.i64_in _ (by omega))) ?_
        intro a786 ha786; clear ha782 a782
        refine dr_val (i := 12) ha786 rfl (by kernel_rfl) (by kernel_rfl) (by kernel_rfl) rfl rfl rfl (StpL.of_ext hs785) (fun w' hw' => (op_mul ha786 rfl rfl rfl).int (IntWalk.i64_in _ (by omega))) ?_
        intro a787 ha787; clear ha786 a786
        refine dr_val (i := 13) ha787 rfl (by kernel_rfl) (by kernel_rfl) (by kernel_rfl) rfl rfl rfl (StpL.of_ext hs785) (fun w' hw' => op_build (vs := [(0, .int .i64 d), (1, .int .i64 (q656 : Int)), (2, St x764), (3, .int .i64 ((100 : Int) * ((1 : Int) + (q778 : Int))))]) (cs := #[.int .i64 d, .int .i64 (q656 : Int), St x764, .int .i64 ((100 : Int) * ((1 : Int) + (q778 : Int)))]) ha787 rfl Try.underlying41 ti41 bp41 rfl rfl) ?_
        intro a788 ha788; clear ha787 a787
        refine dr_one (i := 15) (by kernel_rfl) ?_
        refine po_effS ha788 rfl rfl rfl (op_storeAll' ha788 rfl ti41 rfl rfl hb746 rfl rfl (by simp [Value.oneCell']) rfl) ?_
        rintro w789 ⟨hb791, hst790, hz792⟩
        have hx793 := hx783.fresh hst790 (by intro q hq; cases hq; exact (by omega))
        have hzhx793 := hst790.size
        replace hf37 := hf37.stp hst790 (by intro q hq; cases hq; omega)
        replace ho63 := ho63.stp hst790 (by intro q hq; cases hq; omega)
        replace ho645 := ho645.stp hst790 (by intro q hq; cases hq; omega)
        replace hc768 := hc768.stp hst790 (by intro q hq; cases hq; omega)
        replace hS777 := hS777.stp hst790 (by intro q hq; cases hq; omega)
        clear hb746
        have hs794 := (StpL.of_ext (B := fun i => i = g_s ∨ i = w653.heap.size) hs785).trans' (Stp.toL hst790 (by intro q hq; cases hq; exact Or.inr (rfl)))
        refine ⟨hs794, ?_⟩
        refine dr_narrow (S' := fun w' => StpL w789 w' _) (fun w' h' => hs794.trans' h') _ _ _ _ ?_
        have hs795 : Ext w789 w789 := Ext.rfl' _
        refine dr_end (by kernel_rfl) ?_
        refine then_n ?_
        exact ⟨w653.heap.size, q656, x764, q778, (Sl.cons_ ha788 rfl rfl (Sl.cons_ ha788 rfl rfl (Sl.cons_ ha788 rfl rfl (Sl.cons_ ha788 rfl rfl (Sl.cons_ ha788 rfl rfl (Sl.nil_ ha788)))))), hx793, hS777, (hf37.fin (by omega) (by omega) (by omega)), hb791, (by omega), (by omega), (by omega), (by omega), (by omega), (by omega), (by omega)⟩
      ·
       refine po_eff ha648 rfl rfl rfl rfl (op_alloc' rfl ti41 rfl) ?_
       rintro _ w796 ⟨rfl, he797, hb798, hz799⟩ a800 ha800; clear ha648 a648
       have hs801 := hs651.trans' he797
       have hx802 := hx650.trans' (Stp.of_ext he797 _)
       have hzhx802 := he797.size
       refine ⟨(Stp.of_ext hs801 _), ?_⟩
       replace hf36 := hf36.ext hs801
       replace hf37 := hf37.ext hs801
       replace ho63 := ho63.ext hs801
       replace ho645 := ho645.ext hs801
       refine dr_narrow (S' := fun w' => StpL w796 w' (fun i => i = g_s ∨ i = w644.heap.size)) (fun w' h' => ((Stp.of_ext hs801 _)).freshL h' (by intro i hi; rcases hi with q | q <;> first | (exact Or.inl (congrArg some q.symm)) | (right; omega))) _ _ _ _ ?_
       have hs803 : Ext w796 w796 := Ext.rfl' _
       refine dr_one (i := 3) (by kernel_rfl) ?_
       refine po_callS ha800 rfl rfl rfl rfl (op_call ha800 rfl cb72 rfl) (c_spec_l01Pick _ g_s b_s v61 ([(0 : Int), (0 : Int), (1 : Int), (2 : Int), (3 : Int)]) hf36 (ho63.rds pos_shI64) (by rintro ⟨_, _⟩; omega) (by first | assumption | omega | (constructor <;> omega) | (dsimp only; omega) | (simp; done) | (simp; omega))) ?_
       rintro v804 w805 he806 ⟨hS807, ⟨q808, hq809, rfl⟩⟩ a810 ha810; clear ha800 a800
       have hx811 := hx802.trans' he806
       have hzhx811 := he806.size
       first | replace hf37 := hf37.stp he806 (by intro q hq; cases hq; omega) | replace hf37 := hf37.stpF flat_shEnt he806 (by intro q hq; cases hq; exact hf37.ne_box (by assumption) rfl)
       first | replace ho63 := ho63.stp he806 (by intro q hq; cases hq; omega) | replace ho63 := ho63.stpF flat_shI64 he806 (by intro q hq; cases hq; exact ho63.ne_box (by assumption) rfl)
       first | replace ho645 := ho645.stp he806 (by intro q hq; cases hq; omega) | replace ho645 := ho645.stpF flat_shStr he806 (by intro q hq; cases hq; exact ho645.ne_box (by assumption) rfl)
       replace hb798 := hb798.stp he806 (by intro q hq; cases hq; omega)
       clear hf36
       have hSlhS807 := hS807.lt
       have hs812 := (StpL.of_ext (B := fun i => i = g_s ∨ i = w644.heap.size) hs803).trans' (Stp.toL he806 (by intro q hq; cases hq; exact Or.inl rfl))
       refine ⟨hs812, ?_⟩
       simp only [List.mem_cons, List.not_mem_nil, or_false] at hq809
       refine dr_narrow (S' := fun w' => StpL w805 w' _) (fun w' h' => hs812.trans' h') _ _ _ _ ?_
       have hs813 : Ext w805 w805 := Ext.rfl' _
       refine dr_one (i := 6) (by kernel_rfl) ?_
       refine po_callS ha810 rfl rfl rfl rfl (op_call ha810 rfl cb73 rfl) (c_spec_l01Next _ g_s b_s (3 : Int) hS807) ?_
       rintro v814 w815 he816 ⟨hS817, ⟨q818, hq819, hq820, hq821, rfl⟩⟩ a822 ha822; clear ha810 a810
       have hx823 := hx811.trans' he816
       have hzhx823 := he816.size
       first | replace hf37 := hf37.stp he816 (by intro q hq; cases hq; omega) | replace hf37 := hf37.stpF flat_shEnt he816 (by intro q hq; cases hq; exact hf37.ne_box (by assumption) rfl)
       first | replace ho63 := ho63.stp he816 (by intro q hq; cases hq; omega) | replace ho63 := ho63.stpF flat_shI64 he816 (by intro q hq; cases hq; exact ho63.ne_box (by assumption) rfl)
       first | replace ho645 := ho645.stp he816 (by intro q hq; cases hq; omega) | replace ho645 := ho645.stpF flat_shStr he816 (by intro q hq; cases hq; exact ho645.ne_box (by assumption) rfl)
       replace hb798 := hb798.stp he816 (by intro q hq; cases hq; omega)
       clear hS807
       have hSlhS817 := hS817.lt
       have hs824 := (StpL.of_ext (B := fun i => i = g_s ∨ i = w644.heap.size) hs813).trans' (Stp.toL he816 (by intro q hq; cases hq; exact Or.inl rfl))
       refine ⟨hs824, ?_⟩
       refine dr_narrow (S' := fun w' => StpL w815 w' _) (fun w' h' => hs824.trans' h') _ _ _ _ ?_
       have hs825 : Ext w815 w815 := Ext.rfl' _
       obtain ⟨x826, hx826⟩ := get_ex (xs := [([97, 100, 97] : Str), ([98, 111] : Str), ([99, 121] : Str)]) (j := ((q818 : Int)).toNat) (by first | omega | (simp only [List.length_cons, List.length_nil]; omega))
       obtain ⟨p827, c828, hi829, hc830, hr831, hs832⟩ := Rds.at_ (ho645.rds pos_shStr) hx826
       obtain ⟨rfl, b833⟩ := inv_shStr hr831
       obtain ⟨_, _⟩ : _ ∧ _ := hs832
       have hdlx826 := el_len 17 (by rfl) hx826
       refine dr_val (i := 7) ha822 rfl (by kernel_rfl) (by kernel_rfl) (by kernel_rfl) rfl rfl rfl (StpL.of_ext hs825) (fun w' hw' => op_indexAddr ha822 rfl Try.underlying52 ti9 rfl rfl (by omega) hi829) ?_
       intro a834 ha834; clear ha822 a822
       refine dr_val (i := 8) ha834 rfl (by kernel_rfl) (by kernel_rfl) (by kernel_rfl) rfl rfl rfl (StpL.of_ext hs825) (fun w' hw' => op_loadH ha834 rfl Try.underlying9 rfl rfl (hc830.stpL hw' (by rintro (q | q) <;> first | omega)) rfl) ?_
       intro a835 ha835; clear ha834 a834
       refine dr_one (i := 10) (by kernel_rfl) ?_
       refine po_callS ha835 rfl rfl rfl rfl (op_call ha835 rfl cb73 rfl) (c_spec_l01Next _ g_s b_s (30 : Int) hS817) ?_
       rintro v836 w837 he838 ⟨hS839, ⟨q840, hq841, hq842, hq843, rfl⟩⟩ a844 ha844; clear ha835 a835
       have hx845 := hx823.trans' he838
       have hzhx845 := he838.size
       first | replace hf37 := hf37.stp he838 (by intro q hq; cases hq; omega) | replace hf37 := hf37.stpF flat_shEnt he838 (by intro q hq; cases hq; exact hf37.ne_box (by assumption) rfl)
       first | replace ho63 := ho63.stp he838 (by intro q hq; cases hq; omega) | replace ho63 := ho63.stpF flat_shI64 he838 (by intro q hq; cases hq; exact ho63.ne_box (by assumption) rfl)
       first | replace ho645 := ho645.stp he838 (by intro q hq; cases hq; omega) | replace ho645 := ho645.stpF flat_shStr he838 (by intro q hq; cases hq; exact ho645.ne_box (by assumption) rfl)
       replace hb798 := hb798.stp he838 (by intro q hq; cases hq; omega)
       replace hc830 := hc830.stp he838 (by intro q hq; cases hq; omega)
       clear hS817
       have hSlhS839 := hS839.lt
       have hs846 := (StpL.of_ext (B := fun i => i = g_s ∨ i = w644.heap.size) hs825).trans' (Stp.toL he838 (by intro q hq; cases hq; exact Or.inl rfl))
       refine ⟨hs846, ?_⟩
       refine dr_narrow (S' := fun w' => StpL w837 w' _) (fun w' h' => hs846.trans' h') _ _ _ _ ?_
       have hs847 : Ext w837 w837 := Ext.rfl' _
       refine dr_val (i := 11) ha844 rfl (by kernel_rfl) (by kernel_rfl) (by kernel_rfl) rfl rfl rfl (StpL.of_ext hs847) (fun w' hw' => (op_add ha844 rfl rfl rfl).int (IntWalk.i64_in _ (by omega))) ?_
       intro a848 ha848; clear ha844 a844
       refine dr_val (i := 12) ha848 rfl (by kernel_rfl) (by kernel_rfl) (by kernel_rfl) rfl rfl rfl (StpL.of_ext hs847) (fun w' hw' => (op_mul ha848 rfl rfl rfl).int (IntWalk.i64_in _ (by omega))) ?_
       intro a849 ha849; clear ha848 a848
       refine dr_val (i := 13) ha849 rfl (by kernel_rfl) (by kernel_rfl) (by kernel_rfl) rfl rfl rfl (StpL.of_ext hs847) (fun w' hw' => op_build (vs := [(0, .int .i64 d), (1, .int .i64 (q808 : Int)), (2, St x826), (3, .int .i64 ((100 : Int) * ((1 : Int) + (q840 : Int))))]) (cs := #[.int .i64 d, .int .i64 (q808 : Int), St x826, .int .i64 ((100 : Int) * ((1 : Int) + (q840 : Int)))]) ha849 rfl Try.underlying41 ti41 bp41 rfl rfl) ?_
       intro a850 ha850; clear ha849 a849
       refine dr_one (i := 15) (by kernel_rfl) ?_
       refine po_effS ha850 rfl rfl rfl (op_storeAll' ha850 rfl ti41 rfl rfl hb798 rfl rfl (by simp [Value.oneCell']) rfl) ?_
       rintro w851 ⟨hb853, hst852, hz854⟩
       have hx855 := hx845.fresh hst852 (by intro q hq; cases hq; exact (by omega))
       have hzhx855 := hst852.size
       replace hf37 := hf37.stp hst852 (by intro q hq; cases hq; omega)
       replace ho63 := ho63.stp hst852 (by intro q hq; cases hq; omega)
       replace ho645 := ho645.stp hst852 (by intro q hq; cases hq; omega)
       replace hc830 := hc830.stp hst852 (by intro q hq; cases hq; omega)
       replace hS839 := hS839.stp hst852 (by intro q hq; cases hq; omega)
       clear hb798
       have hs856 := (StpL.of_ext (B := fun i => i = g_s ∨ i = w644.heap.size) hs847).trans' (Stp.toL hst852 (by intro q hq; cases hq; exact Or.inr (rfl)))
       refine ⟨hs856, ?_⟩
       refine dr_narrow (S' := fun w' => StpL w851 w' _) (fun w' h' => hs856.trans' h') _ _ _ _ ?_
       have hs857 : Ext w851 w851 := Ext.rfl' _
       refine dr_end (by kernel_rfl) ?_
       refine then_n ?_
       exact ⟨w644.heap.size, q808, x826, q840, (Sl.cons_ ha850 rfl rfl (Sl.cons_ ha850 rfl rfl (Sl.cons_ ha850 rfl rfl (Sl.cons_ ha850 rfl rfl (Sl.cons_ ha850 rfl rfl (Sl.nil_ ha850)))))), hx855, hS839, (hf37.fin (by omega) (by omega) (by omega)), hb853, (by omega), (by omega), (by omega), (by omega), (by omega), (by omega), (by omega)⟩
     ·
      refine po_eff ha66 rfl rfl rfl rfl (op_alloc' rfl ti41 rfl) ?_
      rintro _ w858 ⟨rfl, he859, hb860, hz861⟩ a862 ha862; clear ha66 a66
      have hs863 := hs69.trans' he859
      have hx864 := hx68.trans' (Stp.of_ext he859 _)
      have hzhx864 := he859.size
      refine ⟨(Stp.of_ext hs863 _), ?_⟩
      replace hf36 := hf36.ext hs863
      replace hf37 := hf37.ext hs863
      replace ho63 := ho63.ext hs863
      refine dr_narrow (S' := fun w' => StpL w858 w' (fun i => i = g_s ∨ i = w62.heap.size)) (fun w' h' => ((Stp.of_ext hs863 _)).freshL h' (by intro i hi; rcases hi with q | q <;> first | (exact Or.inl (congrArg some q.symm)) | (right; omega))) _ _ _ _ ?_
      have hs865 : Ext w858 w858 := Ext.rfl' _
      refine dr_two (i := 3) (j := 4) (by kernel_rfl) ?_ ?_
      ·
       refine po_callS ha862 rfl rfl rfl rfl (op_call ha862 rfl cb72 rfl) (c_spec_l01Pick _ g_s b_s v61 ([(0 : Int), (0 : Int), (1 : Int), (2 : Int), (3 : Int)]) hf36 (ho63.rds pos_shI64) (by rintro ⟨_, _⟩; omega) (by first | assumption | omega | (constructor <;> omega) | (dsimp only; omega) | (simp; done) | (simp; omega))) ?_
       rintro v866 w867 he868 ⟨hS869, ⟨q870, hq871, rfl⟩⟩ a872 ha872; clear ha862 a862
       have hx873 := hx864.trans' he868
       have hzhx873 := he868.size
       first | replace hf37 := hf37.stp he868 (by intro q hq; cases hq; omega) | replace hf37 := hf37.stpF flat_shEnt he868 (by intro q hq; cases hq; exact hf37.ne_box (by assumption) rfl)
       first | replace ho63 := ho63.stp he868 (by intro q hq; cases hq; omega) | replace ho63 := ho63.stpF flat_shI64 he868 (by intro q hq; cases hq; exact ho63.ne_box (by assumption) rfl)
       replace hb860 := hb860.stp he868 (by intro q hq; cases hq; omega)
       clear hf36
       have hSlhS869 := hS869.lt
       have hs874 := (StpL.of_ext (B := fun i => i = g_s ∨ i = w62.heap.size) hs865).trans' (Stp.toL he868 (by intro q hq; cases hq; exact Or.inl rfl))
       refine ⟨hs874, ?_⟩
       simp only [List.mem_cons, List.not_mem_nil, or_false] at hq871
       refine dr_narrow (S' := fun w' => StpL w867 w' _) (fun w' h' => hs874.trans' h') _ _ _ _ ?_
       have hs875 : Ext w867 w867 := Ext.rfl' _
       refine dr_two (i := 4) (j := 6) (by kernel_rfl) ?_ ?_
       ·
        refine po_eff ha872 rfl rfl rfl rfl (op_buildSlice (s := shStr) (xs := [([97, 100, 97] : Str), ([98, 111] : Str), ([99, 121] : Str)]) (cs := [St (([97, 100, 97] : Str)), St (([98, 111] : Str)), St (([99, 121] : Str))]) (vs := [(0, St (([97, 100, 97] : Str))), (1, St (([98, 111] : Str))), (2, St (([99, 121] : Str)))]) (S := fun _ => False) (le := w867.heap.size) ha872 rfl pos_shStr Try.underlying52 ti9 rfl rfl (by decide) (by kernel_rfl) ⟨mk_shStr (([97, 100, 97] : Str)) (by first | assumption | omega | (constructor <;> omega) | (dsimp only; omega) | (simp; done) | (simp; omega)), mk_shStr (([98, 111] : Str)) (by first | assumption | omega | (constructor <;> omega) | (dsimp only; omega) | (simp; done) | (simp; omega)), mk_shStr (([99, 121] : Str)) (by first | assumption | omega | (constructor <;> omega) | (dsimp only; omega) | (simp; done) | (simp; omega)), rfl⟩ (fun _ h => h.elim)) ?_
        rintro v876 w877 ⟨ho878, he879, hob880⟩ a881 ha881; clear ha872 a872
        have hs882 := hs875.trans' he879
        have hx883 := hx873.trans' (Stp.of_ext he879 _)
        have hzhx883 := he879.size
        refine ⟨(StpL.of_ext hs882), ?_⟩
        replace hf37 := hf37.ext hs882
        replace ho63 := ho63.ext hs882
        replace hb860 := hb860.ext hs882
        replace hS869 := hS869.ext hs882
        refine dr_narrow (S' := fun w' => StpL w877 w' _) (fun w' h' => (StpL.of_ext hs882).trans' h') _ _ _ _ ?_
        have hs884 : Ext w877 w877 := Ext.rfl' _
        refine dr_one (i := 6) (by kernel_rfl) ?_
        refine po_callS ha881 rfl rfl rfl rfl (op_call ha881 rfl cb73 rfl) (c_spec_l01Next _ g_s b_s (3 : Int) hS869) ?_
        rintro v885 w886 he887 ⟨hS888, ⟨q889, hq890, hq891, hq892, rfl⟩⟩ a893 ha893; clear ha881 a881
        have hx894 := hx883.trans' he887
        have hzhx894 := he887.size
        first | replace hf37 := hf37.stp he887 (by intro q hq; cases hq; omega) | replace hf37 := hf37.stpF flat_shEnt he887 (by intro q hq; cases hq; exact hf37.ne_box (by assumption) rfl)
        first | replace ho63 := ho63.stp he887 (by intro q hq; cases hq; omega) | replace ho63 := ho63.stpF flat_shI64 he887 (by intro q hq; cases hq; exact ho63.ne_box (by assumption) rfl)
        replace hb860 := hb860.stp he887 (by intro q hq; cases hq; omega)
        first | replace ho878 := ho878.stp he887 (by intro q hq; cases hq; omega) | replace ho878 := ho878.stpF flat_shStr he887 (by intro q hq; cases hq; exact ho878.ne_box (by assumption) rfl)
        clear hS869
        have hSlhS888 := hS888.lt
        have hs895 := (StpL.of_ext (B := fun i => i = g_s ∨ i = w62.heap.size) hs884).trans' (Stp.toL he887 (by intro q hq; cases hq; exact Or.inl rfl))
        refine ⟨hs895, ?_⟩
        refine dr_narrow (S' := fun w' => StpL w886 w' _) (fun w' h' => hs895.trans' h') _ _ _ _ ?_
        have hs896 : Ext w886 w886 := Ext.rfl' _
        obtain ⟨x897, hx897⟩ := get_ex (xs := [([97, 100, 97] : Str), ([98, 111] : Str), ([99, 121] : Str)]) (j := ((q889 : Int)).toNat) (by first | omega | (simp only [List.length_cons, List.length_nil]; omega))
        obtain ⟨p898, c899, hi900, hc901, hr902, hs903⟩ := Rds.at_ (ho878.rds pos_shStr) hx897
        obtain ⟨rfl, b904⟩ := inv_shStr hr902
        obtain ⟨_, _⟩ : _ ∧ _ := hs903
        have hdlx897 := el_len 17 (by rfl) hx897
        refine dr_val (i := 7) ha893 rfl (by kernel_rfl) (by kernel_rfl) (by kernel_rfl) rfl rfl rfl (StpL.of_ext hs896) (fun w' hw' => op_indexAddr ha893 rfl Try.underlying52 ti9 rfl rfl (by omega) hi900) ?_
        intro a905 ha905; clear ha893 a893
        refine dr_val (i := 8) ha905 rfl (by kernel_rfl) (by kernel_rfl) (by kernel_rfl) rfl rfl rfl (StpL.of_ext hs896) (fun w' hw' => op_loadH ha905 rfl Try.underlying9 rfl rfl (hc901.stpL hw' (by rintro (q | q) <;> first | omega)) rfl) ?_
        intro a906 ha906; clear ha905 a905
        refine dr_one (i := 10) (by kernel_rfl) ?_
        refine po_callS ha906 rfl rfl rfl rfl (op_call ha906 rfl cb73 rfl) (c_spec_l01Next _ g_s b_s (30 : Int) hS888) ?_
        rintro v907 w908 he909 ⟨hS910, ⟨q911, hq912, hq913, hq914, rfl⟩⟩ a915 ha915; clear ha906 a906
        have hx916 := hx894.trans' he909
        have hzhx916 := he909.size
        first | replace hf37 := hf37.stp he909 (by intro q hq; cases hq; omega) | replace hf37 := hf37.stpF flat_shEnt he909 (by intro q hq; cases hq; exact hf37.ne_box (by assumption) rfl)
        first | replace ho63 := ho63.stp he909 (by intro q hq; cases hq; omega) | replace ho63 := ho63.stpF flat_shI64 he909 (by intro q hq; cases hq; exact ho63.ne_box (by assumption) rfl)
        replace hb860 := hb860.stp he909 (by intro q hq; cases hq; omega)
        first | replace ho878 := ho878.stp he909 (by intro q hq; cases hq; omega) | replace ho878 := ho878.stpF flat_shStr he909 (by intro q hq; cases hq; exact ho878.ne_box (by assumption) rfl)
        replace hc901 := hc901.stp he909 (by intro q hq; cases hq; omega)
        clear hS888
        have hSlhS910 := hS910.lt
        have hs917 := (StpL.of_ext (B := fun i => i = g_s ∨ i = w62.heap.size) hs896).trans' (Stp.toL he909 (by intro q hq; cases hq; exact Or.inl rfl))
        refine ⟨hs917, ?_⟩
        refine dr_narrow (S' := fun w' => StpL w908 w' _) (fun w' h' => hs917.trans' h') _ _ _ _ ?_
        have hs918 : Ext w908 w908 := Ext.rfl' _
        refine dr_val (i := 11) ha915 rfl (by kernel_rfl) (by kernel_rfl) (by kernel_rfl) rfl rfl rfl (StpL.of_ext hs918) (fun w' hw' => (op_add ha915 rfl rfl rfl).int (IntWalk.i64_in _ (by omega))) ?_
        intro a919 ha919; clear ha915 a915
        refine dr_val (i := 12) ha919 rfl (by kernel_rfl) (by kernel_rfl) (by kernel_rfl) rfl rfl rfl (StpL.of_ext hs918) (fun w' hw' => (op_mul ha919 rfl rfl rfl).int (IntWalk.i64_in _ (by omega))) ?_
        intro a920 ha920; clear ha919 a919
        refine dr_val (i := 13) ha920 rfl (by kernel_rfl) (by kernel_rfl) (by kernel_rfl) rfl rfl rfl (StpL.of_ext hs918) (fun w' hw' => op_build (vs := [(0, .int .i64 d), (1, .int .i64 (q870 : Int)), (2, St x897), (3, .int .i64 ((100 : Int) * ((1 : Int) + (q911 : Int))))]) (cs := #[.int .i64 d, .int .i64 (q870 : Int), St x897, .int .i64 ((100 : Int) * ((1 : Int) + (q911 : Int)))]) ha920 rfl Try.underlying41 ti41 bp41 rfl rfl) ?_
        intro a921 ha921; clear ha920 a920
        refine dr_one (i := 15) (by kernel_rfl) ?_
        refine po_effS ha921 rfl rfl rfl (op_storeAll' ha921 rfl ti41 rfl rfl hb860 rfl rfl (by simp [Value.oneCell']) rfl) ?_
        rintro w922 ⟨hb924, hst923, hz925⟩
        have hx926 := hx916.fresh hst923 (by intro q hq; cases hq; exact (by omega))
        have hzhx926 := hst923.size
        replace hf37 := hf37.stp hst923 (by intro q hq; cases hq; omega)
        replace ho63 := ho63.stp hst923 (by intro q hq; cases hq; omega)
        replace ho878 := ho878.stp hst923 (by intro q hq; cases hq; omega)
        replace hc901 := hc901.stp hst923 (by intro q hq; cases hq; omega)
        replace hS910 := hS910.stp hst923 (by intro q hq; cases hq; omega)
        clear hb860
        have hs927 := (StpL.of_ext (B := fun i => i = g_s ∨ i = w62.heap.size) hs918).trans' (Stp.toL hst923 (by intro q hq; cases hq; exact Or.inr (rfl)))
        refine ⟨hs927, ?_⟩
        refine dr_narrow (S' := fun w' => StpL w922 w' _) (fun w' h' => hs927.trans' h') _ _ _ _ ?_
        have hs928 : Ext w922 w922 := Ext.rfl' _
        refine dr_end (by kernel_rfl) ?_
        refine then_n ?_
        exact ⟨w62.heap.size, q870, x897, q911, (Sl.cons_ ha921 rfl rfl (Sl.cons_ ha921 rfl rfl (Sl.cons_ ha921 rfl rfl (Sl.cons_ ha921 rfl rfl (Sl.cons_ ha921 rfl rfl (Sl.nil_ ha921)))))), hx926, hS910, (hf37.fin (by omega) (by omega) (by omega)), hb924, (by omega), (by omega), (by omega), (by omega), (by omega), (by omega), (by omega)⟩
       ·
        refine po_callS ha872 rfl rfl rfl rfl (op_call ha872 rfl cb73 rfl) (c_spec_l01Next _ g_s b_s (3 : Int) hS869) ?_
        rintro v929 w930 he931 ⟨hS932, ⟨q933, hq934, hq935, hq936, rfl⟩⟩ a937 ha937; clear ha872 a872
        have hx938 := hx873.trans' he931
        have hzhx938 := he931.size
        first | replace hf37 := hf37.stp he931 (by intro q hq; cases hq; omega) | replace hf37 := hf37.stpF flat_shEnt he931 (by intro q hq; cases hq; exact hf37.ne_box (by assumption) rfl)
        first | replace ho63 := ho63.stp he931 (by intro q hq; cases hq; omega) | replace ho63 := ho63.stpF flat_shI64 he931 (by intro q hq; cases hq; exact ho63.ne_box (by assumption) rfl)
        replace hb860 := hb860.stp he931 (by intro q hq; cases hq; omega)
        clear hS869
        have hSlhS932 := hS932.lt
        have hs939 := (StpL.of_ext (B := fun i => i = g_s ∨ i = w62.heap.size) hs875).trans' (Stp.toL he931 (by intro q hq; cases hq; exact Or.inl rfl))
        refine ⟨hs939, ?_⟩
        refine dr_narrow (S' := fun w' => StpL w930 w' _) (fun w' h' => hs939.trans' h') _ _ _ _ ?_
        have hs940 : Ext w930 w930 := Ext.rfl' _
        refine dr_two (i := 4) (j := 10) (by kernel_rfl) ?_ ?_
        ·
         refine po_eff ha937 rfl rfl rfl rfl (op_buildSlice (s := shStr) (xs := [([97, 100, 97] : Str), ([98, 111] : Str), ([99, 121] : Str)]) (cs := [St (([97, 100, 97] : Str)), St (([98, 111] : Str)), St (([99, 121] : Str))]) (vs := [(0, St (([97, 100, 97] : Str))), (1, St (([98, 111] : Str))), (2, St (([99, 121] : Str)))]) (S := fun _ => False) (le := w930.heap.size) ha937 rfl pos_shStr Try.underlying52 ti9 rfl rfl (by decide) (by kernel_rfl) ⟨mk_shStr (([97, 100, 97] : Str)) (by first | assumption | omega | (constructor <;> omega) | (dsimp only; omega) | (simp; done) | (simp; omega)), mk_shStr (([98, 111] : Str)) (by first | assumption | omega | (constructor <;> omega) | (dsimp only; omega) | (simp; done) | (simp; omega)), mk_shStr (([99, 121] : Str)) (by first | assumption | omega | (constructor <;> omega) | (dsimp only; omega) | (simp; done) | (simp; omega)), rfl⟩ (fun _ h => h.elim)) ?_
         rintro v941 w942 ⟨ho943, he944, hob945⟩ a946 ha946; clear ha937 a937
         have hs947 := hs940.trans' he944
         have hx948 := hx938.trans' (Stp.of_ext he944 _)
         have hzhx948 := he944.size
         refine ⟨(StpL.of_ext hs947), ?_⟩
         replace hf37 := hf37.ext hs947
         replace ho63 := ho63.ext hs947
         replace hb860 := hb860.ext hs947
         replace hS932 := hS932.ext hs947
         refine dr_narrow (S' := fun w' => StpL w942 w' _) (fun w' h' => (StpL.of_ext hs947).trans' h') _ _ _ _ ?_
         have hs949 : Ext w942 w942 := Ext.rfl' _
         obtain ⟨x950, hx950⟩ := get_ex (xs := [([97, 100, 97] : Str), ([98, 111] : Str), ([99, 121] : Str)]) (j := ((q933 : Int)).toNat) (by first | omega | (simp only [List.length_cons, List.length_nil]; omega))
         obtain ⟨p951, c952, hi953, hc954, hr955, hs956⟩ := Rds.at_ (ho943.rds pos_shStr) hx950
         obtain ⟨rfl, b957⟩ := inv_shStr hr955
         obtain ⟨_, _⟩ : _ ∧ _ := hs956
         have hdlx950 := el_len 17 (by rfl) hx950
         refine dr_val (i := 7) ha946 rfl (by kernel_rfl) (by kernel_rfl) (by kernel_rfl) rfl rfl rfl (StpL.of_ext hs949) (fun w' hw' => op_indexAddr ha946 rfl Try.underlying52 ti9 rfl rfl (by omega) hi953) ?_
         intro a958 ha958; clear ha946 a946
         refine dr_val (i := 8) ha958 rfl (by kernel_rfl) (by kernel_rfl) (by kernel_rfl) rfl rfl rfl (StpL.of_ext hs949) (fun w' hw' => op_loadH ha958 rfl Try.underlying9 rfl rfl (hc954.stpL hw' (by rintro (q | q) <;> first | omega)) rfl) ?_
         intro a959 ha959; clear ha958 a958
         refine dr_one (i := 10) (by kernel_rfl) ?_
         refine po_callS ha959 rfl rfl rfl rfl (op_call ha959 rfl cb73 rfl) (c_spec_l01Next _ g_s b_s (30 : Int) hS932) ?_
         rintro v960 w961 he962 ⟨hS963, ⟨q964, hq965, hq966, hq967, rfl⟩⟩ a968 ha968; clear ha959 a959
         have hx969 := hx948.trans' he962
         have hzhx969 := he962.size
         first | replace hf37 := hf37.stp he962 (by intro q hq; cases hq; omega) | replace hf37 := hf37.stpF flat_shEnt he962 (by intro q hq; cases hq; exact hf37.ne_box (by assumption) rfl)
         first | replace ho63 := ho63.stp he962 (by intro q hq; cases hq; omega) | replace ho63 := ho63.stpF flat_shI64 he962 (by intro q hq; cases hq; exact ho63.ne_box (by assumption) rfl)
         replace hb860 := hb860.stp he962 (by intro q hq; cases hq; omega)
         first | replace ho943 := ho943.stp he962 (by intro q hq; cases hq; omega) | replace ho943 := ho943.stpF flat_shStr he962 (by intro q hq; cases hq; exact ho943.ne_box (by assumption) rfl)
         replace hc954 := hc954.stp he962 (by intro q hq; cases hq; omega)
         clear hS932
         have hSlhS963 := hS963.lt
         have hs970 := (StpL.of_ext (B := fun i => i = g_s ∨ i = w62.heap.size) hs949).trans' (Stp.toL he962 (by intro q hq; cases hq; exact Or.inl rfl))
         refine ⟨hs970, ?_⟩
         refine dr_narrow (S' := fun w' => StpL w961 w' _) (fun w' h' => hs970.trans' h') _ _ _ _ ?_
         have hs971 : Ext w961 w961 := Ext.rfl' _
         refine dr_val (i := 11) ha968 rfl (by kernel_rfl) (by kernel_rfl) (by kernel_rfl) rfl rfl rfl (StpL.of_ext hs971) (fun w' hw' => (op_add ha968 rfl rfl rfl).int (IntWalk.i64_in _ (by omega))) ?_
         intro a972 ha972; clear ha968 a968
         refine dr_val (i := 12) ha972 rfl (by kernel_rfl) (by kernel_rfl) (by kernel_rfl) rfl rfl rfl (StpL.of_ext hs971) (fun w' hw' => (op_mul ha972 rfl rfl rfl).int (IntWalk.i64_in _ (by omega))) ?_
         intro a973 ha973; clear ha972 a972
         refine dr_val (i := 13) ha973 rfl (by kernel_rfl) (by kernel_rfl) (by kernel_rfl) rfl rfl rfl (StpL.of_ext hs971) (fun w' hw' => op_build (vs := [(0, .int .i64 d), (1, .int .i64 (q870 : Int)), (2, St x950), (3, .int .i64 ((100 : Int) * ((1 : Int) + (q964 : Int))))]) (cs := #[.int .i64 d, .int .i64 (q870 : Int), St x950, .int .i64 ((100 : Int) * ((1 : Int) + (q964 : Int)))]) ha973 rfl Try.underlying41 ti41 bp41 rfl rfl) ?_
         intro a974 ha974; clear ha973 a973
         refine dr_one (i := 15) (by kernel_rfl) ?_
         refine po_effS ha974 rfl rfl rfl (op_storeAll' ha974 rfl ti41 rfl rfl hb860 rfl rfl (by simp [Value.oneCell']) rfl) ?_
         rintro w975 ⟨hb977, hst976, hz978⟩
         have hx979 := hx969.fresh hst976 (by intro q hq; cases hq; exact (by omega))
         have hzhx979 := hst976.size
         replace hf37 := hf37.stp hst976 (by intro q hq; cases hq; omega)
         replace ho63 := ho63.stp hst976 (by intro q hq; cases hq; omega)
         replace ho943 := ho943.stp hst976 (by intro q hq; cases hq; omega)
         replace hc954 := hc954.stp hst976 (by intro q hq; cases hq; omega)
         replace hS963 := hS963.stp hst976 (by intro q hq; cases hq; omega)
         clear hb860
         have hs980 := (StpL.of_ext (B := fun i => i = g_s ∨ i = w62.heap.size) hs971).trans' (Stp.toL hst976 (by intro q hq; cases hq; exact Or.inr (rfl)))
         refine ⟨hs980, ?_⟩
         refine dr_narrow (S' := fun w' => StpL w975 w' _) (fun w' h' => hs980.trans' h') _ _ _ _ ?_
         have hs981 : Ext w975 w975 := Ext.rfl' _
         refine dr_end (by kernel_rfl) ?_
         refine then_n ?_
         exact ⟨w62.heap.size, q870, x950, q964, (Sl.cons_ ha974 rfl rfl (Sl.cons_ ha974 rfl rfl (Sl.cons_ ha974 rfl rfl (Sl.cons_ ha974 rfl rfl (Sl.cons_ ha974 rfl rfl (Sl.nil_ ha974)))))), hx979, hS963, (hf37.fin (by omega) (by omega) (by omega)), hb977, (by omega), (by omega), (by omega), (by omega), (by omega), (by omega), (by omega)⟩
        ·
         refine po_callS ha937 rfl rfl rfl rfl (op_call ha937 rfl cb73 rfl) (c_spec_l01Next _ g_s b_s (30 : Int) hS932) ?_
         rintro v982 w983 he984 ⟨hS985, ⟨q986, hq987, hq988, hq989, rfl⟩⟩ a990 ha990; clear ha937 a937
         have hx991 := hx938.trans' he984
         have hzhx991 := he984.size
         first | replace hf37 := hf37.stp he984 (by intro q hq; cases hq; omega) | replace hf37 := hf37.stpF flat_shEnt he984 (by intro q hq; cases hq; exact hf37.ne_box (by assumption) rfl)
         first | replace ho63 := ho63.stp he984 (by intro q hq; cases hq; omega) | replace ho63 := ho63.stpF flat_shI64 he984 (by intro q hq; cases hq; exact ho63.ne_box (by assumption) rfl)
         replace hb860 := hb860.stp he984 (by intro q hq; cases hq; omega)
         clear hS932
         have hSlhS985 := hS985.lt
         have hs992 := (StpL.of_ext (B := fun i => i = g_s ∨ i = w62.heap.size) hs940).trans' (Stp.toL he984 (by intro q hq; cases hq; exact Or.inl rfl))
         refine ⟨hs992, ?_⟩
         refine dr_narrow (S' := fun w' => StpL w983 w' _) (fun w' h' => hs992.trans' h') _ _ _ _ ?_
         have hs993 : Ext w983 w983 := Ext.rfl' _
         refine dr_val (i := 11) ha990 rfl (by kernel_rfl) (by kernel_rfl) (by kernel_rfl) rfl rfl rfl (StpL.of_ext hs993) (fun w' hw' => (op_add ha990 rfl rfl rfl).int (IntWalk.i64_in _ (by omega))) ?_
         intro a994 ha994; clear ha990 a990
         refine dr_val (i := 12) ha994 rfl (by kernel_rfl) (by kernel_rfl) (by kernel_rfl) rfl rfl rfl (StpL.of_ext hs993) (fun w' hw' => (op_mul ha994 rfl rfl rfl).int (IntWalk.i64_in _ (by omega))) ?_
         intro a995 ha995; clear ha994 a994
         refine dr_one (i := 4) (by kernel_rfl) ?_
         refine po_eff ha995 rfl rfl rfl rfl (op_buildSlice (s := shStr) (xs := [([97, 100, 97] : Str), ([98, 111] : Str), ([99, 121] : Str)]) (cs := [St (([97, 100, 97] : Str)), St (([98, 111] : Str)), St (([99, 121] : Str))]) (vs := [(0, St (([97, 100, 97] : Str))), (1, St (([98, 111] : Str))), (2, St (([99, 121] : Str)))]) (S := fun _ => False) (le := w983.heap.size) ha995 rfl pos_shStr Try.underlying52 ti9 rfl rfl (by decide) (by kernel_rfl) ⟨mk_shStr (([97, 100, 97] : Str)) (by first | assumption | omega | (constructor <;> omega) | (dsimp only; omega) | (simp; done) | (simp; omega)), mk_shStr (([98, 111] : Str)) (by first | assumption | omega | (constructor <;> omega) | (dsimp only; omega) | (simp; done) | (simp; omega)), mk_shStr (([99, 121] : Str)) (by first | assumption | omega | (constructor <;> omega) | (dsimp only; omega) | (simp; done) | (simp; omega)), rfl⟩ (fun _ h => h.elim)) ?_
         rintro v996 w997 ⟨ho998, he999, hob1000⟩ a1001 ha1001; clear ha995 a995
         have hs1002 := hs993.trans' he999
         have hx1003 := hx991.trans' (Stp.of_ext he999 _)
         have hzhx1003 := he999.size
         refine ⟨(StpL.of_ext hs1002), ?_⟩
         replace hf37 := hf37.ext hs1002
         replace ho63 := ho63.ext hs1002
         replace hb860 := hb860.ext hs1002
         replace hS985 := hS985.ext hs1002
         refine dr_narrow (S' := fun w' => StpL w997 w' _) (fun w' h' => (StpL.of_ext hs1002).trans' h') _ _ _ _ ?_
         have hs1004 : Ext w997 w997 := Ext.rfl' _
         obtain ⟨x1005, hx1005⟩ := get_ex (xs := [([97, 100, 97] : Str), ([98, 111] : Str), ([99, 121] : Str)]) (j := ((q933 : Int)).toNat) (by first | omega | (simp only [List.length_cons, List.length_nil]; omega))
         obtain ⟨p1006, c1007, hi1008, hc1009, hr1010, hs1011⟩ := Rds.at_ (ho998.rds pos_shStr) hx1005
         obtain ⟨rfl, b1012⟩ := inv_shStr hr1010
         obtain ⟨_, _⟩ : _ ∧ _ := hs1011
         have hdlx1005 := el_len 17 (by rfl) hx1005
         refine dr_val (i := 7) ha1001 rfl (by kernel_rfl) (by kernel_rfl) (by kernel_rfl) rfl rfl rfl (StpL.of_ext hs1004) (fun w' hw' => op_indexAddr ha1001 rfl Try.underlying52 ti9 rfl rfl (by omega) hi1008) ?_
         intro a1013 ha1013; clear ha1001 a1001
         refine dr_val (i := 8) ha1013 rfl (by kernel_rfl) (by kernel_rfl) (by kernel_rfl) rfl rfl rfl (StpL.of_ext hs1004) (fun w' hw' => op_loadH ha1013 rfl Try.underlying9 rfl rfl (hc1009.stpL hw' (by rintro (q | q) <;> first | omega)) rfl) ?_
         intro a1014 ha1014; clear ha1013 a1013
         refine dr_val (i := 13) ha1014 rfl (by kernel_rfl) (by kernel_rfl) (by kernel_rfl) rfl rfl rfl (StpL.of_ext hs1004) (fun w' hw' => op_build (vs := [(0, .int .i64 d), (1, .int .i64 (q870 : Int)), (2, St x1005), (3, .int .i64 ((100 : Int) * ((1 : Int) + (q986 : Int))))]) (cs := #[.int .i64 d, .int .i64 (q870 : Int), St x1005, .int .i64 ((100 : Int) * ((1 : Int) + (q986 : Int)))]) ha1014 rfl Try.underlying41 ti41 bp41 rfl rfl) ?_
         intro a1015 ha1015; clear ha1014 a1014
         refine dr_one (i := 15) (by kernel_rfl) ?_
         refine po_effS ha1015 rfl rfl rfl (op_storeAll' ha1015 rfl ti41 rfl rfl hb860 rfl rfl (by simp [Value.oneCell']) rfl) ?_
         rintro w1016 ⟨hb1018, hst1017, hz1019⟩
         have hx1020 := hx1003.fresh hst1017 (by intro q hq; cases hq; exact (by omega))
         have hzhx1020 := hst1017.size
         replace hf37 := hf37.stp hst1017 (by intro q hq; cases hq; omega)
         replace ho63 := ho63.stp hst1017 (by intro q hq; cases hq; omega)
         replace hS985 := hS985.stp hst1017 (by intro q hq; cases hq; omega)
         replace ho998 := ho998.stp hst1017 (by intro q hq; cases hq; omega)
         replace hc1009 := hc1009.stp hst1017 (by intro q hq; cases hq; omega)
         clear hb860
         have hs1021 := (StpL.of_ext (B := fun i => i = g_s ∨ i = w62.heap.size) hs1004).trans' (Stp.toL hst1017 (by intro q hq; cases hq; exact Or.inr (rfl)))
         refine ⟨hs1021, ?_⟩
         refine dr_narrow (S' := fun w' => StpL w1016 w' _) (fun w' h' => hs1021.trans' h') _ _ _ _ ?_
         have hs1022 : Ext w1016 w1016 := Ext.rfl' _
         refine dr_end (by kernel_rfl) ?_
         refine then_n ?_
         exact ⟨w62.heap.size, q870, x1005, q986, (Sl.cons_ ha1015 rfl rfl (Sl.cons_ ha1015 rfl rfl (Sl.cons_ ha1015 rfl rfl (Sl.cons_ ha1015 rfl rfl (Sl.cons_ ha1015 rfl rfl (Sl.nil_ ha1015)))))), hx1020, hS985, (hf37.fin (by omega) (by omega) (by omega)), hb1018, (by omega), (by omega), (by omega), (by omega), (by omega), (by omega), (by omega)⟩
      ·
       refine po_eff ha862 rfl rfl rfl rfl (op_buildSlice (s := shStr) (xs := [([97, 100, 97] : Str), ([98, 111] : Str), ([99, 121] : Str)]) (cs := [St (([97, 100, 97] : Str)), St (([98, 111] : Str)), St (([99, 121] : Str))]) (vs := [(0, St (([97, 100, 97] : Str))), (1, St (([98, 111] : Str))), (2, St (([99, 121] : Str)))]) (S := fun _ => False) (le := w858.heap.size) ha862 rfl pos_shStr Try.underlying52 ti9 rfl rfl (by decide) (by kernel_rfl) ⟨mk_shStr (([97, 100, 97] : Str)) (by first | assumption | omega | (constructor <;> omega) | (dsimp only; omega) | (simp; done) | (simp; omega)), mk_shStr (([98, 111] : Str)) (by first | assumption | omega | (constructor <;> omega) | (dsimp only; omega) | (simp; done) | (simp; omega)), mk_shStr (([99, 121] : Str)) (by first | assumption | omega | (constructor <;> omega) | (dsimp only; omega) | (simp; done) | (simp; omega)), rfl⟩ (fun _ h => h.elim)) ?_
       rintro v1023 w1024 ⟨ho1025, he1026, hob1027⟩ a1028 ha1028; clear ha862 a862
       have hs1029 := hs865.trans' he1026
       have hx1030 := hx864.trans' (Stp.of_ext he1026 _)
       have hzhx1030 := he1026.size
       refine ⟨(StpL.of_ext hs1029), ?_⟩
       replace hf36 := hf36.ext hs1029
       replace hf37 := hf37.ext hs1029
       replace ho63 := ho63.ext hs1029
       replace hb860 := hb860.ext hs1029
       refine dr_narrow (S' := fun w' => StpL w1024 w' _) (fun w' h' => (StpL.of_ext hs1029).trans' h') _ _ _ _ ?_
       have hs1031 : Ext w1024 w1024 := Ext.rfl' _
       refine dr_one (i := 3) (by kernel_rfl) ?_
       refine po_callS ha1028 rfl rfl rfl rfl (op_call ha1028 rfl cb72 rfl) (c_spec_l01Pick _ g_s b_s v61 ([(0 : Int), (0 : Int), (1 : Int), (2 : Int), (3 : Int)]) hf36 (ho63.rds pos_shI64) (by rintro ⟨_, _⟩; omega) (by first | assumption | omega | (constructor <;> omega) | (dsimp only; omega) | (simp; done) | (simp; omega))) ?_
       rintro v1032 w1033 he1034 ⟨hS1035, ⟨q1036, hq1037, rfl⟩⟩ a1038 ha1038; clear ha1028 a1028
       have hx1039 := hx1030.trans' he1034
       have hzhx1039 := he1034.size
       first | replace hf37 := hf37.stp he1034 (by intro q hq; cases hq; omega) | replace hf37 := hf37.stpF flat_shEnt he1034 (by intro q hq; cases hq; exact hf37.ne_box (by assumption) rfl)
       first | replace ho63 := ho63.stp he1034 (by intro q hq; cases hq; omega) | replace ho63 := ho63.stpF flat_shI64 he1034 (by intro q hq; cases hq; exact ho63.ne_box (by assumption) rfl)
       replace hb860 := hb860.stp he1034 (by intro q hq; cases hq; omega)
       first | replace ho1025 := ho1025.stp he1034 (by intro q hq; cases hq; omega) | replace ho1025 := ho1025.stpF flat_shStr he1034 (by intro q hq; cases hq; exact ho1025.ne_box (by assumption) rfl)
       clear hf36
       have hSlhS1035 := hS1035.lt
       have hs1040 := (StpL.of_ext (B := fun i => i = g_s ∨ i = w62.heap.size) hs1031).trans' (Stp.toL he1034 (by intro q hq; cases hq; exact Or.inl rfl))
       refine ⟨hs1040, ?_⟩
       simp only [List.mem_cons, List.not_mem_nil, or_false] at hq1037
       refine dr_narrow (S' := fun w' => StpL w1033 w' _) (fun w' h' => hs1040.trans' h') _ _ _ _ ?_
       have hs1041 : Ext w1033 w1033 := Ext.rfl' _
       refine dr_one (i := 6) (by kernel_rfl) ?_
       refine po_callS ha1038 rfl rfl rfl rfl (op_call ha1038 rfl cb73 rfl) (c_spec_l01Next _ g_s b_s (3 : Int) hS1035) ?_
       rintro v1042 w1043 he1044 ⟨hS1045, ⟨q1046, hq1047, hq1048, hq1049, rfl⟩⟩ a1050 ha1050; clear ha1038 a1038
       have hx1051 := hx1039.trans' he1044
       have hzhx1051 := he1044.size
       first | replace hf37 := hf37.stp he1044 (by intro q hq; cases hq; omega) | replace hf37 := hf37.stpF flat_shEnt he1044 (by intro q hq; cases hq; exact hf37.ne_box (by assumption) rfl)
       first | replace ho63 := ho63.stp he1044 (by intro q hq; cases hq; omega) | replace ho63 := ho63.stpF flat_shI64 he1044 (by intro q hq; cases hq; exact ho63.ne_box (by assumption) rfl)
       replace hb860 := hb860.stp he1044 (by intro q hq; cases hq; omega)
       first | replace ho1025 := ho1025.stp he1044 (by intro q hq; cases hq; omega) | replace ho1025 := ho1025.stpF flat_shStr he1044 (by intro q hq; cases hq; exact ho1025.ne_box (by assumption) rfl)
       clear hS1035
       have hSlhS1045 := hS1045.lt
       have hs1052 := (StpL.of_ext (B := fun i => i = g_s ∨ i = w62.heap.size) hs1041).trans' (Stp.toL he1044 (by intro q hq; cases hq; exact Or.inl rfl))
       refine ⟨hs1052, ?_⟩
       refine dr_narrow (S' := fun w' => StpL w1043 w' _) (fun w' h' => hs1052.trans' h') _ _ _ _ ?_
       have hs1053 : Ext w1043 w1043 := Ext.rfl' _
       obtain ⟨x1054, hx1054⟩ := get_ex (xs := [([97, 100, 97] : Str), ([98, 111] : Str), ([99, 121] : Str)]) (j := ((q1046 : Int)).toNat) (by first | omega | (simp only [List.length_cons, List.length_nil]; omega))
       obtain ⟨p1055, c1056, hi1057, hc1058, hr1059, hs1060⟩ := Rds.at_ (ho1025.rds pos_shStr) hx1054
       obtain ⟨rfl, b1061⟩ := inv_shStr hr1059
       obtain ⟨_, _⟩ : _ ∧ _ := hs1060
       have hdlx1054 := el_len 17 (by rfl) hx1054
       refine dr_val (i := 7) ha1050 rfl (by kernel_rfl) (by kernel_rfl) (by kernel_rfl) rfl rfl rfl (StpL.of_ext hs1053) (fun w' hw' => op_indexAddr ha1050 rfl Try.underlying52 ti9 rfl rfl (by omega) hi1057) ?_
       intro a1062 ha1062; clear ha1050 a1050
       refine dr_val (i := 8) ha1062 rfl (by kernel_rfl) (by kernel_rfl) (by kernel_rfl) rfl rfl rfl (StpL.of_ext hs1053) (fun w' hw' => op_loadH ha1062 rfl Try.underlying9 rfl rfl (hc1058.stpL hw' (by rintro (q | q) <;> first | omega)) rfl) ?_
       intro a1063 ha1063; clear ha1062 a1062
       refine dr_one (i := 10) (by kernel_rfl) ?_
       refine po_callS ha1063 rfl rfl rfl rfl (op_call ha1063 rfl cb73 rfl) (c_spec_l01Next _ g_s b_s (30 : Int) hS1045) ?_
       rintro v1064 w1065 he1066 ⟨hS1067, ⟨q1068, hq1069, hq1070, hq1071, rfl⟩⟩ a1072 ha1072; clear ha1063 a1063
       have hx1073 := hx1051.trans' he1066
       have hzhx1073 := he1066.size
       first | replace hf37 := hf37.stp he1066 (by intro q hq; cases hq; omega) | replace hf37 := hf37.stpF flat_shEnt he1066 (by intro q hq; cases hq; exact hf37.ne_box (by assumption) rfl)
       first | replace ho63 := ho63.stp he1066 (by intro q hq; cases hq; omega) | replace ho63 := ho63.stpF flat_shI64 he1066 (by intro q hq; cases hq; exact ho63.ne_box (by assumption) rfl)
       replace hb860 := hb860.stp he1066 (by intro q hq; cases hq; omega)
       first | replace ho1025 := ho1025.stp he1066 (by intro q hq; cases hq; omega) | replace ho1025 := ho1025.stpF flat_shStr he1066 (by intro q hq; cases hq; exact ho1025.ne_box (by assumption) rfl)
       replace hc1058 := hc1058.stp he1066 (by intro q hq; cases hq; omega)
       clear hS1045
       have hSlhS1067 := hS1067.lt
       have hs1074 := (StpL.of_ext (B := fun i => i = g_s ∨ i = w62.heap.size) hs1053).trans' (Stp.toL he1066 (by intro q hq; cases hq; exact Or.inl rfl))
       refine ⟨hs1074, ?_⟩
       refine dr_narrow (S' := fun w' => StpL w1065 w' _) (fun w' h' => hs1074.trans' h') _ _ _ _ ?_
       have hs1075 : Ext w1065 w1065 := Ext.rfl' _
       refine dr_val (i := 11) ha1072 rfl (by kernel_rfl) (by kernel_rfl) (by kernel_rfl) rfl rfl rfl (StpL.of_ext hs1075) (fun w' hw' => (op_add ha1072 rfl rfl rfl).int (IntWalk.i64_in _ (by omega))) ?_
       intro a1076 ha1076; clear ha1072 a1072
       refine dr_val (i := 12) ha1076 rfl (by kernel_rfl) (by kernel_rfl) (by kernel_rfl) rfl rfl rfl (StpL.of_ext hs1075) (fun w' hw' => (op_mul ha1076 rfl rfl rfl).int (IntWalk.i64_in _ (by omega))) ?_
       intro a1077 ha1077; clear ha1076 a1076
       refine dr_val (i := 13) ha1077 rfl (by kernel_rfl) (by kernel_rfl) (by kernel_rfl) rfl rfl rfl (StpL.of_ext hs1075) (fun w' hw' => op_build (vs := [(0, .int .i64 d), (1, .int .i64 (q1036 : Int)), (2, St x1054), (3, .int .i64 ((100 : Int) * ((1 : Int) + (q1068 : Int))))]) (cs := #[.int .i64 d, .int .i64 (q1036 : Int), St x1054, .int .i64 ((100 : Int) * ((1 : Int) + (q1068 : Int)))]) ha1077 rfl Try.underlying41 ti41 bp41 rfl rfl) ?_
       intro a1078 ha1078; clear ha1077 a1077
       refine dr_one (i := 15) (by kernel_rfl) ?_
       refine po_effS ha1078 rfl rfl rfl (op_storeAll' ha1078 rfl ti41 rfl rfl hb860 rfl rfl (by simp [Value.oneCell']) rfl) ?_
       rintro w1079 ⟨hb1081, hst1080, hz1082⟩
       have hx1083 := hx1073.fresh hst1080 (by intro q hq; cases hq; exact (by omega))
       have hzhx1083 := hst1080.size
       replace hf37 := hf37.stp hst1080 (by intro q hq; cases hq; omega)
       replace ho63 := ho63.stp hst1080 (by intro q hq; cases hq; omega)
       replace ho1025 := ho1025.stp hst1080 (by intro q hq; cases hq; omega)
       replace hc1058 := hc1058.stp hst1080 (by intro q hq; cases hq; omega)
       replace hS1067 := hS1067.stp hst1080 (by intro q hq; cases hq; omega)
       clear hb860
       have hs1084 := (StpL.of_ext (B := fun i => i = g_s ∨ i = w62.heap.size) hs1075).trans' (Stp.toL hst1080 (by intro q hq; cases hq; exact Or.inr (rfl)))
       refine ⟨hs1084, ?_⟩
       refine dr_narrow (S' := fun w' => StpL w1079 w' _) (fun w' h' => hs1084.trans' h') _ _ _ _ ?_
       have hs1085 : Ext w1079 w1079 := Ext.rfl' _
       refine dr_end (by kernel_rfl) ?_
       refine then_n ?_
       exact ⟨w62.heap.size, q1036, x1054, q1068, (Sl.cons_ ha1078 rfl rfl (Sl.cons_ ha1078 rfl rfl (Sl.cons_ ha1078 rfl rfl (Sl.cons_ ha1078 rfl rfl (Sl.cons_ ha1078 rfl rfl (Sl.nil_ ha1078)))))), hx1083, hS1067, (hf37.fin (by omega) (by omega) (by omega)), hb1081, (by omega), (by omega), (by omega), (by omega), (by omega), (by omega), (by omega)⟩
    ·
     refine po_eff ha60 rfl rfl rfl rfl (op_buildSlice (s := shStr) (xs := [([97, 100, 97] : Str), ([98, 111] : Str), ([99, 121] : Str)]) (cs := [St (([97, 100, 97] : Str)), St (([98, 111] : Str)), St (([99, 121] : Str))]) (vs := [(0, St (([97, 100, 97] : Str))), (1, St (([98, 111] : Str))), (2, St (([99, 121] : Str)))]) (S := fun _ => False) (le := w53.heap.size) ha60 rfl pos_shStr Try.underlying52 ti9 rfl rfl (by decide) (by kernel_rfl) ⟨mk_shStr (([97, 100, 97] : Str)) (by first | assumption | omega | (constructor <;> omega) | (dsimp only; omega) | (simp; done) | (simp; omega)), mk_shStr (([98, 111] : Str)) (by first | assumption | omega | (constructor <;> omega) | (dsimp only; omega) | (simp; done) | (simp; omega)), mk_shStr (([99, 121] : Str)) (by first | assumption | omega | (constructor <;> omega) | (dsimp only; omega) | (simp; done) | (simp; omega)), rfl⟩ (fun _ h => h.elim)) ?_
     rintro v1086 w1087 ⟨ho1088, he1089, hob1090⟩ a1091 ha1091; clear ha60 a60
     have hs1092 := hs56.trans' he1089
     have hx1093 := hx55.trans' (Stp.of_ext he1089 _)
     have hzhx1093 := he1089.size
     refine ⟨(Stp.of_ext hs1092 _), ?_⟩
     replace hf36 := hf36.ext hs1092
     replace hf37 := hf37.ext hs1092
     refine dr_narrow (S' := fun w' => Stp w1087 w' _) (fun w' h' => (Stp.of_ext hs1092 _).trans' h') _ _ _ _ ?_
     have hs1094 : Ext w1087 w1087 := Ext.rfl' _
     refine dr_two (i := 2) (j := 14) (by kernel_rfl) ?_ ?_
     ·
      refine po_eff ha1091 rfl rfl rfl rfl (op_buildSlice (s := shI64) (xs := [(0 : Int), (0 : Int), (1 : Int), (2 : Int), (3 : Int)]) (cs := [.int .i64 (0 : Int), .int .i64 (0 : Int), .int .i64 (1 : Int), .int .i64 (2 : Int), .int .i64 (3 : Int)]) (vs := [(0, .int .i64 (0 : Int)), (1, .int .i64 (0 : Int)), (2, .int .i64 (1 : Int)), (3, .int .i64 (2 : Int)), (4, .int .i64 (3 : Int))]) (S := fun _ => False) (le := w1087.heap.size) ha1091 rfl pos_shI64 Try.underlying45 ti2 rfl rfl (by decide) (by kernel_rfl) ⟨mk_shI64 ((0 : Int)) (by first | assumption | omega | (constructor <;> omega) | (dsimp only; omega) | (simp; done) | (simp; omega)), mk_shI64 ((0 : Int)) (by first | assumption | omega | (constructor <;> omega) | (dsimp only; omega) | (simp; done) | (simp; omega)), mk_shI64 ((1 : Int)) (by first | assumption | omega | (constructor <;> omega) | (dsimp only; omega) | (simp; done) | (simp; omega)), mk_shI64 ((2 : Int)) (by first | assumption | omega | (constructor <;> omega) | (dsimp only; omega) | (simp; done) | (simp; omega)), mk_shI64 ((3 : Int)) (by first | assumption | omega | (constructor <;> omega) | (dsimp only; omega) | (simp; done) | (simp; omega)), rfl⟩ (fun _ h => h.elim)) ?_
      rintro v1095 w1096 ⟨ho1097, he1098, hob1099⟩ a1100 ha1100; clear ha1091 a1091
      have hs1101 := hs1094.trans' he1098
      have hx1102 := hx1093.trans' (Stp.of_ext he1098 _)
      have hzhx1102 := he1098.size
      refine ⟨(Stp.of_ext hs1101 _), ?_⟩
      replace hf36 := hf36.ext hs1101
      replace hf37 := hf37.ext hs1101
      replace ho1088 := ho1088.ext hs1101
      refine dr_narrow (S' := fun w' => Stp w1096 w' _) (fun w' h' => (Stp.of_ext hs1101 _).trans' h') _ _ _ _ ?_
      have hs1103 : Ext w1096 w1096 := Ext.rfl' _
      refine dr_two (i := 3) (j := 14) (by kernel_rfl) ?_ ?_
      ·
       refine po_callS ha1100 rfl rfl rfl rfl (op_call ha1100 rfl cb72 rfl) (c_spec_l01Pick _ g_s b_s v1095 ([(0 : Int), (0 : Int), (1 : Int), (2 : Int), (3 : Int)]) hf36 (ho1097.rds pos_shI64) (by rintro ⟨_, _⟩; omega) (by first | assumption | omega | (constructor <;> omega) | (dsimp only; omega) | (simp; done) | (simp; omega))) ?_
       rintro v1104 w1105 he1106 ⟨hS1107, ⟨q1108, hq1109, rfl⟩⟩ a1110 ha1110; clear ha1100 a1100
       have hx1111 := hx1102.trans' he1106
       have hzhx1111 := he1106.size
       first | replace hf37 := hf37.stp he1106 (by intro q hq; cases hq; omega) | replace hf37 := hf37.stpF flat_shEnt he1106 (by intro q hq; cases hq; exact hf37.ne_box (by assumption) rfl)
       first | replace ho1088 := ho1088.stp he1106 (by intro q hq; cases hq; omega) | replace ho1088 := ho1088.stpF flat_shStr he1106 (by intro q hq; cases hq; exact ho1088.ne_box (by assumption) rfl)
       first | replace ho1097 := ho1097.stp he1106 (by intro q hq; cases hq; omega) | replace ho1097 := ho1097.stpF flat_shI64 he1106 (by intro q hq; cases hq; exact ho1097.ne_box (by assumption) rfl)
       clear hf36
       have hSlhS1107 := hS1107.lt
       have hs1112 := (Stp.of_ext hs1103 (some g_s)).trans' he1106
       refine ⟨hs1112, ?_⟩
       simp only [List.mem_cons, List.not_mem_nil, or_false] at hq1109
       refine dr_narrow (S' := fun w' => Stp w1105 w' _) (fun w' h' => hs1112.trans' h') _ _ _ _ ?_
       have hs1113 : Ext w1105 w1105 := Ext.rfl' _
       refine dr_two (i := 6) (j := 14) (by kernel_rfl) ?_ ?_
       ·
        refine po_callS ha1110 rfl rfl rfl rfl (op_call ha1110 rfl cb73 rfl) (c_spec_l01Next _ g_s b_s (3 : Int) hS1107) ?_
        rintro v1114 w1115 he1116 ⟨hS1117, ⟨q1118, hq1119, hq1120, hq1121, rfl⟩⟩ a1122 ha1122; clear ha1110 a1110
        have hx1123 := hx1111.trans' he1116
        have hzhx1123 := he1116.size
        first | replace hf37 := hf37.stp he1116 (by intro q hq; cases hq; omega) | replace hf37 := hf37.stpF flat_shEnt he1116 (by intro q hq; cases hq; exact hf37.ne_box (by assumption) rfl)
        first | replace ho1088 := ho1088.stp he1116 (by intro q hq; cases hq; omega) | replace ho1088 := ho1088.stpF flat_shStr he1116 (by intro q hq; cases hq; exact ho1088.ne_box (by assumption) rfl)
        first | replace ho1097 := ho1097.stp he1116 (by intro q hq; cases hq; omega) | replace ho1097 := ho1097.stpF flat_shI64 he1116 (by intro q hq; cases hq; exact ho1097.ne_box (by assumption) rfl)
        clear hS1107
        have hSlhS1117 := hS1117.lt
        have hs1124 := (Stp.of_ext hs1113 (some g_s)).trans' he1116
        refine ⟨hs1124, ?_⟩
        refine dr_narrow (S' := fun w' => Stp w1115 w' _) (fun w' h' => hs1124.trans' h') _ _ _ _ ?_
        have hs1125 : Ext w1115 w1115 := Ext.rfl' _
        obtain ⟨x1126, hx1126⟩ := get_ex (xs := [([97, 100, 97] : Str), ([98, 111] : Str), ([99, 121] : Str)]) (j := ((q1118 : Int)).toNat) (by first | omega | (simp only [List.length_cons, List.length_nil]; omega))
        obtain ⟨p1127, c1128, hi1129, hc1130, hr1131, hs1132⟩ := Rds.at_ (ho1088.rds pos_shStr) hx1126
        obtain ⟨rfl, b1133⟩ := inv_shStr hr1131
        obtain ⟨_, _⟩ : _ ∧ _ := hs1132
        have hdlx1126 := el_len 17 (by rfl) hx1126
        refine dr_val (i := 7) ha1122 rfl (by kernel_rfl) (by kernel_rfl) (by kernel_rfl) rfl rfl rfl (Stp.of_ext hs1125 _) (fun w' hw' => op_indexAddr ha1122 rfl Try.underlying52 ti9 rfl rfl (by omega) hi1129) ?_
        intro a1134 ha1134; clear ha1122 a1122
        refine dr_val (i := 8) ha1134 rfl (by kernel_rfl) (by kernel_rfl) (by kernel_rfl) rfl rfl rfl (Stp.of_ext hs1125 _) (fun w' hw' => op_loadH ha1134 rfl Try.underlying9 rfl rfl (hc1130.stp hw' (by intro q hq; cases hq; omega)) rfl) ?_
        intro a1135 ha1135; clear ha1134 a1134
        refine dr_two (i := 10) (j := 14) (by kernel_rfl) ?_ ?_
        ·
         refine po_callS ha1135 rfl rfl rfl rfl (op_call ha1135 rfl cb73 rfl) (c_spec_l01Next _ g_s b_s (30 : Int) hS1117) ?_
         rintro v1136 w1137 he1138 ⟨hS1139, ⟨q1140, hq1141, hq1142, hq1143, rfl⟩⟩ a1144 ha1144; clear ha1135 a1135
         have hx1145 := hx1123.trans' he1138
         have hzhx1145 := he1138.size
         first | replace hf37 := hf37.stp he1138 (by intro q hq; cases hq; omega) | replace hf37 := hf37.stpF flat_shEnt he1138 (by intro q hq; cases hq; exact hf37.ne_box (by assumption) rfl)
         first | replace ho1088 := ho1088.stp he1138 (by intro q hq; cases hq; omega) | replace ho1088 := ho1088.stpF flat_shStr he1138 (by intro q hq; cases hq; exact ho1088.ne_box (by assumption) rfl)
         first | replace ho1097 := ho1097.stp he1138 (by intro q hq; cases hq; omega) | replace ho1097 := ho1097.stpF flat_shI64 he1138 (by intro q hq; cases hq; exact ho1097.ne_box (by assumption) rfl)
         replace hc1130 := hc1130.stp he1138 (by intro q hq; cases hq; omega)
         clear hS1117
         have hSlhS1139 := hS1139.lt
         have hs1146 := (Stp.of_ext hs1125 (some g_s)).trans' he1138
         refine ⟨hs1146, ?_⟩
         refine dr_narrow (S' := fun w' => Stp w1137 w' _) (fun w' h' => hs1146.trans' h') _ _ _ _ ?_
         have hs1147 : Ext w1137 w1137 := Ext.rfl' _
         refine dr_val (i := 11) ha1144 rfl (by kernel_rfl) (by kernel_rfl) (by kernel_rfl) rfl rfl rfl (Stp.of_ext hs1147 _) (fun w' hw' => (op_add ha1144 rfl rfl rfl).int (IntWalk.i64_in _ (by omega))) ?_
         intro a1148 ha1148; clear ha1144 a1144
         refine dr_val (i := 12) ha1148 rfl (by kernel_rfl) (by kernel_rfl) (by kernel_rfl) rfl rfl rfl (Stp.of_ext hs1147 _) (fun w' hw' => (op_mul ha1148 rfl rfl rfl).int (IntWalk.i64_in _ (by omega))) ?_
         intro a1149 ha1149; clear ha1148 a1148
         refine dr_val (i := 13) ha1149 rfl (by kernel_rfl) (by kernel_rfl) (by kernel_rfl) rfl rfl rfl (Stp.of_ext hs1147 _) (fun w' hw' => op_build (vs := [(0, .int .i64 d), (1, .int .i64 (q1108 : Int)), (2, St x1126), (3, .int .i64 ((100 : Int) * ((1 : Int) + (q1140 : Int))))]) (cs := #[.int .i64 d, .int .i64 (q1108 : Int), St x1126, .int .i64 ((100 : Int) * ((1 : Int) + (q1140 : Int)))]) ha1149 rfl Try.underlying41 ti41 bp41 rfl rfl) ?_
         intro a1150 ha1150; clear ha1149 a1149
         refine dr_one (i := 14) (by kernel_rfl) ?_
         refine po_eff ha1150 rfl rfl rfl rfl (op_alloc' rfl ti41 rfl) ?_
         rintro _ w1151 ⟨rfl, he1152, hb1153, hz1154⟩ a1155 ha1155; clear ha1150 a1150
         have hs1156 := hs1147.trans' he1152
         have hx1157 := hx1145.trans' (Stp.of_ext he1152 _)
         have hzhx1157 := he1152.size
         refine ⟨(Stp.of_ext hs1156 _), ?_⟩
         replace hf37 := hf37.ext hs1156
         replace ho1088 := ho1088.ext hs1156
         replace ho1097 := ho1097.ext hs1156
         replace hc1130 := hc1130.ext hs1156
         replace hS1139 := hS1139.ext hs1156
         refine dr_narrow (S' := fun w' => StpL w1151 w' (fun i => i = g_s ∨ i = w1137.heap.size)) (fun w' h' => ((Stp.of_ext hs1156 _)).freshL h' (by intro i hi; rcases hi with q | q <;> first | (exact Or.inl (congrArg some q.symm)) | (right; omega))) _ _ _ _ ?_
         have hs1158 : Ext w1151 w1151 := Ext.rfl' _
         refine dr_one (i := 15) (by kernel_rfl) ?_
         refine po_effS ha1155 rfl rfl rfl (op_storeAll' ha1155 rfl ti41 rfl rfl hb1153 rfl rfl (by simp [Value.oneCell']) rfl) ?_
         rintro w1159 ⟨hb1161, hst1160, hz1162⟩
         have hx1163 := hx1157.fresh hst1160 (by intro q hq; cases hq; exact (by omega))
         have hzhx1163 := hst1160.size
         replace hf37 := hf37.stp hst1160 (by intro q hq; cases hq; omega)
         replace ho1088 := ho1088.stp hst1160 (by intro q hq; cases hq; omega)
         replace ho1097 := ho1097.stp hst1160 (by intro q hq; cases hq; omega)
         replace hc1130 := hc1130.stp hst1160 (by intro q hq; cases hq; omega)
         replace hS1139 := hS1139.stp hst1160 (by intro q hq; cases hq; omega)
         clear hb1153
         have hs1164 := (StpL.of_ext (B := fun i => i = g_s ∨ i = w1137.heap.size) hs1158).trans' (Stp.toL hst1160 (by intro q hq; cases hq; exact Or.inr (rfl)))
         refine ⟨hs1164, ?_⟩
         refine dr_narrow (S' := fun w' => StpL w1159 w' _) (fun w' h' => hs1164.trans' h') _ _ _ _ ?_
         have hs1165 : Ext w1159 w1159 := Ext.rfl' _
         refine dr_end (by kernel_rfl) ?_
         refine then_n ?_
         exact ⟨w1137.heap.size, q1108, x1126, q1140, (Sl.cons_ ha1155 rfl rfl (Sl.cons_ ha1155 rfl rfl (Sl.cons_ ha1155 rfl rfl (Sl.cons_ ha1155 rfl rfl (Sl.cons_ ha1155 rfl rfl (Sl.nil_ ha1155)))))), hx1163, hS1139, (hf37.fin (by omega) (by omega) (by omega)), hb1161, (by omega), (by omega), (by omega), (by omega), (by omega), (by omega), (by omega)⟩
        ·
         refine po_eff ha1135 rfl rfl rfl rfl (op_alloc' rfl ti41 rfl) ?_
         rintro _ w1166 ⟨rfl, he1167, hb1168, hz1169⟩ a1170 ha1170; clear ha1135 a1135
         have hs1171 := hs1125.trans' he1167
         have hx1172 := hx1123.trans' (Stp.of_ext he1167 _)
         have hzhx1172 := he1167.size
         refine ⟨(Stp.of_ext hs1171 _), ?_⟩
         replace hf37 := hf37.ext hs1171
         replace ho1088 := ho1088.ext hs1171
         replace ho1097 := ho1097.ext hs1171
         replace hS1117 := hS1117.ext hs1171
         replace hc1130 := hc1130.ext hs1171
         refine dr_narrow (S' := fun w' => StpL w1166 w' (fun i => i = g_s ∨ i = w1115.heap.size)) (fun w' h' => ((Stp.of_ext hs1171 _)).freshL h' (by intro i hi; rcases hi with q | q <;> first | (exact Or.inl (congrArg some q.symm)) | (right; omega))) _ _ _ _ ?_
         have hs1173 : Ext w1166 w1166 := Ext.rfl' _
         refine dr_one (i := 10) (by kernel_rfl) ?_
         refine po_callS ha1170 rfl rfl rfl rfl (op_call ha1170 rfl cb73 rfl) (c_spec_l01Next _ g_s b_s (30 : Int) hS1117) ?_
         rintro v1174 w1175 he1176 ⟨hS1177, ⟨q1178, hq1179, hq1180, hq1181, rfl⟩⟩ a1182 ha1182; clear ha1170 a1170
         have hx1183 := hx1172.trans' he1176
         have hzhx1183 := he1176.size
         first | replace hf37 := hf37.stp he1176 (by intro q hq; cases hq; omega) | replace hf37 := hf37.stpF flat_shEnt he1176 (by intro q hq; cases hq; exact hf37.ne_box (by assumption) rfl)
         first | replace ho1088 := ho1088.stp he1176 (by intro q hq; cases hq; omega) | replace ho1088 := ho1088.stpF flat_shStr he1176 (by intro q hq; cases hq; exact ho1088.ne_box (by assumption) rfl)
         first | replace ho1097 := ho1097.stp he1176 (by intro q hq; cases hq; omega) | replace ho1097 := ho1097.stpF flat_shI64 he1176 (by intro q hq; cases hq; exact ho1097.ne_box (by assumption) rfl)
         replace hc1130 := hc1130.stp he1176 (by intro q hq; cases hq; omega)
         replace hb1168 := hb1168.stp he1176 (by intro q hq; cases hq; omega)
         clear hS1117
         have hSlhS1177 := hS1177.lt
         have hs1184 := (StpL.of_ext (B := fun i => i = g_s ∨ i = w1115.heap.size) hs1173).trans' (Stp.toL he1176 (by intro q hq; cases hq; exact Or.inl rfl))
         refine ⟨hs1184, ?_⟩
         refine dr_narrow (S' := fun w' => StpL w1175 w' _) (fun w' h' => hs1184.trans' h') _ _ _ _ ?_
         have hs1185 : Ext w1175 w1175 := Ext.rfl' _
         refine dr_val (i := 11) ha1182 rfl (by kernel_rfl) (by kernel_rfl) (by kernel_rfl) rfl rfl rfl (StpL.of_ext hs1185) (fun w' hw' => (op_add ha1182 rfl rfl rfl).int (IntWalk.i64_in _ (by omega))) ?_
         intro a1186 ha1186; clear ha1182 a1182
         refine dr_val (i := 12) ha1186 rfl (by kernel_rfl) (by kernel_rfl) (by kernel_rfl) rfl rfl rfl (StpL.of_ext hs1185) (fun w' hw' => (op_mul ha1186 rfl rfl rfl).int (IntWalk.i64_in _ (by omega))) ?_
         intro a1187 ha1187; clear ha1186 a1186
         refine dr_val (i := 13) ha1187 rfl (by kernel_rfl) (by kernel_rfl) (by kernel_rfl) rfl rfl rfl (StpL.of_ext hs1185) (fun w' hw' => op_build (vs := [(0, .int .i64 d), (1, .int .i64 (q1108 : Int)), (2, St x1126), (3, .int .i64 ((100 : Int) * ((1 : Int) + (q1178 : Int))))]) (cs := #[.int .i64 d, .int .i64 (q1108 : Int), St x1126, .int .i64 ((100 : Int) * ((1 : Int) + (q1178 : Int)))]) ha1187 rfl Try.underlying41 ti41 bp41 rfl rfl) ?_
         intro a1188 ha1188; clear ha1187 a1187
         refine dr_one (i := 15) (by kernel_rfl) ?_
         refine po_effS ha1188 rfl rfl rfl (op_storeAll' ha1188 rfl ti41 rfl rfl hb1168 rfl rfl (by simp [Value.oneCell']) rfl) ?_
         rintro w1189 ⟨hb1191, hst1190, hz1192⟩
         have hx1193 := hx1183.fresh hst1190 (by intro q hq; cases hq; exact (by omega))
         have hzhx1193 := hst1190.size
         replace hf37 := hf37.stp hst1190 (by intro q hq; cases hq; omega)
         replace ho1088 := ho1088.stp hst1190 (by intro q hq; cases hq; omega)
         replace ho1097 := ho1097.stp hst1190 (by intro q hq; cases hq; omega)
         replace hc1130 := hc1130.stp hst1190 (by intro q hq; cases hq; omega)
         replace hS1177 := hS1177.stp hst1190 (by intro q hq; cases hq; omega)
         clear hb1168
         have hs1194 := (StpL.of_ext (B := fun i => i = g_s ∨ i = w1115.heap.size) hs1185).trans' (Stp.toL hst1190 (by intro q hq; cases hq; exact Or.inr (rfl)))
         refine ⟨hs1194, ?_⟩
         refine dr_narrow (S' := fun w' => StpL w1189 w' _) (fun w' h' => hs1194.trans' h') _ _ _ _ ?_
         have hs1195 : Ext w1189 w1189 := Ext.rfl' _
         refine dr_end (by kernel_rfl) ?_
         refine then_n ?_
         exact ⟨w1115.heap.size, q1108, x1126, q1178, (Sl.cons_ ha1188 rfl rfl (Sl.cons_ ha1188 rfl rfl (Sl.cons_ ha1188 rfl rfl (Sl.cons_ ha1188 rfl rfl (Sl.cons_ ha1188 rfl rfl (Sl.nil_ ha1188)))))), hx1193, hS1177, (hf37.fin (by omega) (by omega) (by omega)), hb1191, (by omega), (by omega), (by omega), (by omega), (by omega), (by omega), (by omega)⟩
       ·
        refine po_eff ha1110 rfl rfl rfl rfl (op_alloc' rfl ti41 rfl) ?_
        rintro _ w1196 ⟨rfl, he1197, hb1198, hz1199⟩ a1200 ha1200; clear ha1110 a1110
        have hs1201 := hs1113.trans' he1197
        have hx1202 := hx1111.trans' (Stp.of_ext he1197 _)
        have hzhx1202 := he1197.size
        refine ⟨(Stp.of_ext hs1201 _), ?_⟩
        replace hf37 := hf37.ext hs1201
        replace ho1088 := ho1088.ext hs1201
        replace ho1097 := ho1097.ext hs1201
        replace hS1107 := hS1107.ext hs1201
        refine dr_narrow (S' := fun w' => StpL w1196 w' (fun i => i = g_s ∨ i = w1105.heap.size)) (fun w' h' => ((Stp.of_ext hs1201 _)).freshL h' (by intro i hi; rcases hi with q | q <;> first | (exact Or.inl (congrArg some q.symm)) | (right; omega))) _ _ _ _ ?_
        have hs1203 : Ext w1196 w1196 := Ext.rfl' _
        refine dr_one (i := 6) (by kernel_rfl) ?_
        refine po_callS ha1200 rfl rfl rfl rfl (op_call ha1200 rfl cb73 rfl) (c_spec_l01Next _ g_s b_s (3 : Int) hS1107) ?_
        rintro v1204 w1205 he1206 ⟨hS1207, ⟨q1208, hq1209, hq1210, hq1211, rfl⟩⟩ a1212 ha1212; clear ha1200 a1200
        have hx1213 := hx1202.trans' he1206
        have hzhx1213 := he1206.size
        first | replace hf37 := hf37.stp he1206 (by intro q hq; cases hq; omega) | replace hf37 := hf37.stpF flat_shEnt he1206 (by intro q hq; cases hq; exact hf37.ne_box (by assumption) rfl)
        first | replace ho1088 := ho1088.stp he1206 (by intro q hq; cases hq; omega) | replace ho1088 := ho1088.stpF flat_shStr he1206 (by intro q hq; cases hq; exact ho1088.ne_box (by assumption) rfl)
        first | replace ho1097 := ho1097.stp he1206 (by intro q hq; cases hq; omega) | replace ho1097 := ho1097.stpF flat_shI64 he1206 (by intro q hq; cases hq; exact ho1097.ne_box (by assumption) rfl)
        replace hb1198 := hb1198.stp he1206 (by intro q hq; cases hq; omega)
        clear hS1107
        have hSlhS1207 := hS1207.lt
        have hs1214 := (StpL.of_ext (B := fun i => i = g_s ∨ i = w1105.heap.size) hs1203).trans' (Stp.toL he1206 (by intro q hq; cases hq; exact Or.inl rfl))
        refine ⟨hs1214, ?_⟩
        refine dr_narrow (S' := fun w' => StpL w1205 w' _) (fun w' h' => hs1214.trans' h') _ _ _ _ ?_
        have hs1215 : Ext w1205 w1205 := Ext.rfl' _
        obtain ⟨x1216, hx1216⟩ := get_ex (xs := [([97, 100, 97] : Str), ([98, 111] : Str), ([99, 121] : Str)]) (j := ((q1208 : Int)).toNat) (by first | omega | (simp only [List.length_cons, List.length_nil]; omega))
        obtain ⟨p1217, c1218, hi1219, hc1220, hr1221, hs1222⟩ := Rds.at_ (ho1088.rds pos_shStr) hx1216
        obtain ⟨rfl, b1223⟩ := inv_shStr hr1221
        obtain ⟨_, _⟩ : _ ∧ _ := hs1222
        have hdlx1216 := el_len 17 (by rfl) hx1216
        refine dr_val (i := 7) ha1212 rfl (by kernel_rfl) (by kernel_rfl) (by kernel_rfl) rfl rfl rfl (StpL.of_ext hs1215) (fun w' hw' => op_indexAddr ha1212 rfl Try.underlying52 ti9 rfl rfl (by omega) hi1219) ?_
        intro a1224 ha1224; clear ha1212 a1212
        refine dr_val (i := 8) ha1224 rfl (by kernel_rfl) (by kernel_rfl) (by kernel_rfl) rfl rfl rfl (StpL.of_ext hs1215) (fun w' hw' => op_loadH ha1224 rfl Try.underlying9 rfl rfl (hc1220.stpL hw' (by rintro (q | q) <;> first | omega)) rfl) ?_
        intro a1225 ha1225; clear ha1224 a1224
        refine dr_one (i := 10) (by kernel_rfl) ?_
        refine po_callS ha1225 rfl rfl rfl rfl (op_call ha1225 rfl cb73 rfl) (c_spec_l01Next _ g_s b_s (30 : Int) hS1207) ?_
        rintro v1226 w1227 he1228 ⟨hS1229, ⟨q1230, hq1231, hq1232, hq1233, rfl⟩⟩ a1234 ha1234; clear ha1225 a1225
        have hx1235 := hx1213.trans' he1228
        have hzhx1235 := he1228.size
        first | replace hf37 := hf37.stp he1228 (by intro q hq; cases hq; omega) | replace hf37 := hf37.stpF flat_shEnt he1228 (by intro q hq; cases hq; exact hf37.ne_box (by assumption) rfl)
        first | replace ho1088 := ho1088.stp he1228 (by intro q hq; cases hq; omega) | replace ho1088 := ho1088.stpF flat_shStr he1228 (by intro q hq; cases hq; exact ho1088.ne_box (by assumption) rfl)
        first | replace ho1097 := ho1097.stp he1228 (by intro q hq; cases hq; omega) | replace ho1097 := ho1097.stpF flat_shI64 he1228 (by intro q hq; cases hq; exact ho1097.ne_box (by assumption) rfl)
        replace hb1198 := hb1198.stp he1228 (by intro q hq; cases hq; omega)
        replace hc1220 := hc1220.stp he1228 (by intro q hq; cases hq; omega)
        clear hS1207
        have hSlhS1229 := hS1229.lt
        have hs1236 := (StpL.of_ext (B := fun i => i = g_s ∨ i = w1105.heap.size) hs1215).trans' (Stp.toL he1228 (by intro q hq; cases hq; exact Or.inl rfl))
        refine ⟨hs1236, ?_⟩
        refine dr_narrow (S' := fun w' => StpL w1227 w' _) (fun w' h' => hs1236.trans' h') _ _ _ _ ?_
        have hs1237 : Ext w1227 w1227 := Ext.rfl' _
        refine dr_val (i := 11) ha1234 rfl (by kernel_rfl) (by kernel_rfl) (by kernel_rfl) rfl rfl rfl (StpL.of_ext hs1237) (fun w' hw' => (op_add ha1234 rfl rfl rfl).int (IntWalk.i64_in _ (by omega))) ?_
        intro a1238 ha1238; clear ha1234 a1234
        refine dr_val (i := 12) ha1238 rfl (by kernel_rfl) (by kernel_rfl) (by kernel_rfl) rfl rfl rfl (StpL.of_ext hs1237) (fun w' hw' => (op_mul ha1238 rfl rfl rfl).int (IntWalk.i64_in _ (by omega))) ?_
        intro a1239 ha1239; clear ha1238 a1238
        refine dr_val (i := 13) ha1239 rfl (by kernel_rfl) (by kernel_rfl) (by kernel_rfl) rfl rfl rfl (StpL.of_ext hs1237) (fun w' hw' => op_build (vs := [(0, .int .i64 d), (1, .int .i64 (q1108 : Int)), (2, St x1216), (3, .int .i64 ((100 : Int) * ((1 : Int) + (q1230 : Int))))]) (cs := #[.int .i64 d, .int .i64 (q1108 : Int), St x1216, .int .i64 ((100 : Int) * ((1 : Int) + (q1230 : Int)))]) ha1239 rfl Try.underlying41 ti41 bp41 rfl rfl) ?_
        intro a1240 ha1240; clear ha1239 a1239
        refine dr_one (i := 15) (by kernel_rfl) ?_
        refine po_effS ha1240 rfl rfl rfl (op_storeAll' ha1240 rfl ti41 rfl rfl hb1198 rfl rfl (by simp [Value.oneCell']) rfl) ?_
        rintro w1241 ⟨hb1243, hst1242, hz1244⟩
        have hx1245 := hx1235.fresh hst1242 (by intro q hq; cases hq; exact (by omega))
        have hzhx1245 := hst1242.size
        replace hf37 := hf37.stp hst1242 (by intro q hq; cases hq; omega)
        replace ho1088 := ho1088.stp hst1242 (by intro q hq; cases hq; omega)
        replace ho1097 := ho1097.stp hst1242 (by intro q hq; cases hq; omega)
        replace hc1220 := hc1220.stp hst1242 (by intro q hq; cases hq; omega)
        replace hS1229 := hS1229.stp hst1242 (by intro q hq; cases hq; omega)
        clear hb1198
        have hs1246 := (StpL.of_ext (B := fun i => i = g_s ∨ i = w1105.heap.size) hs1237).trans' (Stp.toL hst1242 (by intro q hq; cases hq; exact Or.inr (rfl)))
        refine ⟨hs1246, ?_⟩
        refine dr_narrow (S' := fun w' => StpL w1241 w' _) (fun w' h' => hs1246.trans' h') _ _ _ _ ?_
        have hs1247 : Ext w1241 w1241 := Ext.rfl' _
        refine dr_end (by kernel_rfl) ?_
        refine then_n ?_
        exact ⟨w1105.heap.size, q1108, x1216, q1230, (Sl.cons_ ha1240 rfl rfl (Sl.cons_ ha1240 rfl rfl (Sl.cons_ ha1240 rfl rfl (Sl.cons_ ha1240 rfl rfl (Sl.cons_ ha1240 rfl rfl (Sl.nil_ ha1240)))))), hx1245, hS1229, (hf37.fin (by omega) (by omega) (by omega)), hb1243, (by omega), (by omega), (by omega), (by omega), (by omega), (by omega), (by omega)⟩
      ·
       refine po_eff ha1100 rfl rfl rfl rfl (op_alloc' rfl ti41 rfl) ?_
       rintro _ w1248 ⟨rfl, he1249, hb1250, hz1251⟩ a1252 ha1252; clear ha1100 a1100
       have hs1253 := hs1103.trans' he1249
       have hx1254 := hx1102.trans' (Stp.of_ext he1249 _)
       have hzhx1254 := he1249.size
       refine ⟨(Stp.of_ext hs1253 _), ?_⟩
       replace hf36 := hf36.ext hs1253
       replace hf37 := hf37.ext hs1253
       replace ho1088 := ho1088.ext hs1253
       replace ho1097 := ho1097.ext hs1253
       refine dr_narrow (S' := fun w' => StpL w1248 w' (fun i => i = g_s ∨ i = w1096.heap.size)) (fun w' h' => ((Stp.of_ext hs1253 _)).freshL h' (by intro i hi; rcases hi with q | q <;> first | (exact Or.inl (congrArg some q.symm)) | (right; omega))) _ _ _ _ ?_
       have hs1255 : Ext w1248 w1248 := Ext.rfl' _
       refine dr_one (i := 3) (by kernel_rfl) ?_
       refine po_callS ha1252 rfl rfl rfl rfl (op_call ha1252 rfl cb72 rfl) (c_spec_l01Pick _ g_s b_s v1095 ([(0 : Int), (0 : Int), (1 : Int), (2 : Int), (3 : Int)]) hf36 (ho1097.rds pos_shI64) (by rintro ⟨_, _⟩; omega) (by first | assumption | omega | (constructor <;> omega) | (dsimp only; omega) | (simp; done) | (simp; omega))) ?_
       rintro v1256 w1257 he1258 ⟨hS1259, ⟨q1260, hq1261, rfl⟩⟩ a1262 ha1262; clear ha1252 a1252
       have hx1263 := hx1254.trans' he1258
       have hzhx1263 := he1258.size
       first | replace hf37 := hf37.stp he1258 (by intro q hq; cases hq; omega) | replace hf37 := hf37.stpF flat_shEnt he1258 (by intro q hq; cases hq; exact hf37.ne_box (by assumption) rfl)
       first | replace ho1088 := ho1088.stp he1258 (by intro q hq; cases hq; omega) | replace ho1088 := ho1088.stpF flat_shStr he1258 (by intro q hq; cases hq; exact ho1088.ne_box (by assumption) rfl)
       first | replace ho1097 := ho1097.stp he1258 (by intro q hq; cases hq; omega) | replace ho1097 := ho1097.stpF flat_shI64 he1258 (by intro q hq; cases hq; exact ho1097.ne_box (by assumption) rfl)
       replace hb1250 := hb1250.stp he1258 (by intro q hq; cases hq; omega)
       clear hf36
       have hSlhS1259 := hS1259.lt
       have hs1264 := (StpL.of_ext (B := fun i => i = g_s ∨ i = w1096.heap.size) hs1255).trans' (Stp.toL he1258 (by intro q hq; cases hq; exact Or.inl rfl))
       refine ⟨hs1264, ?_⟩
       simp only [List.mem_cons, List.not_mem_nil, or_false] at hq1261
       refine dr_narrow (S' := fun w' => StpL w1257 w' _) (fun w' h' => hs1264.trans' h') _ _ _ _ ?_
       have hs1265 : Ext w1257 w1257 := Ext.rfl' _
       refine dr_one (i := 6) (by kernel_rfl) ?_
       refine po_callS ha1262 rfl rfl rfl rfl (op_call ha1262 rfl cb73 rfl) (c_spec_l01Next _ g_s b_s (3 : Int) hS1259) ?_
       rintro v1266 w1267 he1268 ⟨hS1269, ⟨q1270, hq1271, hq1272, hq1273, rfl⟩⟩ a1274 ha1274; clear ha1262 a1262
       have hx1275 := hx1263.trans' he1268
       have hzhx1275 := he1268.size
       first | replace hf37 := hf37.stp he1268 (by intro q hq; cases hq; omega) | replace hf37 := hf37.stpF flat_shEnt he1268 (by intro q hq; cases hq; exact hf37.ne_box (by assumption) rfl)
       first | replace ho1088 := ho1088.stp he1268 (by intro q hq; cases hq; omega) | replace ho1088 := ho1088.stpF flat_shStr he1268 (by intro q hq; cases hq; exact ho1088.ne_box (by assumption) rfl)
       first | replace ho1097 := ho1097.stp he1268 (by intro q hq; cases hq; omega) | replace ho1097 := ho1097.stpF flat_shI64 he1268 (by intro q hq; cases hq; exact ho1097.ne_box (by assumption) rfl)
       replace hb1250 := hb1250.stp he1268 (by intro q hq; cases hq; omega)
       clear hS1259
       have hSlhS1269 := hS1269.lt
       have hs1276 := (StpL.of_ext (B := fun i => i = g_s ∨ i = w1096.heap.size) hs1265).trans' (Stp.toL he1268 (by intro q hq; cases hq; exact Or.inl rfl))
       refine ⟨hs1276, ?_⟩
       refine dr_narrow (S' := fun w' => StpL w1267 w' _) (fun w' h' => hs1276.trans' h') _ _ _ _ ?_
       have hs1277 : Ext w1267 w1267 := Ext.rfl' _
       obtain ⟨x1278, hx1278⟩ := get_ex (xs := [([97, 100, 97] : Str), ([98, 111] : Str), ([99, 121] : Str)]) (j := ((q1270 : Int)).toNat) (by first | omega | (simp only [List.length_cons, List.length_nil]; omega))
       obtain ⟨p1279, c1280, hi1281, hc1282, hr1283, hs1284⟩ := Rds.at_ (ho1088.rds pos_shStr) hx1278
       obtain ⟨rfl, b1285⟩ := inv_shStr hr1283
       obtain ⟨_, _⟩ : _ ∧ _ := hs1284
       have hdlx1278 := el_len 17 (by rfl) hx1278
       refine dr_val (i := 7) ha1274 rfl (by kernel_rfl) (by kernel_rfl) (by kernel_rfl) rfl rfl rfl (StpL.of_ext hs1277) (fun w' hw' => op_indexAddr ha1274 rfl Try.underlying52 ti9 rfl rfl (by omega) hi1281) ?_
       intro a1286 ha1286; clear ha1274 a1274
       refine dr_val (i := 8) ha1286 rfl (by kernel_rfl) (by kernel_rfl) (by kernel_rfl) rfl rfl rfl (StpL.of_ext hs1277) (fun w' hw' => op_loadH ha1286 rfl Try.underlying9 rfl rfl (hc1282.stpL hw' (by rintro (q | q) <;> first | omega)) rfl) ?_
       intro a1287 ha1287; clear ha1286 a1286
       refine dr_one (i := 10) (by kernel_rfl) ?_
       refine po_callS ha1287 rfl rfl rfl rfl (op_call ha1287 rfl cb73 rfl) (c_spec_l01Next _ g_s b_s (30 : Int) hS1269) ?_
       rintro v1288 w1289 he1290 ⟨hS1291, ⟨q1292, hq1293, hq1294, hq1295, rfl⟩⟩ a1296 ha1296; clear ha1287 a1287
       have hx1297 := hx1275.trans' he1290
       have hzhx1297 := he1290.size
       first | replace hf37 := hf37.stp he1290 (by intro q hq; cases hq; omega) | replace hf37 := hf37.stpF flat_shEnt he1290 (by intro q hq; cases hq; exact hf37.ne_box (by assumption) rfl)
       first | replace ho1088 := ho1088.stp he1290 (by intro q hq; cases hq; omega) | replace ho1088 := ho1088.stpF flat_shStr he1290 (by intro q hq; cases hq; exact ho1088.ne_box (by assumption) rfl)
       first | replace ho1097 := ho1097.stp he1290 (by intro q hq; cases hq; omega) | replace ho1097 := ho1097.stpF flat_shI64 he1290 (by intro q hq; cases hq; exact ho1097.ne_box (by assumption) rfl)
       replace hb1250 := hb1250.stp he1290 (by intro q hq; cases hq; omega)
       replace hc1282 := hc1282.stp he1290 (by intro q hq; cases hq; omega)
       clear hS1269
       have hSlhS1291 := hS1291.lt
       have hs1298 := (StpL.of_ext (B := fun i => i = g_s ∨ i = w1096.heap.size) hs1277).trans' (Stp.toL he1290 (by intro q hq; cases hq; exact Or.inl rfl))
       refine ⟨hs1298, ?_⟩
       refine dr_narrow (S' := fun w' => StpL w1289 w' _) (fun w' h' => hs1298.trans' h') _ _ _ _ ?_
       have hs1299 : Ext w1289 w1289 := Ext.rfl' _
       refine dr_val (i := 11) ha1296 rfl (by kernel_rfl) (by kernel_rfl) (by kernel_rfl) rfl rfl rfl (StpL.of_ext hs1299) (fun w' hw' => (op_add ha1296 rfl rfl rfl).int (IntWalk.i64_in _ (by omega))) ?_
       intro a1300 ha1300; clear ha1296 a1296
       refine dr_val (i := 12) ha1300 rfl (by kernel_rfl) (by kernel_rfl) (by kernel_rfl) rfl rfl rfl (StpL.of_ext hs1299) (fun w' hw' => (op_mul ha1300 rfl rfl rfl).int (IntWalk.i64_in _ (by omega))) ?_
       intro a1301 ha1301; clear ha1300 a1300
       refine dr_val (i := 13) ha1301 rfl (by kernel_rfl) (by kernel_rfl) (by kernel_rfl) rfl rfl rfl (StpL.of_ext hs1299) (fun w' hw' => op_build (vs := [(0, .int .i64 d), (1, .int .i64 (q1260 : Int)), (2, St x1278), (3, .int .i64 ((100 : Int) * ((1 : Int) + (q1292 : Int))))]) (cs := #[.int .i64 d, .int .i64 (q1260 : Int), St x1278, .int .i64 ((100 : Int) * ((1 : Int) + (q1292 : Int)))]) ha1301 rfl Try.underlying41 ti41 bp41 rfl rfl) ?_
       intro a1302 ha1302; clear ha1301 a1301
       refine dr_one (i := 15) (by kernel_rfl) ?_
       refine po_effS ha1302 rfl rfl rfl (op_storeAll' ha1302 rfl ti41 rfl rfl hb1250 rfl rfl (by simp [Value.oneCell']) rfl) ?_
       rintro w1303 ⟨hb1305, hst1304, hz1306⟩
       have hx1307 := hx1297.fresh hst1304 (by intro q hq; cases hq; exact (by omega))
       have hzhx1307 := hst1304.size
       replace hf37 := hf37.stp hst1304 (by intro q hq; cases hq; omega)
       replace ho1088 := ho1088.stp hst1304 (by intro q hq; cases hq; omega)
       replace ho1097 := ho1097.stp hst1304 (by intro q hq; cases hq; omega)
       replace hc1282 := hc1282.stp hst1304 (by intro q hq; cases hq; omega)
       replace hS1291 := hS1291.stp hst1304 (by intro q hq; cases hq; omega)
       clear hb1250
       have hs1308 := (StpL.of_ext (B := fun i => i = g_s ∨ i = w1096.heap.size) hs1299).trans' (Stp.toL hst1304 (by intro q hq; cases hq; exact Or.inr (rfl)))
       refine ⟨hs1308, ?_⟩
       refine dr_narrow (S' := fun w' => StpL w1303 w' _) (fun w' h' => hs1308.trans' h') _ _ _ _ ?_
       have hs1309 : Ext w1303 w1303 := Ext.rfl' _
       refine dr_end (by kernel_rfl) ?_
       refine then_n ?_
       exact ⟨w1096.heap.size, q1260, x1278, q1292, (Sl.cons_ ha1302 rfl rfl (Sl.cons_ ha1302 rfl rfl (Sl.cons_ ha1302 rfl rfl (Sl.cons_ ha1302 rfl rfl (Sl.cons_ ha1302 rfl rfl (Sl.nil_ ha1302)))))), hx1307, hS1291, (hf37.fin (by omega) (by omega) (by omega)), hb1305, (by omega), (by omega), (by omega), (by omega), (by omega), (by omega), (by omega)⟩
     ·
      refine po_eff ha1091 rfl rfl rfl rfl (op_alloc' rfl ti41 rfl) ?_
      rintro _ w1310 ⟨rfl, he1311, hb1312, hz1313⟩ a1314 ha1314; clear ha1091 a1091
      have hs1315 := hs1094.trans' he1311
      have hx1316 := hx1093.trans' (Stp.of_ext he1311 _)
      have hzhx1316 := he1311.size
      refine ⟨(Stp.of_ext hs1315 _), ?_⟩
      replace hf36 := hf36.ext hs1315
      replace hf37 := hf37.ext hs1315
      replace ho1088 := ho1088.ext hs1315
      refine dr_narrow (S' := fun w' => StpL w1310 w' (fun i => i = g_s ∨ i = w1087.heap.size)) (fun w' h' => ((Stp.of_ext hs1315 _)).freshL h' (by intro i hi; rcases hi with q | q <;> first | (exact Or.inl (congrArg some q.symm)) | (right; omega))) _ _ _ _ ?_
      have hs1317 : Ext w1310 w1310 := Ext.rfl' _
      refine dr_one (i := 2) (by kernel_rfl) ?_
      refine po_eff ha1314 rfl rfl rfl rfl (op_buildSlice (s := shI64) (xs := [(0 : Int), (0 : Int), (1 : Int), (2 : Int), (3 : Int)]) (cs := [.int .i64 (0 : Int), .int .i64 (0 : Int), .int .i64 (1 : Int), .int .i64 (2 : Int), .int .i64 (3 : Int)]) (vs := [(0, .int .i64 (0 : Int)), (1, .int .i64 (0 : Int)), (2, .int .i64 (1 : Int)), (3, .int .i64 (2 : Int)), (4, .int .i64 (3 : Int))]) (S := fun _ => False) (le := w1310.heap.size) ha1314 rfl pos_shI64 Try.underlying45 ti2 rfl rfl (by decide) (by kernel_rfl) ⟨mk_shI64 ((0 : Int)) (by first | assumption | omega | (constructor <;> omega) | (dsimp only; omega) | (simp; done) | (simp; omega)), mk_shI64 ((0 : Int)) (by first | assumption | omega | (constructor <;> omega) | (dsimp only; omega) | (simp; done) | (simp; omega)), mk_shI64 ((1 : Int)) (by first | assumption | omega | (constructor <;> omega) | (dsimp only; omega) | (simp; done) | (simp; omega)), mk_shI64 ((2 : Int)) (by first | assumption | omega | (constructor <;> omega) | (dsimp only; omega) | (simp; done) | (simp; omega)), mk_shI64 ((3 : Int)) (by first | assumption | omega | (constructor <;> omega) | (dsimp only; omega) | (simp; done) | (simp; omega)), rfl⟩ (fun _ h => h.elim)) ?_
      rintro v1318 w1319 ⟨ho1320, he1321, hob1322⟩ a1323 ha1323; clear ha1314 a1314
      have hs1324 := hs1317.trans' he1321
      have hx1325 := hx1316.trans' (Stp.of_ext he1321 _)
      have hzhx1325 := he1321.size
      refine ⟨(StpL.of_ext hs1324), ?_⟩
      replace hf36 := hf36.ext hs1324
      replace hf37 := hf37.ext hs1324
      replace ho1088 := ho1088.ext hs1324
      replace hb1312 := hb1312.ext hs1324
      refine dr_narrow (S' := fun w' => StpL w1319 w' _) (fun w' h' => (StpL.of_ext hs1324).trans' h') _ _ _ _ ?_
      have hs1326 : Ext w1319 w1319 := Ext.rfl' _
      refine dr_one (i := 3) (by kernel_rfl) ?_
      refine po_callS ha1323 rfl rfl rfl rfl (op_call ha1323 rfl cb72 rfl) (c_spec_l01Pick _ g_s b_s v1318 ([(0 : Int), (0 : Int), (1 : Int), (2 : Int), (3 : Int)]) hf36 (ho1320.rds pos_shI64) (by rintro ⟨_, _⟩; omega) (by first | assumption | omega | (constructor <;> omega) | (dsimp only; omega) | (simp; done) | (simp; omega))) ?_
      rintro v1327 w1328 he1329 ⟨hS1330, ⟨q1331, hq1332, rfl⟩⟩ a1333 ha1333; clear ha1323 a1323
      have hx1334 := hx1325.trans' he1329
      have hzhx1334 := he1329.size
      first | replace hf37 := hf37.stp he1329 (by intro q hq; cases hq; omega) | replace hf37 := hf37.stpF flat_shEnt he1329 (by intro q hq; cases hq; exact hf37.ne_box (by assumption) rfl)
      first | replace ho1088 := ho1088.stp he1329 (by intro q hq; cases hq; omega) | replace ho1088 := ho1088.stpF flat_shStr he1329 (by intro q hq; cases hq; exact ho1088.ne_box (by assumption) rfl)
      replace hb1312 := hb1312.stp he1329 (by intro q hq; cases hq; omega)
      first | replace ho1320 := ho1320.stp he1329 (by intro q hq; cases hq; omega) | replace ho1320 := ho1320.stpF flat_shI64 he1329 (by intro q hq; cases hq; exact ho1320.ne_box (by assumption) rfl)
      clear hf36
      have hSlhS1330 := hS1330.lt
      have hs1335 := (StpL.of_ext (B := fun i => i = g_s ∨ i = w1087.heap.size) hs1326).trans' (Stp.toL he1329 (by intro q hq; cases hq; exact Or.inl rfl))
      refine ⟨hs1335, ?_⟩
      simp only [List.mem_cons, List.not_mem_nil, or_false] at hq1332
      refine dr_narrow (S' := fun w' => StpL w1328 w' _) (fun w' h' => hs1335.trans' h') _ _ _ _ ?_
      have hs1336 : Ext w1328 w1328 := Ext.rfl' _
      refine dr_one (i := 6) (by kernel_rfl) ?_
      refine po_callS ha1333 rfl rfl rfl rfl (op_call ha1333 rfl cb73 rfl) (c_spec_l01Next _ g_s b_s (3 : Int) hS1330) ?_
      rintro v1337 w1338 he1339 ⟨hS1340, ⟨q1341, hq1342, hq1343, hq1344, rfl⟩⟩ a1345 ha1345; clear ha1333 a1333
      have hx1346 := hx1334.trans' he1339
      have hzhx1346 := he1339.size
      first | replace hf37 := hf37.stp he1339 (by intro q hq; cases hq; omega) | replace hf37 := hf37.stpF flat_shEnt he1339 (by intro q hq; cases hq; exact hf37.ne_box (by assumption) rfl)
      first | replace ho1088 := ho1088.stp he1339 (by intro q hq; cases hq; omega) | replace ho1088 := ho1088.stpF flat_shStr he1339 (by intro q hq; cases hq; exact ho1088.ne_box (by assumption) rfl)
      replace hb1312 := hb1312.stp he1339 (by intro q hq; cases hq; omega)
      first | replace ho1320 := ho1320.stp he1339 (by intro q hq; cases hq; omega) | replace ho1320 := ho1320.stpF flat_shI64 he1339 (by intro q hq; cases hq; exact ho1320.ne_box (by assumption) rfl)
      clear hS1330
      have hSlhS1340 := hS1340.lt
      have hs1347 := (StpL.of_ext (B := fun i => i = g_s ∨ i = w1087.heap.size) hs1336).trans' (Stp.toL he1339 (by intro q hq; cases hq; exact Or.inl rfl))
      refine ⟨hs1347, ?_⟩
      refine dr_narrow (S' := fun w' => StpL w1338 w' _) (fun w' h' => hs1347.trans' h') _ _ _ _ ?_
      have hs1348 : Ext w1338 w1338 := Ext.rfl' _
      obtain ⟨x1349, hx1349⟩ := get_ex (xs := [([97, 100, 97] : Str), ([98, 111] : Str), ([99, 121] : Str)]) (j := ((q1341 : Int)).toNat) (by first | omega | (simp only [List.length_cons, List.length_nil]; omega))
      obtain ⟨p1350, c1351, hi1352, hc1353, hr1354, hs1355⟩ := Rds.at_ (ho1088.rds pos_shStr) hx1349
      obtain ⟨rfl, b1356⟩ := inv_shStr hr1354
      obtain ⟨_, _⟩ : _ ∧ _ := hs1355
      have hdlx1349 := el_len 17 (by rfl) hx1349
      refine dr_val (i := 7) ha1345 rfl (by kernel_rfl) (by kernel_rfl) (by kernel_rfl) rfl rfl rfl (StpL.of_ext hs1348) (fun w' hw' => op_indexAddr ha1345 rfl Try.underlying52 ti9 rfl rfl (by omega) hi1352) ?_
      intro a1357 ha1357; clear ha1345 a1345
      refine dr_val (i := 8) ha1357 rfl (by kernel_rfl) (by kernel_rfl) (by kernel_rfl) rfl rfl rfl (StpL.of_ext hs1348) (fun w' hw' => op_loadH ha1357 rfl Try.underlying9 rfl rfl (hc1353.stpL hw' (by rintro (q | q) <;> first | omega)) rfl) ?_
      intro a1358 ha1358; clear ha1357 a1357
      refine dr_one (i := 10) (by kernel_rfl) ?_
      refine po_callS ha1358 rfl rfl rfl rfl (op_call ha1358 rfl cb73 rfl) (c_spec_l01Next _ g_s b_s (30 : Int) hS1340) ?_
      rintro v1359 w1360 he1361 ⟨hS1362, ⟨q1363, hq1364, hq1365, hq1366, rfl⟩⟩ a1367 ha1367; clear ha1358 a1358
      have hx1368 := hx1346.trans' he1361
      have hzhx1368 := he1361.size
      first | replace hf37 := hf37.stp he1361 (by intro q hq; cases hq; omega) | replace hf37 := hf37.stpF flat_shEnt he1361 (by intro q hq; cases hq; exact hf37.ne_box (by assumption) rfl)
      first | replace ho1088 := ho1088.stp he1361 (by intro q hq; cases hq; omega) | replace ho1088 := ho1088.stpF flat_shStr he1361 (by intro q hq; cases hq; exact ho1088.ne_box (by assumption) rfl)
      replace hb1312 := hb1312.stp he1361 (by intro q hq; cases hq; omega)
      first | replace ho1320 := ho1320.stp he1361 (by intro q hq; cases hq; omega) | replace ho1320 := ho1320.stpF flat_shI64 he1361 (by intro q hq; cases hq; exact ho1320.ne_box (by assumption) rfl)
      replace hc1353 := hc1353.stp he1361 (by intro q hq; cases hq; omega)
      clear hS1340
      have hSlhS1362 := hS1362.lt
      have hs1369 := (StpL.of_ext (B := fun i => i = g_s ∨ i = w1087.heap.size) hs1348).trans' (Stp.toL he1361 (by intro q hq; cases hq; exact Or.inl rfl))
      refine ⟨hs1369, ?_⟩
      refine dr_narrow (S' := fun w' => StpL w1360 w' _) (fun w' h' => hs1369.trans' h') _ _ _ _ ?_
      have hs1370 : Ext w1360 w1360 := Ext.rfl' _
      refine dr_val (i := 11) ha1367 rfl (by kernel_rfl) (by kernel_rfl) (by kernel_rfl) rfl rfl rfl (StpL.of_ext hs1370) (fun w' hw' => (op_add ha1367 rfl rfl rfl).int (IntWalk.i64_in _ (by omega))) ?_
      intro a1371 ha1371; clear ha1367 a1367
      refine dr_val (i := 12) ha1371 rfl (by kernel_rfl) (by kernel_rfl) (by kernel_rfl) rfl rfl rfl (StpL.of_ext hs1370) (fun w' hw' => (op_mul ha1371 rfl rfl rfl).int (IntWalk.i64_in _ (by omega))) ?_
      intro a1372 ha1372; clear ha1371 a1371
      refine dr_val (i := 13) ha1372 rfl (by kernel_rfl) (by kernel_rfl) (by kernel_rfl) rfl rfl rfl (StpL.of_ext hs1370) (fun w' hw' => op_build (vs := [(0, .int .i64 d), (1, .int .i64 (q1331 : Int)), (2, St x1349), (3, .int .i64 ((100 : Int) * ((1 : Int) + (q1363 : Int))))]) (cs := #[.int .i64 d, .int .i64 (q1331 : Int), St x1349, .int .i64 ((100 : Int) * ((1 : Int) + (q1363 : Int)))]) ha1372 rfl Try.underlying41 ti41 bp41 rfl rfl) ?_
      intro a1373 ha1373; clear ha1372 a1372
      refine dr_one (i := 15) (by kernel_rfl) ?_
      refine po_effS ha1373 rfl rfl rfl (op_storeAll' ha1373 rfl ti41 rfl rfl hb1312 rfl rfl (by simp [Value.oneCell']) rfl) ?_
      rintro w1374 ⟨hb1376, hst1375, hz1377⟩
      have hx1378 := hx1368.fresh hst1375 (by intro q hq; cases hq; exact (by omega))
      have hzhx1378 := hst1375.size
      replace hf37 := hf37.stp hst1375 (by intro q hq; cases hq; omega)
      replace ho1088 := ho1088.stp hst1375 (by intro q hq; cases hq; omega)
      replace ho1320 := ho1320.stp hst1375 (by intro q hq; cases hq; omega)
      replace hc1353 := hc1353.stp hst1375 (by intro q hq; cases hq; omega)
      replace hS1362 := hS1362.stp hst1375 (by intro q hq; cases hq; omega)
      clear hb1312
      have hs1379 := (StpL.of_ext (B := fun i => i = g_s ∨ i = w1087.heap.size) hs1370).trans' (Stp.toL hst1375 (by intro q hq; cases hq; exact Or.inr (rfl)))
      refine ⟨hs1379, ?_⟩
      refine dr_narrow (S' := fun w' => StpL w1374 w' _) (fun w' h' => hs1379.trans' h') _ _ _ _ ?_
      have hs1380 : Ext w1374 w1374 := Ext.rfl' _
      refine dr_end (by kernel_rfl) ?_
      refine then_n ?_
      exact ⟨w1087.heap.size, q1331, x1349, q1363, (Sl.cons_ ha1373 rfl rfl (Sl.cons_ ha1373 rfl rfl (Sl.cons_ ha1373 rfl rfl (Sl.cons_ ha1373 rfl rfl (Sl.cons_ ha1373 rfl rfl (Sl.nil_ ha1373)))))), hx1378, hS1362, (hf37.fin (by omega) (by omega) (by omega)), hb1376, (by omega), (by omega), (by omega), (by omega), (by omega), (by omega), (by omega)⟩
    ·
     refine po_eff ha60 rfl rfl rfl rfl (op_alloc' rfl ti41 rfl) ?_
     rintro _ w1381 ⟨rfl, he1382, hb1383, hz1384⟩ a1385 ha1385; clear ha60 a60
     have hs1386 := hs56.trans' he1382
     have hx1387 := hx55.trans' (Stp.of_ext he1382 _)
     have hzhx1387 := he1382.size
     refine ⟨(Stp.of_ext hs1386 _), ?_⟩
     replace hf36 := hf36.ext hs1386
     replace hf37 := hf37.ext hs1386
     refine dr_narrow (S' := fun w' => StpL w1381 w' (fun i => i = g_s ∨ i = w53.heap.size)) (fun w' h' => ((Stp.of_ext hs1386 _)).freshL h' (by intro i hi; rcases hi with q | q <;> first | (exact Or.inl (congrArg some q.symm)) | (right; omega))) _ _ _ _ ?_
     have hs1388 : Ext w1381 w1381 := Ext.rfl' _
     refine dr_two (i := 2) (j := 4) (by kernel_rfl) ?_ ?_
     ·
      refine po_eff ha1385 rfl rfl rfl rfl (op_buildSlice (s := shI64) (xs := [(0 : Int), (0 : Int), (1 : Int), (2 : Int), (3 : Int)]) (cs := [.int .i64 (0 : Int), .int .i64 (0 : Int), .int .i64 (1 : Int), .int .i64 (2 : Int), .int .i64 (3 : Int)]) (vs := [(0, .int .i64 (0 : Int)), (1, .int .i64 (0 : Int)), (2, .int .i64 (1 : Int)), (3, .int .i64 (2 : Int)), (4, .int .i64 (3 : Int))]) (S := fun _ => False) (le := w1381.heap.size) ha1385 rfl pos_shI64 Try.underlying45 ti2 rfl rfl (by decide) (by kernel_rfl) ⟨mk_shI64 ((0 : Int)) (by first | assumption | omega | (constructor <;> omega) | (dsimp only; omega) | (simp; done) | (simp; omega)), mk_shI64 ((0 : Int)) (by first | assumption | omega | (constructor <;> omega) | (dsimp only; omega) | (simp; done) | (simp; omega)), mk_shI64 ((1 : Int)) (by first | assumption | omega | (constructor <;> omega) | (dsimp only; omega) | (simp; done) | (simp; omega)), mk_shI64 ((2 : Int)) (by first | assumption | omega | (constructor <;> omega) | (dsimp only; omega) | (simp; done) | (simp; omega)), mk_shI64 ((3 : Int)) (by first | assumption | omega | (constructor <;> omega) | (dsimp only; omega) | (simp; done) | (simp; omega)), rfl⟩ (fun _ h => h.elim)) ?_
      rintro v1389 w1390 ⟨ho1391, he1392, hob1393⟩ a1394 ha1394; clear ha1385 a1385
      have hs1395 := hs1388.trans' he1392
      have hx1396 := hx1387.trans' (Stp.of_ext he1392 _)
      have hzhx1396 := he1392.size
      refine ⟨(StpL.of_ext hs1395), ?_⟩
      replace hf36 := hf36.ext hs1395
      replace hf37 := hf37.ext hs1395
      replace hb1383 := hb1383.ext hs1395
      refine dr_narrow (S' := fun w' => StpL w1390 w' _) (fun w' h' => (StpL.of_ext hs1395).trans' h') _ _ _ _ ?_
      have hs1397 : Ext w1390 w1390 := Ext.rfl' _
      refine dr_two (i := 3) (j := 4) (by kernel_rfl) ?_ ?_
      ·
       refine po_callS ha1394 rfl rfl rfl rfl (op_call ha1394 rfl cb72 rfl) (c_spec_l01Pick _ g_s b_s v1389 ([(0 : Int), (0 : Int), (1 : Int), (2 : Int), (3 : Int)]) hf36 (ho1391.rds pos_shI64) (by rintro ⟨_, _⟩; omega) (by first | assumption | omega | (constructor <;> omega) | (dsimp only; omega) | (simp; done) | (simp; omega))) ?_
       rintro v1398 w1399 he1400 ⟨hS1401, ⟨q1402, hq1403, rfl⟩⟩ a1404 ha1404; clear ha1394 a1394
       have hx1405 := hx1396.trans' he1400
       have hzhx1405 := he1400.size
       first | replace hf37 := hf37.stp he1400 (by intro q hq; cases hq; omega) | replace hf37 := hf37.stpF flat_shEnt he1400 (by intro q hq; cases hq; exact hf37.ne_box (by assumption) rfl)
       replace hb1383 := hb1383.stp he1400 (by intro q hq; cases hq; omega)
       first | replace ho1391 := ho1391.stp he1400 (by intro q hq; cases hq; omega) | replace ho1391 := ho1391.stpF flat_shI64 he1400 (by intro q hq; cases hq; exact ho1391.ne_box (by assumption) rfl)
       clear hf36
       have hSlhS1401 := hS1401.lt
       have hs1406 := (StpL.of_ext (B := fun i => i = g_s ∨ i = w53.heap.size) hs1397).trans' (Stp.toL he1400 (by intro q hq; cases hq; exact Or.inl rfl))
       refine ⟨hs1406, ?_⟩
       simp only [List.mem_cons, List.not_mem_nil, or_false] at hq1403
       refine dr_narrow (S' := fun w' => StpL w1399 w' _) (fun w' h' => hs1406.trans' h') _ _ _ _ ?_
       have hs1407 : Ext w1399 w1399 := Ext.rfl' _
       refine dr_two (i := 4) (j := 6) (by kernel_rfl) ?_ ?_
       ·
        refine po_eff ha1404 rfl rfl rfl rfl (op_buildSlice (s := shStr) (xs := [([97, 100, 97] : Str), ([98, 111] : Str), ([99, 121] : Str)]) (cs := [St (([97, 100, 97] : Str)), St (([98, 111] : Str)), St (([99, 121] : Str))]) (vs := [(0, St (([97, 100, 97] : Str))), (1, St (([98, 111] : Str))), (2, St (([99, 121] : Str)))]) (S := fun _ => False) (le := w1399.heap.size) ha1404 rfl pos_shStr Try.underlying52 ti9 rfl rfl (by decide) (by kernel_rfl) ⟨mk_shStr (([97, 100, 97] : Str)) (by first | assumption | omega | (constructor <;> omega) | (dsimp only; omega) | (simp; done) | (simp; omega)), mk_shStr (([98, 111] : Str)) (by first | assumption | omega | (constructor <;> omega) | (dsimp only; omega) | (simp; done) | (simp; omega)), mk_shStr (([99, 121] : Str)) (by first | assumption | omega | (constructor <;> omega) | (dsimp only; omega) | (simp; done) | (simp; omega)), rfl⟩ (fun _ h => h.elim)) ?_
        rintro v1408 w1409 ⟨ho1410, he1411, hob1412⟩ a1413 ha1413; clear ha1404 a1404
        have hs1414 := hs1407.trans' he1411
        have hx1415 := hx1405.trans' (Stp.of_ext he1411 _)
        have hzhx1415 := he1411.size
        refine ⟨(StpL.of_ext hs1414), ?_⟩
        replace hf37 := hf37.ext hs1414
        replace hb1383 := hb1383.ext hs1414
        replace ho1391 := ho1391.ext hs1414
        replace hS1401 := hS1401.ext hs1414
        refine dr_narrow (S' := fun w' => StpL w1409 w' _) (fun w' h' => (StpL.of_ext hs1414).trans' h') _ _ _ _ ?_
        have hs1416 : Ext w1409 w1409 := Ext.rfl' _
        refine dr_one (i := 6) (by kernel_rfl) ?_
        refine po_callS ha1413 rfl rfl rfl rfl (op_call ha1413 rfl cb73 rfl) (c_spec_l01Next _ g_s b_s (3 : Int) hS1401) ?_
        rintro v1417 w1418 he1419 ⟨hS1420, ⟨q1421, hq1422, hq1423, hq1424, rfl⟩⟩ a1425 ha1425; clear ha1413 a1413
        have hx1426 := hx1415.trans' he1419
        have hzhx1426 := he1419.size
        first | replace hf37 := hf37.stp he1419 (by intro q hq; cases hq; omega) | replace hf37 := hf37.stpF flat_shEnt he1419 (by intro q hq; cases hq; exact hf37.ne_box (by assumption) rfl)
        replace hb1383 := hb1383.stp he1419 (by intro q hq; cases hq; omega)
        first | replace ho1391 := ho1391.stp he1419 (by intro q hq; cases hq; omega) | replace ho1391 := ho1391.stpF flat_shI64 he1419 (by intro q hq; cases hq; exact ho1391.ne_box (by assumption) rfl)
        first | replace ho1410 := ho1410.stp he1419 (by intro q hq; cases hq; omega) | replace ho1410 := ho1410.stpF flat_shStr he1419 (by intro q hq; cases hq; exact ho1410.ne_box (by assumption) rfl)
        clear hS1401
        have hSlhS1420 := hS1420.lt
        have hs1427 := (StpL.of_ext (B := fun i => i = g_s ∨ i = w53.heap.size) hs1416).trans' (Stp.toL he1419 (by intro q hq; cases hq; exact Or.inl rfl))
        refine ⟨hs1427, ?_⟩
        refine dr_narrow (S' := fun w' => StpL w1418 w' _) (fun w' h' => hs1427.trans' h') _ _ _ _ ?_
        have hs1428 : Ext w1418 w1418 := Ext.rfl' _
        obtain ⟨x1429, hx1429⟩ := get_ex (xs := [([97, 100, 97] : Str), ([98, 111] : Str), ([99, 121] : Str)]) (j := ((q1421 : Int)).toNat) (by first | omega | (simp only [List.length_cons, List.length_nil]; omega))
        obtain ⟨p1430, c1431, hi1432, hc1433, hr1434, hs1435⟩ := Rds.at_ (ho1410.rds pos_shStr) hx1429
        obtain ⟨rfl, b1436⟩ := inv_shStr hr1434
        obtain ⟨_, _⟩ : _ ∧ _ := hs1435
        have hdlx1429 := el_len 17 (by rfl) hx1429
        refine dr_val (i := 7) ha1425 rfl (by kernel_rfl) (by kernel_rfl) (by kernel_rfl) rfl rfl rfl (StpL.of_ext hs1428) (fun w' hw' => op_indexAddr ha1425 rfl Try.underlying52 ti9 rfl rfl (by omega) hi1432) ?_
        intro a1437 ha1437; clear ha1425 a1425
        refine dr_val (i := 8) ha1437 rfl (by kernel_rfl) (by kernel_rfl) (by kernel_rfl) rfl rfl rfl (StpL.of_ext hs1428) (fun w' hw' => op_loadH ha1437 rfl Try.underlying9 rfl rfl (hc1433.stpL hw' (by rintro (q | q) <;> first | omega)) rfl) ?_
        intro a1438 ha1438; clear ha1437 a1437
        refine dr_one (i := 10) (by kernel_rfl) ?_
        refine po_callS ha1438 rfl rfl rfl rfl (op_call ha1438 rfl cb73 rfl) (c_spec_l01Next _ g_s b_s (30 : Int) hS1420) ?_
        rintro v1439 w1440 he1441 ⟨hS1442, ⟨q1443, hq1444, hq1445, hq1446, rfl⟩⟩ a1447 ha1447; clear ha1438 a1438
        have hx1448 := hx1426.trans' he1441
        have hzhx1448 := he1441.size
        first | replace hf37 := hf37.stp he1441 (by intro q hq; cases hq; omega) | replace hf37 := hf37.stpF flat_shEnt he1441 (by intro q hq; cases hq; exact hf37.ne_box (by assumption) rfl)
        replace hb1383 := hb1383.stp he1441 (by intro q hq; cases hq; omega)
        first | replace ho1391 := ho1391.stp he1441 (by intro q hq; cases hq; omega) | replace ho1391 := ho1391.stpF flat_shI64 he1441 (by intro q hq; cases hq; exact ho1391.ne_box (by assumption) rfl)
        first | replace ho1410 := ho1410.stp he1441 (by intro q hq; cases hq; omega) | replace ho1410 := ho1410.stpF flat_shStr he1441 (by intro q hq; cases hq; exact ho1410.ne_box (by assumption) rfl)
        replace hc1433 := hc1433.stp he1441 (by intro q hq; cases hq; omega)
        clear hS1420
        have hSlhS1442 := hS1442.lt
        have hs1449 := (StpL.of_ext (B := fun i => i = g_s ∨ i = w53.heap.size) hs1428).trans' (Stp.toL he1441 (by intro q hq; cases hq; exact Or.inl rfl))
        refine ⟨hs1449, ?_⟩
        refine dr_narrow (S' := fun w' => StpL w1440 w' _) (fun w' h' => hs1449.trans' h') _ _ _ _ ?_
        have hs1450 : Ext w1440 w1440 := Ext.rfl' _
        refine dr_val (i := 11) ha1447 rfl (by kernel_rfl) (by kernel_rfl) (by kernel_rfl) rfl rfl rfl (StpL.of_ext hs1450) (fun w' hw' => (op_add ha1447 rfl rfl rfl).int (IntWalk.i64_in _ (by omega))) ?_
        intro a1451 ha1451; clear ha1447 a1447
        refine dr_val (i := 12) ha1451 rfl (by kernel_rfl) (by kernel_rfl) (by kernel_rfl) rfl rfl rfl (StpL.of_ext hs1450) (fun w' hw' => (op_mul ha1451 rfl rfl rfl).int (IntWalk.i64_in _ (by omega))) ?_
        intro a1452 ha1452; clear ha1451 a1451
        refine dr_val (i := 13) ha1452 rfl (by kernel_rfl) (by kernel_rfl) (by kernel_rfl) rfl rfl rfl (StpL.of_ext hs1450) (fun w' hw' => op_build (vs := [(0, .int .i64 d), (1, .int .i64 (q1402 : Int)), (2, St x1429), (3, .int .i64 ((100 : Int) * ((1 : Int) + (q1443 : Int))))]) (cs := #[.int .i64 d, .int .i64 (q1402 : Int), St x1429, .int .i64 ((100 : Int) * ((1 : Int) + (q1443 : Int)))]) ha1452 rfl Try.underlying41 ti41 bp41 rfl rfl) ?_
        intro a1453 ha1453; clear ha1452 a1452
        refine dr_one (i := 15) (by kernel_rfl) ?_
        refine po_effS ha1453 rfl rfl rfl (op_storeAll' ha1453 rfl ti41 rfl rfl hb1383 rfl rfl (by simp [Value.oneCell']) rfl) ?_
        rintro w1454 ⟨hb1456, hst1455, hz1457⟩
        have hx1458 := hx1448.fresh hst1455 (by intro q hq; cases hq; exact (by omega))
        have hzhx1458 := hst1455.size
        replace hf37 := hf37.stp hst1455 (by intro q hq; cases hq; omega)
        replace ho1391 := ho1391.stp hst1455 (by intro q hq; cases hq; omega)
        replace ho1410 := ho1410.stp hst1455 (by intro q hq; cases hq; omega)
        replace hc1433 := hc1433.stp hst1455 (by intro q hq; cases hq; omega)
        replace hS1442 := hS1442.stp hst1455 (by intro q hq; cases hq; omega)
        clear hb1383
        have hs1459 := (StpL.of_ext (B := fun i => i = g_s ∨ i = w53.heap.size) hs1450).trans' (Stp.toL hst1455 (by intro q hq; cases hq; exact Or.inr (rfl)))
        refine ⟨hs1459, ?_⟩
        refine dr_narrow (S' := fun w' => StpL w1454 w' _) (fun w' h' => hs1459.trans' h') _ _ _ _ ?_
        have hs1460 : Ext w1454 w1454 := Ext.rfl' _
        refine dr_end (by kernel_rfl) ?_
        refine then_n ?_
        exact ⟨w53.heap.size, q1402, x1429, q1443, (Sl.cons_ ha1453 rfl rfl (Sl.cons_ ha1453 rfl rfl (Sl.cons_ ha1453 rfl rfl (Sl.cons_ ha1453 rfl rfl (Sl.cons_ ha1453 rfl rfl (Sl.nil_ ha1453)))))), hx1458, hS1442, (hf37.fin (by omega) (by omega) (by omega)), hb1456, (by omega), (by omega), (by omega), (by omega), (by omega), (by omega), (by omega)⟩
       ·
        refine po_callS ha1404 rfl rfl rfl rfl (op_call ha1404 rfl cb73 rfl) (c_spec_l01Next _ g_s b_s (3 : Int) hS1401) ?_
        rintro v1461 w1462 he1463 ⟨hS1464, ⟨q1465, hq1466, hq1467, hq1468, rfl⟩⟩ a1469 ha1469; clear ha1404 a1404
        have hx1470 := hx1405.trans' he1463
        have hzhx1470 := he1463.size
        first | replace hf37 := hf37.stp he1463 (by intro q hq; cases hq; omega) | replace hf37 := hf37.stpF flat_shEnt he1463 (by intro q hq; cases hq; exact hf37.ne_box (by assumption) rfl)
        replace hb1383 := hb1383.stp he1463 (by intro q hq; cases hq; omega)
        first | replace ho1391 := ho1391.stp he1463 (by intro q hq; cases hq; omega) | replace ho1391 := ho1391.stpF flat_shI64 he1463 (by intro q hq; cases hq; exact ho1391.ne_box (by assumption) rfl)
        clear hS1401
        have hSlhS1464 := hS1464.lt
        have hs1471 := (StpL.of_ext (B := fun i => i = g_s ∨ i = w53.heap.size) hs1407).trans' (Stp.toL he1463 (by intro q hq; cases hq; exact Or.inl rfl))
        refine ⟨hs1471, ?_⟩
        refine dr_narrow (S' := fun w' => StpL w1462 w' _) (fun w' h' => hs1471.trans' h') _ _ _ _ ?_
        have hs1472 : Ext w1462 w1462 := Ext.rfl' _
        refine dr_two (i := 4) (j := 10) (by kernel_rfl) ?_ ?_
        ·
         refine po_eff ha1469 rfl rfl rfl rfl (op_buildSlice (s := shStr) (xs := [([97, 100, 97] : Str), ([98, 111] : Str), ([99, 121] : Str)]) (cs := [St (([97, 100, 97] : Str)), St (([98, 111] : Str)), St (([99, 121] : Str))]) (vs := [(0, St (([97, 100, 97] : Str))), (1, St (([98, 111] : Str))), (2, St (([99, 121] : Str)))]) (S := fun _ => False) (le := w1462.heap.size) ha1469 rfl pos_shStr Try.underlying52 ti9 rfl rfl (by decide) (by kernel_rfl) ⟨mk_shStr (([97, 100, 97] : Str)) (by first | assumption | omega | (constructor <;> omega) | (dsimp only; omega) | (simp; done) | (simp; omega)), mk_shStr (([98, 111] : Str)) (by first | assumption | omega | (constructor <;> omega) | (dsimp only; omega) | (simp; done) | (simp; omega)), mk_shStr (([99, 121] : Str)) (by first | assumption | omega | (constructor <;> omega) | (dsimp only; omega) | (simp; done) | (simp; omega)), rfl⟩ (fun _ h => h.elim)) ?_
         rintro v1473 w1474 ⟨ho1475, he1476, hob1477⟩ a1478 ha1478; clear ha1469 a1469
         have hs1479 := hs1472.trans' he1476
         have hx1480 := hx1470.trans' (Stp.of_ext he1476 _)
         have hzhx1480 := he1476.size
         refine ⟨(StpL.of_ext hs1479), ?_⟩
         replace hf37 := hf37.ext hs1479
         replace hb1383 := hb1383.ext hs1479
         replace ho1391 := ho1391.ext hs1479
         replace hS1464 := hS1464.ext hs1479
         refine dr_narrow (S' := fun w' => StpL w1474 w' _) (fun w' h' => (StpL.of_ext hs1479).trans' h') _ _ _ _ ?_
         have hs1481 : Ext w1474 w1474 := Ext.rfl' _
         obtain ⟨x1482, hx1482⟩ := get_ex (xs := [([97, 100, 97] : Str), ([98, 111] : Str), ([99, 121] : Str)]) (j := ((q1465 : Int)).toNat) (by first | omega | (simp only [List.length_cons, List.length_nil]; omega))
         obtain ⟨p1483, c1484, hi1485, hc1486, hr1487, hs1488⟩ := Rds.at_ (ho1475.rds pos_shStr) hx1482
         obtain ⟨rfl, b1489⟩ := inv_shStr hr1487
         obtain ⟨_, _⟩ : _ ∧ _ := hs1488
         have hdlx1482 := el_len 17 (by rfl) hx1482
         refine dr_val (i := 7) ha1478 rfl (by kernel_rfl) (by kernel_rfl) (by kernel_rfl) rfl rfl rfl (StpL.of_ext hs1481) (fun w' hw' => op_indexAddr ha1478 rfl Try.underlying52 ti9 rfl rfl (by omega) hi1485) ?_
         intro a1490 ha1490; clear ha1478 a1478
         refine dr_val (i := 8) ha1490 rfl (by kernel_rfl) (by kernel_rfl) (by kernel_rfl) rfl rfl rfl (StpL.of_ext hs1481) (fun w' hw' => op_loadH ha1490 rfl Try.underlying9 rfl rfl (hc1486.stpL hw' (by rintro (q | q) <;> first | omega)) rfl) ?_
         intro a1491 ha1491; clear ha1490 a1490
         refine dr_one (i := 10) (by kernel_rfl) ?_
         refine po_callS ha1491 rfl rfl rfl rfl (op_call ha1491 rfl cb73 rfl) (c_spec_l01Next _ g_s b_s (30 : Int) hS1464) ?_
         rintro v1492 w1493 he1494 ⟨hS1495, ⟨q1496, hq1497, hq1498, hq1499, rfl⟩⟩ a1500 ha1500; clear ha1491 a1491
         have hx1501 := hx1480.trans' he1494
         have hzhx1501 := he1494.size
         first | replace hf37 := hf37.stp he1494 (by intro q hq; cases hq; omega) | replace hf37 := hf37.stpF flat_shEnt he1494 (by intro q hq; cases hq; exact hf37.ne_box (by assumption) rfl)
         replace hb1383 := hb1383.stp he1494 (by intro q hq; cases hq; omega)
         first | replace ho1391 := ho1391.stp he1494 (by intro q hq; cases hq; omega) | replace ho1391 := ho1391.stpF flat_shI64 he1494 (by intro q hq; cases hq; exact ho1391.ne_box (by assumption) rfl)
         first | replace ho1475 := ho1475.stp he1494 (by intro q hq; cases hq; omega) | replace ho1475 := ho1475.stpF flat_shStr he1494 (by intro q hq; cases hq; exact ho1475.ne_box (by assumption) rfl)
         replace hc1486 := hc1486.stp he1494 (by intro q hq; cases hq; omega)
         clear hS1464
         have hSlhS1495 := hS1495.lt
         have hs1502 := (StpL.of_ext (B := fun i => i = g_s ∨ i = w53.heap.size) hs1481).trans' (Stp.toL he1494 (by intro q hq; cases hq; exact Or.inl rfl))
         refine ⟨hs1502, ?_⟩
         refine dr_narrow (S' := fun w' => StpL w1493 w' _) (fun w' h' => hs1502.trans' h') _ _ _ _ ?_
         have hs1503 : Ext w1493 w1493 := Ext.rfl' _
         refine dr_val (i := 11) ha1500 rfl (by kernel_rfl) (by kernel_rfl) (by kernel_rfl) rfl rfl rfl (StpL.of_ext hs1503) (fun w' hw' => (op_add ha1500 rfl rfl rfl).int (IntWalk.i64_in _ (by omega))) ?_
         intro a1504 ha1504; clear ha1500 a1500
         refine dr_val (i := 12) ha1504 rfl (by kernel_rfl) (by kernel_rfl) (by kernel_rfl) rfl rfl rfl (StpL.of_ext hs1503) (fun w' hw' => (op_mul ha1504 rfl rfl rfl).int (IntWalk.i64_in _ (by omega))) ?_
         intro a1505 ha1505; clear ha1504 a1504
         refine dr_val (i := 13) ha1505 rfl (by kernel_rfl) (by kernel_rfl) (by kernel_rfl) rfl rfl rfl (StpL.of_ext hs1503) (fun w' hw' => op_build (vs := [(0, .int .i64 d), (1, .int .i64 (q1402 : Int)), (2, St x1482), (3, .int .i64 ((100 : Int) * ((1 : Int) + (q1496 : Int))))]) (cs := #[.int .i64 d, .int .i64 (q1402 : Int), St x1482, .int .i64 ((100 : Int) * ((1 : Int) + (q1496 : Int)))]) ha1505 rfl Try.underlying41 ti41 bp41 rfl rfl) ?_
         intro a1506 ha1506; clear ha1505 a1505
         refine dr_one (i := 15) (by kernel_rfl) ?_
         refine po_effS ha1506 rfl rfl rfl (op_storeAll' ha1506 rfl ti41 rfl rfl hb1383 rfl rfl (by simp [Value.oneCell']) rfl) ?_
         rintro w1507 ⟨hb1509, hst1508, hz1510⟩
         have hx1511 := hx1501.fresh hst1508 (by intro q hq; cases hq; exact (by omega))
         have hzhx1511 := hst1508.size
         replace hf37 := hf37.stp hst1508 (by intro q hq; cases hq; omega)
         replace ho1391 := ho1391.stp hst1508 (by intro q hq; cases hq; omega)
         replace ho1475 := ho1475.stp hst1508 (by intro q hq; cases hq; omega)
         replace hc1486 := hc1486.stp hst1508 (by intro q hq; cases hq; omega)
         replace hS1495 := hS1495.stp hst1508 (by intro q hq; cases hq; omega)
         clear hb1383
         have hs1512 := (StpL.of_ext (B := fun i => i = g_s ∨ i = w53.heap.size) hs1503).trans' (Stp.toL hst1508 (by intro q hq; cases hq; exact Or.inr (rfl)))
         refine ⟨hs1512, ?_⟩
         refine dr_narrow (S' := fun w' => StpL w1507 w' _) (fun w' h' => hs1512.trans' h') _ _ _ _ ?_
         have hs1513 : Ext w1507 w1507 := Ext.rfl' _
         refine dr_end (by kernel_rfl) ?_
         refine then_n ?_
         exact ⟨w53.heap.size, q1402, x1482, q1496, (Sl.cons_ ha1506 rfl rfl (Sl.cons_ ha1506 rfl rfl (Sl.cons_ ha1506 rfl rfl (Sl.cons_ ha1506 rfl rfl (Sl.cons_ ha1506 rfl rfl (Sl.nil_ ha1506)))))), hx1511, hS1495, (hf37.fin (by omega) (by omega) (by omega)), hb1509, (by omega), (by omega), (by omega), (by omega), (by omega), (by omega), (by omega)⟩
        ·
         refine po_callS ha1469 rfl rfl rfl rfl (op_call ha1469 rfl cb73 rfl) (c_spec_l01Next _ g_s b_s (30 : Int) hS1464) ?_
         rintro v1514 w1515 he1516 ⟨hS1517, ⟨q1518, hq1519, hq1520, hq1521, rfl⟩⟩ a1522 ha1522; clear ha1469 a1469
         have hx1523 := hx1470.trans' he1516
         have hzhx1523 := he1516.size
         first | replace hf37 := hf37.stp he1516 (by intro q hq; cases hq; omega) | replace hf37 := hf37.stpF flat_shEnt he1516 (by intro q hq; cases hq; exact hf37.ne_box (by assumption) rfl)
         replace hb1383 := hb1383.stp he1516 (by intro q hq; cases hq; omega)
         first | replace ho1391 := ho1391.stp he1516 (by intro q hq; cases hq; omega) | replace ho1391 := ho1391.stpF flat_shI64 he1516 (by intro q hq; cases hq; exact ho1391.ne_box (by assumption) rfl)
         clear hS1464
         have hSlhS1517 := hS1517.lt
         have hs1524 := (StpL.of_ext (B := fun i => i = g_s ∨ i = w53.heap.size) hs1472).trans' (Stp.toL he1516 (by intro q hq; cases hq; exact Or.inl rfl))
         refine ⟨hs1524, ?_⟩
         refine dr_narrow (S' := fun w' => StpL w1515 w' _) (fun w' h' => hs1524.trans' h') _ _ _ _ ?_
         have hs1525 : Ext w1515 w1515 := Ext.rfl' _
         refine dr_val (i := 11) ha1522 rfl (by kernel_rfl) (by kernel_rfl) (by kernel_rfl) rfl rfl rfl (StpL.of_ext hs1525) (fun w' hw' => (op_add ha1522 rfl rfl rfl).int (IntWalk.i64_in _ (by omega))) ?_
         intro a1526 ha1526; clear ha1522 a1522
         refine dr_val (i := 12) ha1526 rfl (by kernel_rfl) (by kernel_rfl) (by kernel_rfl) rfl rfl rfl (StpL.of_ext hs1525) (fun w' hw' => (op_mul ha1526 rfl rfl rfl).int (IntWalk.i64_in _ (by omega))) ?_
         intro a1527 ha1527; clear ha1526 a1526
         refine dr_one (i := 4) (by kernel_rfl) ?_
         refine po_eff ha1527 rfl rfl rfl rfl (op_buildSlice (s := shStr) (xs := [([97, 100, 97] : Str), ([98, 111] : Str), ([99, 121] : Str)]) (cs := [St (([97, 100, 97] : Str)), St (([98, 111] : Str)), St (([99, 121] : Str))]) (vs := [(0, St (([97, 100, 97] : Str))), (1, St (([98, 111] : Str))), (2, St (([99, 121] : Str)))]) (S := fun _ => False) (le := w1515.heap.size) ha1527 rfl pos_shStr Try.underlying52 ti9 rfl rfl (by decide) (by kernel_rfl) ⟨mk_shStr (([97, 100, 97] : Str)) (by first | assumption | omega | (constructor <;> omega) | (dsimp only; omega) | (simp; done) | (simp; omega)), mk_shStr (([98, 111] : Str)) (by first | assumption | omega | (constructor <;> omega) | (dsimp only; omega) | (simp; done) | (simp; omega)), mk_shStr (([99, 121] : Str)) (by first | assumption | omega | (constructor <;> omega) | (dsimp only; omega) | (simp; done) | (simp; omega)), rfl⟩ (fun _ h => h.elim)) ?_
         rintro v1528 w1529 ⟨ho1530, he1531, hob1532⟩ a1533 ha1533; clear ha1527 a1527
         have hs1534 := hs1525.trans' he1531
         have hx1535 := hx1523.trans' (Stp.of_ext he1531 _)
         have hzhx1535 := he1531.size
         refine ⟨(StpL.of_ext hs1534), ?_⟩
         replace hf37 := hf37.ext hs1534
         replace hb1383 := hb1383.ext hs1534
         replace ho1391 := ho1391.ext hs1534
         replace hS1517 := hS1517.ext hs1534
         refine dr_narrow (S' := fun w' => StpL w1529 w' _) (fun w' h' => (StpL.of_ext hs1534).trans' h') _ _ _ _ ?_
         have hs1536 : Ext w1529 w1529 := Ext.rfl' _
         obtain ⟨x1537, hx1537⟩ := get_ex (xs := [([97, 100, 97] : Str), ([98, 111] : Str), ([99, 121] : Str)]) (j := ((q1465 : Int)).toNat) (by first | omega | (simp only [List.length_cons, List.length_nil]; omega))
         obtain ⟨p1538, c1539, hi1540, hc1541, hr1542, hs1543⟩ := Rds.at_ (ho1530.rds pos_shStr) hx1537
         obtain ⟨rfl, b1544⟩ := inv_shStr hr1542
         obtain ⟨_, _⟩ : _ ∧ _ := hs1543
         have hdlx1537 := el_len 17 (by rfl) hx1537
         refine dr_val (i := 7) ha1533 rfl (by kernel_rfl) (by kernel_rfl) (by kernel_rfl) rfl rfl rfl (StpL.of_ext hs1536) (fun w' hw' => op_indexAddr ha1533 rfl Try.underlying52 ti9 rfl rfl (by omega) hi1540) ?_
         intro a1545 ha1545; clear ha1533 a1533
         refine dr_val (i := 8) ha1545 rfl (by kernel_rfl) (by kernel_rfl) (by kernel_rfl) rfl rfl rfl (StpL.of_ext hs1536) (fun w' hw' => op_loadH ha1545 rfl Try.underlying9 rfl rfl (hc1541.stpL hw' (by rintro (q | q) <;> first | omega)) rfl) ?_
         intro a1546 ha1546; clear ha1545 a1545
         refine dr_val (i := 13) ha1546 rfl (by kernel_rfl) (by kernel_rfl) (by kernel_rfl) rfl rfl rfl (StpL.of_ext hs1536) (fun w' hw' => op_build (vs := [(0, .int .i64 d), (1, .int .i64 (q1402 : Int)), (2, St x1537), (3, .int .i64 ((100 : Int) * ((1 : Int) + (q1518 : Int))))]) (cs := #[.int .i64 d, .int .i64 (q1402 : Int), St x1537, .int .i64 ((100 : Int) * ((1 : Int) + (q1518 : Int)))]) ha1546 rfl Try.underlying41 ti41 bp41 rfl rfl) ?_
         intro a1547 ha1547; clear ha1546 a1546
         refine dr_one (i := 15) (by kernel_rfl) ?_
         refine po_effS ha1547 rfl rfl rfl (op_storeAll' ha1547 rfl ti41 rfl rfl hb1383 rfl rfl (by simp [Value.oneCell']) rfl) ?_
         rintro w1548 ⟨hb1550, hst1549, hz1551⟩
         have hx1552 := hx1535.fresh hst1549 (by intro q hq; cases hq; exact (by omega))
         have hzhx1552 := hst1549.size
         replace hf37 := hf37.stp hst1549 (by intro q hq; cases hq; omega)
         replace ho1391 := ho1391.stp hst1549 (by intro q hq; cases hq; omega)
         replace hS1517 := hS1517.stp hst1549 (by intro q hq; cases hq; omega)
         replace ho1530 := ho1530.stp hst1549 (by intro q hq; cases hq; omega)
         replace hc1541 := hc1541.stp hst1549 (by intro q hq; cases hq; omega)
         clear hb1383
         have hs1553 := (StpL.of_ext (B := fun i => i = g_s ∨ i = w53.heap.size) hs1536).trans' (Stp.toL hst1549 (by intro q hq; cases hq; exact Or.inr (rfl)))
         refine ⟨hs1553, ?_⟩
         refine dr_narrow (S' := fun w' => StpL w1548 w' _) (fun w' h' => hs1553.trans' h') _ _ _ _ ?_
         have hs1554 : Ext w1548 w1548 := Ext.rfl' _
         refine dr_end (by kernel_rfl) ?_
         refine then_n ?_
         exact ⟨w53.heap.size, q1402, x1537, q1518, (Sl.cons_ ha1547 rfl rfl (Sl.cons_ ha1547 rfl rfl (Sl.cons_ ha1547 rfl rfl (Sl.cons_ ha1547 rfl rfl (Sl.cons_ ha1547 rfl rfl (Sl.nil_ ha1547)))))), hx1552, hS1517, (hf37.fin (by omega) (by omega) (by omega)), hb1550, (by omega), (by omega), (by omega), (by omega), (by omega), (by omega), (by omega)⟩
      ·
       refine po_eff ha1394 rfl rfl rfl rfl (op_buildSlice (s := shStr) (xs := [([97, 100, 97] : Str), ([98, 111] : Str), ([99, 121] : Str)]) (cs := [St (([97, 100, 97] : Str)), St (([98, 111] : Str)), St (([99, 121] : Str))]) (vs := [(0, St (([97, 100, 97] : Str))), (1, St (([98, 111] : Str))), (2, St (([99, 121] : Str)))]) (S := fun _ => False) (le := w1390.heap.size) ha1394 rfl pos_shStr Try.underlying52 ti9 rfl rfl (by decide) (by kernel_rfl) ⟨mk_shStr (([97, 100, 97] : Str)) (by first | assumption | omega | (constructor <;> omega) | (dsimp only; omega) | (simp; done) | (simp; omega)), mk_shStr (([98, 111] : Str)) (by first | assumption | omega | (constructor <;> omega) | (dsimp only; omega) | (simp; done) | (simp; omega)), mk_shStr (([99, 121] : Str)) (by first | assumption | omega | (constructor <;> omega) | (dsimp only; omega) | (simp; done) | (simp; omega)), rfl⟩ (fun _ h => h.elim)) ?_
       rintro v1555 w1556 ⟨ho1557, he1558, hob1559⟩ a1560 ha1560; clear ha1394 a1394
       have hs1561 := hs1397.trans' he1558
       have hx1562 := hx1396.trans' (Stp.of_ext he1558 _)
       have hzhx1562 := he1558.size
       refine ⟨(StpL.of_ext hs1561), ?_⟩
       replace hf36 := hf36.ext hs1561
       replace hf37 := hf37.ext hs1561
       replace hb1383 := hb1383.ext hs1561
       replace ho1391 := ho1391.ext hs1561
       refine dr_narrow (S' := fun w' => StpL w1556 w' _) (fun w' h' => (StpL.of_ext hs1561).trans' h') _ _ _ _ ?_
       have hs1563 : Ext w1556 w1556 := Ext.rfl' _
       refine dr_one (i := 3) (by kernel_rfl) ?_
       refine po_callS ha1560 rfl rfl rfl rfl (op_call ha1560 rfl cb72 rfl) (c_spec_l01Pick _ g_s b_s v1389 ([(0 : Int), (0 : Int), (1 : Int), (2 : Int), (3 : Int)]) hf36 (ho1391.rds pos_shI64) (by rintro ⟨_, _⟩; omega) (by first | assumption | omega | (constructor <;> omega) | (dsimp only; omega) | (simp; done) | (simp; omega))) ?_
       rintro v1564 w1565 he1566 ⟨hS1567, ⟨q1568, hq1569, rfl⟩⟩ a1570 ha1570; clear ha1560 a1560
       have hx1571 := hx1562.trans' he1566
       have hzhx1571 := he1566.size
       first | replace hf37 := hf37.stp he1566 (by intro q hq; cases hq; omega) | replace hf37 := hf37.stpF flat_shEnt he1566 (by intro q hq; cases hq; exact hf37.ne_box (by assumption) rfl)
       replace hb1383 := hb1383.stp he1566 (by intro q hq; cases hq; omega)
       first | replace ho1391 := ho1391.stp he1566 (by intro q hq; cases hq; omega) | replace ho1391 := ho1391.stpF flat_shI64 he1566 (by intro q hq; cases hq; exact ho1391.ne_box (by assumption) rfl)
       first | replace ho1557 := ho1557.stp he1566 (by intro q hq; cases hq; omega) | replace ho1557 := ho1557.stpF flat_shStr he1566 (by intro q hq; cases hq; exact ho1557.ne_box (by assumption) rfl)
       clear hf36
       have hSlhS1567 := hS1567.lt
       have hs1572 := (StpL.of_ext (B := fun i => i = g_s ∨ i = w53.heap.size) hs1563).trans' (Stp.toL he1566 (by intro q hq; cases hq; exact Or.inl rfl))
       refine ⟨hs1572, ?_⟩
       simp only [List.mem_cons, List.not_mem_nil, or_false] at hq1569
       refine dr_narrow (S' := fun w' => StpL w1565 w' _) (fun w' h' => hs1572.trans' h') _ _ _ _ ?_
       have hs1573 : Ext w1565 w1565 := Ext.rfl' _
       refine dr_one (i := 6) (by kernel_rfl) ?_
       refine po_callS ha1570 rfl rfl rfl rfl (op_call ha1570 rfl cb73 rfl) (c_spec_l01Next _ g_s b_s (3 : Int) hS1567) ?_
       rintro v1574 w1575 he1576 ⟨hS1577, ⟨q1578, hq1579, hq1580, hq1581, rfl⟩⟩ a1582 ha1582; clear ha1570 a1570
       have hx1583 := hx1571.trans' he1576
       have hzhx1583 := he1576.size
       first | replace hf37 := hf37.stp he1576 (by intro q hq; cases hq; omega) | replace hf37 := hf37.stpF flat_shEnt he1576 (by intro q hq; cases hq; exact hf37.ne_box (by assumption) rfl)
       replace hb1383 := hb1383.stp he1576 (by intro q hq; cases hq; omega)
       first | replace ho1391 := ho1391.stp he1576 (by intro q hq; cases hq; omega) | replace ho1391 := ho1391.stpF flat_shI64 he1576 (by intro q hq; cases hq; exact ho1391.ne_box (by assumption) rfl)
       first | replace ho1557 := ho1557.stp he1576 (by intro q hq; cases hq; omega) | replace ho1557 := ho1557.stpF flat_shStr he1576 (by intro q hq; cases hq; exact ho1557.ne_box (by assumption) rfl)
       clear hS1567
       have hSlhS1577 := hS1577.lt
       have hs1584 := (StpL.of_ext (B := fun i => i = g_s ∨ i = w53.heap.size) hs1573).trans' (Stp.toL he1576 (by intro q hq; cases hq; exact Or.inl rfl))
       refine ⟨hs1584, ?_⟩
       refine dr_narrow (S' := fun w' => StpL w1575 w' _) (fun w' h' => hs1584.trans' h') _ _ _ _ ?_
       have hs1585 : Ext w1575 w1575 := Ext.rfl' _
       obtain ⟨x1586, hx1586⟩ := get_ex (xs := [([97, 100, 97] : Str), ([98, 111] : Str), ([99, 121] : Str)]) (j := ((q1578 : Int)).toNat) (by first | omega | (simp only [List.length_cons, List.length_nil]; omega))
       obtain ⟨p1587, c1588, hi1589, hc1590, hr1591, hs1592⟩ := Rds.at_ (ho1557.rds pos_shStr) hx1586
       obtain ⟨rfl, b1593⟩ := inv_shStr hr1591
       obtain ⟨_, _⟩ : _ ∧ _ := hs1592
       have hdlx1586 := el_len 17 (by rfl) hx1586
       refine dr_val (i := 7) ha1582 rfl (by kernel_rfl) (by kernel_rfl) (by kernel_rfl) rfl rfl rfl (StpL.of_ext hs1585) (fun w' hw' => op_indexAddr ha1582 rfl Try.underlying52 ti9 rfl rfl (by omega) hi1589) ?_
       intro a1594 ha1594; clear ha1582 a1582
       refine dr_val (i := 8) ha1594 rfl (by kernel_rfl) (by kernel_rfl) (by kernel_rfl) rfl rfl rfl (StpL.of_ext hs1585) (fun w' hw' => op_loadH ha1594 rfl Try.underlying9 rfl rfl (hc1590.stpL hw' (by rintro (q | q) <;> first | omega)) rfl) ?_
       intro a1595 ha1595; clear ha1594 a1594
       refine dr_one (i := 10) (by kernel_rfl) ?_
       refine po_callS ha1595 rfl rfl rfl rfl (op_call ha1595 rfl cb73 rfl) (c_spec_l01Next _ g_s b_s (30 : Int) hS1577) ?_
       rintro v1596 w1597 he1598 ⟨hS1599, ⟨q1600, hq1601, hq1602, hq1603, rfl⟩⟩ a1604 ha1604; clear ha1595 a1595
       have hx1605 := hx1583.trans' he1598
       have hzhx1605 := he1598.size
       first | replace hf37 := hf37.stp he1598 (by intro q hq; cases hq; omega) | replace hf37 := hf37.stpF flat_shEnt he1598 (by intro q hq; cases hq; exact hf37.ne_box (by assumption) rfl)
       replace hb1383 := hb1383.stp he1598 (by intro q hq; cases hq; omega)
       first | replace ho1391 := ho1391.stp he1598 (by intro q hq; cases hq; omega) | replace ho1391 := ho1391.stpF flat_shI64 he1598 (by intro q hq; cases hq; exact ho1391.ne_box (by assumption) rfl)
       first | replace ho1557 := ho1557.stp he1598 (by intro q hq; cases hq; omega) | replace ho1557 := ho1557.stpF flat_shStr he1598 (by intro q hq; cases hq; exact ho1557.ne_box (by assumption) rfl)
       replace hc1590 := hc1590.stp he1598 (by intro q hq; cases hq; omega)
       clear hS1577
       have hSlhS1599 := hS1599.lt
       have hs1606 := (StpL.of_ext (B := fun i => i = g_s ∨ i = w53.heap.size) hs1585).trans' (Stp.toL he1598 (by intro q hq; cases hq; exact Or.inl rfl))
       refine ⟨hs1606, ?_⟩
       refine dr_narrow (S' := fun w' => StpL w1597 w' _) (fun w' h' => hs1606.trans' h') _ _ _ _ ?_
       have hs1607 : Ext w1597 w1597 := Ext.rfl' _
       refine dr_val (i := 11) ha1604 rfl (by kernel_rfl) (by kernel_rfl) (by kernel_rfl) rfl rfl rfl (StpL.of_ext hs1607) (fun w' hw' => (op_add ha1604 rfl rfl rfl).int (IntWalk.i64_in _ (by omega))) ?_
       intro a1608 ha1608; clear ha1604 a1604
       refine dr_val (i := 12) ha1608 rfl (by kernel_rfl) (by kernel_rfl) (by kernel_rfl) rfl rfl rfl (StpL.of_ext hs1607) (fun w' hw' => (op_mul ha1608 rfl rfl rfl).int (IntWalk.i64_in _ (by omega))) ?_
       intro a1609 ha1609; clear ha1608 a1608
       refine dr_val (i := 13) ha1609 rfl (by kernel_rfl) (by kernel_rfl) (by kernel_rfl) rfl rfl rfl (StpL.of_ext hs1607) (fun w' hw' => op_build (vs := [(0, .int .i64 d), (1, .int .i64 (q1568 : Int)), (2, St x1586), (3, .int .i64 ((100 : Int) * ((1 : Int) + (q1600 : Int))))]) (cs := #[.int .i64 d, .int .i64 (q1568 : Int), St x1586, .int .i64 ((100 : Int) * ((1 : Int) + (q1600 : Int)))]) ha1609 rfl Try.underlying41 ti41 bp41 rfl rfl) ?_
       intro a1610 ha1610; clear ha1609 a1609
       refine dr_one (i := 15) (by kernel_rfl) ?_
       refine po_effS ha1610 rfl rfl rfl (op_storeAll' ha1610 rfl ti41 rfl rfl hb1383 rfl rfl (by simp [Value.oneCell']) rfl) ?_
       rintro w1611 ⟨hb1613, hst1612, hz1614⟩
       have hx1615 := hx1605.fresh hst1612 (by intro q hq; cases hq; exact (by omega))
       have hzhx1615 := hst1612.size
       replace hf37 := hf37.stp hst1612 (by intro q hq; cases hq; omega)
       replace ho1391 := ho1391.stp hst1612 (by intro q hq; cases hq; omega)
       replace ho1557 := ho1557.stp hst1612 (by intro q hq; cases hq; omega)
       replace hc1590 := hc1590.stp hst1612 (by intro q hq; cases hq; omega)
       replace hS1599 := hS1599.stp hst1612 (by intro q hq; cases hq; omega)
       clear hb1383
       have hs1616 := (StpL.of_ext (B := fun i => i = g_s ∨ i = w53.heap.size) hs1607).trans' (Stp.toL hst1612 (by intro q hq; cases hq; exact Or.inr (rfl)))
       refine ⟨hs1616, ?_⟩
       refine dr_narrow (S' := fun w' => StpL w1611 w' _) (fun w' h' => hs1616.trans' h') _ _ _ _ ?_
       have hs1617 : Ext w1611 w1611 := Ext.rfl' _
       refine dr_end (by kernel_rfl) ?_
       refine then_n ?_
       exact ⟨w53.heap.size, q1568, x1586, q1600, (Sl.cons_ ha1610 rfl rfl (Sl.cons_ ha1610 rfl rfl (Sl.cons_ ha1610 rfl rfl (Sl.cons_ ha1610 rfl rfl (Sl.cons_ ha1610 rfl rfl (Sl.nil_ ha1610)))))), hx1615, hS1599, (hf37.fin (by omega) (by omega) (by omega)), hb1613, (by omega), (by omega), (by omega), (by omega), (by omega), (by omega), (by omega)⟩
     ·
      refine po_eff ha1385 rfl rfl rfl rfl (op_buildSlice (s := shStr) (xs := [([97, 100, 97] : Str), ([98, 111] : Str), ([99, 121] : Str)]) (cs := [St (([97, 100, 97] : Str)), St (([98, 111] : Str)), St (([99, 121] : Str))]) (vs := [(0, St (([97, 100, 97] : Str))), (1, St (([98, 111] : Str))), (2, St (([99, 121] : Str)))]) (S := fun _ => False) (le := w1381.heap.size) ha1385 rfl pos_shStr Try.underlying52 ti9 rfl rfl (by decide) (by kernel_rfl) ⟨mk_shStr (([97, 100, 97] : Str)) (by first | assumption | omega | (constructor <;> omega) | (dsimp only; omega) | (simp; done) | (simp; omega)), mk_shStr (([98, 111] : Str)) (by first | assumption | omega | (constructor <;> omega) | (dsimp only; omega) | (simp; done) | (simp; omega)), mk_shStr (([99, 121] : Str)) (by first | assumption | omega | (constructor <;> omega) | (dsimp only; omega) | (simp; done) | (simp; omega)), rfl⟩ (fun _ h => h.elim)) ?_
      rintro v1618 w1619 ⟨ho1620, he1621, hob1622⟩ a1623 ha1623; clear ha1385 a1385
      have hs1624 := hs1388.trans' he1621
      have hx1625 := hx1387.trans' (Stp.of_ext he1621 _)
      have hzhx1625 := he1621.size
      refine ⟨(StpL.of_ext hs1624), ?_⟩
      replace hf36 := hf36.ext hs1624
      replace hf37 := hf37.ext hs1624
      replace hb1383 := hb1383.ext hs1624
      refine dr_narrow (S' := fun w' => StpL w1619 w' _) (fun w' h' => (StpL.of_ext hs1624).trans' h') _ _ _ _ ?_
      have hs1626 : Ext w1619 w1619 := Ext.rfl' _
      refine dr_one (i := 2) (by kernel_rfl) ?_
      refine po_eff ha1623 rfl rfl rfl rfl (op_buildSlice (s := shI64) (xs := [(0 : Int), (0 : Int), (1 : Int), (2 : Int), (3 : Int)]) (cs := [.int .i64 (0 : Int), .int .i64 (0 : Int), .int .i64 (1 : Int), .int .i64 (2 : Int), .int .i64 (3 : Int)]) (vs := [(0, .int .i64 (0 : Int)), (1, .int .i64 (0 : Int)), (2, .int .i64 (1 : Int)), (3, .int .i64 (2 : Int)), (4, .int .i64 (3 : Int))]) (S := fun _ => False) (le := w1619.heap.size) ha1623 rfl pos_shI64 Try.underlying45 ti2 rfl rfl (by decide) (by kernel_rfl) ⟨mk_shI64 ((0 : Int)) (by first | assumption | omega | (constructor <;> omega) | (dsimp only; omega) | (simp; done) | (simp; omega)), mk_shI64 ((0 : Int)) (by first | assumption | omega | (constructor <;> omega) | (dsimp only; omega) | (simp; done) | (simp; omega)), mk_shI64 ((1 : Int)) (by first | assumption | omega | (constructor <;> omega) | (dsimp only; omega) | (simp; done) | (simp; omega)), mk_shI64 ((2 : Int)) (by first | assumption | omega | (constructor <;> omega) | (dsimp only; omega) | (simp; done) | (simp; omega)), mk_shI64 ((3 : Int)) (by first | assumption | omega | (constructor <;> omega) | (dsimp only; omega) | (simp; done) | (simp; omega)), rfl⟩ (fun _ h => h.elim)) ?_
      rintro v1627 w1628 ⟨ho1629, he1630, hob1631⟩ a1632 ha1632; clear ha1623 a1623
      have hs1633 := hs1626.trans' he1630
      have hx1634 := hx1625.trans' (Stp.of_ext he1630 _)
      have hzhx1634 := he1630.size
      refine ⟨(StpL.of_ext hs1633), ?_⟩
      replace hf36 := hf36.ext hs1633
      replace hf37 := hf37.ext hs1633
      replace hb1383 := hb1383.ext hs1633
      replace ho1620 := ho1620.ext hs1633
      refine dr_narrow (S' := fun w' => StpL w1628 w' _) (fun w' h' => (StpL.of_ext hs1633).trans' h') _ _ _ _ ?_
      have hs1635 : Ext w1628 w1628 := Ext.rfl' _
      refine dr_one (i := 3) (by kernel_rfl) ?_
      refine po_callS ha1632 rfl rfl rfl rfl (op_call ha1632 rfl cb72 rfl) (c_spec_l01Pick _ g_s b_s v1627 ([(0 : Int), (0 : Int), (1 : Int), (2 : Int), (3 : Int)]) hf36 (ho1629.rds pos_shI64) (by rintro ⟨_, _⟩; omega) (by first | assumption | omega | (constructor <;> omega) | (dsimp only; omega) | (simp; done) | (simp; omega))) ?_
      rintro v1636 w1637 he1638 ⟨hS1639, ⟨q1640, hq1641, rfl⟩⟩ a1642 ha1642; clear ha1632 a1632
      have hx1643 := hx1634.trans' he1638
      have hzhx1643 := he1638.size
      first | replace hf37 := hf37.stp he1638 (by intro q hq; cases hq; omega) | replace hf37 := hf37.stpF flat_shEnt he1638 (by intro q hq; cases hq; exact hf37.ne_box (by assumption) rfl)
      replace hb1383 := hb1383.stp he1638 (by intro q hq; cases hq; omega)
      first | replace ho1620 := ho1620.stp he1638 (by intro q hq; cases hq; omega) | replace ho1620 := ho1620.stpF flat_shStr he1638 (by intro q hq; cases hq; exact ho1620.ne_box (by assumption) rfl)
      first | replace ho1629 := ho1629.stp he1638 (by intro q hq; cases hq; omega) | replace ho1629 := ho1629.stpF flat_shI64 he1638 (by intro q hq; cases hq; exact ho1629.ne_box (by assumption) rfl)
      clear hf36
      have hSlhS1639 := hS1639.lt
      have hs1644 := (StpL.of_ext (B := fun i => i = g_s ∨ i = w53.heap.size) hs1635).trans' (Stp.toL he1638 (by intro q hq; cases hq; exact Or.inl rfl))
      refine ⟨hs1644, ?_⟩
      simp only [List.mem_cons, List.not_mem_nil, or_false] at hq1641
      refine dr_narrow (S' := fun w' => StpL w1637 w' _) (fun w' h' => hs1644.trans' h') _ _ _ _ ?_
      have hs1645 : Ext w1637 w1637 := Ext.rfl' _
      refine dr_one (i := 6) (by kernel_rfl) ?_
      refine po_callS ha1642 rfl rfl rfl rfl (op_call ha1642 rfl cb73 rfl) (c_spec_l01Next _ g_s b_s (3 : Int) hS1639) ?_
      rintro v1646 w1647 he1648 ⟨hS1649, ⟨q1650, hq1651, hq1652, hq1653, rfl⟩⟩ a1654 ha1654; clear ha1642 a1642
      have hx1655 := hx1643.trans' he1648
      have hzhx1655 := he1648.size
      first | replace hf37 := hf37.stp he1648 (by intro q hq; cases hq; omega) | replace hf37 := hf37.stpF flat_shEnt he1648 (by intro q hq; cases hq; exact hf37.ne_box (by assumption) rfl)
      replace hb1383 := hb1383.stp he1648 (by intro q hq; cases hq; omega)
      first | replace ho1620 := ho1620.stp he1648 (by intro q hq; cases hq; omega) | replace ho1620 := ho1620.stpF flat_shStr he1648 (by intro q hq; cases hq; exact ho1620.ne_box (by assumption) rfl)
      first | replace ho1629 := ho1629.stp he1648 (by intro q hq; cases hq; omega) | replace ho1629 := ho1629.stpF flat_shI64 he1648 (by intro q hq; cases hq; exact ho1629.ne_box (by assumption) rfl)
      clear hS1639
      have hSlhS1649 := hS1649.lt
      have hs1656 := (StpL.of_ext (B := fun i => i = g_s ∨ i = w53.heap.size) hs1645).trans' (Stp.toL he1648 (by intro q hq; cases hq; exact Or.inl rfl))
      refine ⟨hs1656, ?_⟩
      refine dr_narrow (S' := fun w' => StpL w1647 w' _) (fun w' h' => hs1656.trans' h') _ _ _ _ ?_
      have hs1657 : Ext w1647 w1647 := Ext.rfl' _
      obtain ⟨x1658, hx1658⟩ := get_ex (xs := [([97, 100, 97] : Str), ([98, 111] : Str), ([99, 121] : Str)]) (j := ((q1650 : Int)).toNat) (by first | omega | (simp only [List.length_cons, List.length_nil]; omega))
      obtain ⟨p1659, c1660, hi1661, hc1662, hr1663, hs1664⟩ := Rds.at_ (ho1620.rds pos_shStr) hx1658
      obtain ⟨rfl, b1665⟩ := inv_shStr hr1663
      obtain ⟨_, _⟩ : _ ∧ _ := hs1664
      have hdlx1658 := el_len 17 (by rfl) hx1658
      refine dr_val (i := 7) ha1654 rfl (by kernel_rfl) (by kernel_rfl) (by kernel_rfl) rfl rfl rfl (StpL.of_ext hs1657) (fun w' hw' => op_indexAddr ha1654 rfl Try.underlying52 ti9 rfl rfl (by omega) hi1661) ?_
      intro a1666 ha1666; clear ha1654 a1654
      refine dr_val (i := 8) ha1666 rfl (by kernel_rfl) (by kernel_rfl) (by kernel_rfl) rfl rfl rfl (StpL.of_ext hs1657) (fun w' hw' => op_loadH ha1666 rfl Try.underlying9 rfl rfl (hc1662.stpL hw' (by rintro (q | q) <;> first | omega)) rfl) ?_
      intro a1667 ha1667; clear ha1666 a1666
      refine dr_one (i := 10) (by kernel_rfl) ?_
      refine po_callS ha1667 rfl rfl rfl rfl (op_call ha1667 rfl cb73 rfl) (c_spec_l01Next _ g_s b_s (30 : Int) hS1649) ?_
      rintro v1668 w1669 he1670 ⟨hS1671, ⟨q1672, hq1673, hq1674, hq1675, rfl⟩⟩ a1676 ha1676; clear ha1667 a1667
      have hx1677 := hx1655.trans' he1670
      have hzhx1677 := he1670.size
      first | replace hf37 := hf37.stp he1670 (by intro q hq; cases hq; omega) | replace hf37 := hf37.stpF flat_shEnt he1670 (by intro q hq; cases hq; exact hf37.ne_box (by assumption) rfl)
      replace hb1383 := hb1383.stp he1670 (by intro q hq; cases hq; omega)
      first | replace ho1620 := ho1620.stp he1670 (by intro q hq; cases hq; omega) | replace ho1620 := ho1620.stpF flat_shStr he1670 (by intro q hq; cases hq; exact ho1620.ne_box (by assumption) rfl)
      first | replace ho1629 := ho1629.stp he1670 (by intro q hq; cases hq; omega) | replace ho1629 := ho1629.stpF flat_shI64 he1670 (by intro q hq; cases hq; exact ho1629.ne_box (by assumption) rfl)
      replace hc1662 := hc1662.stp he1670 (by intro q hq; cases hq; omega)
      clear hS1649
      have hSlhS1671 := hS1671.lt
      have hs1678 := (StpL.of_ext (B := fun i => i = g_s ∨ i = w53.heap.size) hs1657).trans' (Stp.toL he1670 (by intro q hq; cases hq; exact Or.inl rfl))
      refine ⟨hs1678, ?_⟩
      refine dr_narrow (S' := fun w' => StpL w1669 w' _) (fun w' h' => hs1678.trans' h') _ _ _ _ ?_
      have hs1679 : Ext w1669 w1669 := Ext.rfl' _
      refine dr_val (i := 11) ha1676 rfl (by kernel_rfl) (by kernel_rfl) (by kernel_rfl) rfl rfl rfl (StpL.of_ext hs1679) (fun w' hw' => (op_add ha1676 rfl rfl rfl).int (IntWalk.i64_in _ (by omega))) ?_
      intro a1680 ha1680; clear ha1676 a1676
      refine dr_val (i := 12) ha1680 rfl (by kernel_rfl) (by kernel_rfl) (by kernel_rfl) rfl rfl rfl (StpL.of_ext hs1679) (fun w' hw' => (op_mul ha1680 rfl rfl rfl).int (IntWalk.i64_in _ (by omega))) ?_
      intro a1681 ha1681; clear ha1680 a1680
      refine dr_val (i := 13) ha1681 rfl (by kernel_rfl) (by kernel_rfl) (by kernel_rfl) rfl rfl rfl (StpL.of_ext hs1679) (fun w' hw' => op_build (vs := [(0, .int .i64 d), (1, .int .i64 (q1640 : Int)), (2, St x1658), (3, .int .i64 ((100 : Int) * ((1 : Int) + (q1672 : Int))))]) (cs := #[.int .i64 d, .int .i64 (q1640 : Int), St x1658, .int .i64 ((100 : Int) * ((1 : Int) + (q1672 : Int)))]) ha1681 rfl Try.underlying41 ti41 bp41 rfl rfl) ?_
      intro a1682 ha1682; clear ha1681 a1681
      refine dr_one (i := 15) (by kernel_rfl) ?_
      refine po_effS ha1682 rfl rfl rfl (op_storeAll' ha1682 rfl ti41 rfl rfl hb1383 rfl rfl (by simp [Value.oneCell']) rfl) ?_
      rintro w1683 ⟨hb1685, hst1684, hz1686⟩
      have hx1687 := hx1677.fresh hst1684 (by intro q hq; cases hq; exact (by omega))
      have hzhx1687 := hst1684.size
      replace hf37 := hf37.stp hst1684 (by intro q hq; cases hq; omega)
      replace ho1620 := ho1620.stp hst1684 (by intro q hq; cases hq; omega)
      replace ho1629 := ho1629.stp hst1684 (by intro q hq; cases hq; omega)
      replace hc1662 := hc1662.stp hst1684 (by intro q hq; cases hq; omega)
      replace hS1671 := hS1671.stp hst1684 (by intro q hq; cases hq; omega)
      clear hb1383
      have hs1688 := (StpL.of_ext (B := fun i => i = g_s ∨ i = w53.heap.size) hs1679).trans' (Stp.toL hst1684 (by intro q hq; cases hq; exact Or.inr (rfl)))
      refine ⟨hs1688, ?_⟩
      refine dr_narrow (S' := fun w' => StpL w1683 w' _) (fun w' h' => hs1688.trans' h') _ _ _ _ ?_
      have hs1689 : Ext w1683 w1683 := Ext.rfl' _
      refine dr_end (by kernel_rfl) ?_
      refine then_n ?_
      exact ⟨w53.heap.size, q1640, x1658, q1672, (Sl.cons_ ha1682 rfl rfl (Sl.cons_ ha1682 rfl rfl (Sl.cons_ ha1682 rfl rfl (Sl.cons_ ha1682 rfl rfl (Sl.cons_ ha1682 rfl rfl (Sl.nil_ ha1682)))))), hx1687, hS1671, (hf37.fin (by omega) (by omega) (by omega)), hb1685, (by omega), (by omega), (by omega), (by omega), (by omega), (by omega), (by omega)⟩
   ·
    clear ha42 a42
    rintro a1690 w48 ⟨g44, q45, q46, q47, ha1690, hx49, hf50, hf51, hf52, hg1692, hg1693, hg1694, hg1695, hg1696, hg1697, hzl1691⟩
    have hzhx49 := hx49.size
    have hgl1698 := hf50.lt
    have hgl1699 := hf52.lt
    refine wp_seq ?_
    refine wp_region_lit ?_
    refine wl_val ha1690 rfl rfl rfl (op_move ha1690 rfl rfl) ?_
    intro a1700 ha1700; clear ha1690 a1690
    refine wl_val ha1700 rfl rfl rfl (op_fieldAddr (sz := 0) ha1700 rfl Try.underlying41 rfl rfl ti9 rfl) ?_
    intro a1701 ha1701; clear ha1700 a1700
    refine wl_val ha1701 rfl rfl rfl (op_loadF (off := 2) ha1701 rfl Try.underlying9 rfl rfl hf52.cells rfl) ?_
    intro a1702 ha1702; clear ha1701 a1701
    refine wl_callR ha1702 rfl rfl rfl (op_call ha1702 rfl cb57 rfl) (c_spec_l33Owes _ v xs q46 (hf51.rds pos_shEnt) (by first | assumption | omega | (constructor <;> omega) | (dsimp only; omega) | (simp; done) | (simp; omega)) (by first | assumption | omega | (constructor <;> omega) | (dsimp only; omega) | (simp; done) | (simp; omega))) ?_
    rintro v1703 w1704 he1705 rfl a1706 ha1706; clear ha1702 a1702
    have hx1707 := hx49.trans' (Stp.of_ext he1705 _)
    have hzhx1707 := he1705.size
    replace hf50 := hf50.ext he1705
    replace hf51 := hf51.ext he1705
    replace hf52 := hf52.ext he1705
    refine wl_val ha1706 rfl rfl rfl (op_assign ha1706 rfl rfl) ?_
    intro a1708 ha1708; clear ha1706 a1706
    refine wpList_nil ?_
    refine then_n ?_
    refine seq_mid (fun fr wl => ∃ (k : Int), Sl 72 fr [(0, .pointer (some (⟨g_s, 0, none⟩ : Addr))), (3, v), (4, .int .i64 d), (5, .int .i64 m), (6, .pointer (some (⟨g44, 0, none⟩ : Addr)))] ∧ Stp w0 wl (some g_s) ∧ Src wl g_s b_s 81 ∧ Own shEnt 41 w0.heap.size w0.heap.size w34.heap.size wl v xs ∧ Box wl g44 41 [.int .i64 d, .int .i64 (q45 : Int), St q46, .int .i64 k] ∧ w1704.heap.size ≤ wl.heap.size ∧ (0 ≤ k ∧ k ≤ 10000000)) ?_ ?_
    ·
     refine wp_seq ?_
     refine wp_region_lit ?_
     refine wl_val ha1708 rfl rfl rfl (op_fieldAddr (sz := 0) ha1708 rfl Try.underlying41 rfl rfl ti2 rfl) ?_
     intro a1714 ha1714; clear ha1708 a1708
     refine wl_val ha1714 rfl rfl rfl (op_loadF (off := 1) ha1714 rfl Try.underlying2 rfl rfl hf52.cells rfl) ?_
     intro a1715 ha1715; clear ha1714 a1714
     refine wl_val ha1715 rfl rfl rfl (op_eql ha1715 rfl rfl rfl) ?_
     intro a1716 ha1716; clear ha1715 a1715
     refine wl_val ha1716 rfl rfl rfl (op_move ha1716 rfl rfl) ?_
     intro a1717 ha1717; clear ha1716 a1716
     by_cases c1718 : (q45 : Int) = (1 : Int)
     ·
      rw [decide_eq_true c1718] at ha1717
      refine wl_val ha1717 rfl rfl rfl (op_move ha1717 rfl rfl) ?_
      intro a1719 ha1719; clear ha1717 a1717
      refine wl_val ha1719 rfl rfl rfl (op_gtr ha1719 rfl rfl rfl) ?_
      intro a1720 ha1720; clear ha1719 a1719
      refine wl_val ha1720 rfl rfl rfl (op_pick_t ha1720 rfl rfl rfl) ?_
      intro a1721 ha1721; clear ha1720 a1720
      refine wl_val ha1721 rfl rfl rfl (op_move ha1721 rfl rfl) ?_
      intro a1722 ha1722; clear ha1721 a1721
      by_cases c1723 : (0 : Int) < (owS q46 xs : Int)
      ·
       rw [decide_eq_true c1723] at ha1722
       refine wl_val ha1722 rfl rfl rfl (op_move ha1722 rfl rfl) ?_
       intro a1724 ha1724; clear ha1722 a1722
       refine wl_callS ha1724 rfl rfl rfl (op_call ha1724 rfl cb73 rfl) (c_spec_l01Next _ g_s b_s (3 : Int) hf50) ?_
       rintro v1725 w1726 he1727 ⟨hS1728, ⟨q1729, hq1730, hq1731, hq1732, rfl⟩⟩ a1733 ha1733; clear ha1724 a1724
       have hx1734 := hx1707.trans' he1727
       have hzhx1734 := he1727.size
       first | replace hf51 := hf51.stp he1727 (by intro q hq; cases hq; omega) | replace hf51 := hf51.stpF flat_shEnt he1727 (by intro q hq; cases hq; exact hf51.ne_box (by assumption) rfl)
       replace hf52 := hf52.stp he1727 (by intro q hq; cases hq; omega)
       clear hf50
       have hSlhS1728 := hS1728.lt
       refine wl_val ha1733 rfl rfl rfl (op_gtr ha1733 rfl rfl rfl) ?_
       intro a1735 ha1735; clear ha1733 a1733
       refine wl_val ha1735 rfl rfl rfl (op_pick_t ha1735 rfl rfl rfl) ?_
       intro a1736 ha1736; clear ha1735 a1735
       refine wpList_nil ?_
       refine then_n ?_
       by_cases c1737 : (0 : Int) < (q1729 : Int)
       ·
        rw [decide_eq_true c1737] at ha1736
        refine cond_t ha1736 rfl ?_
        refine wp_region_lit ?_
        refine wl_val ha1736 rfl rfl rfl (op_move ha1736 rfl rfl) ?_
        intro a1738 ha1738; clear ha1736 a1736
        refine wl_val ha1738 rfl rfl rfl (op_min ha1738 rfl rfl rfl) ?_
        intro a1739 ha1739; clear ha1738 a1738
        refine wl_val ha1739 rfl rfl rfl (op_fieldAddr (sz := 0) ha1739 rfl Try.underlying41 rfl rfl ti2 rfl) ?_
        intro a1740 ha1740; clear ha1739 a1739
        refine wl_effS ha1740 rfl rfl (op_store' (off := 3) ha1740 rfl ti2 rfl rfl hf52 rfl rfl (by simp [Value.oneCell']) (Nat.le_of_ble_eq_true rfl)) ?_
        rintro w1741 ⟨hb1743, hst1742, hz1744⟩
        have hx1745 := hx1734.fresh hst1742 (by intro q hq; cases hq; exact (by omega))
        have hzhx1745 := hst1742.size
        first | replace hf51 := hf51.stp hst1742 (by intro q hq; cases hq; omega) | replace hf51 := hf51.stpF flat_shEnt hst1742 (by intro q hq; cases hq; exact hf51.ne_box (by assumption) rfl)
        replace hS1728 := hS1728.stp hst1742 (by intro q hq; cases hq; omega)
        clear hf52
        refine wpList_nil ?_
        refine then_n ?_
        refine ⟨(min (10000000 : Int) (owS q46 xs : Int)), (Sl.cons_ ha1740 rfl rfl (Sl.cons_ ha1740 rfl rfl (Sl.cons_ ha1740 rfl rfl (Sl.cons_ ha1740 rfl rfl (Sl.cons_ ha1740 rfl rfl (Sl.nil_ ha1740)))))), hx1745, hS1728, hf51, hb1743, (by omega), (by constructor <;> omega)⟩
       ·
        rw [decide_eq_false c1737] at ha1736
        refine cond_f ha1736 rfl ?_
        refine wp_skip ?_
        refine then_n ?_
        refine ⟨((100 : Int) * ((1 : Int) + (q47 : Int))), (Sl.cons_ ha1736 rfl rfl (Sl.cons_ ha1736 rfl rfl (Sl.cons_ ha1736 rfl rfl (Sl.cons_ ha1736 rfl rfl (Sl.cons_ ha1736 rfl rfl (Sl.nil_ ha1736)))))), hx1734, hS1728, hf51, hf52, (by omega), (by constructor <;> omega)⟩
      ·
       rw [decide_eq_false c1723] at ha1722
       refine wl_skip ha1722 rfl rfl rfl ?_
       intro a1746 ha1746; clear ha1722 a1722
       refine wl_skip ha1746 rfl rfl rfl ?_
       intro a1747 ha1747; clear ha1746 a1746
       refine wl_skip ha1747 rfl rfl rfl ?_
       intro a1748 ha1748; clear ha1747 a1747
       refine wl_val ha1748 rfl rfl rfl (op_pick_f ha1748 rfl rfl rfl) ?_
       intro a1749 ha1749; clear ha1748 a1748
       refine wpList_nil ?_
       refine then_n ?_
       refine cond_f ha1749 rfl ?_
       refine wp_skip ?_
       refine then_n ?_
       refine ⟨((100 : Int) * ((1 : Int) + (q47 : Int))), (Sl.cons_ ha1749 rfl rfl (Sl.cons_ ha1749 rfl rfl (Sl.cons_ ha1749 rfl rfl (Sl.cons_ ha1749 rfl rfl (Sl.cons_ ha1749 rfl rfl (Sl.nil_ ha1749)))))), hx1707, hf50, hf51, hf52, (by omega), (by constructor <;> omega)⟩
     ·
      rw [decide_eq_false c1718] at ha1717
      refine wl_skip ha1717 rfl rfl rfl ?_
      intro a1750 ha1750; clear ha1717 a1717
      refine wl_skip ha1750 rfl rfl rfl ?_
      intro a1751 ha1751; clear ha1750 a1750
      refine wl_val ha1751 rfl rfl rfl (op_pick_f ha1751 rfl rfl rfl) ?_
      intro a1752 ha1752; clear ha1751 a1751
      refine wl_val ha1752 rfl rfl rfl (op_move ha1752 rfl rfl) ?_
      intro a1753 ha1753; clear ha1752 a1752
      refine wl_skip ha1753 rfl rfl rfl ?_
      intro a1754 ha1754; clear ha1753 a1753
      refine wl_skip ha1754 rfl rfl rfl ?_
      intro a1755 ha1755; clear ha1754 a1754
      refine wl_skip ha1755 rfl rfl rfl ?_
      intro a1756 ha1756; clear ha1755 a1755
      refine wl_val ha1756 rfl rfl rfl (op_pick_f ha1756 rfl rfl rfl) ?_
      intro a1757 ha1757; clear ha1756 a1756
      refine wpList_nil ?_
      refine then_n ?_
      refine cond_f ha1757 rfl ?_
      refine wp_skip ?_
      refine then_n ?_
      refine ⟨((100 : Int) * ((1 : Int) + (q47 : Int))), (Sl.cons_ ha1757 rfl rfl (Sl.cons_ ha1757 rfl rfl (Sl.cons_ ha1757 rfl rfl (Sl.cons_ ha1757 rfl rfl (Sl.cons_ ha1757 rfl rfl (Sl.nil_ ha1757)))))), hx1707, hf50, hf51, hf52, (by omega), (by constructor <;> omega)⟩
    ·
     clear ha1708 a1708
     rintro a1758 w1709 ⟨k, ha1758, hx1710, hf1711, hf1712, hf1713, hzl1759, hk⟩
     have hzhx1710 := hx1710.size
     have hgl1760 := hf1711.lt
     refine seq_mid (fun fr wl => ∃ (nm : Str) (k2 : Int), Sl 72 fr [(0, .pointer (some (⟨g_s, 0, none⟩ : Addr))), (3, v), (4, .int .i64 d), (5, .int .i64 m), (6, .pointer (some (⟨g44, 0, none⟩ : Addr)))] ∧ Stp w0 wl (some g_s) ∧ Src wl g_s b_s 81 ∧ Own shEnt 41 w0.heap.size w0.heap.size w34.heap.size wl v xs ∧ Box wl g44 41 [.int .i64 d, .int .i64 (q45 : Int), St nm, .int .i64 k2] ∧ w1709.heap.size ≤ wl.heap.size ∧ (nm.length ≤ 17) ∧ (0 ≤ k2 ∧ k2 ≤ 10000000)) ?_ ?_
     ·
      refine wp_seq ?_
      refine wp_region_lit ?_
      refine wl_val ha1758 rfl rfl rfl (op_fieldAddr (sz := 0) ha1758 rfl Try.underlying41 rfl rfl ti2 rfl) ?_
      intro a1766 ha1766; clear ha1758 a1758
      refine wl_val ha1766 rfl rfl rfl (op_loadF (off := 1) ha1766 rfl Try.underlying2 rfl rfl hf1713.cells rfl) ?_
      intro a1767 ha1767; clear ha1766 a1766
      refine wl_val ha1767 rfl rfl rfl (op_eql ha1767 rfl rfl rfl) ?_
      intro a1768 ha1768; clear ha1767 a1767
      refine wpList_nil ?_
      refine then_n ?_
      by_cases c1769 : (q45 : Int) = (3 : Int)
      ·
       rw [decide_eq_true c1769] at ha1768
       refine cond_t ha1768 rfl ?_
       refine wp_seq ?_
       refine wp_region_lit ?_
       refine wl_val ha1768 rfl rfl rfl (op_fieldAddr (sz := 0) ha1768 rfl Try.underlying41 rfl rfl ti9 rfl) ?_
       intro a1770 ha1770; clear ha1768 a1768
       refine wl_effS ha1770 rfl rfl (op_store' (off := 2) ha1770 rfl ti9 rfl rfl hf1713 rfl rfl (by simp [Value.oneCell']) (Nat.le_of_ble_eq_true rfl)) ?_
       rintro w1771 ⟨hb1773, hst1772, hz1774⟩
       have hx1775 := hx1710.fresh hst1772 (by intro q hq; cases hq; exact (by omega))
       have hzhx1775 := hst1772.size
       replace hf1711 := hf1711.stp hst1772 (by intro q hq; cases hq; omega)
       first | replace hf1712 := hf1712.stp hst1772 (by intro q hq; cases hq; omega) | replace hf1712 := hf1712.stpF flat_shEnt hst1772 (by intro q hq; cases hq; exact hf1712.ne_box (by assumption) rfl)
       clear hf1713
       refine wpList_nil ?_
       refine then_n ?_
       refine wp_region_lit ?_
       refine wl_val ha1770 rfl rfl rfl (op_fieldAddr (sz := 0) ha1770 rfl Try.underlying41 rfl rfl ti2 rfl) ?_
       intro a1776 ha1776; clear ha1770 a1770
       refine wl_effS ha1776 rfl rfl (op_store' (off := 3) ha1776 rfl ti2 rfl rfl hb1773 rfl rfl (by simp [Value.oneCell']) (Nat.le_of_ble_eq_true rfl)) ?_
       rintro w1777 ⟨hb1779, hst1778, hz1780⟩
       have hx1781 := hx1775.fresh hst1778 (by intro q hq; cases hq; exact (by omega))
       have hzhx1781 := hst1778.size
       replace hf1711 := hf1711.stp hst1778 (by intro q hq; cases hq; omega)
       first | replace hf1712 := hf1712.stp hst1778 (by intro q hq; cases hq; omega) | replace hf1712 := hf1712.stpF flat_shEnt hst1778 (by intro q hq; cases hq; exact hf1712.ne_box (by assumption) rfl)
       clear hb1773
       refine wpList_nil ?_
       refine then_n ?_
       refine ⟨([] : Str), (0 : Int), (Sl.cons_ ha1776 rfl rfl (Sl.cons_ ha1776 rfl rfl (Sl.cons_ ha1776 rfl rfl (Sl.cons_ ha1776 rfl rfl (Sl.cons_ ha1776 rfl rfl (Sl.nil_ ha1776)))))), hx1781, hf1711, hf1712, hb1779, (by omega), (by first | omega | (simp; done) | (simp; omega)), (by constructor <;> omega)⟩
      ·
       rw [decide_eq_false c1769] at ha1768
       refine cond_f ha1768 rfl ?_
       refine wp_skip ?_
       refine then_n ?_
       refine ⟨q46, k, (Sl.cons_ ha1768 rfl rfl (Sl.cons_ ha1768 rfl rfl (Sl.cons_ ha1768 rfl rfl (Sl.cons_ ha1768 rfl rfl (Sl.cons_ ha1768 rfl rfl (Sl.nil_ ha1768)))))), hx1710, hf1711, hf1712, hf1713, (by omega), (by first | omega | (simp; done) | (simp; omega)), (by constructor <;> omega)⟩
     ·
      clear ha1758 a1758
      rintro a1782 w1761 ⟨nm, k2, ha1782, hx1762, hf1763, hf1764, hf1765, hzl1783, hnm, hk2⟩
      have hzhx1762 := hx1762.size
      have hgl1784 := hf1763.lt
      refine wp_seq ?_
      refine wp_region_lit ?_
      refine wl_val ha1782 rfl rfl rfl (op_move ha1782 rfl rfl) ?_
      intro a1785 ha1785; clear ha1782 a1782
      refine wl_val ha1785 rfl rfl rfl (op_loadS ha1785 rfl Try.underlying41 ti41 rfl rfl hf1765.cells) ?_
      intro a1786 ha1786; clear ha1785 a1785
      refine wl_callR ha1786 rfl rfl rfl (op_call ha1786 rfl cb29 rfl) (c_spec_AddEntry _ v xs ((d, (q45 : Int), nm, k2)) (hf1764.rds pos_shEnt) (by first | assumption | omega | (constructor <;> omega) | (dsimp only; omega) | (simp; done) | (simp; omega)) (by first | assumption | omega | (constructor <;> omega) | (dsimp only; omega) | (simp; done) | (simp; omega)) (by first | assumption | omega | (constructor <;> omega) | (dsimp only; omega) | (simp; done) | (simp; omega)) (by first | assumption | omega | (constructor <;> omega) | (dsimp only; omega) | (simp; done) | (simp; omega)) (by first | assumption | omega | (constructor <;> omega) | (dsimp only; omega) | (simp; done) | (simp; omega))) ?_
      rintro v1787 w1788 he1789 ⟨v1790, rfl, ho1791⟩ a1792 ha1792; clear ha1786 a1786
      have hx1793 := hx1762.trans' (Stp.of_ext he1789 _)
      have hzhx1793 := he1789.size
      replace hf1763 := hf1763.ext he1789
      replace hf1764 := hf1764.ext he1789
      replace hf1765 := hf1765.ext he1789
      refine wl_val ha1792 rfl rfl rfl (op_move ha1792 rfl rfl) ?_
      intro a1794 ha1794; clear ha1792 a1792
      refine wl_val ha1794 rfl rfl rfl (op_extract ha1794 rfl rfl rfl) ?_
      intro a1795 ha1795; clear ha1794 a1794
      refine wl_val ha1795 rfl rfl rfl (op_extract ha1795 rfl rfl rfl) ?_
      intro a1796 ha1796; clear ha1795 a1795
      refine wl_val ha1796 rfl rfl rfl (op_assign ha1796 rfl rfl) ?_
      intro a1797 ha1797; clear ha1796 a1796
      refine wl_val ha1797 rfl rfl rfl (op_assign ha1797 rfl rfl) ?_
      intro a1798 ha1798; clear ha1797 a1797
      refine wpList_nil ?_
      refine then_n ?_
      refine seq_mid (fun fr wl => ∃ (v2 : Value) (ys : List Ent), Sl 72 fr [(0, .pointer (some (⟨g_s, 0, none⟩ : Addr))), (3, v2), (4, .int .i64 d), (5, .int .i64 m)] ∧ Stp w0 wl (some g_s) ∧ Src wl g_s b_s 81 ∧ Own shEnt 41 w0.heap.size w0.heap.size wl.heap.size wl v2 ys ∧ w1788.heap.size ≤ wl.heap.size ∧ (dbB ys = true)) ?_ ?_
      ·
       refine wp_seq ?_
       clear hf1765
       refine wp_region_lit ?_
       refine wl_val ha1798 rfl rfl rfl (op_move ha1798 rfl rfl) ?_
       intro a1803 ha1803; clear ha1798 a1798
       refine wl_val ha1803 rfl rfl rfl (op_eql ha1803 rfl rfl rfl) ?_
       intro a1804 ha1804; clear ha1803 a1803
       refine wpList_nil ?_
       refine then_n ?_
       by_cases c1805 : (addC xs ((d, (q45 : Int), nm, k2)) : Int) = (0 : Int)
       ·
        rw [decide_eq_true c1805] at ha1804
        refine cond_t ha1804 rfl ?_
        clear hf1764
        refine wp_region_lit ?_
        refine wl_val ha1804 rfl rfl rfl (op_move ha1804 rfl rfl) ?_
        intro a1806 ha1806; clear ha1804 a1804
        refine wl_val ha1806 rfl rfl rfl (op_assign ha1806 rfl rfl) ?_
        intro a1807 ha1807; clear ha1806 a1806
        refine wpList_nil ?_
        refine then_n ?_
        refine ⟨v1790, (addL xs ((d, (q45 : Int), nm, k2))), (Sl.cons_ ha1807 rfl rfl (Sl.cons_ ha1807 rfl rfl (Sl.cons_ ha1807 rfl rfl (Sl.cons_ ha1807 rfl rfl (Sl.nil_ ha1807))))), hx1793, hf1763, (ho1791.fin (by omega) (by omega) (by omega)), (by omega), (by exact add_db c1805)⟩
       ·
        rw [decide_eq_false c1805] at ha1804
        refine cond_f ha1804 rfl ?_
        refine wp_skip ?_
        refine then_n ?_
        refine ⟨v, xs, (Sl.cons_ ha1804 rfl rfl (Sl.cons_ ha1804 rfl rfl (Sl.cons_ ha1804 rfl rfl (Sl.cons_ ha1804 rfl rfl (Sl.nil_ ha1804))))), hx1793, hf1763, (hf1764.fin (by omega) (by omega) (by omega)), (by omega), (by first | exact hV2 | exact hV)⟩
      ·
       clear ha1798 a1798
       rintro a1808 w1799 ⟨v2, ys, ha1808, hx1800, hf1801, hf1802, hzl1809, hV2⟩
       have hzhx1800 := hx1800.size
       have hgl1810 := hf1801.lt
       refine wp_region_lit ?_
       refine wl_val ha1808 rfl rfl rfl (op_move ha1808 rfl rfl) ?_
       intro a1811 ha1811; clear ha1808 a1808
       refine wl_val ha1811 rfl rfl rfl (op_move ha1811 rfl rfl) ?_
       intro a1812 ha1812; clear ha1811 a1811
       refine wl_eff ha1812 rfl rfl rfl (op_buildSlice (s := shI64) (xs := [(0 : Int), (0 : Int), (1 : Int), (2 : Int)]) (cs := [.int .i64 (0 : Int), .int .i64 (0 : Int), .int .i64 (1 : Int), .int .i64 (2 : Int)]) (vs := [(0, .int .i64 (0 : Int)), (1, .int .i64 (0 : Int)), (2, .int .i64 (1 : Int)), (3, .int .i64 (2 : Int))]) (S := fun _ => False) (le := w1799.heap.size) ha1812 rfl pos_shI64 Try.underlying45 ti2 rfl rfl (by decide) (by kernel_rfl) ⟨mk_shI64 ((0 : Int)) (by first | assumption | omega | (constructor <;> omega) | (dsimp only; omega) | (simp; done) | (simp; omega)), mk_shI64 ((0 : Int)) (by first | assumption | omega | (constructor <;> omega) | (dsimp only; omega) | (simp; done) | (simp; omega)), mk_shI64 ((1 : Int)) (by first | assumption | omega | (constructor <;> omega) | (dsimp only; omega) | (simp; done) | (simp; omega)), mk_shI64 ((2 : Int)) (by first | assumption | omega | (constructor <;> omega) | (dsimp only; omega) | (simp; done) | (simp; omega)), rfl⟩ (fun _ h => h.elim)) ?_
       rintro v1813 w1814 ⟨ho1815, he1816, hob1817⟩ a1818 ha1818; clear ha1812 a1812
       have hx1819 := hx1800.trans' (Stp.of_ext he1816 _)
       have hzhx1819 := he1816.size
       replace hf1801 := hf1801.ext he1816
       replace hf1802 := hf1802.ext he1816
       refine wl_callS ha1818 rfl rfl rfl (op_call ha1818 rfl cb72 rfl) (c_spec_l01Pick _ g_s b_s v1813 ([(0 : Int), (0 : Int), (1 : Int), (2 : Int)]) hf1801 (ho1815.rds pos_shI64) (by rintro ⟨_, _⟩; omega) (by first | assumption | omega | (constructor <;> omega) | (dsimp only; omega) | (simp; done) | (simp; omega))) ?_
       rintro v1820 w1821 he1822 ⟨hS1823, ⟨q1824, hq1825, rfl⟩⟩ a1826 ha1826; clear ha1818 a1818
       have hx1827 := hx1819.trans' he1822
       have hzhx1827 := he1822.size
       first | replace hf1802 := hf1802.stp he1822 (by intro q hq; cases hq; omega) | replace hf1802 := hf1802.stpF flat_shEnt he1822 (by intro q hq; cases hq; exact hf1802.ne_box (by assumption) rfl)
       first | replace ho1815 := ho1815.stp he1822 (by intro q hq; cases hq; omega) | replace ho1815 := ho1815.stpF flat_shI64 he1822 (by intro q hq; cases hq; exact ho1815.ne_box (by assumption) rfl)
       clear hf1801
       have hSlhS1823 := hS1823.lt
       simp only [List.mem_cons, List.not_mem_nil, or_false] at hq1825
       refine wl_val ha1826 rfl rfl rfl ((op_add ha1826 rfl rfl rfl).int (IntWalk.i64_in _ (by omega))) ?_
       intro a1828 ha1828; clear ha1826 a1826
       refine wl_val ha1828 rfl rfl rfl (op_assign ha1828 rfl rfl) ?_
       intro a1829 ha1829; clear ha1828 a1828
       refine wpList_nil ?_
       refine block_n ?_
       refine then_n ?_
       clear ho1815
       refine wp_region_lit ?_
       refine wl_val ha1829 rfl rfl rfl (op_move ha1829 rfl rfl) ?_
       intro a1830 ha1830; clear ha1829 a1829
       refine wl_val ha1830 rfl rfl rfl ((op_sub ha1830 rfl rfl rfl).int (IntWalk.i64_in _ (by omega))) ?_
       intro a1831 ha1831; clear ha1830 a1830
       refine wl_val ha1831 rfl rfl rfl (op_assign ha1831 rfl rfl) ?_
       intro a1832 ha1832; clear ha1831 a1831
       refine wpList_nil ?_
       refine round_end (x := (m, d, v, xs)) ((m - (1 : Int)), (d + (q1824 : Int)), v2, ys) ?_ ?_
       ·
        refine ⟨(Sl.cons_ ha1832 rfl rfl (Sl.cons_ ha1832 rfl rfl (Sl.cons_ ha1832 rfl (int_eq (by omega)) (Sl.cons_ ha1832 rfl (int_eq (by omega)) (Sl.nil_ ha1832))))), hx1827, hS1823, (hf1802.fin (by omega) (by omega) (by omega)), (by omega), (by omega), (by omega), (by omega), (by omega), (by first | exact hV2 | exact hV)⟩
       ·show (((m - (1 : Int))).toNat : Nat) < m.toNat; omega
  ·
   rw [decide_eq_false c43] at ha42
   refine cond_f ha42 rfl ?_
   refine wp_exit ?_
   refine then_e ?_
   refine then_e ?_
   refine block_hit ?_
   refine then_n ?_
   refine wp_seq ?_
   refine wp_region_lit ?_
   refine wl_val ha42 rfl rfl rfl (op_move ha42 rfl rfl) ?_
   intro a1833 ha1833; clear ha42 a42
   refine wl_val ha1833 rfl rfl rfl (op_assign ha1833 rfl rfl) ?_
   intro a1834 ha1834; clear ha1833 a1833
   refine wpList_nil ?_
   refine then_n ?_
   refine wp_ret ?_
   refine ret1 ha1834 rfl rfl ?_
   clear ha1834 a1834
   refine ret_mkS hx35 ⟨hf36, ?_⟩
   refine ⟨((xs) : List Ent), (by exact hV), ?_⟩
   refine (hf37.fin (by omega) (by omega) (by omega)).cast ?_
   rfl

set_option maxHeartbeats 8000000 in
theorem c_spec_l33Name (w0 : World) (g_s b_s : Nat) (h_s : Src w0 g_s b_s 81) :
  Calls Try.prog 79 #[.pointer (some (⟨g_s, 0, none⟩ : Addr))] w0 (RetS w0 (some g_s) (fun v w1 => Src w1 g_s b_s 81 ∧ (fun v w1 => ∃ (d : Str), (d.length ≤ 17) ∧ (fun v _ => v = St (d)) v w1) v w1)) := by
 refine enter (N := 8) Try.func79 rfl rfl rfl ?_
 intro a0 ha0
 have hx0 := Stp.rfl' w0 (some g_s)
 have hgl_s := h_s.lt
 refine wp_seq ?_
 refine wp_region_lit ?_
 refine wl_val ha0 rfl rfl rfl (op_assign ha0 rfl rfl) ?_
 intro a1 ha1; clear ha0 a0
 refine wpList_nil ?_
 refine then_n ?_
 refine wp_seq ?_
 refine wp_region_lit ?_
 refine wl_eff ha1 rfl rfl rfl (op_buildSlice (s := shStr) (xs := [([97, 100, 97] : Str), ([98, 111] : Str), ([99, 121] : Str), ([97, 100, 97] : Str), ([98, 111] : Str), ([110, 111, 98, 111, 100, 121] : Str), ([] : Str)]) (cs := [St (([97, 100, 97] : Str)), St (([98, 111] : Str)), St (([99, 121] : Str)), St (([97, 100, 97] : Str)), St (([98, 111] : Str)), St (([110, 111, 98, 111, 100, 121] : Str)), St (([] : Str))]) (vs := [(0, St (([97, 100, 97] : Str))), (1, St (([98, 111] : Str))), (2, St (([99, 121] : Str))), (3, St (([97, 100, 97] : Str))), (4, St (([98, 111] : Str))), (5, St (([110, 111, 98, 111, 100, 121] : Str))), (6, St (([] : Str)))]) (S := fun _ => False) (le := w0.heap.size) ha1 rfl pos_shStr Try.underlying52 ti9 rfl rfl (by decide) (by kernel_rfl) ⟨mk_shStr (([97, 100, 97] : Str)) (by first | omega | (simp only []; omega) | (simp; done)), mk_shStr (([98, 111] : Str)) (by first | omega | (simp only []; omega) | (simp; done)), mk_shStr (([99, 121] : Str)) (by first | omega | (simp only []; omega) | (simp; done)), mk_shStr (([97, 100, 97] : Str)) (by first | omega | (simp only []; omega) | (simp; done)), mk_shStr (([98, 111] : Str)) (by first | omega | (simp only []; omega) | (simp; done)), mk_shStr (([110, 111, 98, 111, 100, 121] : Str)) (by first | omega | (simp only []; omega) | (simp; done)), mk_shStr (([] : Str)) (by first | omega | (simp only []; omega) | (simp; done)), rfl⟩ (fun _ h => h.elim)) ?_
 rintro v2 w3 ⟨ho4, he5, hob6⟩ a7 ha7; clear ha1 a1
 have hx8 := hx0.trans' (Stp.of_ext he5 _)
 have hzhx8 := he5.size
 replace h_s := h_s.ext he5
 refine wl_val ha7 rfl rfl rfl (op_move ha7 rfl rfl) ?_
 intro a9 ha9; clear ha7 a7
 refine wl_callS ha9 rfl rfl rfl (op_call ha9 rfl cb73 rfl) (c_spec_l01Next _ g_s b_s (7 : Int) h_s) ?_
 rintro v10 w11 he12 ⟨hS13, ⟨q14, hq15, hq16, hq17, rfl⟩⟩ a18 ha18; clear ha9 a9
 have hx19 := hx8.trans' he12
 have hzhx19 := he12.size
 first | replace ho4 := ho4.stp he12 (by intro q hq; cases hq; omega) | replace ho4 := ho4.stpF flat_shStr he12 (by intro q hq; cases hq; exact ho4.ne_box (by assumption) rfl)
 have hSlhS13 := hS13.lt
 obtain ⟨x20, hx20⟩ := get_ex (xs := [([97, 100, 97] : Str), ([98, 111] : Str), ([99, 121] : Str), ([97, 100, 97] : Str), ([98, 111] : Str), ([110, 111, 98, 111, 100, 121] : Str), ([] : Str)]) (j := ((q14 : Int)).toNat) (by first | omega | (simp only [List.length_cons, List.length_nil]; omega))
 obtain ⟨p21, c22, hi23, hc24, hr25, hs26⟩ := Rds.at_ (ho4.rds pos_shStr) hx20
 obtain ⟨rfl, b27⟩ := inv_shStr hr25
 obtain ⟨_, _⟩ : _ ∧ _ := hs26
 have hdlx20 := el_len 17 (by rfl) hx20
 refine wl_val ha18 rfl rfl rfl (op_indexAddr ha18 rfl Try.underlying52 ti9 rfl rfl (by omega) hi23) ?_
 intro a28 ha28; clear ha18 a18
 refine wl_val ha28 rfl rfl rfl (op_loadH ha28 rfl Try.underlying9 rfl rfl hc24 rfl) ?_
 intro a29 ha29; clear ha28 a28
 refine wl_val ha29 rfl rfl rfl (op_assign ha29 rfl rfl) ?_
 intro a30 ha30; clear ha29 a29
 refine wpList_nil ?_
 refine then_n ?_
 refine wp_ret ?_
 refine ret1 ha30 rfl rfl ?_
 clear ha30 a30
 refine ret_mkS hx19 ⟨hS13, ?_⟩
 refine ⟨(x20 : Str), (by first | omega | (simp; omega)), ?_⟩
 exact (congrArg St (by rfl))


end Go.Proofs.Ytocedhbefdaefaa
