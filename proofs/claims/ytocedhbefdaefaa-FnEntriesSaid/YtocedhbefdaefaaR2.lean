/- Words and day books drawn. -/
import Derived.Test.YtocedhbefdaefaaR1
import Derived.Test.YtocedhbefdaefaaW4
import Derived.Test.YtocedhbefdaefaaNarrow
namespace Go.Proofs.Ytocedhbefdaefaa
open Go Go.RowKit

theorem el_len {xs : List Str} {i : Nat} {x : Str} (n : Nat) (h : (xs.all fun s => decide (s.length ≤ n)) = true) (hx : xs[i]? = some x) : x.length ≤ n := by
  rw [List.all_eq_true] at h
  simpa using h x (List.mem_of_getElem? hx)

theorem ret_tc {fn : Func} {R : Ending → World → Prop} {N : Nat} {a : Act} {w : World} {l : List (Nat × Value)} {P : Program} {t0 : Tmp} {v0 : Value} {t1 : Tmp} {e1 : TypeId} {fs1 : Array Field} {p1 : Addr} {cs1 : List Value} {sz1 by1 : Nat} {z1 : Value}
    (ha : Sl N a l) (hr : fn.results = #[.tmp t0, .cell t1 e1]) (x0 : lk l t0 = some v0) (x1 : lk l t1 = some (.pointer (some p1))) (T1 : P.underlying e1 = some (.struct fs1)) (E1 : TI P e1 sz1 by1 z1) (l1 : cs1.length = sz1) (c1 : CellsAt w p1 cs1)
    (h : R (.returned (.tuple #[v0, .agg cs1.toArray])) w) : bodyPost P fn R .ret a w := by
  subst l1
  have e0' := ha.get t0 _ x0
  have e1' := ha.get t1 _ x1
  rw [Array.getD_eq_getD_getElem?] at e0' e1'
  refine ⟨ha.defers, _, ?_, h⟩
  simp [results, hr, e0', e1', asAddr, loadVar, isAgg, run_underlying T1, E1.sizeOf, run_loadCells_list w p1 cs1 (fun j v hv => c1 j v hv)]

theorem add_ok {xs : List Ent} {e : Ent} (h : addC xs e = 0) : dbB xs = true ∧ xs.length < 60 ∧ dbB (xs ++ [e]) = true ∧ addL xs e = xs ++ [e] := by
  unfold addC at h
  split at h
  · rename_i h1
    have hl := dbB_len h1
    split at h
    · cases h
    · rename_i h2
      split at h
      · rename_i h3
        refine ⟨h1, by omega, h3, ?_⟩
        unfold addL; rw [if_pos h1, if_neg h2, if_pos h3]
      · cases h
  · cases h
theorem add_db {xs : List Ent} {e : Ent} (h : addC xs e = 0) : dbB (addL xs e) = true := by
  have h1 := add_ok h; rw [h1.2.2.2]; exact h1.2.2.1

set_option maxHeartbeats 8000000 in
theorem c_spec_l01Good (w0 : World) (g_s b_s : Nat) (h_s : Src w0 g_s b_s 81) :
  Calls Try.prog 80 #[.pointer (some (⟨g_s, 0, none⟩ : Addr))] w0 (RetS w0 (some g_s) (fun v w1 => Src w1 g_s b_s 81 ∧ (fun v w1 => ∃ (d : Str), (d.length ≤ 17) ∧ (fun v _ => v = St (d)) v w1) v w1)) := by
 refine enter (N := 8) Try.func80 rfl rfl rfl ?_
 intro a0 ha0
 have hx0 := Stp.rfl' w0 (some g_s)
 have hgl_s := h_s.lt
 refine wp_seq ?_
 refine wp_region_lit ?_
 refine wl_val ha0 rfl rfl rfl (op_assign ha0 rfl rfl) ?_
 intro a1 ha1; clear ha0 a0
 refine wpList_nil ?_
 refine then_n ?_
 refine wp_seq ?_
 refine wp_region_lit ?_
 refine wl_eff ha1 rfl rfl rfl (op_buildSlice (s := shStr) (xs := [([97, 100, 97] : Str), ([98, 114, 117, 110, 111] : Str), ([99, 108, 97, 114, 97] : Str), ([100, 111, 114, 97] : Str), ([101, 109, 105, 108] : Str), ([102, 114, 105, 100, 97] : Str), ([103, 117, 115, 116, 97, 118] : Str), ([104, 97, 110, 110, 97] : Str), ([105, 118, 97, 110] : Str), ([106, 97, 110, 97] : Str), ([107, 97, 114, 108] : Str), ([108, 101, 110, 97] : Str)]) (cs := [St (([97, 100, 97] : Str)), St (([98, 114, 117, 110, 111] : Str)), St (([99, 108, 97, 114, 97] : Str)), St (([100, 111, 114, 97] : Str)), St (([101, 109, 105, 108] : Str)), St (([102, 114, 105, 100, 97] : Str)), St (([103, 117, 115, 116, 97, 118] : Str)), St (([104, 97, 110, 110, 97] : Str)), St (([105, 118, 97, 110] : Str)), St (([106, 97, 110, 97] : Str)), St (([107, 97, 114, 108] : Str)), St (([108, 101, 110, 97] : Str))]) (vs := [(0, St (([97, 100, 97] : Str))), (1, St (([98, 114, 117, 110, 111] : Str))), (2, St (([99, 108, 97, 114, 97] : Str))), (3, St (([100, 111, 114, 97] : Str))), (4, St (([101, 109, 105, 108] : Str))), (5, St (([102, 114, 105, 100, 97] : Str))), (6, St (([103, 117, 115, 116, 97, 118] : Str))), (7, St (([104, 97, 110, 110, 97] : Str))), (8, St (([105, 118, 97, 110] : Str))), (9, St (([106, 97, 110, 97] : Str))), (10, St (([107, 97, 114, 108] : Str))), (11, St (([108, 101, 110, 97] : Str)))]) (S := fun _ => False) (le := w0.heap.size) ha1 rfl pos_shStr Try.underlying52 ti9 rfl rfl (by decide) (by kernel_rfl) ⟨mk_shStr (([97, 100, 97] : Str)) (by first | omega | (simp only []; omega) | (simp; done)), mk_shStr (([98, 114, 117, 110, 111] : Str)) (by first | omega | (simp only []; omega) | (simp; done)), mk_shStr (([99, 108, 97, 114, 97] : Str)) (by first | omega | (simp only []; omega) | (simp; done)), mk_shStr (([100, 111, 114, 97] : Str)) (by first | omega | (simp only []; omega) | (simp; done)), mk_shStr (([101, 109, 105, 108] : Str)) (by first | omega | (simp only []; omega) | (simp; done)), mk_shStr (([102, 114, 105, 100, 97] : Str)) (by first | omega | (simp only []; omega) | (simp; done)), mk_shStr (([103, 117, 115, 116, 97, 118] : Str)) (by first | omega | (simp only []; omega) | (simp; done)), mk_shStr (([104, 97, 110, 110, 97] : Str)) (by first | omega | (simp only []; omega) | (simp; done)), mk_shStr (([105, 118, 97, 110] : Str)) (by first | omega | (simp only []; omega) | (simp; done)), mk_shStr (([106, 97, 110, 97] : Str)) (by first | omega | (simp only []; omega) | (simp; done)), mk_shStr (([107, 97, 114, 108] : Str)) (by first | omega | (simp only []; omega) | (simp; done)), mk_shStr (([108, 101, 110, 97] : Str)) (by first | omega | (simp only []; omega) | (simp; done)), rfl⟩ (fun _ h => h.elim)) ?_
 rintro v2 w3 ⟨ho4, he5, hob6⟩ a7 ha7; clear ha1 a1
 have hx8 := hx0.trans' (Stp.of_ext he5 _)
 have hzhx8 := he5.size
 replace h_s := h_s.ext he5
 refine wl_val ha7 rfl rfl rfl (op_move ha7 rfl rfl) ?_
 intro a9 ha9; clear ha7 a7
 refine wl_callS ha9 rfl rfl rfl (op_call ha9 rfl cb73 rfl) (c_spec_l01Next _ g_s b_s (12 : Int) h_s) ?_
 rintro v10 w11 he12 ⟨hS13, ⟨q14, hq15, hq16, hq17, rfl⟩⟩ a18 ha18; clear ha9 a9
 have hx19 := hx8.trans' he12
 have hzhx19 := he12.size
 first | replace ho4 := ho4.stp he12 (by intro q hq; cases hq; omega) | replace ho4 := ho4.stpF flat_shStr he12 (by intro q hq; cases hq; exact ho4.ne_box (by assumption) rfl)
 have hSlhS13 := hS13.lt
 obtain ⟨x20, hx20⟩ := get_ex (xs := [([97, 100, 97] : Str), ([98, 114, 117, 110, 111] : Str), ([99, 108, 97, 114, 97] : Str), ([100, 111, 114, 97] : Str), ([101, 109, 105, 108] : Str), ([102, 114, 105, 100, 97] : Str), ([103, 117, 115, 116, 97, 118] : Str), ([104, 97, 110, 110, 97] : Str), ([105, 118, 97, 110] : Str), ([106, 97, 110, 97] : Str), ([107, 97, 114, 108] : Str), ([108, 101, 110, 97] : Str)]) (j := ((q14 : Int)).toNat) (by first | omega | (simp only [List.length_cons, List.length_nil]; omega))
 obtain ⟨p21, c22, hi23, hc24, hr25, hs26⟩ := Rds.at_ (ho4.rds pos_shStr) hx20
 obtain ⟨rfl, b27⟩ := inv_shStr hr25
 obtain ⟨_, _⟩ : _ ∧ _ := hs26
 have hdlx20 := el_len 17 (by rfl) hx20
 refine wl_val ha18 rfl rfl rfl (op_indexAddr ha18 rfl Try.underlying52 ti9 rfl rfl (by omega) hi23) ?_
 intro a28 ha28; clear ha18 a18
 refine wl_val ha28 rfl rfl rfl (op_loadH ha28 rfl Try.underlying9 rfl rfl hc24 rfl) ?_
 intro a29 ha29; clear ha28 a28
 refine wl_val ha29 rfl rfl rfl (op_assign ha29 rfl rfl) ?_
 intro a30 ha30; clear ha29 a29
 refine wpList_nil ?_
 refine then_n ?_
 refine wp_ret ?_
 refine ret1 ha30 rfl rfl ?_
 clear ha30 a30
 refine ret_mkS hx19 ⟨hS13, ?_⟩
 refine ⟨(x20 : Str), (by first | omega | (simp; omega)), ?_⟩
 exact (congrArg St (by rfl))

set_option maxHeartbeats 8000000 in
theorem c_spec_l01DrawWord (w0 : World) (g_s b_s : Nat) (h_s : Src w0 g_s b_s 81) :
  Calls Try.prog 78 #[.pointer (some (⟨g_s, 0, none⟩ : Addr))] w0 (RetS w0 (some g_s) (fun v w1 => Src w1 g_s b_s 81 ∧ (fun v w1 => ∃ (d : Str), (d.length ≤ 17) ∧ (fun v _ => v = St (d)) v w1) v w1)) := by
 refine enter (N := 13) Try.func78 rfl rfl rfl ?_
 intro a0 ha0
 have hx0 := Stp.rfl' w0 (some g_s)
 have hgl_s := h_s.lt
 refine wp_seq ?_
 refine wp_region_lit ?_
 refine wl_val ha0 rfl rfl rfl (op_assign ha0 rfl rfl) ?_
 intro a1 ha1; clear ha0 a0
 refine wpList_nil ?_
 refine then_n ?_
 refine wp_seq ?_
 refine wp_seq ?_
 refine wp_region_lit ?_
 refine wl_val ha1 rfl rfl rfl (op_move ha1 rfl rfl) ?_
 intro a2 ha2; clear ha1 a1
 refine wl_callS ha2 rfl rfl rfl (op_call ha2 rfl cb73 rfl) (c_spec_l01Next _ g_s b_s (24 : Int) h_s) ?_
 rintro v3 w4 he5 ⟨hS6, ⟨q7, hq8, hq9, hq10, rfl⟩⟩ a11 ha11; clear ha2 a2
 have hx12 := hx0.trans' he5
 have hzhx12 := he5.size
 have hSlhS6 := hS6.lt
 refine wl_val ha11 rfl rfl rfl (op_eql ha11 rfl rfl rfl) ?_
 intro a13 ha13; clear ha11 a11
 refine wpList_nil ?_
 refine then_n ?_
 by_cases c14 : (q7 : Int) = (0 : Int)
 ·
  rw [decide_eq_true c14] at ha13
  refine cond_t ha13 rfl ?_
  refine wp_seq ?_
  refine wp_region_lit ?_
  refine wl_eff ha13 rfl rfl rfl (op_buildSlice (s := shStr) (xs := [([] : Str), ([65, 100, 97] : Str), ([97, 49] : Str), ([97, 98, 99, 100, 101, 102, 103, 104, 105, 106, 107, 108, 109, 110, 111, 112] : Str), ([97, 98, 99, 100, 101, 102, 103, 104, 105, 106, 107, 108, 109, 110, 111, 112, 113] : Str), ([97, 32, 98] : Str)]) (cs := [St (([] : Str)), St (([65, 100, 97] : Str)), St (([97, 49] : Str)), St (([97, 98, 99, 100, 101, 102, 103, 104, 105, 106, 107, 108, 109, 110, 111, 112] : Str)), St (([97, 98, 99, 100, 101, 102, 103, 104, 105, 106, 107, 108, 109, 110, 111, 112, 113] : Str)), St (([97, 32, 98] : Str))]) (vs := [(0, St (([] : Str))), (1, St (([65, 100, 97] : Str))), (2, St (([97, 49] : Str))), (3, St (([97, 98, 99, 100, 101, 102, 103, 104, 105, 106, 107, 108, 109, 110, 111, 112] : Str))), (4, St (([97, 98, 99, 100, 101, 102, 103, 104, 105, 106, 107, 108, 109, 110, 111, 112, 113] : Str))), (5, St (([97, 32, 98] : Str)))]) (S := fun _ => False) (le := w4.heap.size) ha13 rfl pos_shStr Try.underlying52 ti9 rfl rfl (by decide) (by kernel_rfl) ⟨mk_shStr (([] : Str)) (by first | omega | (simp only []; omega) | (simp; done)), mk_shStr (([65, 100, 97] : Str)) (by first | omega | (simp only []; omega) | (simp; done)), mk_shStr (([97, 49] : Str)) (by first | omega | (simp only []; omega) | (simp; done)), mk_shStr (([97, 98, 99, 100, 101, 102, 103, 104, 105, 106, 107, 108, 109, 110, 111, 112] : Str)) (by first | omega | (simp only []; omega) | (simp; done)), mk_shStr (([97, 98, 99, 100, 101, 102, 103, 104, 105, 106, 107, 108, 109, 110, 111, 112, 113] : Str)) (by first | omega | (simp only []; omega) | (simp; done)), mk_shStr (([97, 32, 98] : Str)) (by first | omega | (simp only []; omega) | (simp; done)), rfl⟩ (fun _ h => h.elim)) ?_
  rintro v15 w16 ⟨ho17, he18, hob19⟩ a20 ha20; clear ha13 a13
  have hx21 := hx12.trans' (Stp.of_ext he18 _)
  have hzhx21 := he18.size
  replace hS6 := hS6.ext he18
  refine wl_val ha20 rfl rfl rfl (op_move ha20 rfl rfl) ?_
  intro a22 ha22; clear ha20 a20
  refine wl_callS ha22 rfl rfl rfl (op_call ha22 rfl cb73 rfl) (c_spec_l01Next _ g_s b_s (6 : Int) hS6) ?_
  rintro v23 w24 he25 ⟨hS26, ⟨q27, hq28, hq29, hq30, rfl⟩⟩ a31 ha31; clear ha22 a22
  have hx32 := hx21.trans' he25
  have hzhx32 := he25.size
  first | replace ho17 := ho17.stp he25 (by intro q hq; cases hq; omega) | replace ho17 := ho17.stpF flat_shStr he25 (by intro q hq; cases hq; exact ho17.ne_box (by assumption) rfl)
  clear hS6
  have hSlhS26 := hS26.lt
  obtain ⟨x33, hx33⟩ := get_ex (xs := [([] : Str), ([65, 100, 97] : Str), ([97, 49] : Str), ([97, 98, 99, 100, 101, 102, 103, 104, 105, 106, 107, 108, 109, 110, 111, 112] : Str), ([97, 98, 99, 100, 101, 102, 103, 104, 105, 106, 107, 108, 109, 110, 111, 112, 113] : Str), ([97, 32, 98] : Str)]) (j := ((q27 : Int)).toNat) (by first | omega | (simp only [List.length_cons, List.length_nil]; omega))
  obtain ⟨p34, c35, hi36, hc37, hr38, hs39⟩ := Rds.at_ (ho17.rds pos_shStr) hx33
  obtain ⟨rfl, b40⟩ := inv_shStr hr38
  obtain ⟨_, _⟩ : _ ∧ _ := hs39
  have hdlx33 := el_len 17 (by rfl) hx33
  refine wl_val ha31 rfl rfl rfl (op_indexAddr ha31 rfl Try.underlying52 ti9 rfl rfl (by omega) hi36) ?_
  intro a41 ha41; clear ha31 a31
  refine wl_val ha41 rfl rfl rfl (op_loadH ha41 rfl Try.underlying9 rfl rfl hc37 rfl) ?_
  intro a42 ha42; clear ha41 a41
  refine wl_val ha42 rfl rfl rfl (op_assign ha42 rfl rfl) ?_
  intro a43 ha43; clear ha42 a42
  refine wpList_nil ?_
  refine then_n ?_
  refine wp_ret ?_
  refine then_r ?_
  refine ret1 ha43 rfl rfl ?_
  clear ha43 a43
  refine ret_mkS hx32 ⟨hS26, ?_⟩
  refine ⟨(x33 : Str), (by first | omega | (simp; omega)), ?_⟩
  exact (congrArg St (by rfl))
 ·
  rw [decide_eq_false c14] at ha13
  refine cond_f ha13 rfl ?_
  refine wp_skip ?_
  refine then_n ?_
  refine wp_seq ?_
  refine wp_region_lit ?_
  refine wl_val ha13 rfl rfl rfl (op_move ha13 rfl rfl) ?_
  intro a44 ha44; clear ha13 a13
  refine wl_callS ha44 rfl rfl rfl (op_call ha44 rfl cb80 rfl) (c_spec_l01Good _ g_s b_s hS6) ?_
  rintro v45 w46 he47 ⟨hS48, ⟨q49, hq50, rfl⟩⟩ a51 ha51; clear ha44 a44
  have hx52 := hx12.trans' he47
  have hzhx52 := he47.size
  clear hS6
  have hSlhS48 := hS48.lt
  refine wl_val ha51 rfl rfl rfl (op_assign ha51 rfl rfl) ?_
  intro a53 ha53; clear ha51 a51
  refine wpList_nil ?_
  refine then_n ?_
  refine wp_ret ?_
  refine ret1 ha53 rfl rfl ?_
  clear ha53 a53
  refine ret_mkS hx52 ⟨hS48, ?_⟩
  refine ⟨((q49) : Str), (by first | omega | (simp; omega)), ?_⟩
  exact (congrArg St (by rfl))

set_option maxHeartbeats 8000000 in
theorem c_spec_l33Good (w0 : World) (g_s b_s : Nat) (h_s : Src w0 g_s b_s 81) :
  Calls Try.prog 77 #[.pointer (some (⟨g_s, 0, none⟩ : Addr))] w0 (RetS w0 (some g_s) (fun v w1 => Src w1 g_s b_s 81 ∧ (fun v w1 => ∃ (l : List Ent), (dbB l = true) ∧ (fun v w1 => Own shEnt 41 w0.heap.size w0.heap.size w1.heap.size w1 v (l)) v w1) v w1)) := by
 refine enter (N := 72) Try.func77 rfl rfl rfl ?_
 intro a0 ha0
 have hx0 := Stp.rfl' w0 (some g_s)
 have hgl_s := h_s.lt
 refine wp_seq ?_
 refine wp_region_lit ?_
 refine wl_val ha0 rfl rfl rfl (op_assign ha0 rfl rfl) ?_
 intro a1 ha1; clear ha0 a0
 refine wpList_nil ?_
 refine then_n ?_
 refine wp_seq ?_
 refine wp_region_lit ?_
 refine wl_eff ha1 rfl rfl rfl (op_buildSlice (s := shEnt) (xs := ([] : List (Int × Int × Str × Int))) (cs := []) (vs := []) (S := fun _ => False) (le := w0.heap.size) ha1 rfl pos_shEnt Try.underlying25 ti41 rfl rfl (by decide) (by kernel_rfl) rfl (fun _ h => h.elim)) ?_
 rintro v2 w3 ⟨ho4, he5, hob6⟩ a7 ha7; clear ha1 a1
 have hx8 := hx0.trans' (Stp.of_ext he5 _)
 have hzhx8 := he5.size
 replace h_s := h_s.ext he5
 refine wl_val ha7 rfl rfl rfl (op_assign ha7 rfl rfl) ?_
 intro a9 ha9; clear ha7 a7
 refine wpList_nil ?_
 refine then_n ?_
 refine wp_seq ?_
 refine wp_region_lit ?_
 refine wl_val ha9 rfl rfl rfl (op_move ha9 rfl rfl) ?_
 intro a10 ha10; clear ha9 a9
 refine wl_callS ha10 rfl rfl rfl (op_call ha10 rfl cb73 rfl) (c_spec_l01Next _ g_s b_s (20 : Int) h_s) ?_
 rintro v11 w12 he13 ⟨hS14, ⟨q15, hq16, hq17, hq18, rfl⟩⟩ a19 ha19; clear ha10 a10
 have hx20 := hx8.trans' he13
 have hzhx20 := he13.size
 first | replace ho4 := ho4.stp he13 (by intro q hq; cases hq; omega) | replace ho4 := ho4.stpF flat_shEnt he13 (by intro q hq; cases hq; exact ho4.ne_box (by assumption) rfl)
 have hSlhS14 := hS14.lt
 refine wl_val ha19 rfl rfl rfl (op_assign ha19 rfl rfl) ?_
 intro a21 ha21; clear ha19 a19
 refine wpList_nil ?_
 refine then_n ?_
 refine wp_seq ?_
 refine wp_seq ?_
 refine wp_region_lit ?_
 refine wl_val ha21 rfl rfl rfl (op_move ha21 rfl rfl) ?_
 intro a22 ha22; clear ha21 a21
 refine wl_callS ha22 rfl rfl rfl (op_call ha22 rfl cb73 rfl) (c_spec_l01Next _ g_s b_s (12 : Int) hS14) ?_
 rintro v23 w24 he25 ⟨hS26, ⟨q27, hq28, hq29, hq30, rfl⟩⟩ a31 ha31; clear ha22 a22
 have hx32 := hx20.trans' he25
 have hzhx32 := he25.size
 first | replace ho4 := ho4.stp he25 (by intro q hq; cases hq; omega) | replace ho4 := ho4.stpF flat_shEnt he25 (by intro q hq; cases hq; exact ho4.ne_box (by assumption) rfl)
 clear hS14
 have hSlhS26 := hS26.lt
 refine wl_val ha31 rfl rfl rfl (op_assign ha31 rfl rfl) ?_
 intro a33 ha33; clear ha31 a31
 refine wpList_nil ?_
 refine then_n ?_
 refine wp_block ?_
 refine loop_inv (X := Int × Int × Value × (List Ent)) (fun (⟨m, d, v, xs⟩ : Int × Int × Value × (List Ent)) fr wl => Sl 72 fr [(0, .pointer (some (⟨g_s, 0, none⟩ : Addr))), (3, v), (4, .int .i64 d), (5, .int .i64 m)] ∧ Stp w0 wl (some g_s) ∧ Src wl g_s b_s 81 ∧ Own shEnt 41 w0.heap.size w0.heap.size wl.heap.size wl v xs ∧ w24.heap.size ≤ wl.heap.size ∧ (0 ≤ m) ∧ (m ≤ 12) ∧ (0 ≤ d) ∧ (d + 2 * m ≤ 100) ∧ (dbB xs = true)) (fun (⟨m, d, v, xs⟩ : Int × Int × Value × (List Ent)) => m.toNat) ((q27 : Int), (q15 : Int), v2, ([] : List (Int × Int × Str × Int))) ?_ ?_
 ·
  exact ⟨(Sl.cons_ ha33 rfl rfl (Sl.cons_ ha33 rfl rfl (Sl.cons_ ha33 rfl (int_eq (by omega)) (Sl.cons_ ha33 rfl (int_eq (by omega)) (Sl.nil_ ha33))))), hx32, hS26, (ho4.fin (by omega) (by omega) (by omega)), (by omega), (by omega), (by omega), (by omega), (by omega), (by rfl)⟩
 ·
  clear ha33 a33
  rintro ⟨m, d, v, xs⟩ a38 w34 ⟨ha38, hx35, hf36, hf37, hzl39, hm0, hm1, hd0, hd1, hV⟩
  have hzhx35 := hx35.size
  have hgl40 := hf36.lt
  have hlv := dbB_len hV
  have hev := dbB_ent hV
  refine wp_seq ?_
  refine wp_seq ?_
  refine wp_region_lit ?_
  refine wl_val ha38 rfl rfl rfl (op_move ha38 rfl rfl) ?_
  intro a41 ha41; clear ha38 a38
  refine wl_val ha41 rfl rfl rfl (op_gtr ha41 rfl rfl rfl) ?_
  intro a42 ha42; clear ha41 a41
  refine wpList_nil ?_
  refine then_n ?_
  by_cases c43 : (0 : Int) < m
  ·
   rw [decide_eq_true c43] at ha42
   refine cond_t ha42 rfl ?_
   refine wp_skip ?_
   refine then_n ?_
   refine wp_seq ?_
   refine wp_block ?_
   refine seq_mid (fun fr wl => ∃ (g44 : Nat) (q45 : Int) (q46 : Str) (q47 : Int), Sl 72 fr [(0, .pointer (some (⟨g_s, 0, none⟩ : Addr))), (3, v), (4, .int .i64 d), (5, .int .i64 m), (6, .pointer (some (⟨g44, 0, none⟩ : Addr)))] ∧ Stp w0 wl (some g_s) ∧ Src wl g_s b_s 81 ∧ Own shEnt 41 w0.heap.size w0.heap.size w34.heap.size wl v xs ∧ Box wl g44 41 [.int .i64 d, .int .i64 (q45 : Int), St q46, .int .i64 ((100 : Int) * ((1 : Int) + (q47 : Int)))] ∧ w34.heap.size ≤ g44 ∧ (0 : Int) ≤ q45 ∧ q45 ≤ (100 : Int) ∧ q46.length ≤ 17 ∧ (0 : Int) ≤ q47 ∧ q47 ≤ (100 : Int) ∧ w34.heap.size ≤ wl.heap.size) ?_ ?_
   ·
    refine dr_enter (fun wa_ wb_ => Stp wa_ wb_ (some g_s)) follows_mixed ?_
    intro w53 he54
    have hx55 := hx35.trans' (Stp.of_ext he54 _)
    have hzhx55 := he54.size
    replace hf36 := hf36.ext he54
    replace hf37 := hf37.ext he54
    have hs56 : Ext w53 w53 := Ext.rfl' _
    refine dr_share (fun fr wl S => ∃ (g57 : Nat) (q58 : Int) (q59 : Str) (q60 : Int), S = (fun w' => StpL wl w' (fun i => i = g_s ∨ i = g57)) ∧ Sl 72 fr [(0, .pointer (some (⟨g_s, 0, none⟩ : Addr))), (3, v), (4, .int .i64 d), (5, .int .i64 m), (6, .pointer (some (⟨g57, 0, none⟩ : Addr))), (32, .agg #[.int .i64 d, .int .i64 (q58 : Int), St q59, .int .i64 ((100 : Int) * ((1 : Int) + (q60 : Int)))])] ∧ Stp w0 wl (some g_s) ∧ Src wl g_s b_s 81 ∧ Own shEnt 41 w0.heap.size w0.heap.size w34.heap.size wl v xs ∧ Box wl g57 41 [.int .i64 (0 : Int), .int .i64 (0 : Int), St (([] : Str)), .int .i64 (0 : Int)] ∧ (w53.heap.size ≤ g57) ∧ ((0 : Int) ≤ q58) ∧ (q58 ≤ (100 : Int)) ∧ (q59.length ≤ 17) ∧ ((0 : Int) ≤ q60) ∧ (q60 ≤ (100 : Int)) ∧ (q58 ∈ ([(0 : Int), (0 : Int), (1 : Int), (2 : Int), (3 : Int)])) ∧ (0 ≤ q60) ∧ ((30 : Int) ≤ 1 → q60 = 0) ∧ (1 < (30 : Int) → q60 < (30 : Int)) ∧ w53.heap.size ≤ wl.heap.size) 1 #[true, true, true, true, true, true, true, true, true, true, true, true, true, true, true, false] ?_ ?_
    ·
     rintro a79 w61 _ ⟨g57, q58, q59, q60, rfl, ha79, hx62, hf63, hf64, hf65, hg67, hg68, hg69, hg70, hg71, hg72, hg73, hg74, hg75, hg76, hzl66⟩
     try simp only [List.mem_cons, List.not_mem_nil, or_false] at hg73
     have hzhx62 := hx62.size
     have hgl77 := hf63.lt
     have hgl78 := hf65.lt
     have hs80 : Ext w61 w61 := Ext.rfl' _
     refine dr_one (i := 15) (by kernel_rfl) ?_
     refine po_effS ha79 rfl rfl rfl (op_storeAll' ha79 rfl ti41 rfl rfl hf65 rfl rfl (by simp [Value.oneCell']) rfl) ?_
     rintro w81 ⟨hb83, hst82, hz84⟩
     have hx85 := hx62.fresh hst82 (by intro q hq; cases hq; exact (by omega))
     have hzhx85 := hst82.size
     replace hf63 := hf63.stp hst82 (by intro q hq; cases hq; omega)
     first | replace hf64 := hf64.stp hst82 (by intro q hq; cases hq; omega) | replace hf64 := hf64.stpF flat_shEnt hst82 (by intro q hq; cases hq; exact hf64.ne_box (by assumption) rfl)
     clear hf65
     have hs86 := (StpL.of_ext (B := fun i => i = g_s ∨ i = g57) hs80).trans' (Stp.toL hst82 (by intro q hq; cases hq; exact Or.inr (rfl)))
     refine ⟨hs86, ?_⟩
     refine dr_narrow (S' := fun w' => StpL w81 w' _) (fun w' h' => hs86.trans' h') _ _ _ _ ?_
     have hs87 : Ext w81 w81 := Ext.rfl' _
     refine dr_end (by kernel_rfl) ?_
     refine then_n ?_
     exact ⟨g57, q58, q59, q60, (Sl.cons_ ha79 rfl rfl (Sl.cons_ ha79 rfl rfl (Sl.cons_ ha79 rfl rfl (Sl.cons_ ha79 rfl rfl (Sl.cons_ ha79 rfl rfl (Sl.nil_ ha79)))))), hx85, hf63, (hf64.fin (by omega) (by omega) (by omega)), hb83, (by omega), (by omega), (by omega), (by omega), (by omega), (by omega), (by omega)⟩
    intro hk88
    refine dr_share (fun fr wl S => ∃ (q89 : Int) (q90 : Str) (q91 : Int), S = (fun w' => Stp wl w' (some g_s)) ∧ Sl 72 fr [(0, .pointer (some (⟨g_s, 0, none⟩ : Addr))), (3, v), (4, .int .i64 d), (5, .int .i64 m), (32, .agg #[.int .i64 d, .int .i64 (q89 : Int), St q90, .int .i64 ((100 : Int) * ((1 : Int) + (q91 : Int)))])] ∧ Stp w0 wl (some g_s) ∧ Src wl g_s b_s 81 ∧ Own shEnt 41 w0.heap.size w0.heap.size w34.heap.size wl v xs ∧ ((0 : Int) ≤ q89) ∧ (q89 ≤ (100 : Int)) ∧ (q90.length ≤ 17) ∧ ((0 : Int) ≤ q91) ∧ (q91 ≤ (100 : Int)) ∧ (q89 ∈ ([(0 : Int), (0 : Int), (1 : Int), (2 : Int), (3 : Int)])) ∧ (0 ≤ q91) ∧ ((30 : Int) ≤ 1 → q91 = 0) ∧ (1 < (30 : Int) → q91 < (30 : Int)) ∧ w53.heap.size ≤ wl.heap.size) 2 #[true, true, true, true, true, true, true, true, true, true, true, true, true, true, false, false] ?_ ?_
    ·
     rintro a107 w92 _ ⟨q89, q90, q91, rfl, ha107, hx93, hf94, hf95, hg97, hg98, hg99, hg100, hg101, hg102, hg103, hg104, hg105, hzl96⟩
     try simp only [List.mem_cons, List.not_mem_nil, or_false] at hg102
     have hzhx93 := hx93.size
     have hgl106 := hf94.lt
     have hs108 : Ext w92 w92 := Ext.rfl' _
     refine dr_one (i := 14) (by kernel_rfl) ?_
     refine po_eff ha107 rfl rfl rfl rfl (op_alloc' rfl ti41 rfl) ?_
     rintro _ w109 ⟨rfl, he110, hb111, hz112⟩ a113 ha113; clear ha107 a107
     have hs114 := hs108.trans' he110
     have hx115 := hx93.trans' (Stp.of_ext he110 _)
     have hzhx115 := he110.size
     refine ⟨(Stp.of_ext hs114 _), ?_⟩
     replace hf94 := hf94.ext hs114
     replace hf95 := hf95.ext hs114
     refine dr_narrow (S' := fun w' => StpL w109 w' (fun i => i = g_s ∨ i = w92.heap.size)) (fun w' h' => ((Stp.of_ext hs114 _)).freshL h' (by intro i hi; rcases hi with q | q <;> first | (exact Or.inl (congrArg some q.symm)) | (right; omega))) _ _ _ _ ?_
     have hs116 : Ext w109 w109 := Ext.rfl' _
     exact dr_listed (by kernel_rfl) (hk88 _ _ _ ⟨w92.heap.size, q89, q90, q91, rfl, (Sl.cons_ ha113 rfl rfl (Sl.cons_ ha113 rfl rfl (Sl.cons_ ha113 rfl rfl (Sl.cons_ ha113 rfl rfl (Sl.cons_ ha113 rfl rfl (Sl.cons_ ha113 rfl rfl (Sl.nil_ ha113))))))), hx115, hf94, (hf95.fin (by omega) (by omega) (by omega)), hb111, (by omega), (by omega), (by omega), (by omega), (by omega), (by omega), (by first | assumption | omega | (simp only [List.mem_cons, List.not_mem_nil, or_false]; omega) | (constructor <;> omega)), (by omega), (by first | assumption | omega | (simp only [List.mem_cons, List.not_mem_nil, or_false]; omega) | (constructor <;> omega)), (by omega), (by omega)⟩)
    intro hk117
    refine dr_share (fun fr wl S => ∃ (g118 : Nat) (q119 : Int) (q120 : Str), S = (fun w' => StpL wl w' (fun i => i = g_s ∨ i = g118)) ∧ Sl 72 fr [(0, .pointer (some (⟨g_s, 0, none⟩ : Addr))), (3, v), (4, .int .i64 d), (5, .int .i64 m), (6, .pointer (some (⟨g118, 0, none⟩ : Addr))), (19, .int .i64 d), (22, .int .i64 (q119 : Int)), (27, St q120), (28, .pointer (some (⟨g_s, 0, none⟩ : Addr)))] ∧ Stp w0 wl (some g_s) ∧ Src wl g_s b_s 81 ∧ Own shEnt 41 w0.heap.size w0.heap.size w34.heap.size wl v xs ∧ Box wl g118 41 [.int .i64 (0 : Int), .int .i64 (0 : Int), St (([] : Str)), .int .i64 (0 : Int)] ∧ (w53.heap.size ≤ g118) ∧ ((0 : Int) ≤ q119) ∧ (q119 ≤ (100 : Int)) ∧ (q120.length ≤ 17) ∧ (q119 ∈ ([(0 : Int), (0 : Int), (1 : Int), (2 : Int), (3 : Int)])) ∧ w53.heap.size ≤ wl.heap.size) 5 #[true, true, true, true, true, true, true, true, true, true, false, false, false, false, true, false] ?_ ?_
    ·
     rintro a134 w121 _ ⟨g118, q119, q120, rfl, ha134, hx122, hf123, hf124, hf125, hg127, hg128, hg129, hg130, hg131, hzl126⟩
     try simp only [List.mem_cons, List.not_mem_nil, or_false] at hg131
     have hzhx122 := hx122.size
     have hgl132 := hf123.lt
     have hgl133 := hf125.lt
     have hs135 : Ext w121 w121 := Ext.rfl' _
     refine dr_one (i := 10) (by kernel_rfl) ?_
     refine po_callS ha134 rfl rfl rfl rfl (op_call ha134 rfl cb73 rfl) (c_spec_l01Next _ g_s b_s (30 : Int) hf123) ?_
     rintro v136 w137 he138 ⟨hS139, ⟨q140, hq141, hq142, hq143, rfl⟩⟩ a144 ha144; clear ha134 a134
     have hx145 := hx122.trans' he138
     have hzhx145 := he138.size
     first | replace hf124 := hf124.stp he138 (by intro q hq; cases hq; omega) | replace hf124 := hf124.stpF flat_shEnt he138 (by intro q hq; cases hq; exact hf124.ne_box (by assumption) rfl)
     replace hf125 := hf125.stp he138 (by intro q hq; cases hq; omega)
     clear hf123
     have hSlhS139 := hS139.lt
     have hs146 := (StpL.of_ext (B := fun i => i = g_s ∨ i = g118) hs135).trans' (Stp.toL he138 (by intro q hq; cases hq; exact Or.inl rfl))
     refine ⟨hs146, ?_⟩
     refine dr_narrow (S' := fun w' => StpL w137 w' _) (fun w' h' => hs146.trans' h') _ _ _ _ ?_
     have hs147 : Ext w137 w137 := Ext.rfl' _
     refine dr_val (i := 11) ha144 rfl (by kernel_rfl) (by kernel_rfl) (by kernel_rfl) rfl rfl rfl (StpL.of_ext hs147) (fun w' hw' => (op_add ha144 rfl rfl rfl).int (IntWalk.i64_in _ (by omega))) ?_
     intro a148 ha148; clear ha144 a144
     refine dr_val (i := 12) ha148 rfl (by kernel_rfl) (by kernel_rfl) (by kernel_rfl) rfl rfl rfl (StpL.of_ext hs147) (fun w' hw' => (op_mul ha148 rfl rfl rfl).int (IntWalk.i64_in _ (by omega))) ?_
     intro a149 ha149; clear ha148 a148
     refine dr_val (i := 13) ha149 rfl (by kernel_rfl) (by kernel_rfl) (by kernel_rfl) rfl rfl rfl (StpL.of_ext hs147) (fun w' hw' => op_build (vs := [(0, .int .i64 d), (1, .int .i64 (q119 : Int)), (2, St q120), (3, .int .i64 ((100 : Int) * ((1 : Int) + (q140 : Int))))]) (cs := #[.int .i64 d, .int .i64 (q119 : Int), St q120, .int .i64 ((100 : Int) * ((1 : Int) + (q140 : Int)))]) ha149 rfl Try.underlying41 ti41 bp41 rfl rfl) ?_
     intro a150 ha150; clear ha149 a149
     exact dr_listed (by kernel_rfl) (hk88 _ _ _ ⟨g118, q119, q120, q140, rfl, (Sl.cons_ ha150 rfl rfl (Sl.cons_ ha150 rfl rfl (Sl.cons_ ha150 rfl rfl (Sl.cons_ ha150 rfl rfl (Sl.cons_ ha150 rfl rfl (Sl.cons_ ha150 rfl rfl (Sl.nil_ ha150))))))), hx145, hS139, (hf124.fin (by omega) (by omega) (by omega)), hf125, (by omega), (by omega), (by omega), (by omega), (by omega), (by omega), (by first | assumption | omega | (simp only [List.mem_cons, List.not_mem_nil, or_false]; omega) | (constructor <;> omega)), (by omega), (by first | assumption | omega | (simp only [List.mem_cons, List.not_mem_nil, or_false]; omega) | (constructor <;> omega)), (by omega), (by omega)⟩)
    intro hk151
    refine dr_share (fun fr wl S => ∃ (g152 : Nat) (q153 : Int) (q154 : Int) (q155 : Int), S = (fun w' => StpL wl w' (fun i => i = g_s ∨ i = g152)) ∧ Sl 72 fr [(0, .pointer (some (⟨g_s, 0, none⟩ : Addr))), (3, v), (4, .int .i64 d), (5, .int .i64 m), (6, .pointer (some (⟨g152, 0, none⟩ : Addr))), (19, .int .i64 d), (22, .int .i64 (q153 : Int)), (25, .int .i64 (q154 : Int)), (31, .int .i64 ((100 : Int) * ((1 : Int) + (q155 : Int))))] ∧ Stp w0 wl (some g_s) ∧ Src wl g_s b_s 81 ∧ Own shEnt 41 w0.heap.size w0.heap.size w34.heap.size wl v xs ∧ Box wl g152 41 [.int .i64 (0 : Int), .int .i64 (0 : Int), St (([] : Str)), .int .i64 (0 : Int)] ∧ (w53.heap.size ≤ g152) ∧ ((0 : Int) ≤ q153) ∧ (q153 ≤ (100 : Int)) ∧ ((0 : Int) ≤ q154) ∧ (q154 ≤ (100 : Int)) ∧ ((0 : Int) ≤ q155) ∧ (q155 ≤ (100 : Int)) ∧ (q153 ∈ ([(0 : Int), (0 : Int), (1 : Int), (2 : Int), (3 : Int)])) ∧ (0 ≤ q154) ∧ ((3 : Int) ≤ 1 → q154 = 0) ∧ (1 < (3 : Int) → q154 < (3 : Int)) ∧ (0 ≤ q155) ∧ ((30 : Int) ≤ 1 → q155 = 0) ∧ (1 < (30 : Int) → q155 < (30 : Int)) ∧ w53.heap.size ≤ wl.heap.size) 5 #[true, true, true, true, false, true, true, false, false, true, true, true, true, false, true, false] ?_ ?_
    ·
     rintro a178 w156 _ ⟨g152, q153, q154, q155, rfl, ha178, hx157, hf158, hf159, hf160, hg162, hg163, hg164, hg165, hg166, hg167, hg168, hg169, hg170, hg171, hg172, hg173, hg174, hg175, hzl161⟩
     try simp only [List.mem_cons, List.not_mem_nil, or_false] at hg169
     have hzhx157 := hx157.size
     have hgl176 := hf158.lt
     have hgl177 := hf160.lt
     have hs179 : Ext w156 w156 := Ext.rfl' _
     refine dr_one (i := 4) (by kernel_rfl) ?_
     refine po_eff ha178 rfl rfl rfl rfl (op_buildSlice (s := shStr) (xs := [([97, 100, 97] : Str), ([98, 111] : Str), ([99, 121] : Str)]) (cs := [St (([97, 100, 97] : Str)), St (([98, 111] : Str)), St (([99, 121] : Str))]) (vs := [(0, St (([97, 100, 97] : Str))), (1, St (([98, 111] : Str))), (2, St (([99, 121] : Str)))]) (S := fun _ => False) (le := w156.heap.size) ha178 rfl pos_shStr Try.underlying52 ti9 rfl rfl (by decide) (by kernel_rfl) ⟨mk_shStr (([97, 100, 97] : Str)) (by first | assumption | omega | (constructor <;> omega) | (dsimp only; omega) | (simp; done) | (simp; omega)), mk_shStr (([98, 111] : Str)) (by first | assumption | omega | (constructor <;> omega) | (dsimp only; omega) | (simp; done) | (simp; omega)), mk_shStr (([99, 121] : Str)) (by first | assumption | omega | (constructor <;> omega) | (dsimp only; omega) | (simp; done) | (simp; omega)), rfl⟩ (fun _ h => h.elim)) ?_
     rintro v180 w181 ⟨ho182, he183, hob184⟩ a185 ha185; clear ha178 a178
     have hs186 := hs179.trans' he183
     have hx187 := hx157.trans' (Stp.of_ext he183 _)
     have hzhx187 := he183.size
     refine ⟨(StpL.of_ext hs186), ?_⟩
     replace hf158 := hf158.ext hs186
     replace hf159 := hf159.ext hs186
     replace hf160 := hf160.ext hs186
     refine dr_narrow (S' := fun w' => StpL w181 w' _) (fun w' h' => (StpL.of_ext hs186).trans' h') _ _ _ _ ?_
     have hs188 : Ext w181 w181 := Ext.rfl' _
     obtain ⟨x189, hx189⟩ := get_ex (xs := [([97, 100, 97] : Str), ([98, 111] : Str), ([99, 121] : Str)]) (j := ((q154 : Int)).toNat) (by first | omega | (simp only [List.length_cons, List.length_nil]; omega))
     obtain ⟨p190, c191, hi192, hc193, hr194, hs195⟩ := Rds.at_ (ho182.rds pos_shStr) hx189
     obtain ⟨rfl, b196⟩ := inv_shStr hr194
     obtain ⟨_, _⟩ : _ ∧ _ := hs195
     have hdlx189 := el_len 17 (by rfl) hx189
     refine dr_val (i := 7) ha185 rfl (by kernel_rfl) (by kernel_rfl) (by kernel_rfl) rfl rfl rfl (StpL.of_ext hs188) (fun w' hw' => op_indexAddr ha185 rfl Try.underlying52 ti9 rfl rfl (by omega) hi192) ?_
     intro a197 ha197; clear ha185 a185
     refine dr_val (i := 8) ha197 rfl (by kernel_rfl) (by kernel_rfl) (by kernel_rfl) rfl rfl rfl (StpL.of_ext hs188) (fun w' hw' => op_loadH ha197 rfl Try.underlying9 rfl rfl (hc193.stpL hw' (by rintro (q | q) <;> first | omega)) rfl) ?_
     intro a198 ha198; clear ha197 a197
     refine dr_val (i := 13) ha198 rfl (by kernel_rfl) (by kernel_rfl) (by kernel_rfl) rfl rfl rfl (StpL.of_ext hs188) (fun w' hw' => op_build (vs := [(0, .int .i64 d), (1, .int .i64 (q153 : Int)), (2, St x189), (3, .int .i64 ((100 : Int) * ((1 : Int) + (q155 : Int))))]) (cs := #[.int .i64 d, .int .i64 (q153 : Int), St x189, .int .i64 ((100 : Int) * ((1 : Int) + (q155 : Int)))]) ha198 rfl Try.underlying41 ti41 bp41 rfl rfl) ?_
     intro a199 ha199; clear ha198 a198
     exact dr_listed (by kernel_rfl) (hk88 _ _ _ ⟨g152, q153, x189, q155, rfl, (Sl.cons_ ha199 rfl rfl (Sl.cons_ ha199 rfl rfl (Sl.cons_ ha199 rfl rfl (Sl.cons_ ha199 rfl rfl (Sl.cons_ ha199 rfl rfl (Sl.cons_ ha199 rfl rfl (Sl.nil_ ha199))))))), hx187, hf158, (hf159.fin (by omega) (by omega) (by omega)), hf160, (by omega), (by omega), (by omega), (by omega), (by omega), (by omega), (by first | assumption | omega | (simp only [List.mem_cons, List.not_mem_nil, or_false]; omega) | (constructor <;> omega)), (by omega), (by first | assumption | omega | (simp only [List.mem_cons, List.not_mem_nil, or_false]; omega) | (constructor <;> omega)), (by omega), (by omega)⟩)
    intro hk200
    refine dr_share (fun fr wl S => ∃ (q201 : Int) (q202 : Str), S = (fun w' => Stp wl w' (some g_s)) ∧ Sl 72 fr [(0, .pointer (some (⟨g_s, 0, none⟩ : Addr))), (3, v), (4, .int .i64 d), (5, .int .i64 m), (19, .int .i64 d), (22, .int .i64 (q201 : Int)), (27, St q202), (28, .pointer (some (⟨g_s, 0, none⟩ : Addr)))] ∧ Stp w0 wl (some g_s) ∧ Src wl g_s b_s 81 ∧ Own shEnt 41 w0.heap.size w0.heap.size w34.heap.size wl v xs ∧ ((0 : Int) ≤ q201) ∧ (q201 ≤ (100 : Int)) ∧ (q202.length ≤ 17) ∧ (q201 ∈ ([(0 : Int), (0 : Int), (1 : Int), (2 : Int), (3 : Int)])) ∧ w53.heap.size ≤ wl.heap.size) 6 #[true, true, true, true, true, true, true, true, true, true, false, false, false, false, false, false] ?_ ?_
    ·
     rintro a213 w203 _ ⟨q201, q202, rfl, ha213, hx204, hf205, hf206, hg208, hg209, hg210, hg211, hzl207⟩
     try simp only [List.mem_cons, List.not_mem_nil, or_false] at hg211
     have hzhx204 := hx204.size
     have hgl212 := hf205.lt
     have hs214 : Ext w203 w203 := Ext.rfl' _
     refine dr_two (i := 10) (j := 14) (by kernel_rfl) ?_ ?_
     ·
      refine po_callS ha213 rfl rfl rfl rfl (op_call ha213 rfl cb73 rfl) (c_spec_l01Next _ g_s b_s (30 : Int) hf205) ?_
      rintro v215 w216 he217 ⟨hS218, ⟨q219, hq220, hq221, hq222, rfl⟩⟩ a223 ha223; clear ha213 a213
      have hx224 := hx204.trans' he217
      have hzhx224 := he217.size
      first | replace hf206 := hf206.stp he217 (by intro q hq; cases hq; omega) | replace hf206 := hf206.stpF flat_shEnt he217 (by intro q hq; cases hq; exact hf206.ne_box (by assumption) rfl)
      clear hf205
      have hSlhS218 := hS218.lt
      have hs225 := (Stp.of_ext hs214 (some g_s)).trans' he217
      refine ⟨hs225, ?_⟩
      refine dr_narrow (S' := fun w' => Stp w216 w' _) (fun w' h' => hs225.trans' h') _ _ _ _ ?_
      have hs226 : Ext w216 w216 := Ext.rfl' _
      refine dr_val (i := 11) ha223 rfl (by kernel_rfl) (by kernel_rfl) (by kernel_rfl) rfl rfl rfl (Stp.of_ext hs226 _) (fun w' hw' => (op_add ha223 rfl rfl rfl).int (IntWalk.i64_in _ (by omega))) ?_
      intro a227 ha227; clear ha223 a223
      refine dr_val (i := 12) ha227 rfl (by kernel_rfl) (by kernel_rfl) (by kernel_rfl) rfl rfl rfl (Stp.of_ext hs226 _) (fun w' hw' => (op_mul ha227 rfl rfl rfl).int (IntWalk.i64_in _ (by omega))) ?_
      intro a228 ha228; clear ha227 a227
      refine dr_val (i := 13) ha228 rfl (by kernel_rfl) (by kernel_rfl) (by kernel_rfl) rfl rfl rfl (Stp.of_ext hs226 _) (fun w' hw' => op_build (vs := [(0, .int .i64 d), (1, .int .i64 (q201 : Int)), (2, St q202), (3, .int .i64 ((100 : Int) * ((1 : Int) + (q219 : Int))))]) (cs := #[.int .i64 d, .int .i64 (q201 : Int), St q202, .int .i64 ((100 : Int) * ((1 : Int) + (q219 : Int)))]) ha228 rfl Try.underlying41 ti41 bp41 rfl rfl) ?_
      intro a229 ha229; clear ha228 a228
      exact dr_listed (by kernel_rfl) (hk117 _ _ _ ⟨q201, q202, q219, rfl, (Sl.cons_ ha229 rfl rfl (Sl.cons_ ha229 rfl rfl (Sl.cons_ ha229 rfl rfl (Sl.cons_ ha229 rfl rfl (Sl.cons_ ha229 rfl rfl (Sl.nil_ ha229)))))), hx224, hS218, (hf206.fin (by omega) (by omega) (by omega)), (by omega), (by omega), (by omega), (by omega), (by omega), (by first | assumption | omega | (simp only [List.mem_cons, List.not_mem_nil, or_false]; omega) | (constructor <;> omega)), (by omega), (by first | assumption | omega | (simp only [List.mem_cons, List.not_mem_nil, or_false]; omega) | (constructor <;> omega)), (by omega), (by omega)⟩)
     ·
      refine po_eff ha213 rfl rfl rfl rfl (op_alloc' rfl ti41 rfl) ?_
      rintro _ w230 ⟨rfl, he231, hb232, hz233⟩ a234 ha234; clear ha213 a213
      have hs235 := hs214.trans' he231
      have hx236 := hx204.trans' (Stp.of_ext he231 _)
      have hzhx236 := he231.size
      refine ⟨(Stp.of_ext hs235 _), ?_⟩
      replace hf205 := hf205.ext hs235
      replace hf206 := hf206.ext hs235
      refine dr_narrow (S' := fun w' => StpL w230 w' (fun i => i = g_s ∨ i = w203.heap.size)) (fun w' h' => ((Stp.of_ext hs235 _)).freshL h' (by intro i hi; rcases hi with q | q <;> first | (exact Or.inl (congrArg some q.symm)) | (right; omega))) _ _ _ _ ?_
      have hs237 : Ext w230 w230 := Ext.rfl' _
      exact dr_listed (by kernel_rfl) (hk151 _ _ _ ⟨w203.heap.size, q201, q202, rfl, (Sl.cons_ ha234 rfl rfl (Sl.cons_ ha234 rfl rfl (Sl.cons_ ha234 rfl rfl (Sl.cons_ ha234 rfl rfl (Sl.cons_ ha234 rfl rfl (Sl.cons_ ha234 rfl rfl (Sl.cons_ ha234 rfl rfl (Sl.cons_ ha234 rfl rfl (Sl.cons_ ha234 rfl rfl (Sl.nil_ ha234)))))))))), hx236, hf205, (hf206.fin (by omega) (by omega) (by omega)), hb232, (by omega), (by omega), (by omega), (by omega), (by first | assumption | omega | (simp only [List.mem_cons, List.not_mem_nil, or_false]; omega) | (constructor <;> omega)), (by omega)⟩)
    intro hk238
    refine dr_share (fun fr wl S => ∃ (g239 : Nat) (q240 : Int) (q241 : Value) (n244 n245 : Nat), S = (fun w' => StpL wl w' (fun i => i = g_s ∨ i = g239)) ∧ Sl 72 fr [(0, .pointer (some (⟨g_s, 0, none⟩ : Addr))), (3, v), (4, .int .i64 d), (5, .int .i64 m), (6, .pointer (some (⟨g239, 0, none⟩ : Addr))), (19, .int .i64 d), (22, .int .i64 (q240 : Int)), (23, q241), (24, .pointer (some (⟨g_s, 0, none⟩ : Addr))), (28, .pointer (some (⟨g_s, 0, none⟩ : Addr)))] ∧ Stp w0 wl (some g_s) ∧ Src wl g_s b_s 81 ∧ Own shEnt 41 w0.heap.size w0.heap.size w34.heap.size wl v xs ∧ Box wl g239 41 [.int .i64 (0 : Int), .int .i64 (0 : Int), St (([] : Str)), .int .i64 (0 : Int)] ∧ Own shStr 9 n244 n244 n245 wl q241 ([([97, 100, 97] : Str), ([98, 111] : Str), ([99, 121] : Str)]) ∧ (w53.heap.size ≤ g239) ∧ ((0 : Int) ≤ q240) ∧ (q240 ≤ (100 : Int)) ∧ (q240 ∈ ([(0 : Int), (0 : Int), (1 : Int), (2 : Int), (3 : Int)])) ∧ (w53.heap.size ≤ n244) ∧ (n245 ≤ wl.heap.size) ∧ (g239 < n244 ∨ n245 ≤ g239) ∧ w53.heap.size ≤ wl.heap.size) 8 #[true, true, true, true, true, true, false, false, false, true, false, false, false, false, true, false] ?_ ?_
    ·
     rintro a260 w242 _ ⟨g239, q240, q241, n244, n245, rfl, ha260, hx243, hf246, hf247, hf248, hf249, hg251, hg252, hg253, hg254, hg255, hg256, hg257, hzl250⟩
     try simp only [List.mem_cons, List.not_mem_nil, or_false] at hg254
     have hzhx243 := hx243.size
     have hgl258 := hf246.lt
     have hgl259 := hf248.lt
     have hs261 : Ext w242 w242 := Ext.rfl' _
     refine dr_one (i := 6) (by kernel_rfl) ?_
     refine po_callS ha260 rfl rfl rfl rfl (op_call ha260 rfl cb73 rfl) (c_spec_l01Next _ g_s b_s (3 : Int) hf246) ?_
     rintro v262 w263 he264 ⟨hS265, ⟨q266, hq267, hq268, hq269, rfl⟩⟩ a270 ha270; clear ha260 a260
     have hx271 := hx243.trans' he264
     have hzhx271 := he264.size
     first | replace hf247 := hf247.stp he264 (by intro q hq; cases hq; omega) | replace hf247 := hf247.stpF flat_shEnt he264 (by intro q hq; cases hq; exact hf247.ne_box (by assumption) rfl)
     replace hf248 := hf248.stp he264 (by intro q hq; cases hq; omega)
     first | replace hf249 := hf249.stp he264 (by intro q hq; cases hq; omega) | replace hf249 := hf249.stpF flat_shStr he264 (by intro q hq; cases hq; exact hf249.ne_box (by assumption) rfl)
     clear hf246
     have hSlhS265 := hS265.lt
     have hs272 := (StpL.of_ext (B := fun i => i = g_s ∨ i = g239) hs261).trans' (Stp.toL he264 (by intro q hq; cases hq; exact Or.inl rfl))
     refine ⟨hs272, ?_⟩
     refine dr_narrow (S' := fun w' => StpL w263 w' _) (fun w' h' => hs272.trans' h') _ _ _ _ ?_
     have hs273 : Ext w263 w263 := Ext.rfl' _
     obtain ⟨x274, hx274⟩ := get_ex (xs := [([97, 100, 97] : Str), ([98, 111] : Str), ([99, 121] : Str)]) (j := ((q266 : Int)).toNat) (by first | omega | (simp only [List.length_cons, List.length_nil]; omega))
     obtain ⟨p275, c276, hi277, hc278, hr279, hs280⟩ := Rds.at_ (hf249.rds pos_shStr) hx274
     obtain ⟨rfl, b281⟩ := inv_shStr hr279
     obtain ⟨_, _⟩ : _ ∧ _ := hs280
     have hdlx274 := el_len 17 (by rfl) hx274
     refine dr_val (i := 7) ha270 rfl (by kernel_rfl) (by kernel_rfl) (by kernel_rfl) rfl rfl rfl (StpL.of_ext hs273) (fun w' hw' => op_indexAddr ha270 rfl Try.underlying52 ti9 rfl rfl (by omega) hi277) ?_
     intro a282 ha282; clear ha270 a270
     refine dr_val (i := 8) ha282 rfl (by kernel_rfl) (by kernel_rfl) (by kernel_rfl) rfl rfl rfl (StpL.of_ext hs273) (fun w' hw' => op_loadH ha282 rfl Try.underlying9 rfl rfl (hc278.stpL hw' (by rintro (q | q) <;> first | omega)) rfl) ?_
     intro a283 ha283; clear ha282 a282
     exact dr_listed (by kernel_rfl) (hk151 _ _ _ ⟨g239, q240, x274, rfl, (Sl.cons_ ha283 rfl rfl (Sl.cons_ ha283 rfl rfl (Sl.cons_ ha283 rfl rfl (Sl.cons_ ha283 rfl rfl (Sl.cons_ ha283 rfl rfl (Sl.cons_ ha283 rfl rfl (Sl.cons_ ha283 rfl rfl (Sl.cons_ ha283 rfl rfl (Sl.cons_ ha283 rfl rfl (Sl.nil_ ha283)))))))))), hx271, hS265, (hf247.fin (by omega) (by omega) (by omega)), hf248, (by omega), (by omega), (by omega), (by omega), (by first | assumption | omega | (simp only [List.mem_cons, List.not_mem_nil, or_false]; omega) | (constructor <;> omega)), (by omega)⟩)
    intro hk284
    refine dr_share (fun fr wl S => ∃ (g285 : Nat) (q286 : Int) (q287 : Int), S = (fun w' => StpL wl w' (fun i => i = g_s ∨ i = g285)) ∧ Sl 72 fr [(0, .pointer (some (⟨g_s, 0, none⟩ : Addr))), (3, v), (4, .int .i64 d), (5, .int .i64 m), (6, .pointer (some (⟨g285, 0, none⟩ : Addr))), (19, .int .i64 d), (22, .int .i64 (q286 : Int)), (25, .int .i64 (q287 : Int)), (28, .pointer (some (⟨g_s, 0, none⟩ : Addr)))] ∧ Stp w0 wl (some g_s) ∧ Src wl g_s b_s 81 ∧ Own shEnt 41 w0.heap.size w0.heap.size w34.heap.size wl v xs ∧ Box wl g285 41 [.int .i64 (0 : Int), .int .i64 (0 : Int), St (([] : Str)), .int .i64 (0 : Int)] ∧ (w53.heap.size ≤ g285) ∧ ((0 : Int) ≤ q286) ∧ (q286 ≤ (100 : Int)) ∧ ((0 : Int) ≤ q287) ∧ (q287 ≤ (100 : Int)) ∧ (q286 ∈ ([(0 : Int), (0 : Int), (1 : Int), (2 : Int), (3 : Int)])) ∧ (0 ≤ q287) ∧ ((3 : Int) ≤ 1 → q287 = 0) ∧ (1 < (3 : Int) → q287 < (3 : Int)) ∧ w53.heap.size ≤ wl.heap.size) 8 #[true, true, true, true, false, true, true, false, false, true, false, false, false, false, true, false] ?_ ?_
    ·
     rintro a305 w288 _ ⟨g285, q286, q287, rfl, ha305, hx289, hf290, hf291, hf292, hg294, hg295, hg296, hg297, hg298, hg299, hg300, hg301, hg302, hzl293⟩
     try simp only [List.mem_cons, List.not_mem_nil, or_false] at hg299
     have hzhx289 := hx289.size
     have hgl303 := hf290.lt
     have hgl304 := hf292.lt
     have hs306 : Ext w288 w288 := Ext.rfl' _
     refine dr_two (i := 4) (j := 10) (by kernel_rfl) ?_ ?_
     ·
      refine po_eff ha305 rfl rfl rfl rfl (op_buildSlice (s := shStr) (xs := [([97, 100, 97] : Str), ([98, 111] : Str), ([99, 121] : Str)]) (cs := [St (([97, 100, 97] : Str)), St (([98, 111] : Str)), St (([99, 121] : Str))]) (vs := [(0, St (([97, 100, 97] : Str))), (1, St (([98, 111] : Str))), (2, St (([99, 121] : Str)))]) (S := fun _ => False) (le := w288.heap.size) ha305 rfl pos_shStr Try.underlying52 ti9 rfl rfl (by decide) (by kernel_rfl) ⟨mk_shStr (([97, 100, 97] : Str)) (by first | assumption | omega | (constructor <;> omega) | (dsimp only; omega) | (simp; done) | (simp; omega)), mk_shStr (([98, 111] : Str)) (by first | assumption | omega | (constructor <;> omega) | (dsimp only; omega) | (simp; done) | (simp; omega)), mk_shStr (([99, 121] : Str)) (by first | assumption | omega | (constructor <;> omega) | (dsimp only; omega) | (simp; done) | (simp; omega)), rfl⟩ (fun _ h => h.elim)) ?_
      rintro v307 w308 ⟨ho309, he310, hob311⟩ a312 ha312; clear ha305 a305
      have hs313 := hs306.trans' he310
      have hx314 := hx289.trans' (Stp.of_ext he310 _)
      have hzhx314 := he310.size
      refine ⟨(StpL.of_ext hs313), ?_⟩
      replace hf290 := hf290.ext hs313
      replace hf291 := hf291.ext hs313
      replace hf292 := hf292.ext hs313
      refine dr_narrow (S' := fun w' => StpL w308 w' _) (fun w' h' => (StpL.of_ext hs313).trans' h') _ _ _ _ ?_
      have hs315 : Ext w308 w308 := Ext.rfl' _
      obtain ⟨x316, hx316⟩ := get_ex (xs := [([97, 100, 97] : Str), ([98, 111] : Str), ([99, 121] : Str)]) (j := ((q287 : Int)).toNat) (by first | omega | (simp only [List.length_cons, List.length_nil]; omega))
      obtain ⟨p317, c318, hi319, hc320, hr321, hs322⟩ := Rds.at_ (ho309.rds pos_shStr) hx316
      obtain ⟨rfl, b323⟩ := inv_shStr hr321
      obtain ⟨_, _⟩ : _ ∧ _ := hs322
      have hdlx316 := el_len 17 (by rfl) hx316
      refine dr_val (i := 7) ha312 rfl (by kernel_rfl) (by kernel_rfl) (by kernel_rfl) rfl rfl rfl (StpL.of_ext hs315) (fun w' hw' => op_indexAddr ha312 rfl Try.underlying52 ti9 rfl rfl (by omega) hi319) ?_
      intro a324 ha324; clear ha312 a312
      refine dr_val (i := 8) ha324 rfl (by kernel_rfl) (by kernel_rfl) (by kernel_rfl) rfl rfl rfl (StpL.of_ext hs315) (fun w' hw' => op_loadH ha324 rfl Try.underlying9 rfl rfl (hc320.stpL hw' (by rintro (q | q) <;> first | omega)) rfl) ?_
      intro a325 ha325; clear ha324 a324
      exact dr_listed (by kernel_rfl) (hk151 _ _ _ ⟨g285, q286, x316, rfl, (Sl.cons_ ha325 rfl rfl (Sl.cons_ ha325 rfl rfl (Sl.cons_ ha325 rfl rfl (Sl.cons_ ha325 rfl rfl (Sl.cons_ ha325 rfl rfl (Sl.cons_ ha325 rfl rfl (Sl.cons_ ha325 rfl rfl (Sl.cons_ ha325 rfl rfl (Sl.cons_ ha325 rfl rfl (Sl.nil_ ha325)))))))))), hx314, hf290, (hf291.fin (by omega) (by omega) (by omega)), hf292, (by omega), (by omega), (by omega), (by omega), (by first | assumption | omega | (simp only [List.mem_cons, List.not_mem_nil, or_false]; omega) | (constructor <;> omega)), (by omega)⟩)
     ·
      refine po_callS ha305 rfl rfl rfl rfl (op_call ha305 rfl cb73 rfl) (c_spec_l01Next _ g_s b_s (30 : Int) hf290) ?_
      rintro v326 w327 he328 ⟨hS329, ⟨q330, hq331, hq332, hq333, rfl⟩⟩ a334 ha334; clear ha305 a305
      have hx335 := hx289.trans' he328
      have hzhx335 := he328.size
      first | replace hf291 := hf291.stp he328 (by intro q hq; cases hq; omega) | replace hf291 := hf291.stpF flat_shEnt he328 (by intro q hq; cases hq; exact hf291.ne_box (by assumption) rfl)
      replace hf292 := hf292.stp he328 (by intro q hq; cases hq; omega)
      clear hf290
      have hSlhS329 := hS329.lt
      have hs336 := (StpL.of_ext (B := fun i => i = g_s ∨ i = g285) hs306).trans' (Stp.toL he328 (by intro q hq; cases hq; exact Or.inl rfl))
      refine ⟨hs336, ?_⟩
      refine dr_narrow (S' := fun w' => StpL w327 w' _) (fun w' h' => hs336.trans' h') _ _ _ _ ?_
      have hs337 : Ext w327 w327 := Ext.rfl' _
      refine dr_val (i := 11) ha334 rfl (by kernel_rfl) (by kernel_rfl) (by kernel_rfl) rfl rfl rfl (StpL.of_ext hs337) (fun w' hw' => (op_add ha334 rfl rfl rfl).int (IntWalk.i64_in _ (by omega))) ?_
      intro a338 ha338; clear ha334 a334
      refine dr_val (i := 12) ha338 rfl (by kernel_rfl) (by kernel_rfl) (by kernel_rfl) rfl rfl rfl (StpL.of_ext hs337) (fun w' hw' => (op_mul ha338 rfl rfl rfl).int (IntWalk.i64_in _ (by omega))) ?_
      intro a339 ha339; clear ha338 a338
      exact dr_listed (by kernel_rfl) (hk200 _ _ _ ⟨g285, q286, q287, q330, rfl, (Sl.cons_ ha339 rfl rfl (Sl.cons_ ha339 rfl rfl (Sl.cons_ ha339 rfl rfl (Sl.cons_ ha339 rfl rfl (Sl.cons_ ha339 rfl rfl (Sl.cons_ ha339 rfl rfl (Sl.cons_ ha339 rfl rfl (Sl.cons_ ha339 rfl rfl (Sl.cons_ ha339 rfl rfl (Sl.nil_ ha339)))))))))), hx335, hS329, (hf291.fin (by omega) (by omega) (by omega)), hf292, (by omega), (by omega), (by omega), (by omega), (by omega), (by omega), (by omega), (by first | assumption | omega | (simp only [List.mem_cons, List.not_mem_nil, or_false]; omega) | (constructor <;> omega)), (by omega), (by first | assumption | omega | (simp only [List.mem_cons, List.not_mem_nil, or_false]; omega) | (constructor <;> omega)), (by omega), (by omega), (by first | assumption | omega | (simp only [List.mem_cons, List.not_mem_nil, or_false]; omega) | (constructor <;> omega)), (by omega), (by omega)⟩)
    intro hk340
    refine dr_share (fun fr wl S => ∃ (q341 : Int) (q342 : Value) (n345 n346 : Nat), S = (fun w' => Stp wl w' (some g_s)) ∧ Sl 72 fr [(0, .pointer (some (⟨g_s, 0, none⟩ : Addr))), (3, v), (4, .int .i64 d), (5, .int .i64 m), (19, .int .i64 d), (22, .int .i64 (q341 : Int)), (23, q342), (24, .pointer (some (⟨g_s, 0, none⟩ : Addr))), (28, .pointer (some (⟨g_s, 0, none⟩ : Addr)))] ∧ Stp w0 wl (some g_s) ∧ Src wl g_s b_s 81 ∧ Own shEnt 41 w0.heap.size w0.heap.size w34.heap.size wl v xs ∧ Own shStr 9 n345 n345 n346 wl q342 ([([97, 100, 97] : Str), ([98, 111] : Str), ([99, 121] : Str)]) ∧ ((0 : Int) ≤ q341) ∧ (q341 ≤ (100 : Int)) ∧ (q341 ∈ ([(0 : Int), (0 : Int), (1 : Int), (2 : Int), (3 : Int)])) ∧ (w53.heap.size ≤ n345) ∧ (n346 ≤ wl.heap.size) ∧ w53.heap.size ≤ wl.heap.size) 9 #[true, true, true, true, true, true, false, false, false, true, false, false, false, false, false, false] ?_ ?_
    ·
     rintro a357 w343 _ ⟨q341, q342, n345, n346, rfl, ha357, hx344, hf347, hf348, hf349, hg351, hg352, hg353, hg354, hg355, hzl350⟩
     try simp only [List.mem_cons, List.not_mem_nil, or_false] at hg353
     have hzhx344 := hx344.size
     have hgl356 := hf347.lt
     have hs358 : Ext w343 w343 := Ext.rfl' _
     refine dr_two (i := 6) (j := 14) (by kernel_rfl) ?_ ?_
     ·
      refine po_callS ha357 rfl rfl rfl rfl (op_call ha357 rfl cb73 rfl) (c_spec_l01Next _ g_s b_s (3 : Int) hf347) ?_
      rintro v359 w360 he361 ⟨hS362, ⟨q363, hq364, hq365, hq366, rfl⟩⟩ a367 ha367; clear ha357 a357
      have hx368 := hx344.trans' he361
      have hzhx368 := he361.size
      first | replace hf348 := hf348.stp he361 (by intro q hq; cases hq; omega) | replace hf348 := hf348.stpF flat_shEnt he361 (by intro q hq; cases hq; exact hf348.ne_box (by assumption) rfl)
      first | replace hf349 := hf349.stp he361 (by intro q hq; cases hq; omega) | replace hf349 := hf349.stpF flat_shStr he361 (by intro q hq; cases hq; exact hf349.ne_box (by assumption) rfl)
      clear hf347
      have hSlhS362 := hS362.lt
      have hs369 := (Stp.of_ext hs358 (some g_s)).trans' he361
      refine ⟨hs369, ?_⟩
      refine dr_narrow (S' := fun w' => Stp w360 w' _) (fun w' h' => hs369.trans' h') _ _ _ _ ?_
      have hs370 : Ext w360 w360 := Ext.rfl' _
      obtain ⟨x371, hx371⟩ := get_ex (xs := [([97, 100, 97] : Str), ([98, 111] : Str), ([99, 121] : Str)]) (j := ((q363 : Int)).toNat) (by first | omega | (simp only [List.length_cons, List.length_nil]; omega))
      obtain ⟨p372, c373, hi374, hc375, hr376, hs377⟩ := Rds.at_ (hf349.rds pos_shStr) hx371
      obtain ⟨rfl, b378⟩ := inv_shStr hr376
      obtain ⟨_, _⟩ : _ ∧ _ := hs377
      have hdlx371 := el_len 17 (by rfl) hx371
      refine dr_val (i := 7) ha367 rfl (by kernel_rfl) (by kernel_rfl) (by kernel_rfl) rfl rfl rfl (Stp.of_ext hs370 _) (fun w' hw' => op_indexAddr ha367 rfl Try.underlying52 ti9 rfl rfl (by omega) hi374) ?_
      intro a379 ha379; clear ha367 a367
      refine dr_val (i := 8) ha379 rfl (by kernel_rfl) (by kernel_rfl) (by kernel_rfl) rfl rfl rfl (Stp.of_ext hs370 _) (fun w' hw' => op_loadH ha379 rfl Try.underlying9 rfl rfl (hc375.stp hw' (by intro q hq; cases hq; omega)) rfl) ?_
      intro a380 ha380; clear ha379 a379
      exact dr_listed (by kernel_rfl) (hk238 _ _ _ ⟨q341, x371, rfl, (Sl.cons_ ha380 rfl rfl (Sl.cons_ ha380 rfl rfl (Sl.cons_ ha380 rfl rfl (Sl.cons_ ha380 rfl rfl (Sl.cons_ ha380 rfl rfl (Sl.cons_ ha380 rfl rfl (Sl.cons_ ha380 rfl rfl (Sl.cons_ ha380 rfl rfl (Sl.nil_ ha380))))))))), hx368, hS362, (hf348.fin (by omega) (by omega) (by omega)), (by omega), (by omega), (by omega), (by first | assumption | omega | (simp only [List.mem_cons, List.not_mem_nil, or_false]; omega) | (constructor <;> omega)), (by omega)⟩)
     ·
      refine po_eff ha357 rfl rfl rfl rfl (op_alloc' rfl ti41 rfl) ?_
      rintro _ w381 ⟨rfl, he382, hb383, hz384⟩ a385 ha385; clear ha357 a357
      have hs386 := hs358.trans' he382
      have hx387 := hx344.trans' (Stp.of_ext he382 _)
      have hzhx387 := he382.size
      refine ⟨(Stp.of_ext hs386 _), ?_⟩
      replace hf347 := hf347.ext hs386
      replace hf348 := hf348.ext hs386
      replace hf349 := hf349.ext hs386
      refine dr_narrow (S' := fun w' => StpL w381 w' (fun i => i = g_s ∨ i = w343.heap.size)) (fun w' h' => ((Stp.of_ext hs386 _)).freshL h' (by intro i hi; rcases hi with q | q <;> first | (exact Or.inl (congrArg some q.symm)) | (right; omega))) _ _ _ _ ?_
      have hs388 : Ext w381 w381 := Ext.rfl' _
      exact dr_listed (by kernel_rfl) (hk284 _ _ _ ⟨w343.heap.size, q341, q342, n345, n346, rfl, (Sl.cons_ ha385 rfl rfl (Sl.cons_ ha385 rfl rfl (Sl.cons_ ha385 rfl rfl (Sl.cons_ ha385 rfl rfl (Sl.cons_ ha385 rfl rfl (Sl.cons_ ha385 rfl rfl (Sl.cons_ ha385 rfl rfl (Sl.cons_ ha385 rfl rfl (Sl.cons_ ha385 rfl rfl (Sl.cons_ ha385 rfl rfl (Sl.nil_ ha385))))))))))), hx387, hf347, (hf348.fin (by omega) (by omega) (by omega)), hb383, hf349, (by omega), (by omega), (by omega), (by first | assumption | omega | (simp only [List.mem_cons, List.not_mem_nil, or_false]; omega) | (constructor <;> omega)), (by omega), (by omega), (by omega), (by omega)⟩)
    intro hk389
    refine dr_share (fun fr wl S => ∃ (g390 : Nat) (q391 : Int), S = (fun w' => StpL wl w' (fun i => i = g_s ∨ i = g390)) ∧ Sl 72 fr [(0, .pointer (some (⟨g_s, 0, none⟩ : Addr))), (3, v), (4, .int .i64 d), (5, .int .i64 m), (6, .pointer (some (⟨g390, 0, none⟩ : Addr))), (19, .int .i64 d), (22, .int .i64 (q391 : Int)), (24, .pointer (some (⟨g_s, 0, none⟩ : Addr))), (28, .pointer (some (⟨g_s, 0, none⟩ : Addr)))] ∧ Stp w0 wl (some g_s) ∧ Src wl g_s b_s 81 ∧ Own shEnt 41 w0.heap.size w0.heap.size w34.heap.size wl v xs ∧ Box wl g390 41 [.int .i64 (0 : Int), .int .i64 (0 : Int), St (([] : Str)), .int .i64 (0 : Int)] ∧ (w53.heap.size ≤ g390) ∧ ((0 : Int) ≤ q391) ∧ (q391 ≤ (100 : Int)) ∧ (q391 ∈ ([(0 : Int), (0 : Int), (1 : Int), (2 : Int), (3 : Int)])) ∧ w53.heap.size ≤ wl.heap.size) 9 #[true, true, true, true, false, true, false, false, false, true, false, false, false, false, true, false] ?_ ?_
    ·
     rintro a404 w392 _ ⟨g390, q391, rfl, ha404, hx393, hf394, hf395, hf396, hg398, hg399, hg400, hg401, hzl397⟩
     try simp only [List.mem_cons, List.not_mem_nil, or_false] at hg401
     have hzhx393 := hx393.size
     have hgl402 := hf394.lt
     have hgl403 := hf396.lt
     have hs405 : Ext w392 w392 := Ext.rfl' _
     refine dr_two (i := 4) (j := 6) (by kernel_rfl) ?_ ?_
     ·
      refine po_eff ha404 rfl rfl rfl rfl (op_buildSlice (s := shStr) (xs := [([97, 100, 97] : Str), ([98, 111] : Str), ([99, 121] : Str)]) (cs := [St (([97, 100, 97] : Str)), St (([98, 111] : Str)), St (([99, 121] : Str))]) (vs := [(0, St (([97, 100, 97] : Str))), (1, St (([98, 111] : Str))), (2, St (([99, 121] : Str)))]) (S := fun _ => False) (le := w392.heap.size) ha404 rfl pos_shStr Try.underlying52 ti9 rfl rfl (by decide) (by kernel_rfl) ⟨mk_shStr (([97, 100, 97] : Str)) (by first | assumption | omega | (constructor <;> omega) | (dsimp only; omega) | (simp; done) | (simp; omega)), mk_shStr (([98, 111] : Str)) (by first | assumption | omega | (constructor <;> omega) | (dsimp only; omega) | (simp; done) | (simp; omega)), mk_shStr (([99, 121] : Str)) (by first | assumption | omega | (constructor <;> omega) | (dsimp only; omega) | (simp; done) | (simp; omega)), rfl⟩ (fun _ h => h.elim)) ?_
      rintro v406 w407 ⟨ho408, he409, hob410⟩ a411 ha411; clear ha404 a404
      have hs412 := hs405.trans' he409
      have hx413 := hx393.trans' (Stp.of_ext he409 _)
      have hzhx413 := he409.size
      refine ⟨(StpL.of_ext hs412), ?_⟩
      replace hf394 := hf394.ext hs412
      replace hf395 := hf395.ext hs412
      replace hf396 := hf396.ext hs412
      refine dr_narrow (S' := fun w' => StpL w407 w' _) (fun w' h' => (StpL.of_ext hs412).trans' h') _ _ _ _ ?_
      have hs414 : Ext w407 w407 := Ext.rfl' _
      exact dr_listed (by kernel_rfl) (hk284 _ _ _ ⟨g390, q391, v406, w392.heap.size, w407.heap.size, rfl, (Sl.cons_ ha411 rfl rfl (Sl.cons_ ha411 rfl rfl (Sl.cons_ ha411 rfl rfl (Sl.cons_ ha411 rfl rfl (Sl.cons_ ha411 rfl rfl (Sl.cons_ ha411 rfl rfl (Sl.cons_ ha411 rfl rfl (Sl.cons_ ha411 rfl rfl (Sl.cons_ ha411 rfl rfl (Sl.cons_ ha411 rfl rfl (Sl.nil_ ha411))))))))))), hx413, hf394, (hf395.fin (by omega) (by omega) (by omega)), hf396, ho408, (by omega), (by omega), (by omega), (by first | assumption | omega | (simp only [List.mem_cons, List.not_mem_nil, or_false]; omega) | (constructor <;> omega)), (by omega), (by omega), (by omega), (by omega)⟩)
     ·
      refine po_callS ha404 rfl rfl rfl rfl (op_call ha404 rfl cb73 rfl) (c_spec_l01Next _ g_s b_s (3 : Int) hf394) ?_
      rintro v415 w416 he417 ⟨hS418, ⟨q419, hq420, hq421, hq422, rfl⟩⟩ a423 ha423; clear ha404 a404
      have hx424 := hx393.trans' he417
      have hzhx424 := he417.size
      first | replace hf395 := hf395.stp he417 (by intro q hq; cases hq; omega) | replace hf395 := hf395.stpF flat_shEnt he417 (by intro q hq; cases hq; exact hf395.ne_box (by assumption) rfl)
      replace hf396 := hf396.stp he417 (by intro q hq; cases hq; omega)
      clear hf394
      have hSlhS418 := hS418.lt
      have hs425 := (StpL.of_ext (B := fun i => i = g_s ∨ i = g390) hs405).trans' (Stp.toL he417 (by intro q hq; cases hq; exact Or.inl rfl))
      refine ⟨hs425, ?_⟩
      refine dr_narrow (S' := fun w' => StpL w416 w' _) (fun w' h' => hs425.trans' h') _ _ _ _ ?_
      have hs426 : Ext w416 w416 := Ext.rfl' _
      exact dr_listed (by kernel_rfl) (hk340 _ _ _ ⟨g390, q391, q419, rfl, (Sl.cons_ ha423 rfl rfl (Sl.cons_ ha423 rfl rfl (Sl.cons_ ha423 rfl rfl (Sl.cons_ ha423 rfl rfl (Sl.cons_ ha423 rfl rfl (Sl.cons_ ha423 rfl rfl (Sl.cons_ ha423 rfl rfl (Sl.cons_ ha423 rfl rfl (Sl.cons_ ha423 rfl rfl (Sl.nil_ ha423)))))))))), hx424, hS418, (hf395.fin (by omega) (by omega) (by omega)), hf396, (by omega), (by omega), (by omega), (by omega), (by omega), (by first | assumption | omega | (simp only [List.mem_cons, List.not_mem_nil, or_false]; omega) | (constructor <;> omega)), (by omega), (by first | assumption | omega | (simp only [List.mem_cons, List.not_mem_nil, or_false]; omega) | (constructor <;> omega)), (by omega), (by omega)⟩)
    intro hk427
    refine dr_share (fun fr wl S => ∃ (g428 : Nat) (q429 : Value) (q430 : Value) (n433 n434 : Nat) (n435 n436 : Nat), S = (fun w' => StpL wl w' (fun i => i = g_s ∨ i = g428)) ∧ Sl 72 fr [(0, .pointer (some (⟨g_s, 0, none⟩ : Addr))), (3, v), (4, .int .i64 d), (5, .int .i64 m), (6, .pointer (some (⟨g428, 0, none⟩ : Addr))), (19, .int .i64 d), (20, .pointer (some (⟨g_s, 0, none⟩ : Addr))), (21, q429), (23, q430), (24, .pointer (some (⟨g_s, 0, none⟩ : Addr))), (28, .pointer (some (⟨g_s, 0, none⟩ : Addr)))] ∧ Stp w0 wl (some g_s) ∧ Src wl g_s b_s 81 ∧ Own shEnt 41 w0.heap.size w0.heap.size w34.heap.size wl v xs ∧ Box wl g428 41 [.int .i64 (0 : Int), .int .i64 (0 : Int), St (([] : Str)), .int .i64 (0 : Int)] ∧ Own shI64 2 n433 n433 n434 wl q429 ([(0 : Int), (0 : Int), (1 : Int), (2 : Int), (3 : Int)]) ∧ Own shStr 9 n435 n435 n436 wl q430 ([([97, 100, 97] : Str), ([98, 111] : Str), ([99, 121] : Str)]) ∧ (w53.heap.size ≤ g428) ∧ (w53.heap.size ≤ n433) ∧ (n434 ≤ wl.heap.size) ∧ (g428 < n433 ∨ n434 ≤ g428) ∧ (w53.heap.size ≤ n435) ∧ (n436 ≤ wl.heap.size) ∧ (n436 ≤ n433 ∨ n434 ≤ n435) ∧ (g428 < n435 ∨ n436 ≤ g428) ∧ w53.heap.size ≤ wl.heap.size) 9 #[true, true, true, false, true, true, false, false, false, true, false, false, false, false, true, false] ?_ ?_
    ·
     rintro a453 w431 _ ⟨g428, q429, q430, n433, n434, n435, n436, rfl, ha453, hx432, hf437, hf438, hf439, hf440, hf441, hg443, hg444, hg445, hg446, hg447, hg448, hg449, hg450, hzl442⟩
     have hzhx432 := hx432.size
     have hgl451 := hf437.lt
     have hgl452 := hf439.lt
     have hs454 : Ext w431 w431 := Ext.rfl' _
     refine dr_one (i := 3) (by kernel_rfl) ?_
     refine po_callS ha453 rfl rfl rfl rfl (op_call ha453 rfl cb72 rfl) (c_spec_l01Pick _ g_s b_s q429 ([(0 : Int), (0 : Int), (1 : Int), (2 : Int), (3 : Int)]) hf437 (hf440.rds pos_shI64) (by rintro ⟨_, _⟩; omega) (by first | assumption | omega | (constructor <;> omega) | (dsimp only; omega) | (simp; done) | (simp; omega))) ?_
     rintro v455 w456 he457 ⟨hS458, ⟨q459, hq460, rfl⟩⟩ a461 ha461; clear ha453 a453
     have hx462 := hx432.trans' he457
     have hzhx462 := he457.size
     first | replace hf438 := hf438.stp he457 (by intro q hq; cases hq; omega) | replace hf438 := hf438.stpF flat_shEnt he457 (by intro q hq; cases hq; exact hf438.ne_box (by assumption) rfl)
     replace hf439 := hf439.stp he457 (by intro q hq; cases hq; omega)
     first | replace hf440 := hf440.stp he457 (by intro q hq; cases hq; omega) | replace hf440 := hf440.stpF flat_shI64 he457 (by intro q hq; cases hq; exact hf440.ne_box (by assumption) rfl)
     first | replace hf441 := hf441.stp he457 (by intro q hq; cases hq; omega) | replace hf441 := hf441.stpF flat_shStr he457 (by intro q hq; cases hq; exact hf441.ne_box (by assumption) rfl)
     clear hf437
     have hSlhS458 := hS458.lt
     have hs463 := (StpL.of_ext (B := fun i => i = g_s ∨ i = g428) hs454).trans' (Stp.toL he457 (by intro q hq; cases hq; exact Or.inl rfl))
     refine ⟨hs463, ?_⟩
     simp only [List.mem_cons, List.not_mem_nil, or_false] at hq460
     refine dr_narrow (S' := fun w' => StpL w456 w' _) (fun w' h' => hs463.trans' h') _ _ _ _ ?_
     have hs464 : Ext w456 w456 := Ext.rfl' _
     exact dr_listed (by kernel_rfl) (hk284 _ _ _ ⟨g428, q459, q430, n435, n436, rfl, (Sl.cons_ ha461 rfl rfl (Sl.cons_ ha461 rfl rfl (Sl.cons_ ha461 rfl rfl (Sl.cons_ ha461 rfl rfl (Sl.cons_ ha461 rfl rfl (Sl.cons_ ha461 rfl rfl (Sl.cons_ ha461 rfl rfl (Sl.cons_ ha461 rfl rfl (Sl.cons_ ha461 rfl rfl (Sl.cons_ ha461 rfl rfl (Sl.nil_ ha461))))))))))), hx462, hS458, (hf438.fin (by omega) (by omega) (by omega)), hf439, hf441, (by omega), (by omega), (by omega), (by first | assumption | omega | (simp only [List.mem_cons, List.not_mem_nil, or_false]; omega) | (constructor <;> omega)), (by omega), (by omega), (by omega), (by omega)⟩)
    intro hk465
    refine dr_share (fun fr wl S => ∃ (q466 : Value) (q467 : Value) (n470 n471 : Nat) (n472 n473 : Nat), S = (fun w' => Stp wl w' (some g_s)) ∧ Sl 72 fr [(0, .pointer (some (⟨g_s, 0, none⟩ : Addr))), (3, v), (4, .int .i64 d), (5, .int .i64 m), (19, .int .i64 d), (20, .pointer (some (⟨g_s, 0, none⟩ : Addr))), (21, q466), (23, q467), (24, .pointer (some (⟨g_s, 0, none⟩ : Addr))), (28, .pointer (some (⟨g_s, 0, none⟩ : Addr)))] ∧ Stp w0 wl (some g_s) ∧ Src wl g_s b_s 81 ∧ Own shEnt 41 w0.heap.size w0.heap.size w34.heap.size wl v xs ∧ Own shI64 2 n470 n470 n471 wl q466 ([(0 : Int), (0 : Int), (1 : Int), (2 : Int), (3 : Int)]) ∧ Own shStr 9 n472 n472 n473 wl q467 ([([97, 100, 97] : Str), ([98, 111] : Str), ([99, 121] : Str)]) ∧ (w53.heap.size ≤ n470) ∧ (n471 ≤ wl.heap.size) ∧ (w53.heap.size ≤ n472) ∧ (n473 ≤ wl.heap.size) ∧ (n473 ≤ n470 ∨ n471 ≤ n472) ∧ w53.heap.size ≤ wl.heap.size) 10 #[true, true, true, false, true, true, false, false, false, true, false, false, false, false, false, false] ?_ ?_
    ·
     rintro a485 w468 _ ⟨q466, q467, n470, n471, n472, n473, rfl, ha485, hx469, hf474, hf475, hf476, hf477, hg479, hg480, hg481, hg482, hg483, hzl478⟩
     have hzhx469 := hx469.size
     have hgl484 := hf474.lt
     have hs486 : Ext w468 w468 := Ext.rfl' _
     refine dr_two (i := 3) (j := 14) (by kernel_rfl) ?_ ?_
     ·
      refine po_callS ha485 rfl rfl rfl rfl (op_call ha485 rfl cb72 rfl) (c_spec_l01Pick _ g_s b_s q466 ([(0 : Int), (0 : Int), (1 : Int), (2 : Int), (3 : Int)]) hf474 (hf476.rds pos_shI64) (by rintro ⟨_, _⟩; omega) (by first | assumption | omega | (constructor <;> omega) | (dsimp only; omega) | (simp; done) | (simp; omega))) ?_
      rintro v487 w488 he489 ⟨hS490, ⟨q491, hq492, rfl⟩⟩ a493 ha493; clear ha485 a485
      have hx494 := hx469.trans' he489
      have hzhx494 := he489.size
      first | replace hf475 := hf475.stp he489 (by intro q hq; cases hq; omega) | replace hf475 := hf475.stpF flat_shEnt he489 (by intro q hq; cases hq; exact hf475.ne_box (by assumption) rfl)
      first | replace hf476 := hf476.stp he489 (by intro q hq; cases hq; omega) | replace hf476 := hf476.stpF flat_shI64 he489 (by intro q hq; cases hq; exact hf476.ne_box (by assumption) rfl)
      first | replace hf477 := hf477.stp he489 (by intro q hq; cases hq; omega) | replace hf477 := hf477.stpF flat_shStr he489 (by intro q hq; cases hq; exact hf477.ne_box (by assumption) rfl)
      clear hf474
      have hSlhS490 := hS490.lt
      have hs495 := (Stp.of_ext hs486 (some g_s)).trans' he489
      refine ⟨hs495, ?_⟩
      simp only [List.mem_cons, List.not_mem_nil, or_false] at hq492
      refine dr_narrow (S' := fun w' => Stp w488 w' _) (fun w' h' => hs495.trans' h') _ _ _ _ ?_
      have hs496 : Ext w488 w488 := Ext.rfl' _
      exact dr_listed (by kernel_rfl) (hk389 _ _ _ ⟨q491, q467, n472, n473, rfl, (Sl.cons_ ha493 rfl rfl (Sl.cons_ ha493 rfl rfl (Sl.cons_ ha493 rfl rfl (Sl.cons_ ha493 rfl rfl (Sl.cons_ ha493 rfl rfl (Sl.cons_ ha493 rfl rfl (Sl.cons_ ha493 rfl rfl (Sl.cons_ ha493 rfl rfl (Sl.cons_ ha493 rfl rfl (Sl.nil_ ha493)))))))))), hx494, hS490, (hf475.fin (by omega) (by omega) (by omega)), hf477, (by omega), (by omega), (by first | assumption | omega | (simp only [List.mem_cons, List.not_mem_nil, or_false]; omega) | (constructor <;> omega)), (by omega), (by omega), (by omega)⟩)
     ·
      refine po_eff ha485 rfl rfl rfl rfl (op_alloc' rfl ti41 rfl) ?_
      rintro _ w497 ⟨rfl, he498, hb499, hz500⟩ a501 ha501; clear ha485 a485
      have hs502 := hs486.trans' he498
      have hx503 := hx469.trans' (Stp.of_ext he498 _)
      have hzhx503 := he498.size
      refine ⟨(Stp.of_ext hs502 _), ?_⟩
      replace hf474 := hf474.ext hs502
      replace hf475 := hf475.ext hs502
      replace hf476 := hf476.ext hs502
      replace hf477 := hf477.ext hs502
      refine dr_narrow (S' := fun w' => StpL w497 w' (fun i => i = g_s ∨ i = w468.heap.size)) (fun w' h' => ((Stp.of_ext hs502 _)).freshL h' (by intro i hi; rcases hi with q | q <;> first | (exact Or.inl (congrArg some q.symm)) | (right; omega))) _ _ _ _ ?_
      have hs504 : Ext w497 w497 := Ext.rfl' _
      exact dr_listed (by kernel_rfl) (hk465 _ _ _ ⟨w468.heap.size, q466, q467, n470, n471, n472, n473, rfl, (Sl.cons_ ha501 rfl rfl (Sl.cons_ ha501 rfl rfl (Sl.cons_ ha501 rfl rfl (Sl.cons_ ha501 rfl rfl (Sl.cons_ ha501 rfl rfl (Sl.cons_ ha501 rfl rfl (Sl.cons_ ha501 rfl rfl (Sl.cons_ ha501 rfl rfl (Sl.cons_ ha501 rfl rfl (Sl.cons_ ha501 rfl rfl (Sl.cons_ ha501 rfl rfl (Sl.nil_ ha501)))))))))))), hx503, hf474, (hf475.fin (by omega) (by omega) (by omega)), hb499, hf476, hf477, (by omega), (by omega), (by omega), (by omega), (by omega), (by omega), (by omega), (by omega), (by omega)⟩)
    intro hk505
    refine dr_share (fun fr wl S => ∃ (g506 : Nat) (q507 : Value) (n510 n511 : Nat), S = (fun w' => StpL wl w' (fun i => i = g_s ∨ i = g506)) ∧ Sl 72 fr [(0, .pointer (some (⟨g_s, 0, none⟩ : Addr))), (3, v), (4, .int .i64 d), (5, .int .i64 m), (6, .pointer (some (⟨g506, 0, none⟩ : Addr))), (19, .int .i64 d), (20, .pointer (some (⟨g_s, 0, none⟩ : Addr))), (21, q507), (24, .pointer (some (⟨g_s, 0, none⟩ : Addr))), (28, .pointer (some (⟨g_s, 0, none⟩ : Addr)))] ∧ Stp w0 wl (some g_s) ∧ Src wl g_s b_s 81 ∧ Own shEnt 41 w0.heap.size w0.heap.size w34.heap.size wl v xs ∧ Box wl g506 41 [.int .i64 (0 : Int), .int .i64 (0 : Int), St (([] : Str)), .int .i64 (0 : Int)] ∧ Own shI64 2 n510 n510 n511 wl q507 ([(0 : Int), (0 : Int), (1 : Int), (2 : Int), (3 : Int)]) ∧ (w53.heap.size ≤ g506) ∧ (w53.heap.size ≤ n510) ∧ (n511 ≤ wl.heap.size) ∧ (g506 < n510 ∨ n511 ≤ g506) ∧ w53.heap.size ≤ wl.heap.size) 10 #[true, true, true, false, false, true, false, false, false, true, false, false, false, false, true, false] ?_ ?_
    ·
     rintro a523 w508 _ ⟨g506, q507, n510, n511, rfl, ha523, hx509, hf512, hf513, hf514, hf515, hg517, hg518, hg519, hg520, hzl516⟩
     have hzhx509 := hx509.size
     have hgl521 := hf512.lt
     have hgl522 := hf514.lt
     have hs524 : Ext w508 w508 := Ext.rfl' _
     refine dr_two (i := 3) (j := 4) (by kernel_rfl) ?_ ?_
     ·
      refine po_callS ha523 rfl rfl rfl rfl (op_call ha523 rfl cb72 rfl) (c_spec_l01Pick _ g_s b_s q507 ([(0 : Int), (0 : Int), (1 : Int), (2 : Int), (3 : Int)]) hf512 (hf515.rds pos_shI64) (by rintro ⟨_, _⟩; omega) (by first | assumption | omega | (constructor <;> omega) | (dsimp only; omega) | (simp; done) | (simp; omega))) ?_
      rintro v525 w526 he527 ⟨hS528, ⟨q529, hq530, rfl⟩⟩ a531 ha531; clear ha523 a523
      have hx532 := hx509.trans' he527
      have hzhx532 := he527.size
      first | replace hf513 := hf513.stp he527 (by intro q hq; cases hq; omega) | replace hf513 := hf513.stpF flat_shEnt he527 (by intro q hq; cases hq; exact hf513.ne_box (by assumption) rfl)
      replace hf514 := hf514.stp he527 (by intro q hq; cases hq; omega)
      first | replace hf515 := hf515.stp he527 (by intro q hq; cases hq; omega) | replace hf515 := hf515.stpF flat_shI64 he527 (by intro q hq; cases hq; exact hf515.ne_box (by assumption) rfl)
      clear hf512
      have hSlhS528 := hS528.lt
      have hs533 := (StpL.of_ext (B := fun i => i = g_s ∨ i = g506) hs524).trans' (Stp.toL he527 (by intro q hq; cases hq; exact Or.inl rfl))
      refine ⟨hs533, ?_⟩
      simp only [List.mem_cons, List.not_mem_nil, or_false] at hq530
      refine dr_narrow (S' := fun w' => StpL w526 w' _) (fun w' h' => hs533.trans' h') _ _ _ _ ?_
      have hs534 : Ext w526 w526 := Ext.rfl' _
      exact dr_listed (by kernel_rfl) (hk427 _ _ _ ⟨g506, q529, rfl, (Sl.cons_ ha531 rfl rfl (Sl.cons_ ha531 rfl rfl (Sl.cons_ ha531 rfl rfl (Sl.cons_ ha531 rfl rfl (Sl.cons_ ha531 rfl rfl (Sl.cons_ ha531 rfl rfl (Sl.cons_ ha531 rfl rfl (Sl.cons_ ha531 rfl rfl (Sl.cons_ ha531 rfl rfl (Sl.nil_ ha531)))))))))), hx532, hS528, (hf513.fin (by omega) (by omega) (by omega)), hf514, (by omega), (by omega), (by omega), (by first | assumption | omega | (simp only [List.mem_cons, List.not_mem_nil, or_false]; omega) | (constructor <;> omega)), (by omega)⟩)
     ·
      refine po_eff ha523 rfl rfl rfl rfl (op_buildSlice (s := shStr) (xs := [([97, 100, 97] : Str), ([98, 111] : Str), ([99, 121] : Str)]) (cs := [St (([97, 100, 97] : Str)), St (([98, 111] : Str)), St (([99, 121] : Str))]) (vs := [(0, St (([97, 100, 97] : Str))), (1, St (([98, 111] : Str))), (2, St (([99, 121] : Str)))]) (S := fun _ => False) (le := w508.heap.size) ha523 rfl pos_shStr Try.underlying52 ti9 rfl rfl (by decide) (by kernel_rfl) ⟨mk_shStr (([97, 100, 97] : Str)) (by first | assumption | omega | (constructor <;> omega) | (dsimp only; omega) | (simp; done) | (simp; omega)), mk_shStr (([98, 111] : Str)) (by first | assumption | omega | (constructor <;> omega) | (dsimp only; omega) | (simp; done) | (simp; omega)), mk_shStr (([99, 121] : Str)) (by first | assumption | omega | (constructor <;> omega) | (dsimp only; omega) | (simp; done) | (simp; omega)), rfl⟩ (fun _ h => h.elim)) ?_
      rintro v535 w536 ⟨ho537, he538, hob539⟩ a540 ha540; clear ha523 a523
      have hs541 := hs524.trans' he538
      have hx542 := hx509.trans' (Stp.of_ext he538 _)
      have hzhx542 := he538.size
      refine ⟨(StpL.of_ext hs541), ?_⟩
      replace hf512 := hf512.ext hs541
      replace hf513 := hf513.ext hs541
      replace hf514 := hf514.ext hs541
      replace hf515 := hf515.ext hs541
      refine dr_narrow (S' := fun w' => StpL w536 w' _) (fun w' h' => (StpL.of_ext hs541).trans' h') _ _ _ _ ?_
      have hs543 : Ext w536 w536 := Ext.rfl' _
      exact dr_listed (by kernel_rfl) (hk465 _ _ _ ⟨g506, q507, v535, n510, n511, w508.heap.size, w536.heap.size, rfl, (Sl.cons_ ha540 rfl rfl (Sl.cons_ ha540 rfl rfl (Sl.cons_ ha540 rfl rfl (Sl.cons_ ha540 rfl rfl (Sl.cons_ ha540 rfl rfl (Sl.cons_ ha540 rfl rfl (Sl.cons_ ha540 rfl rfl (Sl.cons_ ha540 rfl rfl (Sl.cons_ ha540 rfl rfl (Sl.cons_ ha540 rfl rfl (Sl.cons_ ha540 rfl rfl (Sl.nil_ ha540)))))))))))), hx542, hf512, (hf513.fin (by omega) (by omega) (by omega)), hf514, hf515, ho537, (by omega), (by omega), (by omega), (by omega), (by omega), (by omega), (by omega), (by omega), (by omega)⟩)
    intro hk544
    refine dr_share (fun fr wl S => ∃ (g545 : Nat) (q546 : Value) (n549 n550 : Nat), S = (fun w' => StpL wl w' (fun i => i = g_s ∨ i = g545)) ∧ Sl 72 fr [(0, .pointer (some (⟨g_s, 0, none⟩ : Addr))), (3, v), (4, .int .i64 d), (5, .int .i64 m), (6, .pointer (some (⟨g545, 0, none⟩ : Addr))), (19, .int .i64 d), (20, .pointer (some (⟨g_s, 0, none⟩ : Addr))), (23, q546), (24, .pointer (some (⟨g_s, 0, none⟩ : Addr))), (28, .pointer (some (⟨g_s, 0, none⟩ : Addr)))] ∧ Stp w0 wl (some g_s) ∧ Src wl g_s b_s 81 ∧ Own shEnt 41 w0.heap.size w0.heap.size w34.heap.size wl v xs ∧ Box wl g545 41 [.int .i64 (0 : Int), .int .i64 (0 : Int), St (([] : Str)), .int .i64 (0 : Int)] ∧ Own shStr 9 n549 n549 n550 wl q546 ([([97, 100, 97] : Str), ([98, 111] : Str), ([99, 121] : Str)]) ∧ (w53.heap.size ≤ g545) ∧ (w53.heap.size ≤ n549) ∧ (n550 ≤ wl.heap.size) ∧ (g545 < n549 ∨ n550 ≤ g545) ∧ w53.heap.size ≤ wl.heap.size) 10 #[true, true, false, false, true, true, false, false, false, true, false, false, false, false, true, false] ?_ ?_
    ·
     rintro a562 w547 _ ⟨g545, q546, n549, n550, rfl, ha562, hx548, hf551, hf552, hf553, hf554, hg556, hg557, hg558, hg559, hzl555⟩
     have hzhx548 := hx548.size
     have hgl560 := hf551.lt
     have hgl561 := hf553.lt
     have hs563 : Ext w547 w547 := Ext.rfl' _
     refine dr_one (i := 2) (by kernel_rfl) ?_
     refine po_eff ha562 rfl rfl rfl rfl (op_buildSlice (s := shI64) (xs := [(0 : Int), (0 : Int), (1 : Int), (2 : Int), (3 : Int)]) (cs := [.int .i64 (0 : Int), .int .i64 (0 : Int), .int .i64 (1 : Int), .int .i64 (2 : Int), .int .i64 (3 : Int)]) (vs := [(0, .int .i64 (0 : Int)), (1, .int .i64 (0 : Int)), (2, .int .i64 (1 : Int)), (3, .int .i64 (2 : Int)), (4, .int .i64 (3 : Int))]) (S := fun _ => False) (le := w547.heap.size) ha562 rfl pos_shI64 Try.underlying45 ti2 rfl rfl (by decide) (by kernel_rfl) ⟨mk_shI64 ((0 : Int)) (by first | assumption | omega | (constructor <;> omega) | (dsimp only; omega) | (simp; done) | (simp; omega)), mk_shI64 ((0 : Int)) (by first | assumption | omega | (constructor <;> omega) | (dsimp only; omega) | (simp; done) | (simp; omega)), mk_shI64 ((1 : Int)) (by first | assumption | omega | (constructor <;> omega) | (dsimp only; omega) | (simp; done) | (simp; omega)), mk_shI64 ((2 : Int)) (by first | assumption | omega | (constructor <;> omega) | (dsimp only; omega) | (simp; done) | (simp; omega)), mk_shI64 ((3 : Int)) (by first | assumption | omega | (constructor <;> omega) | (dsimp only; omega) | (simp; done) | (simp; omega)), rfl⟩ (fun _ h => h.elim)) ?_
     rintro v564 w565 ⟨ho566, he567, hob568⟩ a569 ha569; clear ha562 a562
     have hs570 := hs563.trans' he567
     have hx571 := hx548.trans' (Stp.of_ext he567 _)
     have hzhx571 := he567.size
     refine ⟨(StpL.of_ext hs570), ?_⟩
     replace hf551 := hf551.ext hs570
     replace hf552 := hf552.ext hs570
     replace hf553 := hf553.ext hs570
     replace hf554 := hf554.ext hs570
     refine dr_narrow (S' := fun w' => StpL w565 w' _) (fun w' h' => (StpL.of_ext hs570).trans' h') _ _ _ _ ?_
     have hs572 : Ext w565 w565 := Ext.rfl' _
     exact dr_listed (by kernel_rfl) (hk465 _ _ _ ⟨g545, v564, q546, w547.heap.size, w565.heap.size, n549, n550, rfl, (Sl.cons_ ha569 rfl rfl (Sl.cons_ ha569 rfl rfl (Sl.cons_ ha569 rfl rfl (Sl.cons_ ha569 rfl rfl (Sl.cons_ ha569 rfl rfl (Sl.cons_ ha569 rfl rfl (Sl.cons_ ha569 rfl rfl (Sl.cons_ ha569 rfl rfl (Sl.cons_ ha569 rfl rfl (Sl.cons_ ha569 rfl rfl (Sl.cons_ ha569 rfl rfl (Sl.nil_ ha569)))))))))))), hx571, hf551, (hf552.fin (by omega) (by omega) (by omega)), hf553, ho566, hf554, (by omega), (by omega), (by omega), (by omega), (by omega), (by omega), (by omega), (by omega), (by omega)⟩)
    intro hk573
    refine dr_val (i := 0) ha42 rfl (by kernel_rfl) (by kernel_rfl) (by kernel_rfl) rfl rfl rfl (Stp.of_ext hs56 _) (fun w' hw' => op_move ha42 rfl rfl) ?_
    intro a574 ha574; clear ha42 a42
    refine dr_val (i := 1) ha574 rfl (by kernel_rfl) (by kernel_rfl) (by kernel_rfl) rfl rfl rfl (Stp.of_ext hs56 _) (fun w' hw' => op_move ha574 rfl rfl) ?_
    intro a575 ha575; clear ha574 a574
    refine dr_val (i := 5) ha575 rfl (by kernel_rfl) (by kernel_rfl) (by kernel_rfl) rfl rfl rfl (Stp.of_ext hs56 _) (fun w' hw' => op_move ha575 rfl rfl) ?_
    intro a576 ha576; clear ha575 a575
    refine dr_val (i := 9) ha576 rfl (by kernel_rfl) (by kernel_rfl) (by kernel_rfl) rfl rfl rfl (Stp.of_ext hs56 _) (fun w' hw' => op_move ha576 rfl rfl) ?_
    intro a577 ha577; clear ha576 a576
    refine dr_three (i := 2) (j := 4) (k := 14) (by kernel_rfl) ?_ ?_ ?_
    ·
     refine po_eff ha577 rfl rfl rfl rfl (op_buildSlice (s := shI64) (xs := [(0 : Int), (0 : Int), (1 : Int), (2 : Int), (3 : Int)]) (cs := [.int .i64 (0 : Int), .int .i64 (0 : Int), .int .i64 (1 : Int), .int .i64 (2 : Int), .int .i64 (3 : Int)]) (vs := [(0, .int .i64 (0 : Int)), (1, .int .i64 (0 : Int)), (2, .int .i64 (1 : Int)), (3, .int .i64 (2 : Int)), (4, .int .i64 (3 : Int))]) (S := fun _ => False) (le := w53.heap.size) ha577 rfl pos_shI64 Try.underlying45 ti2 rfl rfl (by decide) (by kernel_rfl) ⟨mk_shI64 ((0 : Int)) (by first | assumption | omega | (constructor <;> omega) | (dsimp only; omega) | (simp; done) | (simp; omega)), mk_shI64 ((0 : Int)) (by first | assumption | omega | (constructor <;> omega) | (dsimp only; omega) | (simp; done) | (simp; omega)), mk_shI64 ((1 : Int)) (by first | assumption | omega | (constructor <;> omega) | (dsimp only; omega) | (simp; done) | (simp; omega)), mk_shI64 ((2 : Int)) (by first | assumption | omega | (constructor <;> omega) | (dsimp only; omega) | (simp; done) | (simp; omega)), mk_shI64 ((3 : Int)) (by first | assumption | omega | (constructor <;> omega) | (dsimp only; omega) | (simp; done) | (simp; omega)), rfl⟩ (fun _ h => h.elim)) ?_
     rintro v578 w579 ⟨ho580, he581, hob582⟩ a583 ha583; clear ha577 a577
     have hs584 := hs56.trans' he581
     have hx585 := hx55.trans' (Stp.of_ext he581 _)
     have hzhx585 := he581.size
     refine ⟨(Stp.of_ext hs584 _), ?_⟩
     replace hf36 := hf36.ext hs584
     replace hf37 := hf37.ext hs584
     refine dr_narrow (S' := fun w' => Stp w579 w' _) (fun w' h' => (Stp.of_ext hs584 _).trans' h') _ _ _ _ ?_
     have hs586 : Ext w579 w579 := Ext.rfl' _
     refine dr_three (i := 3) (j := 4) (k := 14) (by kernel_rfl) ?_ ?_ ?_
     ·
      refine po_callS ha583 rfl rfl rfl rfl (op_call ha583 rfl cb72 rfl) (c_spec_l01Pick _ g_s b_s v578 ([(0 : Int), (0 : Int), (1 : Int), (2 : Int), (3 : Int)]) hf36 (ho580.rds pos_shI64) (by rintro ⟨_, _⟩; omega) (by first | assumption | omega | (constructor <;> omega) | (dsimp only; omega) | (simp; done) | (simp; omega))) ?_
      rintro v587 w588 he589 ⟨hS590, ⟨q591, hq592, rfl⟩⟩ a593 ha593; clear ha583 a583
      have hx594 := hx585.trans' he589
      have hzhx594 := he589.size
      first | replace hf37 := hf37.stp he589 (by intro q hq; cases hq; omega) | replace hf37 := hf37.stpF flat_shEnt he589 (by intro q hq; cases hq; exact hf37.ne_box (by assumption) rfl)
      first | replace ho580 := ho580.stp he589 (by intro q hq; cases hq; omega) | replace ho580 := ho580.stpF flat_shI64 he589 (by intro q hq; cases hq; exact ho580.ne_box (by assumption) rfl)
      clear hf36
      have hSlhS590 := hS590.lt
      have hs595 := (Stp.of_ext hs586 (some g_s)).trans' he589
      refine ⟨hs595, ?_⟩
      simp only [List.mem_cons, List.not_mem_nil, or_false] at hq592
      refine dr_narrow (S' := fun w' => Stp w588 w' _) (fun w' h' => hs595.trans' h') _ _ _ _ ?_
      have hs596 : Ext w588 w588 := Ext.rfl' _
      refine dr_three (i := 4) (j := 6) (k := 14) (by kernel_rfl) ?_ ?_ ?_
      ·
       refine po_eff ha593 rfl rfl rfl rfl (op_buildSlice (s := shStr) (xs := [([97, 100, 97] : Str), ([98, 111] : Str), ([99, 121] : Str)]) (cs := [St (([97, 100, 97] : Str)), St (([98, 111] : Str)), St (([99, 121] : Str))]) (vs := [(0, St (([97, 100, 97] : Str))), (1, St (([98, 111] : Str))), (2, St (([99, 121] : Str)))]) (S := fun _ => False) (le := w588.heap.size) ha593 rfl pos_shStr Try.underlying52 ti9 rfl rfl (by decide) (by kernel_rfl) ⟨mk_shStr (([97, 100, 97] : Str)) (by first | assumption | omega | (constructor <;> omega) | (dsimp only; omega) | (simp; done) | (simp; omega)), mk_shStr (([98, 111] : Str)) (by first | assumption | omega | (constructor <;> omega) | (dsimp only; omega) | (simp; done) | (simp; omega)), mk_shStr (([99, 121] : Str)) (by first | assumption | omega | (constructor <;> omega) | (dsimp only; omega) | (simp; done) | (simp; omega)), rfl⟩ (fun _ h => h.elim)) ?_
       rintro v597 w598 ⟨ho599, he600, hob601⟩ a602 ha602; clear ha593 a593
       have hs603 := hs596.trans' he600
       have hx604 := hx594.trans' (Stp.of_ext he600 _)
       have hzhx604 := he600.size
       refine ⟨(Stp.of_ext hs603 _), ?_⟩
       replace hf37 := hf37.ext hs603
       replace ho580 := ho580.ext hs603
       replace hS590 := hS590.ext hs603
       refine dr_narrow (S' := fun w' => Stp w598 w' _) (fun w' h' => (Stp.of_ext hs603 _).trans' h') _ _ _ _ ?_
       have hs605 : Ext w598 w598 := Ext.rfl' _
       exact dr_listed (by kernel_rfl) (hk389 _ _ _ ⟨q591, v597, w588.heap.size, w598.heap.size, rfl, (Sl.cons_ ha602 rfl rfl (Sl.cons_ ha602 rfl rfl (Sl.cons_ ha602 rfl rfl (Sl.cons_ ha602 rfl rfl (Sl.cons_ ha602 rfl rfl (Sl.cons_ ha602 rfl rfl (Sl.cons_ ha602 rfl rfl (Sl.cons_ ha602 rfl rfl (Sl.cons_ ha602 rfl rfl (Sl.nil_ ha602)))))))))), hx604, hS590, (hf37.fin (by omega) (by omega) (by omega)), ho599, (by omega), (by omega), (by first | assumption | omega | (simp only [List.mem_cons, List.not_mem_nil, or_false]; omega) | (constructor <;> omega)), (by omega), (by omega), (by omega)⟩)
      ·
       refine po_callS ha593 rfl rfl rfl rfl (op_call ha593 rfl cb73 rfl) (c_spec_l01Next _ g_s b_s (3 : Int) hS590) ?_
       rintro v606 w607 he608 ⟨hS609, ⟨q610, hq611, hq612, hq613, rfl⟩⟩ a614 ha614; clear ha593 a593
       have hx615 := hx594.trans' he608
       have hzhx615 := he608.size
       first | replace hf37 := hf37.stp he608 (by intro q hq; cases hq; omega) | replace hf37 := hf37.stpF flat_shEnt he608 (by intro q hq; cases hq; exact hf37.ne_box (by assumption) rfl)
       first | replace ho580 := ho580.stp he608 (by intro q hq; cases hq; omega) | replace ho580 := ho580.stpF flat_shI64 he608 (by intro q hq; cases hq; exact ho580.ne_box (by assumption) rfl)
       clear hS590
       have hSlhS609 := hS609.lt
       have hs616 := (Stp.of_ext hs596 (some g_s)).trans' he608
       refine ⟨hs616, ?_⟩
       refine dr_narrow (S' := fun w' => Stp w607 w' _) (fun w' h' => hs616.trans' h') _ _ _ _ ?_
       have hs617 : Ext w607 w607 := Ext.rfl' _
       refine dr_three (i := 4) (j := 10) (k := 14) (by kernel_rfl) ?_ ?_ ?_
       ·
        refine po_eff ha614 rfl rfl rfl rfl (op_buildSlice (s := shStr) (xs := [([97, 100, 97] : Str), ([98, 111] : Str), ([99, 121] : Str)]) (cs := [St (([97, 100, 97] : Str)), St (([98, 111] : Str)), St (([99, 121] : Str))]) (vs := [(0, St (([97, 100, 97] : Str))), (1, St (([98, 111] : Str))), (2, St (([99, 121] : Str)))]) (S := fun _ => False) (le := w607.heap.size) ha614 rfl pos_shStr Try.underlying52 ti9 rfl rfl (by decide) (by kernel_rfl) ⟨mk_shStr (([97, 100, 97] : Str)) (by first | assumption | omega | (constructor <;> omega) | (dsimp only; omega) | (simp; done) | (simp; omega)), mk_shStr (([98, 111] : Str)) (by first | assumption | omega | (constructor <;> omega) | (dsimp only; omega) | (simp; done) | (simp; omega)), mk_shStr (([99, 121] : Str)) (by first | assumption | omega | (constructor <;> omega) | (dsimp only; omega) | (simp; done) | (simp; omega)), rfl⟩ (fun _ h => h.elim)) ?_
        rintro v618 w619 ⟨ho620, he621, hob622⟩ a623 ha623; clear ha614 a614
        have hs624 := hs617.trans' he621
        have hx625 := hx615.trans' (Stp.of_ext he621 _)
        have hzhx625 := he621.size
        refine ⟨(Stp.of_ext hs624 _), ?_⟩
        replace hf37 := hf37.ext hs624
        replace ho580 := ho580.ext hs624
        replace hS609 := hS609.ext hs624
        refine dr_narrow (S' := fun w' => Stp w619 w' _) (fun w' h' => (Stp.of_ext hs624 _).trans' h') _ _ _ _ ?_
        have hs626 : Ext w619 w619 := Ext.rfl' _
        obtain ⟨x627, hx627⟩ := get_ex (xs := [([97, 100, 97] : Str), ([98, 111] : Str), ([99, 121] : Str)]) (j := ((q610 : Int)).toNat) (by first | omega | (simp only [List.length_cons, List.length_nil]; omega))
        obtain ⟨p628, c629, hi630, hc631, hr632, hs633⟩ := Rds.at_ (ho620.rds pos_shStr) hx627
        obtain ⟨rfl, b634⟩ := inv_shStr hr632
        obtain ⟨_, _⟩ : _ ∧ _ := hs633
        have hdlx627 := el_len 17 (by rfl) hx627
        refine dr_val (i := 7) ha623 rfl (by kernel_rfl) (by kernel_rfl) (by kernel_rfl) rfl rfl rfl (Stp.of_ext hs626 _) (fun w' hw' => op_indexAddr ha623 rfl Try.underlying52 ti9 rfl rfl (by omega) hi630) ?_
        intro a635 ha635; clear ha623 a623
        refine dr_val (i := 8) ha635 rfl (by kernel_rfl) (by kernel_rfl) (by kernel_rfl) rfl rfl rfl (Stp.of_ext hs626 _) (fun w' hw' => op_loadH ha635 rfl Try.underlying9 rfl rfl (hc631.stp hw' (by intro q hq; cases hq; omega)) rfl) ?_
        intro a636 ha636; clear ha635 a635
        exact dr_listed (by kernel_rfl) (hk238 _ _ _ ⟨q591, x627, rfl, (Sl.cons_ ha636 rfl rfl (Sl.cons_ ha636 rfl rfl (Sl.cons_ ha636 rfl rfl (Sl.cons_ ha636 rfl rfl (Sl.cons_ ha636 rfl rfl (Sl.cons_ ha636 rfl rfl (Sl.cons_ ha636 rfl rfl (Sl.cons_ ha636 rfl rfl (Sl.nil_ ha636))))))))), hx625, hS609, (hf37.fin (by omega) (by omega) (by omega)), (by omega), (by omega), (by omega), (by first | assumption | omega | (simp only [List.mem_cons, List.not_mem_nil, or_false]; omega) | (constructor <;> omega)), (by omega)⟩)
       ·
        refine po_callS ha614 rfl rfl rfl rfl (op_call ha614 rfl cb73 rfl) (c_spec_l01Next _ g_s b_s (30 : Int) hS609) ?_
        rintro v637 w638 he639 ⟨hS640, ⟨q641, hq642, hq643, hq644, rfl⟩⟩ a645 ha645; clear ha614 a614
        have hx646 := hx615.trans' he639
        have hzhx646 := he639.size
        first | replace hf37 := hf37.stp he639 (by intro q hq; cases hq; omega) | replace hf37 := hf37.stpF flat_shEnt he639 (by intro q hq; cases hq; exact hf37.ne_box (by assumption) rfl)
        first | replace ho580 := ho580.stp he639 (by intro q hq; cases hq; omega) | replace ho580 := ho580.stpF flat_shI64 he639 (by intro q hq; cases hq; exact ho580.ne_box (by assumption) rfl)
        clear hS609
        have hSlhS640 := hS640.lt
        have hs647 := (Stp.of_ext hs617 (some g_s)).trans' he639
        refine ⟨hs647, ?_⟩
        refine dr_narrow (S' := fun w' => Stp w638 w' _) (fun w' h' => hs647.trans' h') _ _ _ _ ?_
        have hs648 : Ext w638 w638 := Ext.rfl' _
        refine dr_val (i := 11) ha645 rfl (by kernel_rfl) (by kernel_rfl) (by kernel_rfl) rfl rfl rfl (Stp.of_ext hs648 _) (fun w' hw' => (op_add ha645 rfl rfl rfl).int (IntWalk.i64_in _ (by omega))) ?_
        intro a649 ha649; clear ha645 a645
        refine dr_val (i := 12) ha649 rfl (by kernel_rfl) (by kernel_rfl) (by kernel_rfl) rfl rfl rfl (Stp.of_ext hs648 _) (fun w' hw' => (op_mul ha649 rfl rfl rfl).int (IntWalk.i64_in _ (by omega))) ?_
        intro a650 ha650; clear ha649 a649
        refine dr_two (i := 4) (j := 14) (by kernel_rfl) ?_ ?_
        ·
         refine po_eff ha650 rfl rfl rfl rfl (op_buildSlice (s := shStr) (xs := [([97, 100, 97] : Str), ([98, 111] : Str), ([99, 121] : Str)]) (cs := [St (([97, 100, 97] : Str)), St (([98, 111] : Str)), St (([99, 121] : Str))]) (vs := [(0, St (([97, 100, 97] : Str))), (1, St (([98, 111] : Str))), (2, St (([99, 121] : Str)))]) (S := fun _ => False) (le := w638.heap.size) ha650 rfl pos_shStr Try.underlying52 ti9 rfl rfl (by decide) (by kernel_rfl) ⟨mk_shStr (([97, 100, 97] : Str)) (by first | assumption | omega | (constructor <;> omega) | (dsimp only; omega) | (simp; done) | (simp; omega)), mk_shStr (([98, 111] : Str)) (by first | assumption | omega | (constructor <;> omega) | (dsimp only; omega) | (simp; done) | (simp; omega)), mk_shStr (([99, 121] : Str)) (by first | assumption | omega | (constructor <;> omega) | (dsimp only; omega) | (simp; done) | (simp; omega)), rfl⟩ (fun _ h => h.elim)) ?_
         rintro v651 w652 ⟨ho653, he654, hob655⟩ a656 ha656; clear ha650 a650
         have hs657 := hs648.trans' he654
         have hx658 := hx646.trans' (Stp.of_ext he654 _)
         have hzhx658 := he654.size
         refine ⟨(Stp.of_ext hs657 _), ?_⟩
         replace hf37 := hf37.ext hs657
         replace ho580 := ho580.ext hs657
         replace hS640 := hS640.ext hs657
         refine dr_narrow (S' := fun w' => Stp w652 w' _) (fun w' h' => (Stp.of_ext hs657 _).trans' h') _ _ _ _ ?_
         have hs659 : Ext w652 w652 := Ext.rfl' _
         obtain ⟨x660, hx660⟩ := get_ex (xs := [([97, 100, 97] : Str), ([98, 111] : Str), ([99, 121] : Str)]) (j := ((q610 : Int)).toNat) (by first | omega | (simp only [List.length_cons, List.length_nil]; omega))
         obtain ⟨p661, c662, hi663, hc664, hr665, hs666⟩ := Rds.at_ (ho653.rds pos_shStr) hx660
         obtain ⟨rfl, b667⟩ := inv_shStr hr665
         obtain ⟨_, _⟩ : _ ∧ _ := hs666
         have hdlx660 := el_len 17 (by rfl) hx660
         refine dr_val (i := 7) ha656 rfl (by kernel_rfl) (by kernel_rfl) (by kernel_rfl) rfl rfl rfl (Stp.of_ext hs659 _) (fun w' hw' => op_indexAddr ha656 rfl Try.underlying52 ti9 rfl rfl (by omega) hi663) ?_
         intro a668 ha668; clear ha656 a656
         refine dr_val (i := 8) ha668 rfl (by kernel_rfl) (by kernel_rfl) (by kernel_rfl) rfl rfl rfl (Stp.of_ext hs659 _) (fun w' hw' => op_loadH ha668 rfl Try.underlying9 rfl rfl (hc664.stp hw' (by intro q hq; cases hq; omega)) rfl) ?_
         intro a669 ha669; clear ha668 a668
         refine dr_val (i := 13) ha669 rfl (by kernel_rfl) (by kernel_rfl) (by kernel_rfl) rfl rfl rfl (Stp.of_ext hs659 _) (fun w' hw' => op_build (vs := [(0, .int .i64 d), (1, .int .i64 (q591 : Int)), (2, St x660), (3, .int .i64 ((100 : Int) * ((1 : Int) + (q641 : Int))))]) (cs := #[.int .i64 d, .int .i64 (q591 : Int), St x660, .int .i64 ((100 : Int) * ((1 : Int) + (q641 : Int)))]) ha669 rfl Try.underlying41 ti41 bp41 rfl rfl) ?_
         intro a670 ha670; clear ha669 a669
         exact dr_listed (by kernel_rfl) (hk117 _ _ _ ⟨q591, x660, q641, rfl, (Sl.cons_ ha670 rfl rfl (Sl.cons_ ha670 rfl rfl (Sl.cons_ ha670 rfl rfl (Sl.cons_ ha670 rfl rfl (Sl.cons_ ha670 rfl rfl (Sl.nil_ ha670)))))), hx658, hS640, (hf37.fin (by omega) (by omega) (by omega)), (by omega), (by omega), (by omega), (by omega), (by omega), (by first | assumption | omega | (simp only [List.mem_cons, List.not_mem_nil, or_false]; omega) | (constructor <;> omega)), (by omega), (by first | assumption | omega | (simp only [List.mem_cons, List.not_mem_nil, or_false]; omega) | (constructor <;> omega)), (by omega), (by omega)⟩)
        ·
         refine po_eff ha650 rfl rfl rfl rfl (op_alloc' rfl ti41 rfl) ?_
         rintro _ w671 ⟨rfl, he672, hb673, hz674⟩ a675 ha675; clear ha650 a650
         have hs676 := hs648.trans' he672
         have hx677 := hx646.trans' (Stp.of_ext he672 _)
         have hzhx677 := he672.size
         refine ⟨(Stp.of_ext hs676 _), ?_⟩
         replace hf37 := hf37.ext hs676
         replace ho580 := ho580.ext hs676
         replace hS640 := hS640.ext hs676
         refine dr_narrow (S' := fun w' => StpL w671 w' (fun i => i = g_s ∨ i = w638.heap.size)) (fun w' h' => ((Stp.of_ext hs676 _)).freshL h' (by intro i hi; rcases hi with q | q <;> first | (exact Or.inl (congrArg some q.symm)) | (right; omega))) _ _ _ _ ?_
         have hs678 : Ext w671 w671 := Ext.rfl' _
         exact dr_listed (by kernel_rfl) (hk200 _ _ _ ⟨w638.heap.size, q591, q610, q641, rfl, (Sl.cons_ ha675 rfl rfl (Sl.cons_ ha675 rfl rfl (Sl.cons_ ha675 rfl rfl (Sl.cons_ ha675 rfl rfl (Sl.cons_ ha675 rfl rfl (Sl.cons_ ha675 rfl rfl (Sl.cons_ ha675 rfl rfl (Sl.cons_ ha675 rfl rfl (Sl.cons_ ha675 rfl rfl (Sl.nil_ ha675)))))))))), hx677, hS640, (hf37.fin (by omega) (by omega) (by omega)), hb673, (by omega), (by omega), (by omega), (by omega), (by omega), (by omega), (by omega), (by first | assumption | omega | (simp only [List.mem_cons, List.not_mem_nil, or_false]; omega) | (constructor <;> omega)), (by omega), (by first | assumption | omega | (simp only [List.mem_cons, List.not_mem_nil, or_false]; omega) | (constructor <;> omega)), (by omega), (by omega), (by first | assumption | omega | (simp only [List.mem_cons, List.not_mem_nil, or_false]; omega) | (constructor <;> omega)), (by omega), (by omega)⟩)
       ·
        refine po_eff ha614 rfl rfl rfl rfl (op_alloc' rfl ti41 rfl) ?_
        rintro _ w679 ⟨rfl, he680, hb681, hz682⟩ a683 ha683; clear ha614 a614
        have hs684 := hs617.trans' he680
        have hx685 := hx615.trans' (Stp.of_ext he680 _)
        have hzhx685 := he680.size
        refine ⟨(Stp.of_ext hs684 _), ?_⟩
        replace hf37 := hf37.ext hs684
        replace ho580 := ho580.ext hs684
        replace hS609 := hS609.ext hs684
        refine dr_narrow (S' := fun w' => StpL w679 w' (fun i => i = g_s ∨ i = w607.heap.size)) (fun w' h' => ((Stp.of_ext hs684 _)).freshL h' (by intro i hi; rcases hi with q | q <;> first | (exact Or.inl (congrArg some q.symm)) | (right; omega))) _ _ _ _ ?_
        have hs686 : Ext w679 w679 := Ext.rfl' _
        exact dr_listed (by kernel_rfl) (hk340 _ _ _ ⟨w607.heap.size, q591, q610, rfl, (Sl.cons_ ha683 rfl rfl (Sl.cons_ ha683 rfl rfl (Sl.cons_ ha683 rfl rfl (Sl.cons_ ha683 rfl rfl (Sl.cons_ ha683 rfl rfl (Sl.cons_ ha683 rfl rfl (Sl.cons_ ha683 rfl rfl (Sl.cons_ ha683 rfl rfl (Sl.cons_ ha683 rfl rfl (Sl.nil_ ha683)))))))))), hx685, hS609, (hf37.fin (by omega) (by omega) (by omega)), hb681, (by omega), (by omega), (by omega), (by omega), (by omega), (by first | assumption | omega | (simp only [List.mem_cons, List.not_mem_nil, or_false]; omega) | (constructor <;> omega)), (by omega), (by first | assumption | omega | (simp only [List.mem_cons, List.not_mem_nil, or_false]; omega) | (constructor <;> omega)), (by omega), (by omega)⟩)
      ·
       refine po_eff ha593 rfl rfl rfl rfl (op_alloc' rfl ti41 rfl) ?_
       rintro _ w687 ⟨rfl, he688, hb689, hz690⟩ a691 ha691; clear ha593 a593
       have hs692 := hs596.trans' he688
       have hx693 := hx594.trans' (Stp.of_ext he688 _)
       have hzhx693 := he688.size
       refine ⟨(Stp.of_ext hs692 _), ?_⟩
       replace hf37 := hf37.ext hs692
       replace ho580 := ho580.ext hs692
       replace hS590 := hS590.ext hs692
       refine dr_narrow (S' := fun w' => StpL w687 w' (fun i => i = g_s ∨ i = w588.heap.size)) (fun w' h' => ((Stp.of_ext hs692 _)).freshL h' (by intro i hi; rcases hi with q | q <;> first | (exact Or.inl (congrArg some q.symm)) | (right; omega))) _ _ _ _ ?_
       have hs694 : Ext w687 w687 := Ext.rfl' _
       exact dr_listed (by kernel_rfl) (hk427 _ _ _ ⟨w588.heap.size, q591, rfl, (Sl.cons_ ha691 rfl rfl (Sl.cons_ ha691 rfl rfl (Sl.cons_ ha691 rfl rfl (Sl.cons_ ha691 rfl rfl (Sl.cons_ ha691 rfl rfl (Sl.cons_ ha691 rfl rfl (Sl.cons_ ha691 rfl rfl (Sl.cons_ ha691 rfl rfl (Sl.cons_ ha691 rfl rfl (Sl.nil_ ha691)))))))))), hx693, hS590, (hf37.fin (by omega) (by omega) (by omega)), hb689, (by omega), (by omega), (by omega), (by first | assumption | omega | (simp only [List.mem_cons, List.not_mem_nil, or_false]; omega) | (constructor <;> omega)), (by omega)⟩)
     ·
      refine po_eff ha583 rfl rfl rfl rfl (op_buildSlice (s := shStr) (xs := [([97, 100, 97] : Str), ([98, 111] : Str), ([99, 121] : Str)]) (cs := [St (([97, 100, 97] : Str)), St (([98, 111] : Str)), St (([99, 121] : Str))]) (vs := [(0, St (([97, 100, 97] : Str))), (1, St (([98, 111] : Str))), (2, St (([99, 121] : Str)))]) (S := fun _ => False) (le := w579.heap.size) ha583 rfl pos_shStr Try.underlying52 ti9 rfl rfl (by decide) (by kernel_rfl) ⟨mk_shStr (([97, 100, 97] : Str)) (by first | assumption | omega | (constructor <;> omega) | (dsimp only; omega) | (simp; done) | (simp; omega)), mk_shStr (([98, 111] : Str)) (by first | assumption | omega | (constructor <;> omega) | (dsimp only; omega) | (simp; done) | (simp; omega)), mk_shStr (([99, 121] : Str)) (by first | assumption | omega | (constructor <;> omega) | (dsimp only; omega) | (simp; done) | (simp; omega)), rfl⟩ (fun _ h => h.elim)) ?_
      rintro v695 w696 ⟨ho697, he698, hob699⟩ a700 ha700; clear ha583 a583
      have hs701 := hs586.trans' he698
      have hx702 := hx585.trans' (Stp.of_ext he698 _)
      have hzhx702 := he698.size
      refine ⟨(Stp.of_ext hs701 _), ?_⟩
      replace hf36 := hf36.ext hs701
      replace hf37 := hf37.ext hs701
      replace ho580 := ho580.ext hs701
      refine dr_narrow (S' := fun w' => Stp w696 w' _) (fun w' h' => (Stp.of_ext hs701 _).trans' h') _ _ _ _ ?_
      have hs703 : Ext w696 w696 := Ext.rfl' _
      exact dr_listed (by kernel_rfl) (hk505 _ _ _ ⟨v578, v695, w53.heap.size, w579.heap.size, w579.heap.size, w696.heap.size, rfl, (Sl.cons_ ha700 rfl rfl (Sl.cons_ ha700 rfl rfl (Sl.cons_ ha700 rfl rfl (Sl.cons_ ha700 rfl rfl (Sl.cons_ ha700 rfl rfl (Sl.cons_ ha700 rfl rfl (Sl.cons_ ha700 rfl rfl (Sl.cons_ ha700 rfl rfl (Sl.cons_ ha700 rfl rfl (Sl.cons_ ha700 rfl rfl (Sl.nil_ ha700))))))))))), hx702, hf36, (hf37.fin (by omega) (by omega) (by omega)), ho580, ho697, (by omega), (by omega), (by omega), (by omega), (by omega), (by omega)⟩)
     ·
      refine po_eff ha583 rfl rfl rfl rfl (op_alloc' rfl ti41 rfl) ?_
      rintro _ w704 ⟨rfl, he705, hb706, hz707⟩ a708 ha708; clear ha583 a583
      have hs709 := hs586.trans' he705
      have hx710 := hx585.trans' (Stp.of_ext he705 _)
      have hzhx710 := he705.size
      refine ⟨(Stp.of_ext hs709 _), ?_⟩
      replace hf36 := hf36.ext hs709
      replace hf37 := hf37.ext hs709
      replace ho580 := ho580.ext hs709
      refine dr_narrow (S' := fun w' => StpL w704 w' (fun i => i = g_s ∨ i = w579.heap.size)) (fun w' h' => ((Stp.of_ext hs709 _)).freshL h' (by intro i hi; rcases hi with q | q <;> first | (exact Or.inl (congrArg some q.symm)) | (right; omega))) _ _ _ _ ?_
      have hs711 : Ext w704 w704 := Ext.rfl' _
      exact dr_listed (by kernel_rfl) (hk544 _ _ _ ⟨w579.heap.size, v578, w53.heap.size, w579.heap.size, rfl, (Sl.cons_ ha708 rfl rfl (Sl.cons_ ha708 rfl rfl (Sl.cons_ ha708 rfl rfl (Sl.cons_ ha708 rfl rfl (Sl.cons_ ha708 rfl rfl (Sl.cons_ ha708 rfl rfl (Sl.cons_ ha708 rfl rfl (Sl.cons_ ha708 rfl rfl (Sl.cons_ ha708 rfl rfl (Sl.cons_ ha708 rfl rfl (Sl.nil_ ha708))))))))))), hx710, hf36, (hf37.fin (by omega) (by omega) (by omega)), hb706, ho580, (by omega), (by omega), (by omega), (by omega), (by omega)⟩)
    ·
     refine po_eff ha577 rfl rfl rfl rfl (op_buildSlice (s := shStr) (xs := [([97, 100, 97] : Str), ([98, 111] : Str), ([99, 121] : Str)]) (cs := [St (([97, 100, 97] : Str)), St (([98, 111] : Str)), St (([99, 121] : Str))]) (vs := [(0, St (([97, 100, 97] : Str))), (1, St (([98, 111] : Str))), (2, St (([99, 121] : Str)))]) (S := fun _ => False) (le := w53.heap.size) ha577 rfl pos_shStr Try.underlying52 ti9 rfl rfl (by decide) (by kernel_rfl) ⟨mk_shStr (([97, 100, 97] : Str)) (by first | assumption | omega | (constructor <;> omega) | (dsimp only; omega) | (simp; done) | (simp; omega)), mk_shStr (([98, 111] : Str)) (by first | assumption | omega | (constructor <;> omega) | (dsimp only; omega) | (simp; done) | (simp; omega)), mk_shStr (([99, 121] : Str)) (by first | assumption | omega | (constructor <;> omega) | (dsimp only; omega) | (simp; done) | (simp; omega)), rfl⟩ (fun _ h => h.elim)) ?_
     rintro v712 w713 ⟨ho714, he715, hob716⟩ a717 ha717; clear ha577 a577
     have hs718 := hs56.trans' he715
     have hx719 := hx55.trans' (Stp.of_ext he715 _)
     have hzhx719 := he715.size
     refine ⟨(Stp.of_ext hs718 _), ?_⟩
     replace hf36 := hf36.ext hs718
     replace hf37 := hf37.ext hs718
     refine dr_narrow (S' := fun w' => Stp w713 w' _) (fun w' h' => (Stp.of_ext hs718 _).trans' h') _ _ _ _ ?_
     have hs720 : Ext w713 w713 := Ext.rfl' _
     refine dr_two (i := 2) (j := 14) (by kernel_rfl) ?_ ?_
     ·
      refine po_eff ha717 rfl rfl rfl rfl (op_buildSlice (s := shI64) (xs := [(0 : Int), (0 : Int), (1 : Int), (2 : Int), (3 : Int)]) (cs := [.int .i64 (0 : Int), .int .i64 (0 : Int), .int .i64 (1 : Int), .int .i64 (2 : Int), .int .i64 (3 : Int)]) (vs := [(0, .int .i64 (0 : Int)), (1, .int .i64 (0 : Int)), (2, .int .i64 (1 : Int)), (3, .int .i64 (2 : Int)), (4, .int .i64 (3 : Int))]) (S := fun _ => False) (le := w713.heap.size) ha717 rfl pos_shI64 Try.underlying45 ti2 rfl rfl (by decide) (by kernel_rfl) ⟨mk_shI64 ((0 : Int)) (by first | assumption | omega | (constructor <;> omega) | (dsimp only; omega) | (simp; done) | (simp; omega)), mk_shI64 ((0 : Int)) (by first | assumption | omega | (constructor <;> omega) | (dsimp only; omega) | (simp; done) | (simp; omega)), mk_shI64 ((1 : Int)) (by first | assumption | omega | (constructor <;> omega) | (dsimp only; omega) | (simp; done) | (simp; omega)), mk_shI64 ((2 : Int)) (by first | assumption | omega | (constructor <;> omega) | (dsimp only; omega) | (simp; done) | (simp; omega)), mk_shI64 ((3 : Int)) (by first | assumption | omega | (constructor <;> omega) | (dsimp only; omega) | (simp; done) | (simp; omega)), rfl⟩ (fun _ h => h.elim)) ?_
      rintro v721 w722 ⟨ho723, he724, hob725⟩ a726 ha726; clear ha717 a717
      have hs727 := hs720.trans' he724
      have hx728 := hx719.trans' (Stp.of_ext he724 _)
      have hzhx728 := he724.size
      refine ⟨(Stp.of_ext hs727 _), ?_⟩
      replace hf36 := hf36.ext hs727
      replace hf37 := hf37.ext hs727
      replace ho714 := ho714.ext hs727
      refine dr_narrow (S' := fun w' => Stp w722 w' _) (fun w' h' => (Stp.of_ext hs727 _).trans' h') _ _ _ _ ?_
      have hs729 : Ext w722 w722 := Ext.rfl' _
      exact dr_listed (by kernel_rfl) (hk505 _ _ _ ⟨v721, v712, w713.heap.size, w722.heap.size, w53.heap.size, w713.heap.size, rfl, (Sl.cons_ ha726 rfl rfl (Sl.cons_ ha726 rfl rfl (Sl.cons_ ha726 rfl rfl (Sl.cons_ ha726 rfl rfl (Sl.cons_ ha726 rfl rfl (Sl.cons_ ha726 rfl rfl (Sl.cons_ ha726 rfl rfl (Sl.cons_ ha726 rfl rfl (Sl.cons_ ha726 rfl rfl (Sl.cons_ ha726 rfl rfl (Sl.nil_ ha726))))))))))), hx728, hf36, (hf37.fin (by omega) (by omega) (by omega)), ho723, ho714, (by omega), (by omega), (by omega), (by omega), (by omega), (by omega)⟩)
     ·
      refine po_eff ha717 rfl rfl rfl rfl (op_alloc' rfl ti41 rfl) ?_
      rintro _ w730 ⟨rfl, he731, hb732, hz733⟩ a734 ha734; clear ha717 a717
      have hs735 := hs720.trans' he731
      have hx736 := hx719.trans' (Stp.of_ext he731 _)
      have hzhx736 := he731.size
      refine ⟨(Stp.of_ext hs735 _), ?_⟩
      replace hf36 := hf36.ext hs735
      replace hf37 := hf37.ext hs735
      replace ho714 := ho714.ext hs735
      refine dr_narrow (S' := fun w' => StpL w730 w' (fun i => i = g_s ∨ i = w713.heap.size)) (fun w' h' => ((Stp.of_ext hs735 _)).freshL h' (by intro i hi; rcases hi with q | q <;> first | (exact Or.inl (congrArg some q.symm)) | (right; omega))) _ _ _ _ ?_
      have hs737 : Ext w730 w730 := Ext.rfl' _
      exact dr_listed (by kernel_rfl) (hk573 _ _ _ ⟨w713.heap.size, v712, w53.heap.size, w713.heap.size, rfl, (Sl.cons_ ha734 rfl rfl (Sl.cons_ ha734 rfl rfl (Sl.cons_ ha734 rfl rfl (Sl.cons_ ha734 rfl rfl (Sl.cons_ ha734 rfl rfl (Sl.cons_ ha734 rfl rfl (Sl.cons_ ha734 rfl rfl (Sl.cons_ ha734 rfl rfl (Sl.cons_ ha734 rfl rfl (Sl.cons_ ha734 rfl rfl (Sl.nil_ ha734))))))))))), hx736, hf36, (hf37.fin (by omega) (by omega) (by omega)), hb732, ho714, (by omega), (by omega), (by omega), (by omega), (by omega)⟩)
    ·
     refine po_eff ha577 rfl rfl rfl rfl (op_alloc' rfl ti41 rfl) ?_
     rintro _ w738 ⟨rfl, he739, hb740, hz741⟩ a742 ha742; clear ha577 a577
     have hs743 := hs56.trans' he739
     have hx744 := hx55.trans' (Stp.of_ext he739 _)
     have hzhx744 := he739.size
     refine ⟨(Stp.of_ext hs743 _), ?_⟩
     replace hf36 := hf36.ext hs743
     replace hf37 := hf37.ext hs743
     refine dr_narrow (S' := fun w' => StpL w738 w' (fun i => i = g_s ∨ i = w53.heap.size)) (fun w' h' => ((Stp.of_ext hs743 _)).freshL h' (by intro i hi; rcases hi with q | q <;> first | (exact Or.inl (congrArg some q.symm)) | (right; omega))) _ _ _ _ ?_
     have hs745 : Ext w738 w738 := Ext.rfl' _
     refine dr_two (i := 2) (j := 4) (by kernel_rfl) ?_ ?_
     ·
      refine po_eff ha742 rfl rfl rfl rfl (op_buildSlice (s := shI64) (xs := [(0 : Int), (0 : Int), (1 : Int), (2 : Int), (3 : Int)]) (cs := [.int .i64 (0 : Int), .int .i64 (0 : Int), .int .i64 (1 : Int), .int .i64 (2 : Int), .int .i64 (3 : Int)]) (vs := [(0, .int .i64 (0 : Int)), (1, .int .i64 (0 : Int)), (2, .int .i64 (1 : Int)), (3, .int .i64 (2 : Int)), (4, .int .i64 (3 : Int))]) (S := fun _ => False) (le := w738.heap.size) ha742 rfl pos_shI64 Try.underlying45 ti2 rfl rfl (by decide) (by kernel_rfl) ⟨mk_shI64 ((0 : Int)) (by first | assumption | omega | (constructor <;> omega) | (dsimp only; omega) | (simp; done) | (simp; omega)), mk_shI64 ((0 : Int)) (by first | assumption | omega | (constructor <;> omega) | (dsimp only; omega) | (simp; done) | (simp; omega)), mk_shI64 ((1 : Int)) (by first | assumption | omega | (constructor <;> omega) | (dsimp only; omega) | (simp; done) | (simp; omega)), mk_shI64 ((2 : Int)) (by first | assumption | omega | (constructor <;> omega) | (dsimp only; omega) | (simp; done) | (simp; omega)), mk_shI64 ((3 : Int)) (by first | assumption | omega | (constructor <;> omega) | (dsimp only; omega) | (simp; done) | (simp; omega)), rfl⟩ (fun _ h => h.elim)) ?_
      rintro v746 w747 ⟨ho748, he749, hob750⟩ a751 ha751; clear ha742 a742
      have hs752 := hs745.trans' he749
      have hx753 := hx744.trans' (Stp.of_ext he749 _)
      have hzhx753 := he749.size
      refine ⟨(StpL.of_ext hs752), ?_⟩
      replace hf36 := hf36.ext hs752
      replace hf37 := hf37.ext hs752
      replace hb740 := hb740.ext hs752
      refine dr_narrow (S' := fun w' => StpL w747 w' _) (fun w' h' => (StpL.of_ext hs752).trans' h') _ _ _ _ ?_
      have hs754 : Ext w747 w747 := Ext.rfl' _
      exact dr_listed (by kernel_rfl) (hk544 _ _ _ ⟨w53.heap.size, v746, w738.heap.size, w747.heap.size, rfl, (Sl.cons_ ha751 rfl rfl (Sl.cons_ ha751 rfl rfl (Sl.cons_ ha751 rfl rfl (Sl.cons_ ha751 rfl rfl (Sl.cons_ ha751 rfl rfl (Sl.cons_ ha751 rfl rfl (Sl.cons_ ha751 rfl rfl (Sl.cons_ ha751 rfl rfl (Sl.cons_ ha751 rfl rfl (Sl.cons_ ha751 rfl rfl (Sl.nil_ ha751))))))))))), hx753, hf36, (hf37.fin (by omega) (by omega) (by omega)), hb740, ho748, (by omega), (by omega), (by omega), (by omega), (by omega)⟩)
     ·
      refine po_eff ha742 rfl rfl rfl rfl (op_buildSlice (s := shStr) (xs := [([97, 100, 97] : Str), ([98, 111] : Str), ([99, 121] : Str)]) (cs := [St (([97, 100, 97] : Str)), St (([98, 111] : Str)), St (([99, 121] : Str))]) (vs := [(0, St (([97, 100, 97] : Str))), (1, St (([98, 111] : Str))), (2, St (([99, 121] : Str)))]) (S := fun _ => False) (le := w738.heap.size) ha742 rfl pos_shStr Try.underlying52 ti9 rfl rfl (by decide) (by kernel_rfl) ⟨mk_shStr (([97, 100, 97] : Str)) (by first | assumption | omega | (constructor <;> omega) | (dsimp only; omega) | (simp; done) | (simp; omega)), mk_shStr (([98, 111] : Str)) (by first | assumption | omega | (constructor <;> omega) | (dsimp only; omega) | (simp; done) | (simp; omega)), mk_shStr (([99, 121] : Str)) (by first | assumption | omega | (constructor <;> omega) | (dsimp only; omega) | (simp; done) | (simp; omega)), rfl⟩ (fun _ h => h.elim)) ?_
      rintro v755 w756 ⟨ho757, he758, hob759⟩ a760 ha760; clear ha742 a742
      have hs761 := hs745.trans' he758
      have hx762 := hx744.trans' (Stp.of_ext he758 _)
      have hzhx762 := he758.size
      refine ⟨(StpL.of_ext hs761), ?_⟩
      replace hf36 := hf36.ext hs761
      replace hf37 := hf37.ext hs761
      replace hb740 := hb740.ext hs761
      refine dr_narrow (S' := fun w' => StpL w756 w' _) (fun w' h' => (StpL.of_ext hs761).trans' h') _ _ _ _ ?_
      have hs763 : Ext w756 w756 := Ext.rfl' _
      exact dr_listed (by kernel_rfl) (hk573 _ _ _ ⟨w53.heap.size, v755, w738.heap.size, w756.heap.size, rfl, (Sl.cons_ ha760 rfl rfl (Sl.cons_ ha760 rfl rfl (Sl.cons_ ha760 rfl rfl (Sl.cons_ ha760 rfl rfl (Sl.cons_ ha760 rfl rfl (Sl.cons_ ha760 rfl rfl (Sl.cons_ ha760 rfl rfl (Sl.cons_ ha760 rfl rfl (Sl.cons_ ha760 rfl rfl (Sl.cons_ ha760 rfl rfl (Sl.nil_ ha760))))))))))), hx762, hf36, (hf37.fin (by omega) (by omega) (by omega)), hb740, ho757, (by omega), (by omega), (by omega), (by omega), (by omega)⟩)
   ·
    clear ha42 a42
    rintro a764 w48 ⟨g44, q45, q46, q47, ha764, hx49, hf50, hf51, hf52, hg766, hg767, hg768, hg769, hg770, hg771, hzl765⟩
    have hzhx49 := hx49.size
    have hgl772 := hf50.lt
    have hgl773 := hf52.lt
    refine wp_seq ?_
    refine wp_region_lit ?_
    refine wl_val ha764 rfl rfl rfl (op_move ha764 rfl rfl) ?_
    intro a774 ha774; clear ha764 a764
    refine wl_val ha774 rfl rfl rfl (op_fieldAddr (sz := 0) ha774 rfl Try.underlying41 rfl rfl ti9 rfl) ?_
    intro a775 ha775; clear ha774 a774
    refine wl_val ha775 rfl rfl rfl (op_loadF (off := 2) ha775 rfl Try.underlying9 rfl rfl hf52.cells rfl) ?_
    intro a776 ha776; clear ha775 a775
    refine wl_callR ha776 rfl rfl rfl (op_call ha776 rfl cb57 rfl) (c_spec_l33Owes _ v xs q46 (hf51.rds pos_shEnt) (by first | assumption | omega | (constructor <;> omega) | (dsimp only; omega) | (simp; done) | (simp; omega)) (by first | assumption | omega | (constructor <;> omega) | (dsimp only; omega) | (simp; done) | (simp; omega))) ?_
    rintro v777 w778 he779 rfl a780 ha780; clear ha776 a776
    have hx781 := hx49.trans' (Stp.of_ext he779 _)
    have hzhx781 := he779.size
    replace hf50 := hf50.ext he779
    replace hf51 := hf51.ext he779
    replace hf52 := hf52.ext he779
    refine wl_val ha780 rfl rfl rfl (op_assign ha780 rfl rfl) ?_
    intro a782 ha782; clear ha780 a780
    refine wpList_nil ?_
    refine then_n ?_
    refine seq_mid (fun fr wl => ∃ (k : Int), Sl 72 fr [(0, .pointer (some (⟨g_s, 0, none⟩ : Addr))), (3, v), (4, .int .i64 d), (5, .int .i64 m), (6, .pointer (some (⟨g44, 0, none⟩ : Addr)))] ∧ Stp w0 wl (some g_s) ∧ Src wl g_s b_s 81 ∧ Own shEnt 41 w0.heap.size w0.heap.size w34.heap.size wl v xs ∧ Box wl g44 41 [.int .i64 d, .int .i64 (q45 : Int), St q46, .int .i64 k] ∧ w778.heap.size ≤ wl.heap.size ∧ (0 ≤ k ∧ k ≤ 10000000)) ?_ ?_
    ·
     refine wp_seq ?_
     refine wp_region_lit ?_
     refine wl_val ha782 rfl rfl rfl (op_fieldAddr (sz := 0) ha782 rfl Try.underlying41 rfl rfl ti2 rfl) ?_
     intro a788 ha788; clear ha782 a782
     refine wl_val ha788 rfl rfl rfl (op_loadF (off := 1) ha788 rfl Try.underlying2 rfl rfl hf52.cells rfl) ?_
     intro a789 ha789; clear ha788 a788
     refine wl_val ha789 rfl rfl rfl (op_eql ha789 rfl rfl rfl) ?_
     intro a790 ha790; clear ha789 a789
     refine wl_val ha790 rfl rfl rfl (op_move ha790 rfl rfl) ?_
     intro a791 ha791; clear ha790 a790
     by_cases c792 : (q45 : Int) = (1 : Int)
     ·
      rw [decide_eq_true c792] at ha791
      refine wl_val ha791 rfl rfl rfl (op_move ha791 rfl rfl) ?_
      intro a793 ha793; clear ha791 a791
      refine wl_val ha793 rfl rfl rfl (op_gtr ha793 rfl rfl rfl) ?_
      intro a794 ha794; clear ha793 a793
      refine wl_val ha794 rfl rfl rfl (op_pick_t ha794 rfl rfl rfl) ?_
      intro a795 ha795; clear ha794 a794
      refine wl_val ha795 rfl rfl rfl (op_move ha795 rfl rfl) ?_
      intro a796 ha796; clear ha795 a795
      by_cases c797 : (0 : Int) < (owS q46 xs : Int)
      ·
       rw [decide_eq_true c797] at ha796
       refine wl_val ha796 rfl rfl rfl (op_move ha796 rfl rfl) ?_
       intro a798 ha798; clear ha796 a796
       refine wl_callS ha798 rfl rfl rfl (op_call ha798 rfl cb73 rfl) (c_spec_l01Next _ g_s b_s (3 : Int) hf50) ?_
       rintro v799 w800 he801 ⟨hS802, ⟨q803, hq804, hq805, hq806, rfl⟩⟩ a807 ha807; clear ha798 a798
       have hx808 := hx781.trans' he801
       have hzhx808 := he801.size
       first | replace hf51 := hf51.stp he801 (by intro q hq; cases hq; omega) | replace hf51 := hf51.stpF flat_shEnt he801 (by intro q hq; cases hq; exact hf51.ne_box (by assumption) rfl)
       replace hf52 := hf52.stp he801 (by intro q hq; cases hq; omega)
       clear hf50
       have hSlhS802 := hS802.lt
       refine wl_val ha807 rfl rfl rfl (op_gtr ha807 rfl rfl rfl) ?_
       intro a809 ha809; clear ha807 a807
       refine wl_val ha809 rfl rfl rfl (op_pick_t ha809 rfl rfl rfl) ?_
       intro a810 ha810; clear ha809 a809
       refine wpList_nil ?_
       refine then_n ?_
       by_cases c811 : (0 : Int) < (q803 : Int)
       ·
        rw [decide_eq_true c811] at ha810
        refine cond_t ha810 rfl ?_
        refine wp_region_lit ?_
        refine wl_val ha810 rfl rfl rfl (op_move ha810 rfl rfl) ?_
        intro a812 ha812; clear ha810 a810
        refine wl_val ha812 rfl rfl rfl (op_min ha812 rfl rfl rfl) ?_
        intro a813 ha813; clear ha812 a812
        refine wl_val ha813 rfl rfl rfl (op_fieldAddr (sz := 0) ha813 rfl Try.underlying41 rfl rfl ti2 rfl) ?_
        intro a814 ha814; clear ha813 a813
        refine wl_effS ha814 rfl rfl (op_store' (off := 3) ha814 rfl ti2 rfl rfl hf52 rfl rfl (by simp [Value.oneCell']) (Nat.le_of_ble_eq_true rfl)) ?_
        rintro w815 ⟨hb817, hst816, hz818⟩
        have hx819 := hx808.fresh hst816 (by intro q hq; cases hq; exact (by omega))
        have hzhx819 := hst816.size
        first | replace hf51 := hf51.stp hst816 (by intro q hq; cases hq; omega) | replace hf51 := hf51.stpF flat_shEnt hst816 (by intro q hq; cases hq; exact hf51.ne_box (by assumption) rfl)
        replace hS802 := hS802.stp hst816 (by intro q hq; cases hq; omega)
        clear hf52
        refine wpList_nil ?_
        refine then_n ?_
        refine ⟨(min (10000000 : Int) (owS q46 xs : Int)), (Sl.cons_ ha814 rfl rfl (Sl.cons_ ha814 rfl rfl (Sl.cons_ ha814 rfl rfl (Sl.cons_ ha814 rfl rfl (Sl.cons_ ha814 rfl rfl (Sl.nil_ ha814)))))), hx819, hS802, hf51, hb817, (by omega), (by constructor <;> omega)⟩
       ·
        rw [decide_eq_false c811] at ha810
        refine cond_f ha810 rfl ?_
        refine wp_skip ?_
        refine then_n ?_
        refine ⟨((100 : Int) * ((1 : Int) + (q47 : Int))), (Sl.cons_ ha810 rfl rfl (Sl.cons_ ha810 rfl rfl (Sl.cons_ ha810 rfl rfl (Sl.cons_ ha810 rfl rfl (Sl.cons_ ha810 rfl rfl (Sl.nil_ ha810)))))), hx808, hS802, hf51, hf52, (by omega), (by constructor <;> omega)⟩
      ·
       rw [decide_eq_false c797] at ha796
       refine wl_skip ha796 rfl rfl rfl ?_
       intro a820 ha820; clear ha796 a796
       refine wl_skip ha820 rfl rfl rfl ?_
       intro a821 ha821; clear ha820 a820
       refine wl_skip ha821 rfl rfl rfl ?_
       intro a822 ha822; clear ha821 a821
       refine wl_val ha822 rfl rfl rfl (op_pick_f ha822 rfl rfl rfl) ?_
       intro a823 ha823; clear ha822 a822
       refine wpList_nil ?_
       refine then_n ?_
       refine cond_f ha823 rfl ?_
       refine wp_skip ?_
       refine then_n ?_
       refine ⟨((100 : Int) * ((1 : Int) + (q47 : Int))), (Sl.cons_ ha823 rfl rfl (Sl.cons_ ha823 rfl rfl (Sl.cons_ ha823 rfl rfl (Sl.cons_ ha823 rfl rfl (Sl.cons_ ha823 rfl rfl (Sl.nil_ ha823)))))), hx781, hf50, hf51, hf52, (by omega), (by constructor <;> omega)⟩
     ·
      rw [decide_eq_false c792] at ha791
      refine wl_skip ha791 rfl rfl rfl ?_
      intro a824 ha824; clear ha791 a791
      refine wl_skip ha824 rfl rfl rfl ?_
      intro a825 ha825; clear ha824 a824
      refine wl_val ha825 rfl rfl rfl (op_pick_f ha825 rfl rfl rfl) ?_
      intro a826 ha826; clear ha825 a825
      refine wl_val ha826 rfl rfl rfl (op_move ha826 rfl rfl) ?_
      intro a827 ha827; clear ha826 a826
      refine wl_skip ha827 rfl rfl rfl ?_
      intro a828 ha828; clear ha827 a827
      refine wl_skip ha828 rfl rfl rfl ?_
      intro a829 ha829; clear ha828 a828
      refine wl_skip ha829 rfl rfl rfl ?_
      intro a830 ha830; clear ha829 a829
      refine wl_val ha830 rfl rfl rfl (op_pick_f ha830 rfl rfl rfl) ?_
      intro a831 ha831; clear ha830 a830
      refine wpList_nil ?_
      refine then_n ?_
      refine cond_f ha831 rfl ?_
      refine wp_skip ?_
      refine then_n ?_
      refine ⟨((100 : Int) * ((1 : Int) + (q47 : Int))), (Sl.cons_ ha831 rfl rfl (Sl.cons_ ha831 rfl rfl (Sl.cons_ ha831 rfl rfl (Sl.cons_ ha831 rfl rfl (Sl.cons_ ha831 rfl rfl (Sl.nil_ ha831)))))), hx781, hf50, hf51, hf52, (by omega), (by constructor <;> omega)⟩
    ·
     clear ha782 a782
     rintro a832 w783 ⟨k, ha832, hx784, hf785, hf786, hf787, hzl833, hk⟩
     have hzhx784 := hx784.size
     have hgl834 := hf785.lt
     refine seq_mid (fun fr wl => ∃ (nm : Str) (k2 : Int), Sl 72 fr [(0, .pointer (some (⟨g_s, 0, none⟩ : Addr))), (3, v), (4, .int .i64 d), (5, .int .i64 m), (6, .pointer (some (⟨g44, 0, none⟩ : Addr)))] ∧ Stp w0 wl (some g_s) ∧ Src wl g_s b_s 81 ∧ Own shEnt 41 w0.heap.size w0.heap.size w34.heap.size wl v xs ∧ Box wl g44 41 [.int .i64 d, .int .i64 (q45 : Int), St nm, .int .i64 k2] ∧ w783.heap.size ≤ wl.heap.size ∧ (nm.length ≤ 17) ∧ (0 ≤ k2 ∧ k2 ≤ 10000000)) ?_ ?_
     ·
      refine wp_seq ?_
      refine wp_region_lit ?_
      refine wl_val ha832 rfl rfl rfl (op_fieldAddr (sz := 0) ha832 rfl Try.underlying41 rfl rfl ti2 rfl) ?_
      intro a840 ha840; clear ha832 a832
      refine wl_val ha840 rfl rfl rfl (op_loadF (off := 1) ha840 rfl Try.underlying2 rfl rfl hf787.cells rfl) ?_
      intro a841 ha841; clear ha840 a840
      refine wl_val ha841 rfl rfl rfl (op_eql ha841 rfl rfl rfl) ?_
      intro a842 ha842; clear ha841 a841
      refine wpList_nil ?_
      refine then_n ?_
      by_cases c843 : (q45 : Int) = (3 : Int)
      ·
       rw [decide_eq_true c843] at ha842
       refine cond_t ha842 rfl ?_
       refine wp_seq ?_
       refine wp_region_lit ?_
       refine wl_val ha842 rfl rfl rfl (op_fieldAddr (sz := 0) ha842 rfl Try.underlying41 rfl rfl ti9 rfl) ?_
       intro a844 ha844; clear ha842 a842
       refine wl_effS ha844 rfl rfl (op_store' (off := 2) ha844 rfl ti9 rfl rfl hf787 rfl rfl (by simp [Value.oneCell']) (Nat.le_of_ble_eq_true rfl)) ?_
       rintro w845 ⟨hb847, hst846, hz848⟩
       have hx849 := hx784.fresh hst846 (by intro q hq; cases hq; exact (by omega))
       have hzhx849 := hst846.size
       replace hf785 := hf785.stp hst846 (by intro q hq; cases hq; omega)
       first | replace hf786 := hf786.stp hst846 (by intro q hq; cases hq; omega) | replace hf786 := hf786.stpF flat_shEnt hst846 (by intro q hq; cases hq; exact hf786.ne_box (by assumption) rfl)
       clear hf787
       refine wpList_nil ?_
       refine then_n ?_
       refine wp_region_lit ?_
       refine wl_val ha844 rfl rfl rfl (op_fieldAddr (sz := 0) ha844 rfl Try.underlying41 rfl rfl ti2 rfl) ?_
       intro a850 ha850; clear ha844 a844
       refine wl_effS ha850 rfl rfl (op_store' (off := 3) ha850 rfl ti2 rfl rfl hb847 rfl rfl (by simp [Value.oneCell']) (Nat.le_of_ble_eq_true rfl)) ?_
       rintro w851 ⟨hb853, hst852, hz854⟩
       have hx855 := hx849.fresh hst852 (by intro q hq; cases hq; exact (by omega))
       have hzhx855 := hst852.size
       replace hf785 := hf785.stp hst852 (by intro q hq; cases hq; omega)
       first | replace hf786 := hf786.stp hst852 (by intro q hq; cases hq; omega) | replace hf786 := hf786.stpF flat_shEnt hst852 (by intro q hq; cases hq; exact hf786.ne_box (by assumption) rfl)
       clear hb847
       refine wpList_nil ?_
       refine then_n ?_
       refine ⟨([] : Str), (0 : Int), (Sl.cons_ ha850 rfl rfl (Sl.cons_ ha850 rfl rfl (Sl.cons_ ha850 rfl rfl (Sl.cons_ ha850 rfl rfl (Sl.cons_ ha850 rfl rfl (Sl.nil_ ha850)))))), hx855, hf785, hf786, hb853, (by omega), (by first | omega | (simp; done) | (simp; omega)), (by constructor <;> omega)⟩
      ·
       rw [decide_eq_false c843] at ha842
       refine cond_f ha842 rfl ?_
       refine wp_skip ?_
       refine then_n ?_
       refine ⟨q46, k, (Sl.cons_ ha842 rfl rfl (Sl.cons_ ha842 rfl rfl (Sl.cons_ ha842 rfl rfl (Sl.cons_ ha842 rfl rfl (Sl.cons_ ha842 rfl rfl (Sl.nil_ ha842)))))), hx784, hf785, hf786, hf787, (by omega), (by first | omega | (simp; done) | (simp; omega)), (by constructor <;> omega)⟩
     ·
      clear ha832 a832
      rintro a856 w835 ⟨nm, k2, ha856, hx836, hf837, hf838, hf839, hzl857, hnm, hk2⟩
      have hzhx836 := hx836.size
      have hgl858 := hf837.lt
      refine wp_seq ?_
      refine wp_region_lit ?_
      refine wl_val ha856 rfl rfl rfl (op_move ha856 rfl rfl) ?_
      intro a859 ha859; clear ha856 a856
      refine wl_val ha859 rfl rfl rfl (op_loadS ha859 rfl Try.underlying41 ti41 rfl rfl hf839.cells) ?_
      intro a860 ha860; clear ha859 a859
      refine wl_callR ha860 rfl rfl rfl (op_call ha860 rfl cb29 rfl) (c_spec_AddEntry _ v xs ((d, (q45 : Int), nm, k2)) (hf838.rds pos_shEnt) (by first | assumption | omega | (constructor <;> omega) | (dsimp only; omega) | (simp; done) | (simp; omega)) (by first | assumption | omega | (constructor <;> omega) | (dsimp only; omega) | (simp; done) | (simp; omega)) (by first | assumption | omega | (constructor <;> omega) | (dsimp only; omega) | (simp; done) | (simp; omega)) (by first | assumption | omega | (constructor <;> omega) | (dsimp only; omega) | (simp; done) | (simp; omega)) (by first | assumption | omega | (constructor <;> omega) | (dsimp only; omega) | (simp; done) | (simp; omega))) ?_
      rintro v861 w862 he863 ⟨v864, rfl, ho865⟩ a866 ha866; clear ha860 a860
      have hx867 := hx836.trans' (Stp.of_ext he863 _)
      have hzhx867 := he863.size
      replace hf837 := hf837.ext he863
      replace hf838 := hf838.ext he863
      replace hf839 := hf839.ext he863
      refine wl_val ha866 rfl rfl rfl (op_move ha866 rfl rfl) ?_
      intro a868 ha868; clear ha866 a866
      refine wl_val ha868 rfl rfl rfl (op_extract ha868 rfl rfl rfl) ?_
      intro a869 ha869; clear ha868 a868
      refine wl_val ha869 rfl rfl rfl (op_extract ha869 rfl rfl rfl) ?_
      intro a870 ha870; clear ha869 a869
      refine wl_val ha870 rfl rfl rfl (op_assign ha870 rfl rfl) ?_
      intro a871 ha871; clear ha870 a870
      refine wl_val ha871 rfl rfl rfl (op_assign ha871 rfl rfl) ?_
      intro a872 ha872; clear ha871 a871
      refine wpList_nil ?_
      refine then_n ?_
      refine seq_mid (fun fr wl => ∃ (v2 : Value) (ys : List Ent), Sl 72 fr [(0, .pointer (some (⟨g_s, 0, none⟩ : Addr))), (3, v2), (4, .int .i64 d), (5, .int .i64 m)] ∧ Stp w0 wl (some g_s) ∧ Src wl g_s b_s 81 ∧ Own shEnt 41 w0.heap.size w0.heap.size wl.heap.size wl v2 ys ∧ w862.heap.size ≤ wl.heap.size ∧ (dbB ys = true)) ?_ ?_
      ·
       refine wp_seq ?_
       clear hf839
       refine wp_region_lit ?_
       refine wl_val ha872 rfl rfl rfl (op_move ha872 rfl rfl) ?_
       intro a877 ha877; clear ha872 a872
       refine wl_val ha877 rfl rfl rfl (op_eql ha877 rfl rfl rfl) ?_
       intro a878 ha878; clear ha877 a877
       refine wpList_nil ?_
       refine then_n ?_
       by_cases c879 : (addC xs ((d, (q45 : Int), nm, k2)) : Int) = (0 : Int)
       ·
        rw [decide_eq_true c879] at ha878
        refine cond_t ha878 rfl ?_
        clear hf838
        refine wp_region_lit ?_
        refine wl_val ha878 rfl rfl rfl (op_move ha878 rfl rfl) ?_
        intro a880 ha880; clear ha878 a878
        refine wl_val ha880 rfl rfl rfl (op_assign ha880 rfl rfl) ?_
        intro a881 ha881; clear ha880 a880
        refine wpList_nil ?_
        refine then_n ?_
        refine ⟨v864, (addL xs ((d, (q45 : Int), nm, k2))), (Sl.cons_ ha881 rfl rfl (Sl.cons_ ha881 rfl rfl (Sl.cons_ ha881 rfl rfl (Sl.cons_ ha881 rfl rfl (Sl.nil_ ha881))))), hx867, hf837, (ho865.fin (by omega) (by omega) (by omega)), (by omega), (by exact add_db c879)⟩
       ·
        rw [decide_eq_false c879] at ha878
        refine cond_f ha878 rfl ?_
        refine wp_skip ?_
        refine then_n ?_
        refine ⟨v, xs, (Sl.cons_ ha878 rfl rfl (Sl.cons_ ha878 rfl rfl (Sl.cons_ ha878 rfl rfl (Sl.cons_ ha878 rfl rfl (Sl.nil_ ha878))))), hx867, hf837, (hf838.fin (by omega) (by omega) (by omega)), (by omega), (by first | exact hV2 | exact hV)⟩
      ·
       clear ha872 a872
       rintro a882 w873 ⟨v2, ys, ha882, hx874, hf875, hf876, hzl883, hV2⟩
       have hzhx874 := hx874.size
       have hgl884 := hf875.lt
       refine wp_region_lit ?_
       refine wl_val ha882 rfl rfl rfl (op_move ha882 rfl rfl) ?_
       intro a885 ha885; clear ha882 a882
       refine wl_val ha885 rfl rfl rfl (op_move ha885 rfl rfl) ?_
       intro a886 ha886; clear ha885 a885
       refine wl_eff ha886 rfl rfl rfl (op_buildSlice (s := shI64) (xs := [(0 : Int), (0 : Int), (1 : Int), (2 : Int)]) (cs := [.int .i64 (0 : Int), .int .i64 (0 : Int), .int .i64 (1 : Int), .int .i64 (2 : Int)]) (vs := [(0, .int .i64 (0 : Int)), (1, .int .i64 (0 : Int)), (2, .int .i64 (1 : Int)), (3, .int .i64 (2 : Int))]) (S := fun _ => False) (le := w873.heap.size) ha886 rfl pos_shI64 Try.underlying45 ti2 rfl rfl (by decide) (by kernel_rfl) ⟨mk_shI64 ((0 : Int)) (by first | assumption | omega | (constructor <;> omega) | (dsimp only; omega) | (simp; done) | (simp; omega)), mk_shI64 ((0 : Int)) (by first | assumption | omega | (constructor <;> omega) | (dsimp only; omega) | (simp; done) | (simp; omega)), mk_shI64 ((1 : Int)) (by first | assumption | omega | (constructor <;> omega) | (dsimp only; omega) | (simp; done) | (simp; omega)), mk_shI64 ((2 : Int)) (by first | assumption | omega | (constructor <;> omega) | (dsimp only; omega) | (simp; done) | (simp; omega)), rfl⟩ (fun _ h => h.elim)) ?_
       rintro v887 w888 ⟨ho889, he890, hob891⟩ a892 ha892; clear ha886 a886
       have hx893 := hx874.trans' (Stp.of_ext he890 _)
       have hzhx893 := he890.size
       replace hf875 := hf875.ext he890
       replace hf876 := hf876.ext he890
       refine wl_callS ha892 rfl rfl rfl (op_call ha892 rfl cb72 rfl) (c_spec_l01Pick _ g_s b_s v887 ([(0 : Int), (0 : Int), (1 : Int), (2 : Int)]) hf875 (ho889.rds pos_shI64) (by rintro ⟨_, _⟩; omega) (by first | assumption | omega | (constructor <;> omega) | (dsimp only; omega) | (simp; done) | (simp; omega))) ?_
       rintro v894 w895 he896 ⟨hS897, ⟨q898, hq899, rfl⟩⟩ a900 ha900; clear ha892 a892
       have hx901 := hx893.trans' he896
       have hzhx901 := he896.size
       first | replace hf876 := hf876.stp he896 (by intro q hq; cases hq; omega) | replace hf876 := hf876.stpF flat_shEnt he896 (by intro q hq; cases hq; exact hf876.ne_box (by assumption) rfl)
       first | replace ho889 := ho889.stp he896 (by intro q hq; cases hq; omega) | replace ho889 := ho889.stpF flat_shI64 he896 (by intro q hq; cases hq; exact ho889.ne_box (by assumption) rfl)
       clear hf875
       have hSlhS897 := hS897.lt
       simp only [List.mem_cons, List.not_mem_nil, or_false] at hq899
       refine wl_val ha900 rfl rfl rfl ((op_add ha900 rfl rfl rfl).int (IntWalk.i64_in _ (by omega))) ?_
       intro a902 ha902; clear ha900 a900
       refine wl_val ha902 rfl rfl rfl (op_assign ha902 rfl rfl) ?_
       intro a903 ha903; clear ha902 a902
       refine wpList_nil ?_
       refine block_n ?_
       refine then_n ?_
       clear ho889
       refine wp_region_lit ?_
       refine wl_val ha903 rfl rfl rfl (op_move ha903 rfl rfl) ?_
       intro a904 ha904; clear ha903 a903
       refine wl_val ha904 rfl rfl rfl ((op_sub ha904 rfl rfl rfl).int (IntWalk.i64_in _ (by omega))) ?_
       intro a905 ha905; clear ha904 a904
       refine wl_val ha905 rfl rfl rfl (op_assign ha905 rfl rfl) ?_
       intro a906 ha906; clear ha905 a905
       refine wpList_nil ?_
       refine round_end (x := (m, d, v, xs)) ((m - (1 : Int)), (d + (q898 : Int)), v2, ys) ?_ ?_
       ·
        refine ⟨(Sl.cons_ ha906 rfl rfl (Sl.cons_ ha906 rfl rfl (Sl.cons_ ha906 rfl (int_eq (by omega)) (Sl.cons_ ha906 rfl (int_eq (by omega)) (Sl.nil_ ha906))))), hx901, hS897, (hf876.fin (by omega) (by omega) (by omega)), (by omega), (by omega), (by omega), (by omega), (by omega), (by first | exact hV2 | exact hV)⟩
       ·show (((m - (1 : Int))).toNat : Nat) < m.toNat; omega
  ·
   rw [decide_eq_false c43] at ha42
   refine cond_f ha42 rfl ?_
   refine wp_exit ?_
   refine then_e ?_
   refine then_e ?_
   refine block_hit ?_
   refine then_n ?_
   refine wp_seq ?_
   refine wp_region_lit ?_
   refine wl_val ha42 rfl rfl rfl (op_move ha42 rfl rfl) ?_
   intro a907 ha907; clear ha42 a42
   refine wl_val ha907 rfl rfl rfl (op_assign ha907 rfl rfl) ?_
   intro a908 ha908; clear ha907 a907
   refine wpList_nil ?_
   refine then_n ?_
   refine wp_ret ?_
   refine ret1 ha908 rfl rfl ?_
   clear ha908 a908
   refine ret_mkS hx35 ⟨hf36, ?_⟩
   refine ⟨((xs) : List Ent), (by exact hV), ?_⟩
   refine (hf37.fin (by omega) (by omega) (by omega)).cast ?_
   rfl

set_option maxHeartbeats 8000000 in
theorem c_spec_l33Name (w0 : World) (g_s b_s : Nat) (h_s : Src w0 g_s b_s 81) :
  Calls Try.prog 79 #[.pointer (some (⟨g_s, 0, none⟩ : Addr))] w0 (RetS w0 (some g_s) (fun v w1 => Src w1 g_s b_s 81 ∧ (fun v w1 => ∃ (d : Str), (d.length ≤ 17) ∧ (fun v _ => v = St (d)) v w1) v w1)) := by
 refine enter (N := 8) Try.func79 rfl rfl rfl ?_
 intro a0 ha0
 have hx0 := Stp.rfl' w0 (some g_s)
 have hgl_s := h_s.lt
 refine wp_seq ?_
 refine wp_region_lit ?_
 refine wl_val ha0 rfl rfl rfl (op_assign ha0 rfl rfl) ?_
 intro a1 ha1; clear ha0 a0
 refine wpList_nil ?_
 refine then_n ?_
 refine wp_seq ?_
 refine wp_region_lit ?_
 refine wl_eff ha1 rfl rfl rfl (op_buildSlice (s := shStr) (xs := [([97, 100, 97] : Str), ([98, 111] : Str), ([99, 121] : Str), ([97, 100, 97] : Str), ([98, 111] : Str), ([110, 111, 98, 111, 100, 121] : Str), ([] : Str)]) (cs := [St (([97, 100, 97] : Str)), St (([98, 111] : Str)), St (([99, 121] : Str)), St (([97, 100, 97] : Str)), St (([98, 111] : Str)), St (([110, 111, 98, 111, 100, 121] : Str)), St (([] : Str))]) (vs := [(0, St (([97, 100, 97] : Str))), (1, St (([98, 111] : Str))), (2, St (([99, 121] : Str))), (3, St (([97, 100, 97] : Str))), (4, St (([98, 111] : Str))), (5, St (([110, 111, 98, 111, 100, 121] : Str))), (6, St (([] : Str)))]) (S := fun _ => False) (le := w0.heap.size) ha1 rfl pos_shStr Try.underlying52 ti9 rfl rfl (by decide) (by kernel_rfl) ⟨mk_shStr (([97, 100, 97] : Str)) (by first | omega | (simp only []; omega) | (simp; done)), mk_shStr (([98, 111] : Str)) (by first | omega | (simp only []; omega) | (simp; done)), mk_shStr (([99, 121] : Str)) (by first | omega | (simp only []; omega) | (simp; done)), mk_shStr (([97, 100, 97] : Str)) (by first | omega | (simp only []; omega) | (simp; done)), mk_shStr (([98, 111] : Str)) (by first | omega | (simp only []; omega) | (simp; done)), mk_shStr (([110, 111, 98, 111, 100, 121] : Str)) (by first | omega | (simp only []; omega) | (simp; done)), mk_shStr (([] : Str)) (by first | omega | (simp only []; omega) | (simp; done)), rfl⟩ (fun _ h => h.elim)) ?_
 rintro v2 w3 ⟨ho4, he5, hob6⟩ a7 ha7; clear ha1 a1
 have hx8 := hx0.trans' (Stp.of_ext he5 _)
 have hzhx8 := he5.size
 replace h_s := h_s.ext he5
 refine wl_val ha7 rfl rfl rfl (op_move ha7 rfl rfl) ?_
 intro a9 ha9; clear ha7 a7
 refine wl_callS ha9 rfl rfl rfl (op_call ha9 rfl cb73 rfl) (c_spec_l01Next _ g_s b_s (7 : Int) h_s) ?_
 rintro v10 w11 he12 ⟨hS13, ⟨q14, hq15, hq16, hq17, rfl⟩⟩ a18 ha18; clear ha9 a9
 have hx19 := hx8.trans' he12
 have hzhx19 := he12.size
 first | replace ho4 := ho4.stp he12 (by intro q hq; cases hq; omega) | replace ho4 := ho4.stpF flat_shStr he12 (by intro q hq; cases hq; exact ho4.ne_box (by assumption) rfl)
 have hSlhS13 := hS13.lt
 obtain ⟨x20, hx20⟩ := get_ex (xs := [([97, 100, 97] : Str), ([98, 111] : Str), ([99, 121] : Str), ([97, 100, 97] : Str), ([98, 111] : Str), ([110, 111, 98, 111, 100, 121] : Str), ([] : Str)]) (j := ((q14 : Int)).toNat) (by first | omega | (simp only [List.length_cons, List.length_nil]; omega))
 obtain ⟨p21, c22, hi23, hc24, hr25, hs26⟩ := Rds.at_ (ho4.rds pos_shStr) hx20
 obtain ⟨rfl, b27⟩ := inv_shStr hr25
 obtain ⟨_, _⟩ : _ ∧ _ := hs26
 have hdlx20 := el_len 17 (by rfl) hx20
 refine wl_val ha18 rfl rfl rfl (op_indexAddr ha18 rfl Try.underlying52 ti9 rfl rfl (by omega) hi23) ?_
 intro a28 ha28; clear ha18 a18
 refine wl_val ha28 rfl rfl rfl (op_loadH ha28 rfl Try.underlying9 rfl rfl hc24 rfl) ?_
 intro a29 ha29; clear ha28 a28
 refine wl_val ha29 rfl rfl rfl (op_assign ha29 rfl rfl) ?_
 intro a30 ha30; clear ha29 a29
 refine wpList_nil ?_
 refine then_n ?_
 refine wp_ret ?_
 refine ret1 ha30 rfl rfl ?_
 clear ha30 a30
 refine ret_mkS hx19 ⟨hS13, ?_⟩
 refine ⟨(x20 : Str), (by first | omega | (simp; omega)), ?_⟩
 exact (congrArg St (by rfl))


end Go.Proofs.Ytocedhbefdaefaa
