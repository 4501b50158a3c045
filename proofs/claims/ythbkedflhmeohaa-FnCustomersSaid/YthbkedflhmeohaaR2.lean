/- Names, bikes and customers drawn. -/
import Derived.Test.YthbkedflhmeohaaR1
import Derived.Test.YthbkedflhmeohaaB0
import Derived.Test.YthbkedflhmeohaaNarrow
namespace Go.Proofs.Ythbkedflhmeohaa
open Go Go.RowKit

theorem el_len {xs : List Str} {i : Nat} {x : Str} (n : Nat) (h : (xs.all fun s => decide (s.length ≤ n)) = true) (hx : xs[i]? = some x) : x.length ≤ n := by
  rw [List.all_eq_true] at h
  simpa using h x (List.mem_of_getElem? hx)

theorem gvL_max {xs : List Cust} (n b : Str) (h : xs.length ≤ 21) : (gvL xs n b).length ≤ 21 := Nat.le_trans (gvL_len xs n b) h

set_option maxHeartbeats 8000000 in
theorem c_spec_l01Good (w0 : World) (g_s b_s : Nat) (h_s : Src w0 g_s b_s 82) :
  Calls Try.prog 82 #[.pointer (some (⟨g_s, 0, none⟩ : Addr))] w0 (RetS w0 (some g_s) (fun v w1 => Src w1 g_s b_s 82 ∧ (fun v w1 => ∃ (d : Str), (d.length ≤ 17) ∧ (fun v _ => v = St (d)) v w1) v w1)) := by
 refine enter (N := 8) Try.func82 rfl rfl rfl ?_
 intro a0 ha0
 have hx0 := Stp.rfl' w0 (some g_s)
 have hgl_s := h_s.lt
 refine wp_seq ?_
 refine wp_region_lit ?_
 refine wl_val ha0 rfl rfl rfl (op_assign ha0 rfl rfl) ?_
 intro a1 ha1; clear ha0 a0
 refine wpList_nil ?_
 refine then_n ?_
 refine wp_seq ?_
 refine wp_region_lit ?_
 refine wl_eff ha1 rfl rfl rfl (op_buildSlice (s := shStr) (xs := [([97, 100, 97] : Str), ([98, 114, 117, 110, 111] : Str), ([99, 108, 97, 114, 97] : Str), ([100, 111, 114, 97] : Str), ([101, 109, 105, 108] : Str), ([102, 114, 105, 100, 97] : Str), ([103, 117, 115, 116, 97, 118] : Str), ([104, 97, 110, 110, 97] : Str), ([105, 118, 97, 110] : Str), ([106, 97, 110, 97] : Str), ([107, 97, 114, 108] : Str), ([108, 101, 110, 97] : Str)]) (cs := [St (([97, 100, 97] : Str)), St (([98, 114, 117, 110, 111] : Str)), St (([99, 108, 97, 114, 97] : Str)), St (([100, 111, 114, 97] : Str)), St (([101, 109, 105, 108] : Str)), St (([102, 114, 105, 100, 97] : Str)), St (([103, 117, 115, 116, 97, 118] : Str)), St (([104, 97, 110, 110, 97] : Str)), St (([105, 118, 97, 110] : Str)), St (([106, 97, 110, 97] : Str)), St (([107, 97, 114, 108] : Str)), St (([108, 101, 110, 97] : Str))]) (vs := [(0, St (([97, 100, 97] : Str))), (1, St (([98, 114, 117, 110, 111] : Str))), (2, St (([99, 108, 97, 114, 97] : Str))), (3, St (([100, 111, 114, 97] : Str))), (4, St (([101, 109, 105, 108] : Str))), (5, St (([102, 114, 105, 100, 97] : Str))), (6, St (([103, 117, 115, 116, 97, 118] : Str))), (7, St (([104, 97, 110, 110, 97] : Str))), (8, St (([105, 118, 97, 110] : Str))), (9, St (([106, 97, 110, 97] : Str))), (10, St (([107, 97, 114, 108] : Str))), (11, St (([108, 101, 110, 97] : Str)))]) (S := fun _ => False) (le := w0.heap.size) ha1 rfl pos_shStr Try.underlying34 ti9 rfl rfl (by decide) (by kernel_rfl) ⟨mk_shStr (([97, 100, 97] : Str)) (by first | omega | (simp only []; omega) | (simp; done)), mk_shStr (([98, 114, 117, 110, 111] : Str)) (by first | omega | (simp only []; omega) | (simp; done)), mk_shStr (([99, 108, 97, 114, 97] : Str)) (by first | omega | (simp only []; omega) | (simp; done)), mk_shStr (([100, 111, 114, 97] : Str)) (by first | omega | (simp only []; omega) | (simp; done)), mk_shStr (([101, 109, 105, 108] : Str)) (by first | omega | (simp only []; omega) | (simp; done)), mk_shStr (([102, 114, 105, 100, 97] : Str)) (by first | omega | (simp only []; omega) | (simp; done)), mk_shStr (([103, 117, 115, 116, 97, 118] : Str)) (by first | omega | (simp only []; omega) | (simp; done)), mk_shStr (([104, 97, 110, 110, 97] : Str)) (by first | omega | (simp only []; omega) | (simp; done)), mk_shStr (([105, 118, 97, 110] : Str)) (by first | omega | (simp only []; omega) | (simp; done)), mk_shStr (([106, 97, 110, 97] : Str)) (by first | omega | (simp only []; omega) | (simp; done)), mk_shStr (([107, 97, 114, 108] : Str)) (by first | omega | (simp only []; omega) | (simp; done)), mk_shStr (([108, 101, 110, 97] : Str)) (by first | omega | (simp only []; omega) | (simp; done)), rfl⟩ (fun _ h => h.elim)) ?_
 rintro v2 w3 ⟨ho4, he5, hob6⟩ a7 ha7; clear ha1 a1
 have hx8 := hx0.trans' (Stp.of_ext he5 _)
 have hzhx8 := he5.size
 replace h_s := h_s.ext he5
 refine wl_val ha7 rfl rfl rfl (op_move ha7 rfl rfl) ?_
 intro a9 ha9; clear ha7 a7
 refine wl_callS ha9 rfl rfl rfl (op_call ha9 rfl cb75 rfl) (c_spec_l01Next _ g_s b_s (12 : Int) h_s) ?_
 rintro v10 w11 he12 ⟨hS13, ⟨q14, hq15, hq16, hq17, rfl⟩⟩ a18 ha18; clear ha9 a9
 have hx19 := hx8.trans' he12
 have hzhx19 := he12.size
 first | replace ho4 := ho4.stp he12 (by intro q hq; cases hq; omega) | replace ho4 := ho4.stpF flat_shStr he12 (by intro q hq; cases hq; exact ho4.ne_box (by assumption) rfl)
 have hSlhS13 := hS13.lt
 obtain ⟨x20, hx20⟩ := get_ex (xs := [([97, 100, 97] : Str), ([98, 114, 117, 110, 111] : Str), ([99, 108, 97, 114, 97] : Str), ([100, 111, 114, 97] : Str), ([101, 109, 105, 108] : Str), ([102, 114, 105, 100, 97] : Str), ([103, 117, 115, 116, 97, 118] : Str), ([104, 97, 110, 110, 97] : Str), ([105, 118, 97, 110] : Str), ([106, 97, 110, 97] : Str), ([107, 97, 114, 108] : Str), ([108, 101, 110, 97] : Str)]) (j := ((q14 : Int)).toNat) (by first | omega | (simp only [List.length_cons, List.length_nil]; omega))
 obtain ⟨p21, c22, hi23, hc24, hr25, hs26⟩ := Rds.at_ (ho4.rds pos_shStr) hx20
 obtain ⟨rfl, b27⟩ := inv_shStr hr25
 obtain ⟨_, _⟩ : _ ∧ _ := hs26
 have hdlx20 := el_len 17 (by rfl) hx20
 refine wl_val ha18 rfl rfl rfl (op_indexAddr ha18 rfl Try.underlying34 ti9 rfl rfl (by omega) hi23) ?_
 intro a28 ha28; clear ha18 a18
 refine wl_val ha28 rfl rfl rfl (op_loadH ha28 rfl Try.underlying9 rfl rfl hc24 rfl) ?_
 intro a29 ha29; clear ha28 a28
 refine wl_val ha29 rfl rfl rfl (op_assign ha29 rfl rfl) ?_
 intro a30 ha30; clear ha29 a29
 refine wpList_nil ?_
 refine then_n ?_
 refine wp_ret ?_
 refine ret1 ha30 rfl rfl ?_
 clear ha30 a30
 refine ret_mkS hx19 ⟨hS13, ?_⟩
 refine ⟨(x20 : Str), (by first | omega | (simp; omega)), ?_⟩
 exact (congrArg St (by rfl))

set_option maxHeartbeats 8000000 in
theorem c_spec_l01DrawWord (w0 : World) (g_s b_s : Nat) (h_s : Src w0 g_s b_s 82) :
  Calls Try.prog 76 #[.pointer (some (⟨g_s, 0, none⟩ : Addr))] w0 (RetS w0 (some g_s) (fun v w1 => Src w1 g_s b_s 82 ∧ (fun v w1 => ∃ (d : Str), (d.length ≤ 17) ∧ (fun v _ => v = St (d)) v w1) v w1)) := by
 refine enter (N := 13) Try.func76 rfl rfl rfl ?_
 intro a0 ha0
 have hx0 := Stp.rfl' w0 (some g_s)
 have hgl_s := h_s.lt
 refine wp_seq ?_
 refine wp_region_lit ?_
 refine wl_val ha0 rfl rfl rfl (op_assign ha0 rfl rfl) ?_
 intro a1 ha1; clear ha0 a0
 refine wpList_nil ?_
 refine then_n ?_
 refine wp_seq ?_
 refine wp_seq ?_
 refine wp_region_lit ?_
 refine wl_val ha1 rfl rfl rfl (op_move ha1 rfl rfl) ?_
 intro a2 ha2; clear ha1 a1
 refine wl_callS ha2 rfl rfl rfl (op_call ha2 rfl cb75 rfl) (c_spec_l01Next _ g_s b_s (24 : Int) h_s) ?_
 rintro v3 w4 he5 ⟨hS6, ⟨q7, hq8, hq9, hq10, rfl⟩⟩ a11 ha11; clear ha2 a2
 have hx12 := hx0.trans' he5
 have hzhx12 := he5.size
 have hSlhS6 := hS6.lt
 refine wl_val ha11 rfl rfl rfl (op_eql ha11 rfl rfl rfl) ?_
 intro a13 ha13; clear ha11 a11
 refine wpList_nil ?_
 refine then_n ?_
 by_cases c14 : (q7 : Int) = (0 : Int)
 ·
  rw [decide_eq_true c14] at ha13
  refine cond_t ha13 rfl ?_
  refine wp_seq ?_
  refine wp_region_lit ?_
  refine wl_eff ha13 rfl rfl rfl (op_buildSlice (s := shStr) (xs := [([] : Str), ([65, 100, 97] : Str), ([97, 49] : Str), ([97, 98, 99, 100, 101, 102, 103, 104, 105, 106, 107, 108, 109, 110, 111, 112] : Str), ([97, 98, 99, 100, 101, 102, 103, 104, 105, 106, 107, 108, 109, 110, 111, 112, 113] : Str), ([97, 32, 98] : Str)]) (cs := [St (([] : Str)), St (([65, 100, 97] : Str)), St (([97, 49] : Str)), St (([97, 98, 99, 100, 101, 102, 103, 104, 105, 106, 107, 108, 109, 110, 111, 112] : Str)), St (([97, 98, 99, 100, 101, 102, 103, 104, 105, 106, 107, 108, 109, 110, 111, 112, 113] : Str)), St (([97, 32, 98] : Str))]) (vs := [(0, St (([] : Str))), (1, St (([65, 100, 97] : Str))), (2, St (([97, 49] : Str))), (3, St (([97, 98, 99, 100, 101, 102, 103, 104, 105, 106, 107, 108, 109, 110, 111, 112] : Str))), (4, St (([97, 98, 99, 100, 101, 102, 103, 104, 105, 106, 107, 108, 109, 110, 111, 112, 113] : Str))), (5, St (([97, 32, 98] : Str)))]) (S := fun _ => False) (le := w4.heap.size) ha13 rfl pos_shStr Try.underlying34 ti9 rfl rfl (by decide) (by kernel_rfl) ⟨mk_shStr (([] : Str)) (by first | omega | (simp only []; omega) | (simp; done)), mk_shStr (([65, 100, 97] : Str)) (by first | omega | (simp only []; omega) | (simp; done)), mk_shStr (([97, 49] : Str)) (by first | omega | (simp only []; omega) | (simp; done)), mk_shStr (([97, 98, 99, 100, 101, 102, 103, 104, 105, 106, 107, 108, 109, 110, 111, 112] : Str)) (by first | omega | (simp only []; omega) | (simp; done)), mk_shStr (([97, 98, 99, 100, 101, 102, 103, 104, 105, 106, 107, 108, 109, 110, 111, 112, 113] : Str)) (by first | omega | (simp only []; omega) | (simp; done)), mk_shStr (([97, 32, 98] : Str)) (by first | omega | (simp only []; omega) | (simp; done)), rfl⟩ (fun _ h => h.elim)) ?_
  rintro v15 w16 ⟨ho17, he18, hob19⟩ a20 ha20; clear ha13 a13
  have hx21 := hx12.trans' (Stp.of_ext he18 _)
  have hzhx21 := he18.size
  replace hS6 := hS6.ext he18
  refine wl_val ha20 rfl rfl rfl (op_move ha20 rfl rfl) ?_
  intro a22 ha22; clear ha20 a20
  refine wl_callS ha22 rfl rfl rfl (op_call ha22 rfl cb75 rfl) (c_spec_l01Next _ g_s b_s (6 : Int) hS6) ?_
  rintro v23 w24 he25 ⟨hS26, ⟨q27, hq28, hq29, hq30, rfl⟩⟩ a31 ha31; clear ha22 a22
  have hx32 := hx21.trans' he25
  have hzhx32 := he25.size
  first | replace ho17 := ho17.stp he25 (by intro q hq; cases hq; omega) | replace ho17 := ho17.stpF flat_shStr he25 (by intro q hq; cases hq; exact ho17.ne_box (by assumption) rfl)
  clear hS6
  have hSlhS26 := hS26.lt
  obtain ⟨x33, hx33⟩ := get_ex (xs := [([] : Str), ([65, 100, 97] : Str), ([97, 49] : Str), ([97, 98, 99, 100, 101, 102, 103, 104, 105, 106, 107, 108, 109, 110, 111, 112] : Str), ([97, 98, 99, 100, 101, 102, 103, 104, 105, 106, 107, 108, 109, 110, 111, 112, 113] : Str), ([97, 32, 98] : Str)]) (j := ((q27 : Int)).toNat) (by first | omega | (simp only [List.length_cons, List.length_nil]; omega))
  obtain ⟨p34, c35, hi36, hc37, hr38, hs39⟩ := Rds.at_ (ho17.rds pos_shStr) hx33
  obtain ⟨rfl, b40⟩ := inv_shStr hr38
  obtain ⟨_, _⟩ : _ ∧ _ := hs39
  have hdlx33 := el_len 17 (by rfl) hx33
  refine wl_val ha31 rfl rfl rfl (op_indexAddr ha31 rfl Try.underlying34 ti9 rfl rfl (by omega) hi36) ?_
  intro a41 ha41; clear ha31 a31
  refine wl_val ha41 rfl rfl rfl (op_loadH ha41 rfl Try.underlying9 rfl rfl hc37 rfl) ?_
  intro a42 ha42; clear ha41 a41
  refine wl_val ha42 rfl rfl rfl (op_assign ha42 rfl rfl) ?_
  intro a43 ha43; clear ha42 a42
  refine wpList_nil ?_
  refine then_n ?_
  refine wp_ret ?_
  refine then_r ?_
  refine ret1 ha43 rfl rfl ?_
  clear ha43 a43
  refine ret_mkS hx32 ⟨hS26, ?_⟩
  refine ⟨(x33 : Str), (by first | omega | (simp; omega)), ?_⟩
  exact (congrArg St (by rfl))
 ·
  rw [decide_eq_false c14] at ha13
  refine cond_f ha13 rfl ?_
  refine wp_skip ?_
  refine then_n ?_
  refine wp_seq ?_
  refine wp_region_lit ?_
  refine wl_val ha13 rfl rfl rfl (op_move ha13 rfl rfl) ?_
  intro a44 ha44; clear ha13 a13
  refine wl_callS ha44 rfl rfl rfl (op_call ha44 rfl cb82 rfl) (c_spec_l01Good _ g_s b_s hS6) ?_
  rintro v45 w46 he47 ⟨hS48, ⟨q49, hq50, rfl⟩⟩ a51 ha51; clear ha44 a44
  have hx52 := hx12.trans' he47
  have hzhx52 := he47.size
  clear hS6
  have hSlhS48 := hS48.lt
  refine wl_val ha51 rfl rfl rfl (op_assign ha51 rfl rfl) ?_
  intro a53 ha53; clear ha51 a51
  refine wpList_nil ?_
  refine then_n ?_
  refine wp_ret ?_
  refine ret1 ha53 rfl rfl ?_
  clear ha53 a53
  refine ret_mkS hx52 ⟨hS48, ?_⟩
  refine ⟨((q49) : Str), (by first | omega | (simp; omega)), ?_⟩
  exact (congrArg St (by rfl))

set_option maxHeartbeats 8000000 in
theorem c_spec_l30Name (w0 : World) (g_s b_s : Nat) (h_s : Src w0 g_s b_s 82) :
  Calls Try.prog 74 #[.pointer (some (⟨g_s, 0, none⟩ : Addr))] w0 (RetS w0 (some g_s) (fun v w1 => Src w1 g_s b_s 82 ∧ (fun v w1 => ∃ (d : Str), (d.length ≤ 17) ∧ (fun v _ => v = St (d)) v w1) v w1)) := by
 refine enter (N := 8) Try.func74 rfl rfl rfl ?_
 intro a0 ha0
 have hx0 := Stp.rfl' w0 (some g_s)
 have hgl_s := h_s.lt
 refine wp_seq ?_
 refine wp_region_lit ?_
 refine wl_val ha0 rfl rfl rfl (op_assign ha0 rfl rfl) ?_
 intro a1 ha1; clear ha0 a0
 refine wpList_nil ?_
 refine then_n ?_
 refine wp_seq ?_
 refine wp_region_lit ?_
 refine wl_eff ha1 rfl rfl rfl (op_buildSlice (s := shStr) (xs := [([97, 100, 97] : Str), ([97, 100, 97, 109] : Str), ([98, 111] : Str), ([99, 121] : Str), ([100, 101, 101] : Str), ([101, 118, 101] : Str)]) (cs := [St (([97, 100, 97] : Str)), St (([97, 100, 97, 109] : Str)), St (([98, 111] : Str)), St (([99, 121] : Str)), St (([100, 101, 101] : Str)), St (([101, 118, 101] : Str))]) (vs := [(0, St (([97, 100, 97] : Str))), (1, St (([97, 100, 97, 109] : Str))), (2, St (([98, 111] : Str))), (3, St (([99, 121] : Str))), (4, St (([100, 101, 101] : Str))), (5, St (([101, 118, 101] : Str)))]) (S := fun _ => False) (le := w0.heap.size) ha1 rfl pos_shStr Try.underlying34 ti9 rfl rfl (by decide) (by kernel_rfl) ⟨mk_shStr (([97, 100, 97] : Str)) (by first | omega | (simp only []; omega) | (simp; done)), mk_shStr (([97, 100, 97, 109] : Str)) (by first | omega | (simp only []; omega) | (simp; done)), mk_shStr (([98, 111] : Str)) (by first | omega | (simp only []; omega) | (simp; done)), mk_shStr (([99, 121] : Str)) (by first | omega | (simp only []; omega) | (simp; done)), mk_shStr (([100, 101, 101] : Str)) (by first | omega | (simp only []; omega) | (simp; done)), mk_shStr (([101, 118, 101] : Str)) (by first | omega | (simp only []; omega) | (simp; done)), rfl⟩ (fun _ h => h.elim)) ?_
 rintro v2 w3 ⟨ho4, he5, hob6⟩ a7 ha7; clear ha1 a1
 have hx8 := hx0.trans' (Stp.of_ext he5 _)
 have hzhx8 := he5.size
 replace h_s := h_s.ext he5
 refine wl_val ha7 rfl rfl rfl (op_move ha7 rfl rfl) ?_
 intro a9 ha9; clear ha7 a7
 refine wl_callS ha9 rfl rfl rfl (op_call ha9 rfl cb75 rfl) (c_spec_l01Next _ g_s b_s (6 : Int) h_s) ?_
 rintro v10 w11 he12 ⟨hS13, ⟨q14, hq15, hq16, hq17, rfl⟩⟩ a18 ha18; clear ha9 a9
 have hx19 := hx8.trans' he12
 have hzhx19 := he12.size
 first | replace ho4 := ho4.stp he12 (by intro q hq; cases hq; omega) | replace ho4 := ho4.stpF flat_shStr he12 (by intro q hq; cases hq; exact ho4.ne_box (by assumption) rfl)
 have hSlhS13 := hS13.lt
 obtain ⟨x20, hx20⟩ := get_ex (xs := [([97, 100, 97] : Str), ([97, 100, 97, 109] : Str), ([98, 111] : Str), ([99, 121] : Str), ([100, 101, 101] : Str), ([101, 118, 101] : Str)]) (j := ((q14 : Int)).toNat) (by first | omega | (simp only [List.length_cons, List.length_nil]; omega))
 obtain ⟨p21, c22, hi23, hc24, hr25, hs26⟩ := Rds.at_ (ho4.rds pos_shStr) hx20
 obtain ⟨rfl, b27⟩ := inv_shStr hr25
 obtain ⟨_, _⟩ : _ ∧ _ := hs26
 have hdlx20 := el_len 17 (by rfl) hx20
 refine wl_val ha18 rfl rfl rfl (op_indexAddr ha18 rfl Try.underlying34 ti9 rfl rfl (by omega) hi23) ?_
 intro a28 ha28; clear ha18 a18
 refine wl_val ha28 rfl rfl rfl (op_loadH ha28 rfl Try.underlying9 rfl rfl hc24 rfl) ?_
 intro a29 ha29; clear ha28 a28
 refine wl_val ha29 rfl rfl rfl (op_assign ha29 rfl rfl) ?_
 intro a30 ha30; clear ha29 a29
 refine wpList_nil ?_
 refine then_n ?_
 refine wp_ret ?_
 refine ret1 ha30 rfl rfl ?_
 clear ha30 a30
 refine ret_mkS hx19 ⟨hS13, ?_⟩
 refine ⟨(x20 : Str), (by first | omega | (simp; omega)), ?_⟩
 exact (congrArg St (by rfl))

set_option maxHeartbeats 8000000 in
theorem c_spec_l30Bike (w0 : World) (g_s b_s : Nat) (h_s : Src w0 g_s b_s 82) :
  Calls Try.prog 78 #[.pointer (some (⟨g_s, 0, none⟩ : Addr))] w0 (RetS w0 (some g_s) (fun v w1 => Src w1 g_s b_s 82 ∧ (fun v w1 => ∃ (d : Str), (d.length ≤ 17) ∧ (fun v _ => v = St (d)) v w1) v w1)) := by
 refine enter (N := 8) Try.func78 rfl rfl rfl ?_
 intro a0 ha0
 have hx0 := Stp.rfl' w0 (some g_s)
 have hgl_s := h_s.lt
 refine wp_seq ?_
 refine wp_region_lit ?_
 refine wl_val ha0 rfl rfl rfl (op_assign ha0 rfl rfl) ?_
 intro a1 ha1; clear ha0 a0
 refine wpList_nil ?_
 refine then_n ?_
 refine wp_seq ?_
 refine wp_region_lit ?_
 refine wl_eff ha1 rfl rfl rfl (op_buildSlice (s := shStr) (xs := [([107, 97, 97] : Str), ([107, 97, 98] : Str), ([107, 98, 97] : Str), ([107, 98, 98] : Str), ([107, 99, 97] : Str), ([107, 99, 98] : Str), ([107, 99, 99] : Str)]) (cs := [St (([107, 97, 97] : Str)), St (([107, 97, 98] : Str)), St (([107, 98, 97] : Str)), St (([107, 98, 98] : Str)), St (([107, 99, 97] : Str)), St (([107, 99, 98] : Str)), St (([107, 99, 99] : Str))]) (vs := [(0, St (([107, 97, 97] : Str))), (1, St (([107, 97, 98] : Str))), (2, St (([107, 98, 97] : Str))), (3, St (([107, 98, 98] : Str))), (4, St (([107, 99, 97] : Str))), (5, St (([107, 99, 98] : Str))), (6, St (([107, 99, 99] : Str)))]) (S := fun _ => False) (le := w0.heap.size) ha1 rfl pos_shStr Try.underlying34 ti9 rfl rfl (by decide) (by kernel_rfl) ⟨mk_shStr (([107, 97, 97] : Str)) (by first | omega | (simp only []; omega) | (simp; done)), mk_shStr (([107, 97, 98] : Str)) (by first | omega | (simp only []; omega) | (simp; done)), mk_shStr (([107, 98, 97] : Str)) (by first | omega | (simp only []; omega) | (simp; done)), mk_shStr (([107, 98, 98] : Str)) (by first | omega | (simp only []; omega) | (simp; done)), mk_shStr (([107, 99, 97] : Str)) (by first | omega | (simp only []; omega) | (simp; done)), mk_shStr (([107, 99, 98] : Str)) (by first | omega | (simp only []; omega) | (simp; done)), mk_shStr (([107, 99, 99] : Str)) (by first | omega | (simp only []; omega) | (simp; done)), rfl⟩ (fun _ h => h.elim)) ?_
 rintro v2 w3 ⟨ho4, he5, hob6⟩ a7 ha7; clear ha1 a1
 have hx8 := hx0.trans' (Stp.of_ext he5 _)
 have hzhx8 := he5.size
 replace h_s := h_s.ext he5
 refine wl_val ha7 rfl rfl rfl (op_move ha7 rfl rfl) ?_
 intro a9 ha9; clear ha7 a7
 refine wl_callS ha9 rfl rfl rfl (op_call ha9 rfl cb75 rfl) (c_spec_l01Next _ g_s b_s (7 : Int) h_s) ?_
 rintro v10 w11 he12 ⟨hS13, ⟨q14, hq15, hq16, hq17, rfl⟩⟩ a18 ha18; clear ha9 a9
 have hx19 := hx8.trans' he12
 have hzhx19 := he12.size
 first | replace ho4 := ho4.stp he12 (by intro q hq; cases hq; omega) | replace ho4 := ho4.stpF flat_shStr he12 (by intro q hq; cases hq; exact ho4.ne_box (by assumption) rfl)
 have hSlhS13 := hS13.lt
 obtain ⟨x20, hx20⟩ := get_ex (xs := [([107, 97, 97] : Str), ([107, 97, 98] : Str), ([107, 98, 97] : Str), ([107, 98, 98] : Str), ([107, 99, 97] : Str), ([107, 99, 98] : Str), ([107, 99, 99] : Str)]) (j := ((q14 : Int)).toNat) (by first | omega | (simp only [List.length_cons, List.length_nil]; omega))
 obtain ⟨p21, c22, hi23, hc24, hr25, hs26⟩ := Rds.at_ (ho4.rds pos_shStr) hx20
 obtain ⟨rfl, b27⟩ := inv_shStr hr25
 obtain ⟨_, _⟩ : _ ∧ _ := hs26
 have hdlx20 := el_len 17 (by rfl) hx20
 refine wl_val ha18 rfl rfl rfl (op_indexAddr ha18 rfl Try.underlying34 ti9 rfl rfl (by omega) hi23) ?_
 intro a28 ha28; clear ha18 a18
 refine wl_val ha28 rfl rfl rfl (op_loadH ha28 rfl Try.underlying9 rfl rfl hc24 rfl) ?_
 intro a29 ha29; clear ha28 a28
 refine wl_val ha29 rfl rfl rfl (op_assign ha29 rfl rfl) ?_
 intro a30 ha30; clear ha29 a29
 refine wpList_nil ?_
 refine then_n ?_
 refine wp_ret ?_
 refine ret1 ha30 rfl rfl ?_
 clear ha30 a30
 refine ret_mkS hx19 ⟨hS13, ?_⟩
 refine ⟨(x20 : Str), (by first | omega | (simp; omega)), ?_⟩
 exact (congrArg St (by rfl))

set_option maxHeartbeats 8000000 in
theorem c_spec_l30Good (w0 : World) (g_s b_s : Nat) (h_s : Src w0 g_s b_s 82) :
  Calls Try.prog 81 #[.pointer (some (⟨g_s, 0, none⟩ : Addr))] w0 (RetS w0 (some g_s) (fun v w1 => Src w1 g_s b_s 82 ∧ (fun v w1 => ∃ (l : List Cust), (l.length ≤ 21) ∧ (∀ c ∈ l, c.2.2.length ≤ 10) ∧ (fun v w1 => ∃ z, Own shCustN 55 w0.heap.size w0.heap.size w1.heap.size w1 v z ∧ Nst shStr 9 (fun x : Str × Int × List Str => x.2.2) w0.heap.size w1.heap.size w1 z ∧ z.map (·.1) = (l)) v w1) v w1)) := by
 refine enter (N := 59) Try.func81 rfl rfl rfl ?_
 intro a0 ha0
 have hx0 := Stp.rfl' w0 (some g_s)
 have hgl_s := h_s.lt
 refine wp_seq ?_
 refine wp_region_lit ?_
 refine wl_val ha0 rfl rfl rfl (op_assign ha0 rfl rfl) ?_
 intro a1 ha1; clear ha0 a0
 refine wpList_nil ?_
 refine then_n ?_
 refine wp_seq ?_
 refine wp_region_lit ?_
 refine wl_eff ha1 rfl rfl rfl (op_buildSlice (s := shCustN) (xs := ([] : List ((Str × Int × List Str) × Value))) (cs := []) (vs := []) (S := fun _ => False) (le := w0.heap.size) ha1 rfl pos_shCustN Try.underlying25 ti55 rfl rfl (by decide) (by kernel_rfl) rfl (fun _ h => h.elim)) ?_
 rintro v2 w3 ⟨ho4, he5, hob6⟩ a7 ha7; clear ha1 a1
 have hx8 := hx0.trans' (Stp.of_ext he5 _)
 have hzhx8 := he5.size
 replace h_s := h_s.ext he5
 have hN9 : Nst shStr 9 (fun x : Str × Int × List Str => x.2.2) w0.heap.size w3.heap.size w3 (([] : List ((Str × Int × List Str) × Value))) := Nst.nil _ _ _ _ _ _
 refine wl_val ha7 rfl rfl rfl (op_assign ha7 rfl rfl) ?_
 intro a10 ha10; clear ha7 a7
 refine wpList_nil ?_
 refine then_n ?_
 refine wp_seq ?_
 refine wp_seq ?_
 refine wp_region_lit ?_
 refine wl_val ha10 rfl rfl rfl (op_move ha10 rfl rfl) ?_
 intro a11 ha11; clear ha10 a10
 refine wl_callS ha11 rfl rfl rfl (op_call ha11 rfl cb75 rfl) (c_spec_l01Next _ g_s b_s (6 : Int) h_s) ?_
 rintro v12 w13 he14 ⟨hS15, ⟨q16, hq17, hq18, hq19, rfl⟩⟩ a20 ha20; clear ha11 a11
 have hx21 := hx8.trans' he14
 have hzhx21 := he14.size
 first | replace ho4 := ho4.stp he14 (by intro q hq; cases hq; omega) | replace ho4 := ho4.stpF flat_shCustN he14 (by intro q hq; cases hq; exact ho4.ne_box (by assumption) rfl)
 first | replace hN9 := hN9.stp he14 (by intro q hq; cases hq; omega) | replace hN9 := hN9.stpB flat_shStr he14 (by assumption) rfl
 have hSlhS15 := hS15.lt
 refine wl_val ha20 rfl rfl rfl (op_assign ha20 rfl rfl) ?_
 intro a22 ha22; clear ha20 a20
 refine wpList_nil ?_
 refine then_n ?_
 refine wp_block ?_
 refine loop_inv (X := Int × Value × (List ((Str × Int × List Str) × Value))) (fun (⟨m, v, zs⟩ : Int × Value × (List ((Str × Int × List Str) × Value))) fr wl => Sl 59 fr [(0, .pointer (some (⟨g_s, 0, none⟩ : Addr))), (3, v), (4, .int .i64 m)] ∧ Stp w0 wl (some g_s) ∧ Src wl g_s b_s 82 ∧ Own shCustN 55 w0.heap.size w0.heap.size wl.heap.size wl v zs ∧ Nst shStr 9 (fun x : Str × Int × List Str => x.2.2) w0.heap.size wl.heap.size wl zs ∧ w13.heap.size ≤ wl.heap.size ∧ (0 ≤ m) ∧ (m ≤ 10) ∧ (zs.length ≤ 21) ∧ (∀ z ∈ zs, z.1.2.2.length ≤ 10)) (fun (⟨m, v, zs⟩ : Int × Value × (List ((Str × Int × List Str) × Value))) => m.toNat) ((q16 : Int), v2, ([] : List ((Str × Int × List Str) × Value))) ?_ ?_
 ·
  exact ⟨(Sl.cons_ ha22 rfl rfl (Sl.cons_ ha22 rfl rfl (Sl.cons_ ha22 rfl (int_eq (by omega)) (Sl.nil_ ha22)))), hx21, hS15, (ho4.fin (by omega) (by omega) (by omega)), (hN9.fin (by omega) (by omega)), (by omega), (by omega), (by omega), (by first | omega | exact Nat.zero_le _), (by first | exact hB | (intro z hz; cases hz))⟩
 ·
  clear ha22 a22
  rintro ⟨m, v, zs⟩ a28 w23 ⟨ha28, hx24, hf25, hf26, hf27, hzl29, hm0, hm1, hl, hB⟩
  have hzhx24 := hx24.size
  have hgl30 := hf25.lt
  refine wp_seq ?_
  refine wp_seq ?_
  refine wp_region_lit ?_
  refine wl_val ha28 rfl rfl rfl (op_move ha28 rfl rfl) ?_
  intro a31 ha31; clear ha28 a28
  refine wl_val ha31 rfl rfl rfl (op_gtr ha31 rfl rfl rfl) ?_
  intro a32 ha32; clear ha31 a31
  refine wpList_nil ?_
  refine then_n ?_
  by_cases c33 : (0 : Int) < m
  ·
   rw [decide_eq_true c33] at ha32
   refine cond_t ha32 rfl ?_
   refine wp_skip ?_
   refine then_n ?_
   refine wp_seq ?_
   refine wp_block ?_
   refine wp_seq ?_
   refine wp_region_lit ?_
   refine wl_val ha32 rfl rfl rfl (op_move ha32 rfl rfl) ?_
   intro a34 ha34; clear ha32 a32
   refine wl_val ha34 rfl rfl rfl (op_move ha34 rfl rfl) ?_
   intro a35 ha35; clear ha34 a34
   refine wl_callS ha35 rfl rfl rfl (op_call ha35 rfl cb74 rfl) (c_spec_l30Name _ g_s b_s hf25) ?_
   rintro v36 w37 he38 ⟨hS39, ⟨q40, hq41, rfl⟩⟩ a42 ha42; clear ha35 a35
   have hx43 := hx24.trans' he38
   have hzhx43 := he38.size
   first | replace hf26 := hf26.stp he38 (by intro q hq; cases hq; omega) | replace hf26 := hf26.stpF flat_shCustN he38 (by intro q hq; cases hq; exact hf26.ne_box (by assumption) rfl)
   first | replace hf27 := hf27.stp he38 (by intro q hq; cases hq; omega) | replace hf27 := hf27.stpB flat_shStr he38 (by assumption) rfl
   clear hf25
   have hSlhS39 := hS39.lt
   refine wl_val ha42 rfl rfl rfl (op_move ha42 rfl rfl) ?_
   intro a44 ha44; clear ha42 a42
   refine wl_callS ha44 rfl rfl rfl (op_call ha44 rfl cb75 rfl) (c_spec_l01Next _ g_s b_s (50 : Int) hS39) ?_
   rintro v45 w46 he47 ⟨hS48, ⟨q49, hq50, hq51, hq52, rfl⟩⟩ a53 ha53; clear ha44 a44
   have hx54 := hx43.trans' he47
   have hzhx54 := he47.size
   first | replace hf26 := hf26.stp he47 (by intro q hq; cases hq; omega) | replace hf26 := hf26.stpF flat_shCustN he47 (by intro q hq; cases hq; exact hf26.ne_box (by assumption) rfl)
   first | replace hf27 := hf27.stp he47 (by intro q hq; cases hq; omega) | replace hf27 := hf27.stpB flat_shStr he47 (by assumption) rfl
   clear hS39
   have hSlhS48 := hS48.lt
   refine wl_callR ha53 rfl rfl rfl (op_call ha53 rfl cb31 rfl) (c_spec_AddCustomer _ v ((zs.map (·.1))) ((q40)) (q49 : Int) (rds_shCustN (hf26.fin (by omega) (by omega) (by omega)) hf27) (by first | assumption | omega | (constructor <;> omega) | (dsimp only; omega) | (simp; done) | (simp; omega)) (by first | assumption | omega | (constructor <;> omega) | (dsimp only; omega) | (simp; done) | (simp; omega)) (by first | assumption | omega | (constructor <;> omega) | (dsimp only; omega) | (simp; done) | (simp; omega))) ?_
   rintro v55 w56 he57 ⟨u58, z60, rfl, ho59, hN61, hE62⟩ a63 ha63; clear ha53 a53
   have hx64 := hx54.trans' (Stp.of_ext he57 _)
   have hzhx64 := he57.size
   replace hf26 := hf26.ext he57
   replace hf27 := hf27.ext he57
   replace hS48 := hS48.ext he57
   have hlhE62 := absLen hE62
   refine wl_val ha63 rfl rfl rfl (op_move ha63 rfl rfl) ?_
   intro a65 ha65; clear ha63 a63
   refine wl_val ha65 rfl rfl rfl (op_extract ha65 rfl rfl rfl) ?_
   intro a66 ha66; clear ha65 a65
   refine wl_val ha66 rfl rfl rfl (op_extract ha66 rfl rfl rfl) ?_
   intro a67 ha67; clear ha66 a66
   refine wl_val ha67 rfl rfl rfl (op_assign ha67 rfl rfl) ?_
   intro a68 ha68; clear ha67 a67
   refine wl_val ha68 rfl rfl rfl (op_assign ha68 rfl rfl) ?_
   intro a69 ha69; clear ha68 a68
   refine wpList_nil ?_
   refine then_n ?_
   refine wp_seq ?_
   refine wp_region_lit ?_
   refine wl_val ha69 rfl rfl rfl (op_move ha69 rfl rfl) ?_
   intro a70 ha70; clear ha69 a69
   refine wl_val ha70 rfl rfl rfl (op_eql ha70 rfl rfl rfl) ?_
   intro a71 ha71; clear ha70 a70
   refine wpList_nil ?_
   refine then_n ?_
   by_cases c72 : (addcC ((zs.map (·.1))) ((q40)) (q49 : Int) : Int) = (0 : Int)
   ·
    rw [decide_eq_true c72] at ha71
    refine cond_t ha71 rfl ?_
    refine wp_region_lit ?_
    refine wl_val ha71 rfl rfl rfl (op_move ha71 rfl rfl) ?_
    intro a73 ha73; clear ha71 a71
    refine wl_val ha73 rfl rfl rfl (op_assign ha73 rfl rfl) ?_
    intro a74 ha74; clear ha73 a73
    refine wpList_nil ?_
    refine block_n ?_
    refine then_n ?_
    refine wp_region_lit ?_
    refine wl_val ha74 rfl rfl rfl (op_move ha74 rfl rfl) ?_
    intro a75 ha75; clear ha74 a74
    refine wl_val ha75 rfl rfl rfl ((op_sub ha75 rfl rfl rfl).int (IntWalk.i64_in _ (by omega))) ?_
    intro a76 ha76; clear ha75 a75
    refine wl_val ha76 rfl rfl rfl (op_assign ha76 rfl rfl) ?_
    intro a77 ha77; clear ha76 a76
    refine wpList_nil ?_
    refine round_end (x := (m, v, zs)) ((m - (1 : Int)), u58, z60) ?_ ?_
    ·
     refine ⟨(Sl.cons_ ha77 rfl rfl (Sl.cons_ ha77 rfl rfl (Sl.cons_ ha77 rfl (int_eq (by omega)) (Sl.nil_ ha77)))), hx64, hS48, (ho59.fin (by omega) (by omega) (by omega)), (hN61.fin (by omega) (by omega)), (by omega), (by omega), (by omega), (by rw [abs_len hE62]; exact addcL_max _ _ _), (by intro z hz; exact addcL_bk _ _ _ z.1 (by rw [← hE62]; exact List.mem_map_of_mem hz))⟩
    ·show (((m - (1 : Int))).toNat : Nat) < m.toNat; omega
   ·
    rw [decide_eq_false c72] at ha71
    refine cond_f ha71 rfl ?_
    refine wp_skip ?_
    refine block_n ?_
    refine then_n ?_
    refine wp_region_lit ?_
    refine wl_val ha71 rfl rfl rfl (op_move ha71 rfl rfl) ?_
    intro a78 ha78; clear ha71 a71
    refine wl_val ha78 rfl rfl rfl ((op_sub ha78 rfl rfl rfl).int (IntWalk.i64_in _ (by omega))) ?_
    intro a79 ha79; clear ha78 a78
    refine wl_val ha79 rfl rfl rfl (op_assign ha79 rfl rfl) ?_
    intro a80 ha80; clear ha79 a79
    refine wpList_nil ?_
    refine round_end (x := (m, v, zs)) ((m - (1 : Int)), v, zs) ?_ ?_
    ·
     refine ⟨(Sl.cons_ ha80 rfl rfl (Sl.cons_ ha80 rfl rfl (Sl.cons_ ha80 rfl (int_eq (by omega)) (Sl.nil_ ha80)))), hx64, hS48, (hf26.fin (by omega) (by omega) (by omega)), (hf27.fin (by omega) (by omega)), (by omega), (by omega), (by omega), (by exact hl), (by exact hB)⟩
    ·show (((m - (1 : Int))).toNat : Nat) < m.toNat; omega
  ·
   rw [decide_eq_false c33] at ha32
   refine cond_f ha32 rfl ?_
   refine wp_exit ?_
   refine then_e ?_
   refine then_e ?_
   refine block_hit ?_
   refine then_n ?_
   refine wp_seq ?_
   refine wp_seq ?_
   refine wp_region_lit ?_
   refine wl_val ha32 rfl rfl rfl (op_move ha32 rfl rfl) ?_
   intro a81 ha81; clear ha32 a32
   refine wl_callS ha81 rfl rfl rfl (op_call ha81 rfl cb75 rfl) (c_spec_l01Next _ g_s b_s (9 : Int) hf25) ?_
   rintro v82 w83 he84 ⟨hS85, ⟨q86, hq87, hq88, hq89, rfl⟩⟩ a90 ha90; clear ha81 a81
   have hx91 := hx24.trans' he84
   have hzhx91 := he84.size
   first | replace hf26 := hf26.stp he84 (by intro q hq; cases hq; omega) | replace hf26 := hf26.stpF flat_shCustN he84 (by intro q hq; cases hq; exact hf26.ne_box (by assumption) rfl)
   first | replace hf27 := hf27.stp he84 (by intro q hq; cases hq; omega) | replace hf27 := hf27.stpB flat_shStr he84 (by assumption) rfl
   clear hf25
   have hSlhS85 := hS85.lt
   refine wl_val ha90 rfl rfl rfl (op_assign ha90 rfl rfl) ?_
   intro a92 ha92; clear ha90 a90
   refine wpList_nil ?_
   refine then_n ?_
   refine wp_block ?_
   refine loop_inv (X := Int × Value × (List ((Str × Int × List Str) × Value))) (fun (⟨m, v, zs⟩ : Int × Value × (List ((Str × Int × List Str) × Value))) fr wl => Sl 59 fr [(0, .pointer (some (⟨g_s, 0, none⟩ : Addr))), (3, v), (7, .int .i64 m)] ∧ Stp w0 wl (some g_s) ∧ Src wl g_s b_s 82 ∧ Own shCustN 55 w0.heap.size w0.heap.size wl.heap.size wl v zs ∧ Nst shStr 9 (fun x : Str × Int × List Str => x.2.2) w0.heap.size wl.heap.size wl zs ∧ w83.heap.size ≤ wl.heap.size ∧ (0 ≤ m) ∧ (m ≤ 10) ∧ (zs.length ≤ 21) ∧ (∀ z ∈ zs, z.1.2.2.length ≤ 10)) (fun (⟨m, v, zs⟩ : Int × Value × (List ((Str × Int × List Str) × Value))) => m.toNat) ((q86 : Int), v, zs) ?_ ?_
   ·
    exact ⟨(Sl.cons_ ha92 rfl rfl (Sl.cons_ ha92 rfl rfl (Sl.cons_ ha92 rfl (int_eq (by omega)) (Sl.nil_ ha92)))), hx91, hS85, (hf26.fin (by omega) (by omega) (by omega)), (hf27.fin (by omega) (by omega)), (by omega), (by omega), (by omega), (by first | omega | exact Nat.zero_le _), (by first | exact hB | (intro z hz; cases hz))⟩
   ·
    clear ha92 a92
    rintro ⟨m, v, zs⟩ a98 w93 ⟨ha98, hx94, hf95, hf96, hf97, hzl99, hm0, hm1, hl, hB⟩
    have hzhx94 := hx94.size
    have hgl100 := hf95.lt
    refine wp_seq ?_
    refine wp_seq ?_
    refine wp_region_lit ?_
    refine wl_val ha98 rfl rfl rfl (op_move ha98 rfl rfl) ?_
    intro a101 ha101; clear ha98 a98
    refine wl_val ha101 rfl rfl rfl (op_gtr ha101 rfl rfl rfl) ?_
    intro a102 ha102; clear ha101 a101
    refine wl_val ha102 rfl rfl rfl (op_move ha102 rfl rfl) ?_
    intro a103 ha103; clear ha102 a102
    by_cases c104 : (0 : Int) < m
    ·
     rw [decide_eq_true c104] at ha103
     refine wl_val ha103 rfl rfl rfl (op_move ha103 rfl rfl) ?_
     intro a105 ha105; clear ha103 a103
     refine wl_val ha105 rfl rfl rfl (op_len_sl ha105 rfl Try.underlying25 rfl (hf96.rds pos_shCustN)) ?_
     intro a106 ha106; clear ha105 a105
     refine wl_val ha106 rfl rfl rfl (op_gtr ha106 rfl rfl rfl) ?_
     intro a107 ha107; clear ha106 a106
     refine wl_val ha107 rfl rfl rfl (op_pick_t ha107 rfl rfl rfl) ?_
     intro a108 ha108; clear ha107 a107
     refine wpList_nil ?_
     refine then_n ?_
     by_cases c109 : (0 : Int) < ((zs.length : Nat) : Int)
     ·
      rw [decide_eq_true c109] at ha108
      refine cond_t ha108 rfl ?_
      refine wp_skip ?_
      refine then_n ?_
      refine wp_seq ?_
      refine wp_block ?_
      refine wp_seq ?_
      refine dr_enter (fun wa_ wb_ => Stp wa_ wb_ (some g_s)) follows_mixed ?_
      intro w110 he111
      have hx112 := hx94.trans' (Stp.of_ext he111 _)
      have hzhx112 := he111.size
      replace hf95 := hf95.ext he111
      replace hf96 := hf96.ext he111
      replace hf97 := hf97.ext he111
      have hs113 : Ext w110 w110 := Ext.rfl' _
      refine dr_val (i := 0) ha108 rfl (by kernel_rfl) (by kernel_rfl) (by kernel_rfl) rfl rfl rfl (Stp.of_ext hs113 _) (fun w' hw' => op_move ha108 rfl rfl) ?_
      intro a114 ha114; clear ha108 a108
      refine dr_val (i := 1) ha114 rfl (by kernel_rfl) (by kernel_rfl) (by kernel_rfl) rfl rfl rfl (Stp.of_ext hs113 _) (fun w' hw' => op_move ha114 rfl rfl) ?_
      intro a115 ha115; clear ha114 a114
      refine dr_val (i := 2) ha115 rfl (by kernel_rfl) (by kernel_rfl) (by kernel_rfl) rfl rfl rfl (Stp.of_ext hs113 _) (fun w' hw' => op_move ha115 rfl rfl) ?_
      intro a116 ha116; clear ha115 a115
      refine dr_val (i := 3) ha116 rfl (by kernel_rfl) (by kernel_rfl) (by kernel_rfl) rfl rfl rfl (Stp.of_ext hs113 _) (fun w' hw' => op_move ha116 rfl rfl) ?_
      intro a117 ha117; clear ha116 a116
      refine dr_val (i := 4) ha117 rfl (by kernel_rfl) (by kernel_rfl) (by kernel_rfl) rfl rfl rfl (Stp.of_ext hs113 _) (fun w' hw' => op_len_sl ha117 rfl Try.underlying25 rfl (hf96.rds pos_shCustN)) ?_
      intro a118 ha118; clear ha117 a117
      refine dr_val (i := 9) ha118 rfl (by kernel_rfl) (by kernel_rfl) (by kernel_rfl) rfl rfl rfl (Stp.of_ext hs113 _) (fun w' hw' => op_move ha118 rfl rfl) ?_
      intro a119 ha119; clear ha118 a118
      refine dr_one (i := 5) (by kernel_rfl) ?_
      refine po_callS ha119 rfl rfl rfl rfl (op_call ha119 rfl cb75 rfl) (c_spec_l01Next _ g_s b_s ((zs.length : Nat) : Int) hf95) ?_
      rintro v120 w121 he122 ⟨hS123, ⟨q124, hq125, hq126, hq127, rfl⟩⟩ a128 ha128; clear ha119 a119
      have hx129 := hx112.trans' he122
      have hzhx129 := he122.size
      first | replace hf96 := hf96.stp he122 (by intro q hq; cases hq; omega) | replace hf96 := hf96.stpF flat_shCustN he122 (by intro q hq; cases hq; exact hf96.ne_box (by assumption) rfl)
      first | replace hf97 := hf97.stp he122 (by intro q hq; cases hq; omega) | replace hf97 := hf97.stpB flat_shStr he122 (by assumption) rfl
      clear hf95
      have hSlhS123 := hS123.lt
      have hs130 := (Stp.of_ext hs113 (some g_s)).trans' he122
      refine ⟨hs130, ?_⟩
      refine dr_narrow (S' := fun w' => Stp w121 w' _) (fun w' h' => hs130.trans' h') _ _ _ _ ?_
      have hs131 : Ext w121 w121 := Ext.rfl' _
      obtain ⟨x132, hx132⟩ := get_ex (xs := zs) (j := ((q124 : Int)).toNat) (by first | omega | (simp only [List.length_cons, List.length_nil]; omega))
      obtain ⟨p133, c134, hi135, hc136, hr137, hs138⟩ := Rds.at_ (hf96.rds pos_shCustN) hx132
      obtain ⟨rfl, b139, b140, b141⟩ := inv_shCustN hr137
      have hn142 : Own shStr 9 w0.heap.size w0.heap.size w93.heap.size w121 x132.2 x132.1.2.2 := hf97.get hx132
      obtain ⟨_, _⟩ : _ ∧ _ := hs138
      refine dr_val (i := 6) ha128 rfl (by kernel_rfl) (by kernel_rfl) (by kernel_rfl) rfl rfl rfl (Stp.of_ext hs131 _) (fun w' hw' => op_indexAddr ha128 rfl Try.underlying25 ti55 rfl rfl (by omega) hi135) ?_
      intro a143 ha143; clear ha128 a128
      refine dr_val (i := 7) ha143 rfl (by kernel_rfl) (by kernel_rfl) (by kernel_rfl) rfl rfl rfl (Stp.of_ext hs131 _) (fun w' hw' => op_fieldAddr (sz := 0) ha143 rfl Try.underlying55 rfl rfl ti9 rfl) ?_
      intro a144 ha144; clear ha143 a143
      refine dr_val (i := 8) ha144 rfl (by kernel_rfl) (by kernel_rfl) (by kernel_rfl) rfl rfl rfl (Stp.of_ext hs131 _) (fun w' hw' => op_loadF (off := 0) ha144 rfl Try.underlying9 rfl rfl (hc136.stp hw' (by intro q hq; cases hq; omega)) rfl) ?_
      intro a145 ha145; clear ha144 a144
      refine dr_one (i := 10) (by kernel_rfl) ?_
      refine po_callS ha145 rfl rfl rfl rfl (op_call ha145 rfl cb78 rfl) (c_spec_l30Bike _ g_s b_s hS123) ?_
      rintro v146 w147 he148 ⟨hS149, ⟨q150, hq151, rfl⟩⟩ a152 ha152; clear ha145 a145
      have hx153 := hx129.trans' he148
      have hzhx153 := he148.size
      first | replace hf96 := hf96.stp he148 (by intro q hq; cases hq; omega) | replace hf96 := hf96.stpF flat_shCustN he148 (by intro q hq; cases hq; exact hf96.ne_box (by assumption) rfl)
      first | replace hf97 := hf97.stp he148 (by intro q hq; cases hq; omega) | replace hf97 := hf97.stpB flat_shStr he148 (by assumption) rfl
      first | replace hn142 := hn142.stp he148 (by intro q hq; cases hq; omega) | replace hn142 := hn142.stpF flat_shStr he148 (by intro q hq; cases hq; exact hn142.ne_box (by assumption) rfl)
      replace hc136 := hc136.stp he148 (by intro q hq; cases hq; omega)
      clear hS123
      have hSlhS149 := hS149.lt
      have hs154 := (Stp.of_ext hs131 (some g_s)).trans' he148
      refine ⟨hs154, ?_⟩
      refine dr_narrow (S' := fun w' => Stp w147 w' _) (fun w' h' => hs154.trans' h') _ _ _ _ ?_
      have hs155 : Ext w147 w147 := Ext.rfl' _
      refine dr_one (i := 11) (by kernel_rfl) ?_
      refine po_callR ha152 rfl rfl rfl rfl (op_call ha152 rfl cb36 rfl) (c_spec_GiveBike _ v ((zs.map (·.1))) x132.1.1 ((q150)) ((rds_shCustN (hf96.fin (by omega) (by omega) (by omega)) hf97).ext pos_shCust hs155) (by first | assumption | omega | (constructor <;> omega) | (dsimp only; omega) | (simp; done) | (simp; omega)) (by first | assumption | omega | (constructor <;> omega) | (dsimp only; omega) | (simp; done) | (simp; omega)) (by first | assumption | omega | (constructor <;> omega) | (dsimp only; omega) | (simp; done) | (simp; omega))) ?_
      rintro v156 w157 he158 ⟨u159, z161, rfl, ho160, hN162, hE163⟩ a164 ha164; clear ha152 a152
      have hs165 := hs155.trans' he158
      have hx166 := hx153.trans' (Stp.of_ext he158 _)
      have hzhx166 := he158.size
      refine ⟨(Stp.of_ext hs165 _), ?_⟩
      have hlhE163 := absLen hE163
      replace hf96 := hf96.ext hs165
      replace hf97 := hf97.ext hs165
      replace hn142 := hn142.ext hs165
      replace hc136 := hc136.ext hs165
      replace hS149 := hS149.ext hs165
      refine dr_narrow (S' := fun w' => Stp w157 w' _) (fun w' h' => (Stp.of_ext hs165 _).trans' h') _ _ _ _ ?_
      have hs167 : Ext w157 w157 := Ext.rfl' _
      refine dr_val (i := 12) ha164 rfl (by kernel_rfl) (by kernel_rfl) (by kernel_rfl) rfl rfl rfl (Stp.of_ext hs167 _) (fun w' hw' => op_move ha164 rfl rfl) ?_
      intro a168 ha168; clear ha164 a164
      refine dr_val (i := 13) ha168 rfl (by kernel_rfl) (by kernel_rfl) (by kernel_rfl) rfl rfl rfl (Stp.of_ext hs167 _) (fun w' hw' => op_extract ha168 rfl rfl rfl) ?_
      intro a169 ha169; clear ha168 a168
      refine dr_val (i := 14) ha169 rfl (by kernel_rfl) (by kernel_rfl) (by kernel_rfl) rfl rfl rfl (Stp.of_ext hs167 _) (fun w' hw' => op_extract ha169 rfl rfl rfl) ?_
      intro a170 ha170; clear ha169 a169
      refine dr_val (i := 15) ha170 rfl (by kernel_rfl) (by kernel_rfl) (by kernel_rfl) rfl rfl rfl (Stp.of_ext hs167 _) (fun w' hw' => op_assign ha170 rfl rfl) ?_
      intro a171 ha171; clear ha170 a170
      refine dr_val (i := 16) ha171 rfl (by kernel_rfl) (by kernel_rfl) (by kernel_rfl) rfl rfl rfl (Stp.of_ext hs167 _) (fun w' hw' => op_assign ha171 rfl rfl) ?_
      intro a172 ha172; clear ha171 a171
      refine dr_end (by kernel_rfl) ?_
      refine then_n ?_
      refine wp_seq ?_
      refine wp_region_lit ?_
      refine wl_val ha172 rfl rfl rfl (op_move ha172 rfl rfl) ?_
      intro a173 ha173; clear ha172 a172
      refine wl_val ha173 rfl rfl rfl (op_eql ha173 rfl rfl rfl) ?_
      intro a174 ha174; clear ha173 a173
      refine wpList_nil ?_
      refine then_n ?_
      by_cases c175 : (gvC ((zs.map (·.1))) x132.1.1 ((q150)) : Int) = (0 : Int)
      ·
       rw [decide_eq_true c175] at ha174
       refine cond_t ha174 rfl ?_
       refine wp_region_lit ?_
       refine wl_val ha174 rfl rfl rfl (op_move ha174 rfl rfl) ?_
       intro a176 ha176; clear ha174 a174
       refine wl_val ha176 rfl rfl rfl (op_assign ha176 rfl rfl) ?_
       intro a177 ha177; clear ha176 a176
       refine wpList_nil ?_
       refine block_n ?_
       refine then_n ?_
       refine wp_region_lit ?_
       refine wl_val ha177 rfl rfl rfl (op_move ha177 rfl rfl) ?_
       intro a178 ha178; clear ha177 a177
       refine wl_val ha178 rfl rfl rfl ((op_sub ha178 rfl rfl rfl).int (IntWalk.i64_in _ (by omega))) ?_
       intro a179 ha179; clear ha178 a178
       refine wl_val ha179 rfl rfl rfl (op_assign ha179 rfl rfl) ?_
       intro a180 ha180; clear ha179 a179
       refine wpList_nil ?_
       refine round_end (x := (m, v, zs)) ((m - (1 : Int)), u159, z161) ?_ ?_
       ·
        refine ⟨(Sl.cons_ ha180 rfl rfl (Sl.cons_ ha180 rfl rfl (Sl.cons_ ha180 rfl (int_eq (by omega)) (Sl.nil_ ha180)))), hx166, hS149, (ho160.fin (by omega) (by omega) (by omega)), (hN162.fin (by omega) (by omega)), (by omega), (by omega), (by omega), (by rw [abs_len hE163]; exact gvL_max _ _ (by rw [List.length_map]; omega)), (by intro z hz; exact gvL_bk _ _ _ z.1 (by rw [← hE163]; exact List.mem_map_of_mem hz))⟩
       ·show (((m - (1 : Int))).toNat : Nat) < m.toNat; omega
      ·
       rw [decide_eq_false c175] at ha174
       refine cond_f ha174 rfl ?_
       refine wp_skip ?_
       refine block_n ?_
       refine then_n ?_
       refine wp_region_lit ?_
       refine wl_val ha174 rfl rfl rfl (op_move ha174 rfl rfl) ?_
       intro a181 ha181; clear ha174 a174
       refine wl_val ha181 rfl rfl rfl ((op_sub ha181 rfl rfl rfl).int (IntWalk.i64_in _ (by omega))) ?_
       intro a182 ha182; clear ha181 a181
       refine wl_val ha182 rfl rfl rfl (op_assign ha182 rfl rfl) ?_
       intro a183 ha183; clear ha182 a182
       refine wpList_nil ?_
       refine round_end (x := (m, v, zs)) ((m - (1 : Int)), v, zs) ?_ ?_
       ·
        refine ⟨(Sl.cons_ ha183 rfl rfl (Sl.cons_ ha183 rfl rfl (Sl.cons_ ha183 rfl (int_eq (by omega)) (Sl.nil_ ha183)))), hx166, hS149, (hf96.fin (by omega) (by omega) (by omega)), (hf97.fin (by omega) (by omega)), (by omega), (by omega), (by omega), (by exact hl), (by exact hB)⟩
       ·show (((m - (1 : Int))).toNat : Nat) < m.toNat; omega
     ·
      rw [decide_eq_false c109] at ha108
      refine cond_f ha108 rfl ?_
      refine wp_exit ?_
      refine then_e ?_
      refine then_e ?_
      refine block_hit ?_
      refine then_n ?_
      refine wp_seq ?_
      refine wp_region_lit ?_
      refine wl_val ha108 rfl rfl rfl (op_move ha108 rfl rfl) ?_
      intro a184 ha184; clear ha108 a108
      refine wl_val ha184 rfl rfl rfl (op_assign ha184 rfl rfl) ?_
      intro a185 ha185; clear ha184 a184
      refine wpList_nil ?_
      refine then_n ?_
      refine wp_ret ?_
      refine ret1 ha185 rfl rfl ?_
      clear ha185 a185
      refine ret_mkS hx94 ⟨hf95, ?_⟩
      refine ⟨((zs.map (·.1)) : List Cust), (by rw [List.length_map]; exact hl), (by intro c hc; obtain ⟨z, hz, rfl⟩ := List.mem_map.1 hc; exact hB z hz), ?_⟩
      refine ⟨zs, hf96.fin (by omega) (by omega) (by omega), hf97.fin (by omega) (by omega), ?_⟩
      ·
       rfl
    ·
     rw [decide_eq_false c104] at ha103
     refine wl_skip ha103 rfl rfl rfl ?_
     intro a186 ha186; clear ha103 a103
     refine wl_skip ha186 rfl rfl rfl ?_
     intro a187 ha187; clear ha186 a186
     refine wl_skip ha187 rfl rfl rfl ?_
     intro a188 ha188; clear ha187 a187
     refine wl_val ha188 rfl rfl rfl (op_pick_f ha188 rfl rfl rfl) ?_
     intro a189 ha189; clear ha188 a188
     refine wpList_nil ?_
     refine then_n ?_
     refine cond_f ha189 rfl ?_
     refine wp_exit ?_
     refine then_e ?_
     refine then_e ?_
     refine block_hit ?_
     refine then_n ?_
     refine wp_seq ?_
     refine wp_region_lit ?_
     refine wl_val ha189 rfl rfl rfl (op_move ha189 rfl rfl) ?_
     intro a190 ha190; clear ha189 a189
     refine wl_val ha190 rfl rfl rfl (op_assign ha190 rfl rfl) ?_
     intro a191 ha191; clear ha190 a190
     refine wpList_nil ?_
     refine then_n ?_
     refine wp_ret ?_
     refine ret1 ha191 rfl rfl ?_
     clear ha191 a191
     refine ret_mkS hx94 ⟨hf95, ?_⟩
     refine ⟨((zs.map (·.1)) : List Cust), (by rw [List.length_map]; exact hl), (by intro c hc; obtain ⟨z, hz, rfl⟩ := List.mem_map.1 hc; exact hB z hz), ?_⟩
     refine ⟨zs, hf96.fin (by omega) (by omega) (by omega), hf97.fin (by omega) (by omega), ?_⟩
     ·
      rfl


end Go.Proofs.Ythbkedflhmeohaa
