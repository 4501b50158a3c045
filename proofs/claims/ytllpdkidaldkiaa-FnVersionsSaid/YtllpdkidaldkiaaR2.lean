/- Keys and words drawn. -/
import Derived.Test.YtllpdkidaldkiaaR1
import Derived.Test.YtllpdkidaldkiaaW8
namespace Go.Proofs.Ytllpdkidaldkiaa
open Go Go.RowKit

theorem el_len {xs : List Str} {i : Nat} {x : Str} (n : Nat) (h : (xs.all fun s => decide (s.length ≤ n)) = true) (hx : xs[i]? = some x) : x.length ≤ n := by
  rw [List.all_eq_true] at h
  simpa using h x (List.mem_of_getElem? hx)

theorem ve_lines {vs : List Ver} (h : veB vs = true) : ∀ c ∈ vs, c.2.length ≤ 8 := by
  intro c hc; obtain ⟨j, hj⟩ := List.getElem?_of_mem hc; exact shB_len (veB_at h hj).1
theorem cdV_in {vs : List Ver} {a b : Int} (h : cdV vs a b = 0) : veB vs = true ∧ 0 ≤ a ∧ a < (vs.length : Nat) := by
  have h1 := cdV_ok h; exact ⟨h1.1, in_bd h1.2.1⟩
theorem up_app {f g : Nat → Bool} {n : Nat} (h : upB f n = true) (hg : ∀ i, i < n → g i = f i) (hn : g n = true) : upB g (n + 1) = true := by
  rw [upB_iff] at h ⊢
  intro i hi
  by_cases e : i = n
  · subst e; exact hn
  · rw [hg i (by omega)]; exact h i (by omega)
theorem ve_app {vs : List Ver} {p : Int} {ls : List Line} (h : veB vs = true) (hp : 0 ≤ p ∧ p < (vs.length : Nat)) (hs : shB ls = true) (hl : vs.length < 20) : veB (vs ++ [(p, ls)]) = true := by
  have hb := veB_len h
  have h1 : upB (vrAt vs) vs.length = true := by unfold veB at h; simp only [Bool.and_eq_true] at h; exact h.2
  have h2 : upB (vrAt (vs ++ [(p, ls)])) (vs ++ [(p, ls)]).length = true := by
    rw [List.length_append]
    refine up_app h1 (fun i hi => ?_) ?_
    · unfold vrAt; rw [List.getElem?_append_left hi]
    · exact vrAt_ok (by rw [List.getElem?_append_right (Nat.le_refl _), Nat.sub_self]; rfl) hs (.inr ⟨by omega, hp.1, by show p ≤ _; omega⟩)
  rw [veB_up h2, List.length_append]
  simp; omega
/-- A set value makes versions of versions. -/
theorem sd_ve {vs : List Ver} {v : Int} {k : Str} {n : Int} (h : sdC vs v k n = 0) : veB (sdL vs v k n) = true := by
  unfold sdL; rw [if_pos h]
  unfold sdC at h
  split at h
  · rename_i hk
    split at h
    · rename_i hc
      split at h
      · rename_i hn
        split at h
        · cases h
        · rename_i hl
          rw [not_or] at hl
          have h1 := cdV_in hc; have hb := veB_len h1.1
          exact ve_app h1.1 h1.2 (by rw [stL_sh (lnV_sh h1.1 v) hk hn, decide_eq_true_eq]; omega) (by omega)
      · cases h
    · exact absurd h ‹_›
  · cases h

set_option maxHeartbeats 4000000 in
theorem c_spec_l29Key (w0 : World) (g_s b_s : Nat) (h_s : Src w0 g_s b_s 102) :
  Calls Try.prog 77 #[.pointer (some (⟨g_s, 0, none⟩ : Addr))] w0 (RetS w0 (some g_s) (fun v w1 => Src w1 g_s b_s 102 ∧ (fun v w1 => ∃ (d : Str), (d.length ≤ 17) ∧ (fun v _ => v = St (d)) v w1) v w1)) := by
 refine enter (N := 8) Try.func77 rfl rfl rfl ?_
 intro a0 ha0
 have hx0 := Stp.rfl' w0 (some g_s)
 have hgl_s := h_s.lt
 refine wp_seq ?_
 refine wp_region_lit ?_
 refine wl_val ha0 rfl rfl rfl (op_assign ha0 rfl rfl) ?_
 intro a1 ha1; clear ha0 a0
 refine wpList_nil ?_
 refine then_n ?_
 refine wp_seq ?_
 refine wp_region_lit ?_
 refine wl_eff ha1 rfl rfl rfl (op_buildSlice (s := shStr) (xs := [([98, 97, 114] : Str), ([102, 111, 114, 107] : Str), ([112, 111, 115, 116] : Str), ([114, 105, 109] : Str), ([115, 116, 101, 109] : Str)]) (cs := [St (([98, 97, 114] : Str)), St (([102, 111, 114, 107] : Str)), St (([112, 111, 115, 116] : Str)), St (([114, 105, 109] : Str)), St (([115, 116, 101, 109] : Str))]) (vs := [(0, St (([98, 97, 114] : Str))), (1, St (([102, 111, 114, 107] : Str))), (2, St (([112, 111, 115, 116] : Str))), (3, St (([114, 105, 109] : Str))), (4, St (([115, 116, 101, 109] : Str)))]) (S := fun _ => False) (le := w0.heap.size) ha1 rfl pos_shStr Try.underlying24 ti9 rfl rfl (by decide) (by kernel_rfl) ⟨mk_shStr (([98, 97, 114] : Str)) (by first | omega | (simp only []; omega) | (simp; done)), mk_shStr (([102, 111, 114, 107] : Str)) (by first | omega | (simp only []; omega) | (simp; done)), mk_shStr (([112, 111, 115, 116] : Str)) (by first | omega | (simp only []; omega) | (simp; done)), mk_shStr (([114, 105, 109] : Str)) (by first | omega | (simp only []; omega) | (simp; done)), mk_shStr (([115, 116, 101, 109] : Str)) (by first | omega | (simp only []; omega) | (simp; done)), rfl⟩ (fun _ h => h.elim)) ?_
 rintro v2 w3 ⟨ho4, he5, hob6⟩ a7 ha7; clear ha1 a1
 have hx8 := hx0.trans' (Stp.of_ext he5 _)
 have hzhx8 := he5.size
 replace h_s := h_s.ext he5
 refine wl_val ha7 rfl rfl rfl (op_move ha7 rfl rfl) ?_
 intro a9 ha9; clear ha7 a7
 refine wl_callS ha9 rfl rfl rfl (op_call ha9 rfl cb64 rfl) (c_spec_l01Next _ g_s b_s (5 : Int) h_s) ?_
 rintro v10 w11 he12 ⟨hS13, ⟨q14, hq15, hq16, hq17, rfl⟩⟩ a18 ha18; clear ha9 a9
 have hx19 := hx8.trans' he12
 have hzhx19 := he12.size
 first | replace ho4 := ho4.stp he12 (by intro q hq; cases hq; omega) | replace ho4 := ho4.stpF flat_shStr he12 (by intro q hq; cases hq; exact ho4.ne_box (by assumption) rfl)
 have hSlhS13 := hS13.lt
 obtain ⟨x20, hx20⟩ := get_ex (xs := [([98, 97, 114] : Str), ([102, 111, 114, 107] : Str), ([112, 111, 115, 116] : Str), ([114, 105, 109] : Str), ([115, 116, 101, 109] : Str)]) (j := ((q14 : Int)).toNat) (by first | omega | (simp only [List.length_cons, List.length_nil]; omega))
 obtain ⟨p21, c22, hi23, hc24, hr25, hs26⟩ := Rds.at_ (ho4.rds pos_shStr) hx20
 obtain ⟨rfl, b27⟩ := inv_shStr hr25
 obtain ⟨_, _⟩ : _ ∧ _ := hs26
 have hdlx20 := el_len 17 (by rfl) hx20
 refine wl_val ha18 rfl rfl rfl (op_indexAddr ha18 rfl Try.underlying24 ti9 rfl rfl (by omega) hi23) ?_
 intro a28 ha28; clear ha18 a18
 refine wl_val ha28 rfl rfl rfl (op_loadH ha28 rfl Try.underlying9 rfl rfl hc24 rfl) ?_
 intro a29 ha29; clear ha28 a28
 refine wl_val ha29 rfl rfl rfl (op_assign ha29 rfl rfl) ?_
 intro a30 ha30; clear ha29 a29
 refine wpList_nil ?_
 refine then_n ?_
 refine wp_ret ?_
 refine ret1 ha30 rfl rfl ?_
 clear ha30 a30
 refine ret_mkS hx19 ⟨hS13, ?_⟩
 refine ⟨(x20 : Str), (by first | omega | (simp; omega)), ?_⟩
 exact (congrArg St (by rfl))

set_option maxHeartbeats 4000000 in
theorem c_spec_l01Good (w0 : World) (g_s b_s : Nat) (h_s : Src w0 g_s b_s 102) :
  Calls Try.prog 89 #[.pointer (some (⟨g_s, 0, none⟩ : Addr))] w0 (RetS w0 (some g_s) (fun v w1 => Src w1 g_s b_s 102 ∧ (fun v w1 => ∃ (d : Str), (d.length ≤ 17) ∧ (fun v _ => v = St (d)) v w1) v w1)) := by
 refine enter (N := 8) Try.func89 rfl rfl rfl ?_
 intro a0 ha0
 have hx0 := Stp.rfl' w0 (some g_s)
 have hgl_s := h_s.lt
 refine wp_seq ?_
 refine wp_region_lit ?_
 refine wl_val ha0 rfl rfl rfl (op_assign ha0 rfl rfl) ?_
 intro a1 ha1; clear ha0 a0
 refine wpList_nil ?_
 refine then_n ?_
 refine wp_seq ?_
 refine wp_region_lit ?_
 refine wl_eff ha1 rfl rfl rfl (op_buildSlice (s := shStr) (xs := [([97, 100, 97] : Str), ([98, 114, 117, 110, 111] : Str), ([99, 108, 97, 114, 97] : Str), ([100, 111, 114, 97] : Str), ([101, 109, 105, 108] : Str), ([102, 114, 105, 100, 97] : Str), ([103, 117, 115, 116, 97, 118] : Str), ([104, 97, 110, 110, 97] : Str), ([105, 118, 97, 110] : Str), ([106, 97, 110, 97] : Str), ([107, 97, 114, 108] : Str), ([108, 101, 110, 97] : Str)]) (cs := [St (([97, 100, 97] : Str)), St (([98, 114, 117, 110, 111] : Str)), St (([99, 108, 97, 114, 97] : Str)), St (([100, 111, 114, 97] : Str)), St (([101, 109, 105, 108] : Str)), St (([102, 114, 105, 100, 97] : Str)), St (([103, 117, 115, 116, 97, 118] : Str)), St (([104, 97, 110, 110, 97] : Str)), St (([105, 118, 97, 110] : Str)), St (([106, 97, 110, 97] : Str)), St (([107, 97, 114, 108] : Str)), St (([108, 101, 110, 97] : Str))]) (vs := [(0, St (([97, 100, 97] : Str))), (1, St (([98, 114, 117, 110, 111] : Str))), (2, St (([99, 108, 97, 114, 97] : Str))), (3, St (([100, 111, 114, 97] : Str))), (4, St (([101, 109, 105, 108] : Str))), (5, St (([102, 114, 105, 100, 97] : Str))), (6, St (([103, 117, 115, 116, 97, 118] : Str))), (7, St (([104, 97, 110, 110, 97] : Str))), (8, St (([105, 118, 97, 110] : Str))), (9, St (([106, 97, 110, 97] : Str))), (10, St (([107, 97, 114, 108] : Str))), (11, St (([108, 101, 110, 97] : Str)))]) (S := fun _ => False) (le := w0.heap.size) ha1 rfl pos_shStr Try.underlying24 ti9 rfl rfl (by decide) (by kernel_rfl) ⟨mk_shStr (([97, 100, 97] : Str)) (by first | omega | (simp only []; omega) | (simp; done)), mk_shStr (([98, 114, 117, 110, 111] : Str)) (by first | omega | (simp only []; omega) | (simp; done)), mk_shStr (([99, 108, 97, 114, 97] : Str)) (by first | omega | (simp only []; omega) | (simp; done)), mk_shStr (([100, 111, 114, 97] : Str)) (by first | omega | (simp only []; omega) | (simp; done)), mk_shStr (([101, 109, 105, 108] : Str)) (by first | omega | (simp only []; omega) | (simp; done)), mk_shStr (([102, 114, 105, 100, 97] : Str)) (by first | omega | (simp only []; omega) | (simp; done)), mk_shStr (([103, 117, 115, 116, 97, 118] : Str)) (by first | omega | (simp only []; omega) | (simp; done)), mk_shStr (([104, 97, 110, 110, 97] : Str)) (by first | omega | (simp only []; omega) | (simp; done)), mk_shStr (([105, 118, 97, 110] : Str)) (by first | omega | (simp only []; omega) | (simp; done)), mk_shStr (([106, 97, 110, 97] : Str)) (by first | omega | (simp only []; omega) | (simp; done)), mk_shStr (([107, 97, 114, 108] : Str)) (by first | omega | (simp only []; omega) | (simp; done)), mk_shStr (([108, 101, 110, 97] : Str)) (by first | omega | (simp only []; omega) | (simp; done)), rfl⟩ (fun _ h => h.elim)) ?_
 rintro v2 w3 ⟨ho4, he5, hob6⟩ a7 ha7; clear ha1 a1
 have hx8 := hx0.trans' (Stp.of_ext he5 _)
 have hzhx8 := he5.size
 replace h_s := h_s.ext he5
 refine wl_val ha7 rfl rfl rfl (op_move ha7 rfl rfl) ?_
 intro a9 ha9; clear ha7 a7
 refine wl_callS ha9 rfl rfl rfl (op_call ha9 rfl cb64 rfl) (c_spec_l01Next _ g_s b_s (12 : Int) h_s) ?_
 rintro v10 w11 he12 ⟨hS13, ⟨q14, hq15, hq16, hq17, rfl⟩⟩ a18 ha18; clear ha9 a9
 have hx19 := hx8.trans' he12
 have hzhx19 := he12.size
 first | replace ho4 := ho4.stp he12 (by intro q hq; cases hq; omega) | replace ho4 := ho4.stpF flat_shStr he12 (by intro q hq; cases hq; exact ho4.ne_box (by assumption) rfl)
 have hSlhS13 := hS13.lt
 obtain ⟨x20, hx20⟩ := get_ex (xs := [([97, 100, 97] : Str), ([98, 114, 117, 110, 111] : Str), ([99, 108, 97, 114, 97] : Str), ([100, 111, 114, 97] : Str), ([101, 109, 105, 108] : Str), ([102, 114, 105, 100, 97] : Str), ([103, 117, 115, 116, 97, 118] : Str), ([104, 97, 110, 110, 97] : Str), ([105, 118, 97, 110] : Str), ([106, 97, 110, 97] : Str), ([107, 97, 114, 108] : Str), ([108, 101, 110, 97] : Str)]) (j := ((q14 : Int)).toNat) (by first | omega | (simp only [List.length_cons, List.length_nil]; omega))
 obtain ⟨p21, c22, hi23, hc24, hr25, hs26⟩ := Rds.at_ (ho4.rds pos_shStr) hx20
 obtain ⟨rfl, b27⟩ := inv_shStr hr25
 obtain ⟨_, _⟩ : _ ∧ _ := hs26
 have hdlx20 := el_len 17 (by rfl) hx20
 refine wl_val ha18 rfl rfl rfl (op_indexAddr ha18 rfl Try.underlying24 ti9 rfl rfl (by omega) hi23) ?_
 intro a28 ha28; clear ha18 a18
 refine wl_val ha28 rfl rfl rfl (op_loadH ha28 rfl Try.underlying9 rfl rfl hc24 rfl) ?_
 intro a29 ha29; clear ha28 a28
 refine wl_val ha29 rfl rfl rfl (op_assign ha29 rfl rfl) ?_
 intro a30 ha30; clear ha29 a29
 refine wpList_nil ?_
 refine then_n ?_
 refine wp_ret ?_
 refine ret1 ha30 rfl rfl ?_
 clear ha30 a30
 refine ret_mkS hx19 ⟨hS13, ?_⟩
 refine ⟨(x20 : Str), (by first | omega | (simp; omega)), ?_⟩
 exact (congrArg St (by rfl))

set_option maxHeartbeats 4000000 in
theorem c_spec_l01DrawWord (w0 : World) (g_s b_s : Nat) (h_s : Src w0 g_s b_s 102) :
  Calls Try.prog 83 #[.pointer (some (⟨g_s, 0, none⟩ : Addr))] w0 (RetS w0 (some g_s) (fun v w1 => Src w1 g_s b_s 102 ∧ (fun v w1 => ∃ (d : Str), (d.length ≤ 17) ∧ (fun v _ => v = St (d)) v w1) v w1)) := by
 refine enter (N := 13) Try.func83 rfl rfl rfl ?_
 intro a0 ha0
 have hx0 := Stp.rfl' w0 (some g_s)
 have hgl_s := h_s.lt
 refine wp_seq ?_
 refine wp_region_lit ?_
 refine wl_val ha0 rfl rfl rfl (op_assign ha0 rfl rfl) ?_
 intro a1 ha1; clear ha0 a0
 refine wpList_nil ?_
 refine then_n ?_
 refine wp_seq ?_
 refine wp_seq ?_
 refine wp_region_lit ?_
 refine wl_val ha1 rfl rfl rfl (op_move ha1 rfl rfl) ?_
 intro a2 ha2; clear ha1 a1
 refine wl_callS ha2 rfl rfl rfl (op_call ha2 rfl cb64 rfl) (c_spec_l01Next _ g_s b_s (24 : Int) h_s) ?_
 rintro v3 w4 he5 ⟨hS6, ⟨q7, hq8, hq9, hq10, rfl⟩⟩ a11 ha11; clear ha2 a2
 have hx12 := hx0.trans' he5
 have hzhx12 := he5.size
 have hSlhS6 := hS6.lt
 refine wl_val ha11 rfl rfl rfl (op_eql ha11 rfl rfl rfl) ?_
 intro a13 ha13; clear ha11 a11
 refine wpList_nil ?_
 refine then_n ?_
 by_cases c14 : (q7 : Int) = (0 : Int)
 ·
  rw [decide_eq_true c14] at ha13
  refine cond_t ha13 rfl ?_
  refine wp_seq ?_
  refine wp_region_lit ?_
  refine wl_eff ha13 rfl rfl rfl (op_buildSlice (s := shStr) (xs := [([] : Str), ([65, 100, 97] : Str), ([97, 49] : Str), ([97, 98, 99, 100, 101, 102, 103, 104, 105, 106, 107, 108, 109, 110, 111, 112] : Str), ([97, 98, 99, 100, 101, 102, 103, 104, 105, 106, 107, 108, 109, 110, 111, 112, 113] : Str), ([97, 32, 98] : Str)]) (cs := [St (([] : Str)), St (([65, 100, 97] : Str)), St (([97, 49] : Str)), St (([97, 98, 99, 100, 101, 102, 103, 104, 105, 106, 107, 108, 109, 110, 111, 112] : Str)), St (([97, 98, 99, 100, 101, 102, 103, 104, 105, 106, 107, 108, 109, 110, 111, 112, 113] : Str)), St (([97, 32, 98] : Str))]) (vs := [(0, St (([] : Str))), (1, St (([65, 100, 97] : Str))), (2, St (([97, 49] : Str))), (3, St (([97, 98, 99, 100, 101, 102, 103, 104, 105, 106, 107, 108, 109, 110, 111, 112] : Str))), (4, St (([97, 98, 99, 100, 101, 102, 103, 104, 105, 106, 107, 108, 109, 110, 111, 112, 113] : Str))), (5, St (([97, 32, 98] : Str)))]) (S := fun _ => False) (le := w4.heap.size) ha13 rfl pos_shStr Try.underlying24 ti9 rfl rfl (by decide) (by kernel_rfl) ⟨mk_shStr (([] : Str)) (by first | omega | (simp only []; omega) | (simp; done)), mk_shStr (([65, 100, 97] : Str)) (by first | omega | (simp only []; omega) | (simp; done)), mk_shStr (([97, 49] : Str)) (by first | omega | (simp only []; omega) | (simp; done)), mk_shStr (([97, 98, 99, 100, 101, 102, 103, 104, 105, 106, 107, 108, 109, 110, 111, 112] : Str)) (by first | omega | (simp only []; omega) | (simp; done)), mk_shStr (([97, 98, 99, 100, 101, 102, 103, 104, 105, 106, 107, 108, 109, 110, 111, 112, 113] : Str)) (by first | omega | (simp only []; omega) | (simp; done)), mk_shStr (([97, 32, 98] : Str)) (by first | omega | (simp only []; omega) | (simp; done)), rfl⟩ (fun _ h => h.elim)) ?_
  rintro v15 w16 ⟨ho17, he18, hob19⟩ a20 ha20; clear ha13 a13
  have hx21 := hx12.trans' (Stp.of_ext he18 _)
  have hzhx21 := he18.size
  replace hS6 := hS6.ext he18
  refine wl_val ha20 rfl rfl rfl (op_move ha20 rfl rfl) ?_
  intro a22 ha22; clear ha20 a20
  refine wl_callS ha22 rfl rfl rfl (op_call ha22 rfl cb64 rfl) (c_spec_l01Next _ g_s b_s (6 : Int) hS6) ?_
  rintro v23 w24 he25 ⟨hS26, ⟨q27, hq28, hq29, hq30, rfl⟩⟩ a31 ha31; clear ha22 a22
  have hx32 := hx21.trans' he25
  have hzhx32 := he25.size
  first | replace ho17 := ho17.stp he25 (by intro q hq; cases hq; omega) | replace ho17 := ho17.stpF flat_shStr he25 (by intro q hq; cases hq; exact ho17.ne_box (by assumption) rfl)
  clear hS6
  have hSlhS26 := hS26.lt
  obtain ⟨x33, hx33⟩ := get_ex (xs := [([] : Str), ([65, 100, 97] : Str), ([97, 49] : Str), ([97, 98, 99, 100, 101, 102, 103, 104, 105, 106, 107, 108, 109, 110, 111, 112] : Str), ([97, 98, 99, 100, 101, 102, 103, 104, 105, 106, 107, 108, 109, 110, 111, 112, 113] : Str), ([97, 32, 98] : Str)]) (j := ((q27 : Int)).toNat) (by first | omega | (simp only [List.length_cons, List.length_nil]; omega))
  obtain ⟨p34, c35, hi36, hc37, hr38, hs39⟩ := Rds.at_ (ho17.rds pos_shStr) hx33
  obtain ⟨rfl, b40⟩ := inv_shStr hr38
  obtain ⟨_, _⟩ : _ ∧ _ := hs39
  have hdlx33 := el_len 17 (by rfl) hx33
  refine wl_val ha31 rfl rfl rfl (op_indexAddr ha31 rfl Try.underlying24 ti9 rfl rfl (by omega) hi36) ?_
  intro a41 ha41; clear ha31 a31
  refine wl_val ha41 rfl rfl rfl (op_loadH ha41 rfl Try.underlying9 rfl rfl hc37 rfl) ?_
  intro a42 ha42; clear ha41 a41
  refine wl_val ha42 rfl rfl rfl (op_assign ha42 rfl rfl) ?_
  intro a43 ha43; clear ha42 a42
  refine wpList_nil ?_
  refine then_n ?_
  refine wp_ret ?_
  refine then_r ?_
  refine ret1 ha43 rfl rfl ?_
  clear ha43 a43
  refine ret_mkS hx32 ⟨hS26, ?_⟩
  refine ⟨(x33 : Str), (by first | omega | (simp; omega)), ?_⟩
  exact (congrArg St (by rfl))
 ·
  rw [decide_eq_false c14] at ha13
  refine cond_f ha13 rfl ?_
  refine wp_skip ?_
  refine then_n ?_
  refine wp_seq ?_
  refine wp_region_lit ?_
  refine wl_val ha13 rfl rfl rfl (op_move ha13 rfl rfl) ?_
  intro a44 ha44; clear ha13 a13
  refine wl_callS ha44 rfl rfl rfl (op_call ha44 rfl cb89 rfl) (c_spec_l01Good _ g_s b_s hS6) ?_
  rintro v45 w46 he47 ⟨hS48, ⟨q49, hq50, rfl⟩⟩ a51 ha51; clear ha44 a44
  have hx52 := hx12.trans' he47
  have hzhx52 := he47.size
  clear hS6
  have hSlhS48 := hS48.lt
  refine wl_val ha51 rfl rfl rfl (op_assign ha51 rfl rfl) ?_
  intro a53 ha53; clear ha51 a51
  refine wpList_nil ?_
  refine then_n ?_
  refine wp_ret ?_
  refine ret1 ha53 rfl rfl ?_
  clear ha53 a53
  refine ret_mkS hx52 ⟨hS48, ?_⟩
  refine ⟨((q49) : Str), (by first | omega | (simp; omega)), ?_⟩
  exact (congrArg St (by rfl))


end Go.Proofs.Ytllpdkidaldkiaa
