/- What asks versions for a key, adds a version, sets a value. -/
import Derived.Test.YtllpdkidaldkiaaW7
namespace Go.Proofs.Ytllpdkidaldkiaa
open Go Go.RowKit

theorem sh_up {ls : List Line} (h : shB ls = true) : ls.Pairwise fun x y => x.1 < y.1 := by
  rw [List.pairwise_iff_getElem]
  intro i j hi hj hij
  obtain ⟨d, rfl⟩ : ∃ d, j = i + 1 + d := ⟨j - i - 1, by omega⟩
  induction d with
  | zero => exact (shB_at h (List.getElem?_eq_getElem hj)).2.2 _ (by omega) (List.getElem?_eq_getElem hi)
  | succ d ih => exact str_tr (ih (by omega) (by omega)) ((shB_at h (List.getElem?_eq_getElem hj)).2.2 _ (by omega) (show ls[i + 1 + d]? = some _ from List.getElem?_eq_getElem (by omega)))
theorem stL_sh {k : Str} {v : Int} {ls : List Line} (h : shB ls = true) (hk : wordB k = true) (hv : -1 ≤ v ∧ v ≤ 1000000) : shB (stL k v ls) = decide ((stL k v ls).length ≤ 8) := by
  refine sh_pw (stG_pw (sh_up h)) fun l hl => ?_
  rcases stG_mem hl with e | e
  · rw [e.2]; refine ⟨hk, ?_⟩
    have := e.1; simp only [decide_eq_false_iff_not] at this
    unfold svB; simp; omega
  · have := shB_el h l e.1
    exact ⟨this.1, by unfold svB; simp; omega⟩
theorem stL_len (k : Str) (v : Int) (ls : List Line) : (stL k v ls).length ≤ ls.length + 1 := by
  have := stG_len k v ls (decide (v = -1)); unfold stL; split at this <;> omega
/-- Codes and results of what asks versions for a key, adds a version, sets a value. -/
def cdW (vs : List Ver) (v : Int) (k : Str) : Int := if wordB k = true then cdV vs v v else 1
def vaV (vs : List Ver) (v : Int) (k : Str) : Int := if cdW vs v k = 0 then valV k (lnV vs v) else 0
def cvV (vs : List Ver) (a b : Int) : Int := if cdV vs a b = 0 then cmV vs a b else 0
def wfV (vs : List Ver) (v : Int) : List Int := if cdV vs v v = 0 then wayV vs v else []
def avC (vs : List Ver) (p : Int) (ls : List Line) : Int := if shB ls = true then (if cdV vs p p = 0 then (if vs.length = 20 then 3 else 0) else cdV vs p p) else 1
def avL (vs : List Ver) (p : Int) (ls : List Line) : List Ver := if avC vs p ls = 0 then vs ++ [(p, ls)] else []
def sdC (vs : List Ver) (v : Int) (k : Str) (n : Int) : Int := if wordB k = true then (if cdV vs v v = 0 then (if -1 ≤ n ∧ n ≤ 1000000 then (if vs.length = 20 ∨ 8 < (stL k n (lnV vs v)).length then 3 else 0) else 2) else cdV vs v v) else 1
def sdL (vs : List Ver) (v : Int) (k : Str) (n : Int) : List Ver := if sdC vs v k n = 0 then vs ++ [(v, stL k n (lnV vs v))] else []
theorem cdV_1 {vs : List Ver} {a b : Int} (h : veB vs = false) : cdV vs a b = 1 := by unfold cdV; rw [if_neg (by rw [h]; decide)]
theorem cdV_2 {vs : List Ver} {a b : Int} (h : veB vs = true) (h2 : inV vs a = false ∨ inV vs b = false) : cdV vs a b = 2 := by
  unfold cdV; rw [if_pos h, if_neg]; rcases h2 with h2 | h2 <;> simp [h2]
theorem cdV_0 {vs : List Ver} {a b : Int} (h : veB vs = true) (h2 : inV vs a = true) (h3 : inV vs b = true) : cdV vs a b = 0 := by unfold cdV; rw [if_pos h, if_pos (by rw [h2, h3]; rfl)]

theorem c_impl_CommonVersion (w0 : World) (v_list : Value) (list : List (Int × List (Str × Int))) {S_list : Nat → Prop} (ca : Int) (cb : Int) (h_list : Rds shVer S_list w0 v_list list) :
  Calls Try.prog 43 #[v_list, .int .i64 ca, .int .i64 cb] w0 (Ret w0 (fun v _ => v = .tuple #[.int .i64 (cvV list ca cb), .int .i64 (cdV list ca cb)])) := by
 refine enter (N := 20) Try.func43 rfl rfl rfl ?_
 intro a0 ha0
 have hx0 := Ext.rfl' w0
 have hl_list := h_list.length_le
 refine wp_seq ?_
 refine wp_region_lit ?_
 refine wl_val ha0 rfl rfl rfl (op_assign ha0 rfl rfl) ?_
 intro a1 ha1; clear ha0 a0
 refine wl_val ha1 rfl rfl rfl (op_assign ha1 rfl rfl) ?_
 intro a2 ha2; clear ha1 a1
 refine wpList_nil ?_
 refine then_n ?_
 refine wp_seq ?_
 refine wp_seq ?_
 refine wp_region_lit ?_
 refine wl_val ha2 rfl rfl rfl (op_move ha2 rfl rfl) ?_
 intro a3 ha3; clear ha2 a2
 refine wl_val ha3 rfl rfl rfl (op_move ha3 rfl rfl) ?_
 intro a4 ha4; clear ha3 a3
 refine wl_val ha4 rfl rfl rfl (op_move ha4 rfl rfl) ?_
 intro a5 ha5; clear ha4 a4
 refine wl_callR ha5 rfl rfl rfl (op_call ha5 rfl cb54 rfl) (c_impl_twoVersions _ v_list list ca cb (h_list.ext pos_shVer hx0)) ?_
 rintro v6 w7 he8 rfl a9 ha9; clear ha5 a5
 have hx10 := hx0.trans' he8
 have hzhx10 := he8.size
 refine wl_val ha9 rfl rfl rfl (op_assign ha9 rfl rfl) ?_
 intro a11 ha11; clear ha9 a9
 refine wpList_nil ?_
 refine then_n ?_
 refine wp_seq ?_
 refine wp_region_lit ?_
 refine wl_val ha11 rfl rfl rfl (op_move ha11 rfl rfl) ?_
 intro a12 ha12; clear ha11 a11
 refine wl_val ha12 rfl rfl rfl ((op_neq ha12 rfl rfl rfl).to (congrArg Value.bool decide_not)) ?_
 intro a13 ha13; clear ha12 a12
 refine wpList_nil ?_
 refine then_n ?_
 by_cases c14 : (cdV list ca cb : Int) = (0 : Int)
 ·
  rw [decide_eq_true c14] at ha13
  obtain ⟨hv1, hv2, hv3⟩ := cdV_ok c14
  have hlen := veB_len hv1
  have hia := in_bd hv2
  have hib := in_bd hv3
  refine cond_f ha13 rfl ?_
  refine wp_skip ?_
  refine then_n ?_
  refine wp_seq ?_
  refine wp_region_lit ?_
  refine wl_val ha13 rfl rfl rfl (op_move ha13 rfl rfl) ?_
  intro a15 ha15; clear ha13 a13
  refine wl_val ha15 rfl rfl rfl (op_move ha15 rfl rfl) ?_
  intro a16 ha16; clear ha15 a15
  refine wl_val ha16 rfl rfl rfl (op_move ha16 rfl rfl) ?_
  intro a17 ha17; clear ha16 a16
  refine wl_callR ha17 rfl rfl rfl (op_call ha17 rfl cb81 rfl) (c_impl_commonVersion _ v_list list ca cb (h_list.ext pos_shVer hx10) (by first | assumption | omega | (simp; omega) | (simp [mkN_length]; omega)) (by first | assumption | omega | (simp; omega) | (simp [mkN_length]; omega)) (by first | assumption | omega | (simp; omega) | (simp [mkN_length]; omega)) (by first | assumption | omega | (simp; omega) | (simp [mkN_length]; omega)) (by first | assumption | omega | (simp; omega) | (simp [mkN_length]; omega))) ?_
  rintro v18 w19 he20 rfl a21 ha21; clear ha17 a17
  have hx22 := hx10.trans' he20
  have hzhx22 := he20.size
  refine wl_val ha21 rfl rfl rfl (op_assign ha21 rfl rfl) ?_
  intro a23 ha23; clear ha21 a21
  refine wl_val ha23 rfl rfl rfl (op_assign ha23 rfl rfl) ?_
  intro a24 ha24; clear ha23 a23
  refine wpList_nil ?_
  refine then_n ?_
  refine wp_ret ?_
  refine ret2 ha24 rfl rfl rfl ?_
  clear ha24 a24
  exact ret_mk hx22 (tup2_eq (int_eq (by unfold cvV; first | (rw [if_pos (by assumption)]; done) | (rw [if_neg (by assumption)]; done))) (int_eq (by first | rfl | omega | exact Eq.symm (by assumption))))
 ·
  rw [decide_eq_false c14] at ha13
  refine cond_t ha13 rfl ?_
  refine wp_seq ?_
  refine wp_region_lit ?_
  refine wl_val ha13 rfl rfl rfl (op_move ha13 rfl rfl) ?_
  intro a25 ha25; clear ha13 a13
  refine wl_val ha25 rfl rfl rfl (op_assign ha25 rfl rfl) ?_
  intro a26 ha26; clear ha25 a25
  refine wl_val ha26 rfl rfl rfl (op_assign ha26 rfl rfl) ?_
  intro a27 ha27; clear ha26 a26
  refine wpList_nil ?_
  refine then_n ?_
  refine wp_ret ?_
  refine then_r ?_
  refine ret2 ha27 rfl rfl rfl ?_
  clear ha27 a27
  exact ret_mk hx10 (tup2_eq (int_eq (by unfold cvV; first | (rw [if_pos (by assumption)]; done) | (rw [if_neg (by assumption)]; done))) (int_eq (by first | rfl | omega | exact Eq.symm (by assumption))))

theorem c_spec_CommonVersion (w0 : World) (v_list : Value) (list : List (Int × List (Str × Int))) {S_list : Nat → Prop} (ca : Int) (cb : Int) (h_list : Rds shVer S_list w0 v_list list) :
  Calls Try.prog 44 #[v_list, .int .i64 ca, .int .i64 cb] w0 (Ret w0 (fun v _ => v = .tuple #[.int .i64 (cvV list ca cb), .int .i64 (cdV list ca cb)])) := by
 refine enter (N := 20) Try.func44 rfl rfl rfl ?_
 intro a0 ha0
 have hx0 := Ext.rfl' w0
 have hl_list := h_list.length_le
 refine wp_seq ?_
 refine wp_region_lit ?_
 refine wl_val ha0 rfl rfl rfl (op_assign ha0 rfl rfl) ?_
 intro a1 ha1; clear ha0 a0
 refine wl_val ha1 rfl rfl rfl (op_assign ha1 rfl rfl) ?_
 intro a2 ha2; clear ha1 a1
 refine wpList_nil ?_
 refine then_n ?_
 refine wp_seq ?_
 refine wp_region_lit ?_
 refine wl_val ha2 rfl rfl rfl (op_move ha2 rfl rfl) ?_
 intro a3 ha3; clear ha2 a2
 refine wl_val ha3 rfl rfl rfl (op_move ha3 rfl rfl) ?_
 intro a4 ha4; clear ha3 a3
 refine wl_val ha4 rfl rfl rfl (op_move ha4 rfl rfl) ?_
 intro a5 ha5; clear ha4 a4
 refine wl_callR ha5 rfl rfl rfl (op_call ha5 rfl cb50 rfl) (c_spec_l29Code _ v_list list ca cb (h_list.ext pos_shVer hx0)) ?_
 rintro v6 w7 he8 rfl a9 ha9; clear ha5 a5
 have hx10 := hx0.trans' he8
 have hzhx10 := he8.size
 refine wl_val ha9 rfl rfl rfl (op_assign ha9 rfl rfl) ?_
 intro a11 ha11; clear ha9 a9
 refine wpList_nil ?_
 refine then_n ?_
 refine wp_seq ?_
 refine wp_seq ?_
 refine wp_region_lit ?_
 refine wl_val ha11 rfl rfl rfl (op_move ha11 rfl rfl) ?_
 intro a12 ha12; clear ha11 a11
 refine wl_val ha12 rfl rfl rfl ((op_neq ha12 rfl rfl rfl).to (congrArg Value.bool decide_not)) ?_
 intro a13 ha13; clear ha12 a12
 refine wpList_nil ?_
 refine then_n ?_
 by_cases c14 : (cdV list ca cb : Int) = (0 : Int)
 ·
  rw [decide_eq_true c14] at ha13
  obtain ⟨hv1, hv2, hv3⟩ := cdV_ok c14
  have hlen := veB_len hv1
  have hia := in_bd hv2
  have hib := in_bd hv3
  refine cond_f ha13 rfl ?_
  refine wp_skip ?_
  refine then_n ?_
  refine wp_seq ?_
  refine wp_region_lit ?_
  refine wl_val ha13 rfl rfl rfl (op_move ha13 rfl rfl) ?_
  intro a15 ha15; clear ha13 a13
  refine wl_val ha15 rfl rfl rfl (op_move ha15 rfl rfl) ?_
  intro a16 ha16; clear ha15 a15
  refine wl_val ha16 rfl rfl rfl (op_move ha16 rfl rfl) ?_
  intro a17 ha17; clear ha16 a16
  refine wl_callR ha17 rfl rfl rfl (op_call ha17 rfl cb82 rfl) (c_spec_l29Common _ v_list list ca cb (h_list.ext pos_shVer hx10) (by first | assumption | omega | (simp; omega) | (simp [mkN_length]; omega)) (by first | assumption | omega | (simp; omega) | (simp [mkN_length]; omega)) (by first | assumption | omega | (simp; omega) | (simp [mkN_length]; omega)) (by first | assumption | omega | (simp; omega) | (simp [mkN_length]; omega)) (by first | assumption | omega | (simp; omega) | (simp [mkN_length]; omega))) ?_
  rintro v18 w19 he20 rfl a21 ha21; clear ha17 a17
  have hx22 := hx10.trans' he20
  have hzhx22 := he20.size
  refine wl_val ha21 rfl rfl rfl (op_assign ha21 rfl rfl) ?_
  intro a23 ha23; clear ha21 a21
  refine wl_val ha23 rfl rfl rfl (op_assign ha23 rfl rfl) ?_
  intro a24 ha24; clear ha23 a23
  refine wpList_nil ?_
  refine then_n ?_
  refine wp_ret ?_
  refine ret2 ha24 rfl rfl rfl ?_
  clear ha24 a24
  exact ret_mk hx22 (tup2_eq (int_eq (by unfold cvV; first | (rw [if_pos (by assumption)]; done) | (rw [if_neg (by assumption)]; done))) (int_eq (by first | rfl | omega | exact Eq.symm (by assumption))))
 ·
  rw [decide_eq_false c14] at ha13
  refine cond_t ha13 rfl ?_
  refine wp_seq ?_
  refine wp_region_lit ?_
  refine wl_val ha13 rfl rfl rfl (op_move ha13 rfl rfl) ?_
  intro a25 ha25; clear ha13 a13
  refine wl_val ha25 rfl rfl rfl (op_assign ha25 rfl rfl) ?_
  intro a26 ha26; clear ha25 a25
  refine wl_val ha26 rfl rfl rfl (op_assign ha26 rfl rfl) ?_
  intro a27 ha27; clear ha26 a26
  refine wpList_nil ?_
  refine then_n ?_
  refine wp_ret ?_
  refine then_r ?_
  refine ret2 ha27 rfl rfl rfl ?_
  clear ha27 a27
  exact ret_mk hx10 (tup2_eq (int_eq (by unfold cvV; first | (rw [if_pos (by assumption)]; done) | (rw [if_neg (by assumption)]; done))) (int_eq (by first | rfl | omega | exact Eq.symm (by assumption))))

theorem c_impl_ValueOf (w0 : World) (v_list : Value) (list : List (Int × List (Str × Int))) {S_list : Nat → Prop} (version : Int) (key : Str) (h_list : Rds shVer S_list w0 v_list list) (g0 : key.length ≤ 1048576) :
  Calls Try.prog 41 #[v_list, .int .i64 version, St key] w0 (Ret w0 (fun v _ => v = .tuple #[.int .i64 (vaV list version key), .int .i64 (cdW list version key)])) := by
 refine enter (N := 27) Try.func41 rfl rfl rfl ?_
 intro a0 ha0
 have hx0 := Ext.rfl' w0
 have hl_list := h_list.length_le
 refine wp_seq ?_
 refine wp_region_lit ?_
 refine wl_val ha0 rfl rfl rfl (op_assign ha0 rfl rfl) ?_
 intro a1 ha1; clear ha0 a0
 refine wl_val ha1 rfl rfl rfl (op_assign ha1 rfl rfl) ?_
 intro a2 ha2; clear ha1 a1
 refine wpList_nil ?_
 refine then_n ?_
 refine wp_seq ?_
 refine wp_seq ?_
 refine wp_region_lit ?_
 refine wl_val ha2 rfl rfl rfl (op_move ha2 rfl rfl) ?_
 intro a3 ha3; clear ha2 a2
 refine wl_callR ha3 rfl rfl rfl (op_call ha3 rfl cb38 rfl) (c_impl_AreVersions _ v_list list (h_list.ext pos_shVer hx0)) ?_
 rintro v4 w5 he6 rfl a7 ha7; clear ha3 a3
 have hx8 := hx0.trans' he6
 have hzhx8 := he6.size
 refine wl_val ha7 rfl rfl rfl (op_not ha7 rfl rfl) ?_
 intro a9 ha9; clear ha7 a7
 refine wl_val ha9 rfl rfl rfl (op_move ha9 rfl rfl) ?_
 intro a10 ha10; clear ha9 a9
 rcases Bool.eq_false_or_eq_true (veB list) with c11 | c11
 ·
  rw [c11] at ha10
  have hv1 := c11
  have hlen := veB_len hv1
  refine wl_val ha10 rfl rfl rfl (op_move ha10 rfl rfl) ?_
  intro a12 ha12; clear ha10 a10
  refine wl_callR ha12 rfl rfl rfl (op_call ha12 rfl cb66 rfl) (c_impl_IsWord _ key (by first | assumption | omega | (simp; omega) | (simp [mkN_length]; omega))) ?_
  rintro v13 w14 he15 rfl a16 ha16; clear ha12 a12
  have hx17 := hx8.trans' he15
  have hzhx17 := he15.size
  refine wl_val ha16 rfl rfl rfl (op_not ha16 rfl rfl) ?_
  intro a18 ha18; clear ha16 a16
  refine wl_val ha18 rfl rfl rfl (op_pick_f ha18 rfl rfl rfl) ?_
  intro a19 ha19; clear ha18 a18
  refine wpList_nil ?_
  refine then_n ?_
  rcases Bool.eq_false_or_eq_true (wordB key) with c20 | c20
  ·
   rw [c20] at ha19
   refine cond_f ha19 rfl ?_
   refine wp_skip ?_
   refine then_n ?_
   refine wp_seq ?_
   refine wp_seq ?_
   refine wp_region_lit ?_
   refine wl_val ha19 rfl rfl rfl (op_move ha19 rfl rfl) ?_
   intro a21 ha21; clear ha19 a19
   refine wl_val ha21 rfl rfl rfl (op_move ha21 rfl rfl) ?_
   intro a22 ha22; clear ha21 a21
   refine wl_callR ha22 rfl rfl rfl (op_call ha22 rfl cb67 rfl) (c_impl_isVersion _ v_list list version (h_list.ext pos_shVer hx17)) ?_
   rintro v23 w24 he25 rfl a26 ha26; clear ha22 a22
   have hx27 := hx17.trans' he25
   have hzhx27 := he25.size
   refine wl_val ha26 rfl rfl rfl (op_not ha26 rfl rfl) ?_
   intro a28 ha28; clear ha26 a26
   refine wpList_nil ?_
   refine then_n ?_
   rcases Bool.eq_false_or_eq_true (inV list version) with c29 | c29
   ·
    rw [c29] at ha28
    have hia := in_bd c29
    refine cond_f ha28 rfl ?_
    refine wp_skip ?_
    refine then_n ?_
    refine wp_seq ?_
    refine wp_region_lit ?_
    refine wl_val ha28 rfl rfl rfl (op_move ha28 rfl rfl) ?_
    intro a30 ha30; clear ha28 a28
    refine wl_val ha30 rfl rfl rfl (op_move ha30 rfl rfl) ?_
    intro a31 ha31; clear ha30 a30
    obtain ⟨x32, hx32⟩ := get_ex (xs := list) (j := version.toNat) (by omega)
    obtain ⟨p33, c34, hi35, hc36, hr37, hs38⟩ := Rds.at_ h_list hx32
    obtain ⟨v39, rfl, b40, b41⟩ := inv_shVer hr37
    have hlb41 := b41.length_le
    have hvex32 := veB_at hv1 hx32
    have hlex32 := lnV_eq hx32
    have hlxx32 := shB_len hvex32.1
    have hshx32 := hvex32.1
    refine wl_val ha31 rfl rfl rfl (op_indexAddr ha31 rfl Try.underlying27 ti56 rfl rfl (by omega) hi35) ?_
    intro a42 ha42; clear ha31 a31
    refine wl_val ha42 rfl rfl rfl (op_fieldAddr (sz := 0) ha42 rfl Try.underlying56 rfl rfl ti34 rfl) ?_
    intro a43 ha43; clear ha42 a42
    refine wl_val ha43 rfl rfl rfl (op_loadF (off := 1) ha43 rfl Try.underlying34 rfl rfl (hc36.ext hx27) rfl) ?_
    intro a44 ha44; clear ha43 a43
    refine wl_val ha44 rfl rfl rfl (op_move ha44 rfl rfl) ?_
    intro a45 ha45; clear ha44 a44
    refine wl_callR ha45 rfl rfl rfl (op_call ha45 rfl cb56 rfl) (c_impl_valueOf _ v39 x32.2 key (b41.ext pos_shLine hx27)) ?_
    rintro v46 w47 he48 rfl a49 ha49; clear ha45 a45
    have hx50 := hx27.trans' he48
    have hzhx50 := he48.size
    refine wl_val ha49 rfl rfl rfl (op_assign ha49 rfl rfl) ?_
    intro a51 ha51; clear ha49 a49
    refine wl_val ha51 rfl rfl rfl (op_assign ha51 rfl rfl) ?_
    intro a52 ha52; clear ha51 a51
    refine wpList_nil ?_
    refine then_n ?_
    refine wp_ret ?_
    refine ret2 ha52 rfl rfl rfl ?_
    clear ha52 a52
    exact ret_mk hx50 (tup2_eq (int_eq (by have hr : cdW list version key = 0 := (by unfold cdW; rw [if_pos (by assumption)]; first | assumption | exact cdV_0 (by assumption) (by assumption) (by assumption)); unfold vaV; rw [if_pos hr, lnV_eq hx32])) (int_eq (by first | (unfold cdW; simp [c11, c20, c29]; done) | (unfold cdW; simp [cdV, c11, c20, c29]; done) | (unfold cdW cdV; simp_all; done))))
   ·
    rw [c29] at ha28
    refine cond_t ha28 rfl ?_
    refine wp_seq ?_
    refine wp_region_lit ?_
    refine wl_val ha28 rfl rfl rfl (op_assign ha28 rfl rfl) ?_
    intro a53 ha53; clear ha28 a28
    refine wl_val ha53 rfl rfl rfl (op_assign ha53 rfl rfl) ?_
    intro a54 ha54; clear ha53 a53
    refine wpList_nil ?_
    refine then_n ?_
    refine wp_ret ?_
    refine then_r ?_
    refine ret2 ha54 rfl rfl rfl ?_
    clear ha54 a54
    exact ret_mk hx27 (tup2_eq (int_eq (by unfold vaV cdW; first | (simp [c11, c20, c29]; done) | (simp [cdV, c11, c20, c29]; done) | (simp_all [cdV]; done))) (int_eq (by first | (unfold cdW; simp [c11, c20, c29]; done) | (unfold cdW; simp [cdV, c11, c20, c29]; done) | (unfold cdW cdV; simp_all; done))))
  ·
   rw [c20] at ha19
   refine cond_t ha19 rfl ?_
   refine wp_seq ?_
   refine wp_region_lit ?_
   refine wl_val ha19 rfl rfl rfl (op_assign ha19 rfl rfl) ?_
   intro a55 ha55; clear ha19 a19
   refine wl_val ha55 rfl rfl rfl (op_assign ha55 rfl rfl) ?_
   intro a56 ha56; clear ha55 a55
   refine wpList_nil ?_
   refine then_n ?_
   refine wp_ret ?_
   refine then_r ?_
   refine ret2 ha56 rfl rfl rfl ?_
   clear ha56 a56
   exact ret_mk hx17 (tup2_eq (int_eq (by unfold vaV cdW; first | (simp [c11, c20]; done) | (simp [cdV, c11, c20]; done) | (simp_all [cdV]; done))) (int_eq (by first | (unfold cdW; simp [c11, c20]; done) | (unfold cdW; simp [cdV, c11, c20]; done) | (unfold cdW cdV; simp_all; done))))
 ·
  rw [c11] at ha10
  refine wl_skip ha10 rfl rfl rfl ?_
  intro a57 ha57; clear ha10 a10
  refine wl_skip ha57 rfl rfl rfl ?_
  intro a58 ha58; clear ha57 a57
  refine wl_skip ha58 rfl rfl rfl ?_
  intro a59 ha59; clear ha58 a58
  refine wl_val ha59 rfl rfl rfl (op_pick_t ha59 rfl rfl rfl) ?_
  intro a60 ha60; clear ha59 a59
  refine wpList_nil ?_
  refine then_n ?_
  refine cond_t ha60 rfl ?_
  refine wp_seq ?_
  refine wp_region_lit ?_
  refine wl_val ha60 rfl rfl rfl (op_assign ha60 rfl rfl) ?_
  intro a61 ha61; clear ha60 a60
  refine wl_val ha61 rfl rfl rfl (op_assign ha61 rfl rfl) ?_
  intro a62 ha62; clear ha61 a61
  refine wpList_nil ?_
  refine then_n ?_
  refine wp_ret ?_
  refine then_r ?_
  refine ret2 ha62 rfl rfl rfl ?_
  clear ha62 a62
  exact ret_mk hx8 (tup2_eq (int_eq (by unfold vaV cdW; first | (simp [c11]; done) | (simp [cdV, c11]; done) | (simp_all [cdV]; done))) (int_eq (by first | (unfold cdW; simp [c11]; done) | (unfold cdW; simp [cdV, c11]; done) | (unfold cdW cdV; simp_all; done))))

theorem c_spec_ValueOf (w0 : World) (v_list : Value) (list : List (Int × List (Str × Int))) {S_list : Nat → Prop} (version : Int) (key : Str) (h_list : Rds shVer S_list w0 v_list list) (g0 : key.length ≤ 1048576) :
  Calls Try.prog 46 #[v_list, .int .i64 version, St key] w0 (Ret w0 (fun v _ => v = .tuple #[.int .i64 (vaV list version key), .int .i64 (cdW list version key)])) := by
 refine enter (N := 26) Try.func46 rfl rfl rfl ?_
 intro a0 ha0
 have hx0 := Ext.rfl' w0
 have hl_list := h_list.length_le
 refine wp_seq ?_
 refine wp_region_lit ?_
 refine wl_val ha0 rfl rfl rfl (op_assign ha0 rfl rfl) ?_
 intro a1 ha1; clear ha0 a0
 refine wl_val ha1 rfl rfl rfl (op_assign ha1 rfl rfl) ?_
 intro a2 ha2; clear ha1 a1
 refine wpList_nil ?_
 refine then_n ?_
 refine wp_seq ?_
 refine wp_seq ?_
 refine wp_region_lit ?_
 refine wl_val ha2 rfl rfl rfl (op_move ha2 rfl rfl) ?_
 intro a3 ha3; clear ha2 a2
 refine wl_callR ha3 rfl rfl rfl (op_call ha3 rfl cb70 rfl) (c_spec_IsWord _ key (by first | assumption | omega | (simp; omega) | (simp [mkN_length]; omega))) ?_
 rintro v4 w5 he6 rfl a7 ha7; clear ha3 a3
 have hx8 := hx0.trans' he6
 have hzhx8 := he6.size
 refine wl_val ha7 rfl rfl rfl (op_not ha7 rfl rfl) ?_
 intro a9 ha9; clear ha7 a7
 refine wpList_nil ?_
 refine then_n ?_
 rcases Bool.eq_false_or_eq_true (wordB key) with c10 | c10
 ·
  rw [c10] at ha9
  refine cond_f ha9 rfl ?_
  refine wp_skip ?_
  refine then_n ?_
  refine wp_seq ?_
  refine wp_region_lit ?_
  refine wl_val ha9 rfl rfl rfl (op_move ha9 rfl rfl) ?_
  intro a11 ha11; clear ha9 a9
  refine wl_val ha11 rfl rfl rfl (op_move ha11 rfl rfl) ?_
  intro a12 ha12; clear ha11 a11
  refine wl_val ha12 rfl rfl rfl (op_move ha12 rfl rfl) ?_
  intro a13 ha13; clear ha12 a12
  refine wl_callR ha13 rfl rfl rfl (op_call ha13 rfl cb50 rfl) (c_spec_l29Code _ v_list list version version (h_list.ext pos_shVer hx8)) ?_
  rintro v14 w15 he16 rfl a17 ha17; clear ha13 a13
  have hx18 := hx8.trans' he16
  have hzhx18 := he16.size
  refine wl_val ha17 rfl rfl rfl (op_assign ha17 rfl rfl) ?_
  intro a19 ha19; clear ha17 a17
  refine wpList_nil ?_
  refine then_n ?_
  refine wp_seq ?_
  refine wp_seq ?_
  refine wp_region_lit ?_
  refine wl_val ha19 rfl rfl rfl (op_move ha19 rfl rfl) ?_
  intro a20 ha20; clear ha19 a19
  refine wl_val ha20 rfl rfl rfl ((op_neq ha20 rfl rfl rfl).to (congrArg Value.bool decide_not)) ?_
  intro a21 ha21; clear ha20 a20
  refine wpList_nil ?_
  refine then_n ?_
  by_cases c22 : (cdV list version version : Int) = (0 : Int)
  ·
   rw [decide_eq_true c22] at ha21
   obtain ⟨hv1, hv2, hv3⟩ := cdV_ok c22
   have hlen := veB_len hv1
   have hia := in_bd hv2
   have hib := in_bd hv3
   refine cond_f ha21 rfl ?_
   refine wp_skip ?_
   refine then_n ?_
   refine wp_seq ?_
   refine wp_region_lit ?_
   refine wl_val ha21 rfl rfl rfl (op_move ha21 rfl rfl) ?_
   intro a23 ha23; clear ha21 a21
   refine wl_val ha23 rfl rfl rfl (op_move ha23 rfl rfl) ?_
   intro a24 ha24; clear ha23 a23
   obtain ⟨x25, hx25⟩ := get_ex (xs := list) (j := version.toNat) (by omega)
   obtain ⟨p26, c27, hi28, hc29, hr30, hs31⟩ := Rds.at_ h_list hx25
   obtain ⟨v32, rfl, b33, b34⟩ := inv_shVer hr30
   have hlb34 := b34.length_le
   have hvex25 := veB_at hv1 hx25
   have hlex25 := lnV_eq hx25
   have hlxx25 := shB_len hvex25.1
   have hshx25 := hvex25.1
   refine wl_val ha24 rfl rfl rfl (op_indexAddr ha24 rfl Try.underlying27 ti56 rfl rfl (by omega) hi28) ?_
   intro a35 ha35; clear ha24 a24
   refine wl_val ha35 rfl rfl rfl (op_fieldAddr (sz := 0) ha35 rfl Try.underlying56 rfl rfl ti34 rfl) ?_
   intro a36 ha36; clear ha35 a35
   refine wl_val ha36 rfl rfl rfl (op_loadF (off := 1) ha36 rfl Try.underlying34 rfl rfl (hc29.ext hx18) rfl) ?_
   intro a37 ha37; clear ha36 a36
   refine wl_val ha37 rfl rfl rfl (op_move ha37 rfl rfl) ?_
   intro a38 ha38; clear ha37 a37
   refine wl_callR ha38 rfl rfl rfl (op_call ha38 rfl cb52 rfl) (c_spec_l29Value _ v32 x25.2 key (b34.ext pos_shLine hx18)) ?_
   rintro v39 w40 he41 rfl a42 ha42; clear ha38 a38
   have hx43 := hx18.trans' he41
   have hzhx43 := he41.size
   refine wl_val ha42 rfl rfl rfl (op_assign ha42 rfl rfl) ?_
   intro a44 ha44; clear ha42 a42
   refine wl_val ha44 rfl rfl rfl (op_assign ha44 rfl rfl) ?_
   intro a45 ha45; clear ha44 a44
   refine wpList_nil ?_
   refine then_n ?_
   refine wp_ret ?_
   refine ret2 ha45 rfl rfl rfl ?_
   clear ha45 a45
   exact ret_mk hx43 (tup2_eq (int_eq (by have hr : cdW list version key = 0 := (by unfold cdW; rw [if_pos (by assumption)]; first | assumption | exact cdV_0 (by assumption) (by assumption) (by assumption)); unfold vaV; rw [if_pos hr, lnV_eq hx25])) (int_eq (by first | (unfold cdW; simp [c10, c22]; done) | (unfold cdW; simp [cdV, c10, c22]; done) | (unfold cdW cdV; simp_all; done))))
  ·
   rw [decide_eq_false c22] at ha21
   refine cond_t ha21 rfl ?_
   refine wp_seq ?_
   refine wp_region_lit ?_
   refine wl_val ha21 rfl rfl rfl (op_move ha21 rfl rfl) ?_
   intro a46 ha46; clear ha21 a21
   refine wl_val ha46 rfl rfl rfl (op_assign ha46 rfl rfl) ?_
   intro a47 ha47; clear ha46 a46
   refine wl_val ha47 rfl rfl rfl (op_assign ha47 rfl rfl) ?_
   intro a48 ha48; clear ha47 a47
   refine wpList_nil ?_
   refine then_n ?_
   refine wp_ret ?_
   refine then_r ?_
   refine ret2 ha48 rfl rfl rfl ?_
   clear ha48 a48
   exact ret_mk hx18 (tup2_eq (int_eq (by unfold vaV cdW; first | (simp [c10, c22]; done) | (simp [cdV, c10, c22]; done) | (simp_all [cdV]; done))) (int_eq (by first | (unfold cdW; simp [c10, c22]; done) | (unfold cdW; simp [cdV, c10, c22]; done) | (unfold cdW cdV; simp_all; done))))
 ·
  rw [c10] at ha9
  refine cond_t ha9 rfl ?_
  refine wp_seq ?_
  refine wp_region_lit ?_
  refine wl_val ha9 rfl rfl rfl (op_assign ha9 rfl rfl) ?_
  intro a49 ha49; clear ha9 a9
  refine wl_val ha49 rfl rfl rfl (op_assign ha49 rfl rfl) ?_
  intro a50 ha50; clear ha49 a49
  refine wpList_nil ?_
  refine then_n ?_
  refine wp_ret ?_
  refine then_r ?_
  refine ret2 ha50 rfl rfl rfl ?_
  clear ha50 a50
  exact ret_mk hx8 (tup2_eq (int_eq (by unfold vaV cdW; first | (simp [c10]; done) | (simp [cdV, c10]; done) | (simp_all [cdV]; done))) (int_eq (by first | (unfold cdW; simp [c10]; done) | (unfold cdW; simp [cdV, c10]; done) | (unfold cdW cdV; simp_all; done))))

theorem c_impl_wayToFirst (w0 : World) (v_list : Value) (list : List (Int × List (Str × Int))) {S_list : Nat → Prop} (version : Int) (h_list : Rds shVer S_list w0 v_list list) (g0 : veB list = true) (g1 : version < (list.length : Nat)) :
  Calls Try.prog 74 #[v_list, .int .i64 version] w0 (Ret w0 (fun v w1 => Own shI64 2 w0.heap.size w0.heap.size w1.heap.size w1 v (wayV list version))) := by
 refine enter (N := 18) Try.func74 rfl rfl rfl ?_
 intro a0 ha0
 have hx0 := Ext.rfl' w0
 have hl_list := h_list.length_le
 have hlen := veB_len g0
 have hpk := par_ok g0
 have hwl := wayV_len hpk (version + 1).toNat version (by omega)
 refine wp_seq ?_
 refine wp_region_lit ?_
 refine wl_val ha0 rfl rfl rfl (op_assign ha0 rfl rfl) ?_
 intro a1 ha1; clear ha0 a0
 refine wpList_nil ?_
 refine then_n ?_
 refine wp_seq ?_
 refine wp_region_lit ?_
 refine wl_val ha1 rfl rfl rfl (op_assign ha1 rfl rfl) ?_
 intro a2 ha2; clear ha1 a1
 refine wpList_nil ?_
 refine then_n ?_
 refine wp_seq ?_
 refine wp_block ?_
 refine loop_inv (X := Int × Value × (List Int)) (fun (⟨u, v, acc⟩ : Int × Value × (List Int)) fr wl => Sl 18 fr [(0, v_list), (1, .int .i64 u), (5, v)] ∧ Ext w0 wl ∧ Own shI64 2 w0.heap.size w0.heap.size wl.heap.size wl v acc ∧ w0.heap.size ≤ wl.heap.size ∧ (u ≤ version) ∧ (-1 ≤ u ∨ u = version) ∧ ((acc.length : Int) + u ≤ version) ∧ (acc ++ wayV list u = wayV list version)) (fun (⟨u, v, acc⟩ : Int × Value × (List Int)) => (u + 1).toNat) (version, (.slice none 0 0), []) ?_ ?_
 ·
  exact ⟨(Sl.cons_ ha2 rfl rfl (Sl.cons_ ha2 rfl (int_eq (by omega)) (Sl.cons_ ha2 rfl rfl (Sl.nil_ ha2)))), hx0, (Own.nil _ _ _ _ _ _), (by omega), (by omega), (by omega), (by simp), (by rfl)⟩
 ·
  clear ha2 a2
  rintro ⟨u, v, acc⟩ a6 w3 ⟨ha6, hx4, hf5, hzl7, hu, hu2, hl, hF⟩
  have hzhx4 := hx4.size
  refine wp_seq ?_
  refine wp_seq ?_
  refine wp_region_lit ?_
  refine wl_val ha6 rfl rfl rfl (op_move ha6 rfl rfl) ?_
  intro a8 ha8; clear ha6 a6
  refine wl_val ha8 rfl rfl rfl (op_geq ha8 rfl rfl rfl) ?_
  intro a9 ha9; clear ha8 a8
  refine wpList_nil ?_
  refine then_n ?_
  by_cases c10 : (0 : Int) ≤ u
  ·
   rw [decide_eq_true c10] at ha9
   refine cond_t ha9 rfl ?_
   refine wp_skip ?_
   refine then_n ?_
   refine wp_block ?_
   refine wp_seq ?_
   refine wp_region_lit ?_
   refine wl_val ha9 rfl rfl rfl (op_move ha9 rfl rfl) ?_
   intro a11 ha11; clear ha9 a9
   refine wl_val ha11 rfl rfl rfl (op_move ha11 rfl rfl) ?_
   intro a12 ha12; clear ha11 a11
   refine wl_eff ha12 rfl rfl rfl (op_buildSlice (s := shI64) (xs := [u]) (cs := [.int .i64 u]) (vs := [(0, .int .i64 u)]) (S := fun _ => False) (le := w3.heap.size) ha12 rfl pos_shI64 Try.underlying46 ti2 rfl rfl (by decide) (by kernel_rfl) (Els.single (mk_shI64 u (by first | assumption | omega | (simp; omega)))) (fun _ h => h.elim)) ?_
   rintro v13 w14 ⟨ho15, he16, hob17⟩ a18 ha18; clear ha12 a12
   have hx19 := hx4.trans' he16
   have hzhx19 := he16.size
   replace hf5 := hf5.ext he16
   refine wl_eff ha18 rfl rfl rfl (op_append (ts := #[]) (s := shI64) ha18 rfl Try.underlying46 ti2 rfl pos_shI64 rfl rfl hf5 (ho15.rds pos_shI64) (by omega) (by omega) (by first | omega | (simp; omega)) (by first | omega | (simp; omega)) (.inl flat_shI64)) ?_
   rintro v20 w21 ⟨ho22, hst23, hob24⟩ a25 ha25; clear ha18 a18
   have hx26 := hx19.stp hst23 (by intro q hq; have hq0 := hf5.lt q hq; omega)
   have hzhx26 := hst23.size
   replace ho15 := ho15.stp hst23 (by intro q hq; have hq0 := hf5.lt q hq; omega)
   have hsp27 : ∀ q, Value.ownBlock v20 = some q → Value.ownBlock v13 ≠ some q := by intro q hq hb; have hq0 := ho15.lt q hb; rcases hob24 with h | h; (rw [h] at hq; first | (have hq1 := hf5.lt q hq; omega)); (rw [h] at hq; cases hq; omega)
   refine wl_val ha25 rfl rfl rfl (op_assign ha25 rfl rfl) ?_
   intro a28 ha28; clear ha25 a25
   refine wpList_nil ?_
   refine then_n ?_
   refine wp_region_lit ?_
   refine wl_val ha28 rfl rfl rfl (op_move ha28 rfl rfl) ?_
   intro a29 ha29; clear ha28 a28
   refine wl_val ha29 rfl rfl rfl (op_move ha29 rfl rfl) ?_
   intro a30 ha30; clear ha29 a29
   obtain ⟨x31, hx31⟩ := get_ex (xs := list) (j := u.toNat) (by omega)
   obtain ⟨p32, c33, hi34, hc35, hr36, hs37⟩ := Rds.at_ h_list hx31
   obtain ⟨v38, rfl, b39, b40⟩ := inv_shVer hr36
   have hlb40 := b40.length_le
   have hvex31 := veB_at g0 hx31
   have hpex31 := parV_eq hx31
   have hlxx31 := shB_len hvex31.1
   refine wl_val ha30 rfl rfl rfl (op_indexAddr ha30 rfl Try.underlying27 ti56 rfl rfl (by omega) hi34) ?_
   intro a41 ha41; clear ha30 a30
   refine wl_val ha41 rfl rfl rfl (op_fieldAddr (sz := 0) ha41 rfl Try.underlying56 rfl rfl ti2 rfl) ?_
   intro a42 ha42; clear ha41 a41
   refine wl_val ha42 rfl rfl rfl (op_loadF (off := 0) ha42 rfl Try.underlying2 rfl rfl (hc35.ext hx26) rfl) ?_
   intro a43 ha43; clear ha42 a42
   refine wl_val ha43 rfl rfl rfl (op_assign ha43 rfl rfl) ?_
   intro a44 ha44; clear ha43 a43
   refine wpList_nil ?_
   refine block_n ?_
   refine round_end (x := (u, v, acc)) (x31.1, v20, (acc ++ [u])) ?_ ?_
   ·
    refine ⟨(Sl.cons_ ha44 rfl rfl (Sl.cons_ ha44 rfl (int_eq (by omega)) (Sl.cons_ ha44 rfl rfl (Sl.nil_ ha44)))), hx26, (ho22.fin (by omega) (by omega) (by omega)), (by omega), (by have := hpk u (by omega); omega), (by have := hpk u (by omega); omega), (by have := hpk u (by omega); simp only [List.length_append, List.length_singleton]; omega), (by rw [wayV_step hpk (by omega)] at hF; rw [hpex31] at hF; rw [List.append_assoc]; exact hF)⟩
   ·show ((x31.1 + 1).toNat : Nat) < (u + 1).toNat; have := hpk u (by omega); omega
  ·
   rw [decide_eq_false c10] at ha9
   refine cond_f ha9 rfl ?_
   refine wp_exit ?_
   refine then_e ?_
   refine then_e ?_
   refine block_hit ?_
   refine then_n ?_
   refine wp_seq ?_
   refine wp_region_lit ?_
   refine wl_val ha9 rfl rfl rfl (op_move ha9 rfl rfl) ?_
   intro a45 ha45; clear ha9 a9
   refine wl_val ha45 rfl rfl rfl (op_assign ha45 rfl rfl) ?_
   intro a46 ha46; clear ha45 a45
   refine wpList_nil ?_
   refine then_n ?_
   refine wp_ret ?_
   refine ret1 ha46 rfl rfl ?_
   clear ha46 a46
   refine ret_mk hx4 ?_
   refine (hf5.fin (by omega) (by omega) (by omega)).cast ?_
   rw [wayV_neg (by omega), List.append_nil] at hF; exact hF

theorem c_impl_WayToFirst (w0 : World) (v_list : Value) (list : List (Int × List (Str × Int))) {S_list : Nat → Prop} (version : Int) (h_list : Rds shVer S_list w0 v_list list) :
  Calls Try.prog 29 #[v_list, .int .i64 version] w0 (Ret w0 (fun v w1 => ∃ r0, v = .tuple #[r0, .int .i64 (cdV list version version)] ∧ Own shI64 2 w0.heap.size w0.heap.size w1.heap.size w1 r0 (wfV list version))) := by
 refine enter (N := 16) Try.func29 rfl rfl rfl ?_
 intro a0 ha0
 have hx0 := Ext.rfl' w0
 have hl_list := h_list.length_le
 refine wp_seq ?_
 refine wp_region_lit ?_
 refine wl_val ha0 rfl rfl rfl (op_assign ha0 rfl rfl) ?_
 intro a1 ha1; clear ha0 a0
 refine wl_val ha1 rfl rfl rfl (op_assign ha1 rfl rfl) ?_
 intro a2 ha2; clear ha1 a1
 refine wpList_nil ?_
 refine then_n ?_
 refine wp_seq ?_
 refine wp_seq ?_
 refine wp_region_lit ?_
 refine wl_val ha2 rfl rfl rfl (op_move ha2 rfl rfl) ?_
 intro a3 ha3; clear ha2 a2
 refine wl_callR ha3 rfl rfl rfl (op_call ha3 rfl cb38 rfl) (c_impl_AreVersions _ v_list list (h_list.ext pos_shVer hx0)) ?_
 rintro v4 w5 he6 rfl a7 ha7; clear ha3 a3
 have hx8 := hx0.trans' he6
 have hzhx8 := he6.size
 refine wl_val ha7 rfl rfl rfl (op_not ha7 rfl rfl) ?_
 intro a9 ha9; clear ha7 a7
 refine wpList_nil ?_
 refine then_n ?_
 rcases Bool.eq_false_or_eq_true (veB list) with c10 | c10
 ·
  rw [c10] at ha9
  have hv1 := c10
  have hlen := veB_len hv1
  refine cond_f ha9 rfl ?_
  refine wp_skip ?_
  refine then_n ?_
  refine wp_seq ?_
  refine wp_seq ?_
  refine wp_region_lit ?_
  refine wl_val ha9 rfl rfl rfl (op_move ha9 rfl rfl) ?_
  intro a11 ha11; clear ha9 a9
  refine wl_val ha11 rfl rfl rfl (op_move ha11 rfl rfl) ?_
  intro a12 ha12; clear ha11 a11
  refine wl_callR ha12 rfl rfl rfl (op_call ha12 rfl cb67 rfl) (c_impl_isVersion _ v_list list version (h_list.ext pos_shVer hx8)) ?_
  rintro v13 w14 he15 rfl a16 ha16; clear ha12 a12
  have hx17 := hx8.trans' he15
  have hzhx17 := he15.size
  refine wl_val ha16 rfl rfl rfl (op_not ha16 rfl rfl) ?_
  intro a18 ha18; clear ha16 a16
  refine wpList_nil ?_
  refine then_n ?_
  rcases Bool.eq_false_or_eq_true (inV list version) with c19 | c19
  ·
   rw [c19] at ha18
   have hia := in_bd c19
   refine cond_f ha18 rfl ?_
   refine wp_skip ?_
   refine then_n ?_
   refine wp_seq ?_
   refine wp_region_lit ?_
   refine wl_val ha18 rfl rfl rfl (op_move ha18 rfl rfl) ?_
   intro a20 ha20; clear ha18 a18
   refine wl_val ha20 rfl rfl rfl (op_move ha20 rfl rfl) ?_
   intro a21 ha21; clear ha20 a20
   refine wl_callR ha21 rfl rfl rfl (op_call ha21 rfl cb74 rfl) (c_impl_wayToFirst _ v_list list version (h_list.ext pos_shVer hx17) (by first | assumption | omega | (simp; omega) | (simp [mkN_length]; omega)) (by first | assumption | omega | (simp; omega) | (simp [mkN_length]; omega))) ?_
   rintro v22 w23 he24 ho25 a26 ha26; clear ha21 a21
   have hx27 := hx17.trans' he24
   have hzhx27 := he24.size
   refine wl_val ha26 rfl rfl rfl (op_assign ha26 rfl rfl) ?_
   intro a28 ha28; clear ha26 a26
   refine wl_val ha28 rfl rfl rfl (op_assign ha28 rfl rfl) ?_
   intro a29 ha29; clear ha28 a28
   refine wpList_nil ?_
   refine then_n ?_
   refine wp_ret ?_
   refine ret2 ha29 rfl rfl rfl ?_
   clear ha29 a29
   refine ret_mk hx27 ⟨v22, (tup2_eq rfl (int_eq (by first | rfl | omega | exact Eq.symm (by assumption) | (unfold cdV; simp [c10, c19]; done) | (unfold cdV; simp_all; done)))), ?_⟩
   ·refine (ho25.fin (by omega) (by omega) (by omega)).cast ?_
    unfold wfV; first | (rw [if_pos (by assumption)]; done) | (rw [if_neg (by assumption)]; done) | (simp [cdV, c10, c19]; done) | (rw [if_pos (cdV_0 (by assumption) (by assumption) (by assumption))])
  ·
   rw [c19] at ha18
   refine cond_t ha18 rfl ?_
   refine wp_seq ?_
   refine wp_region_lit ?_
   refine wl_val ha18 rfl rfl rfl (op_assign ha18 rfl rfl) ?_
   intro a30 ha30; clear ha18 a18
   refine wl_val ha30 rfl rfl rfl (op_assign ha30 rfl rfl) ?_
   intro a31 ha31; clear ha30 a30
   refine wpList_nil ?_
   refine then_n ?_
   refine wp_ret ?_
   refine then_r ?_
   refine ret2 ha31 rfl rfl rfl ?_
   clear ha31 a31
   refine ret_mk hx17 ⟨.slice none 0 0, (tup2_eq rfl (int_eq (by first | rfl | omega | exact Eq.symm (by assumption) | (unfold cdV; simp [c10, c19]; done) | (unfold cdV; simp_all; done)))), ?_⟩
   ·refine Own.nil_ _ _ _ _ _ _ ?_
    unfold wfV; first | (rw [if_pos (by assumption)]; done) | (rw [if_neg (by assumption)]; done) | (simp [cdV, c10, c19]; done) | (rw [if_pos (cdV_0 (by assumption) (by assumption) (by assumption))])
 ·
  rw [c10] at ha9
  refine cond_t ha9 rfl ?_
  refine wp_seq ?_
  refine wp_region_lit ?_
  refine wl_val ha9 rfl rfl rfl (op_assign ha9 rfl rfl) ?_
  intro a32 ha32; clear ha9 a9
  refine wl_val ha32 rfl rfl rfl (op_assign ha32 rfl rfl) ?_
  intro a33 ha33; clear ha32 a32
  refine wpList_nil ?_
  refine then_n ?_
  refine wp_ret ?_
  refine then_r ?_
  refine ret2 ha33 rfl rfl rfl ?_
  clear ha33 a33
  refine ret_mk hx8 ⟨.slice none 0 0, (tup2_eq rfl (int_eq (by first | rfl | omega | exact Eq.symm (by assumption) | (unfold cdV; simp [c10]; done) | (unfold cdV; simp_all; done)))), ?_⟩
  ·refine Own.nil_ _ _ _ _ _ _ ?_
   unfold wfV; first | (rw [if_pos (by assumption)]; done) | (rw [if_neg (by assumption)]; done) | (simp [cdV, c10]; done) | (rw [if_pos (cdV_0 (by assumption) (by assumption) (by assumption))])

theorem c_spec_WayToFirst (w0 : World) (v_list : Value) (list : List (Int × List (Str × Int))) {S_list : Nat → Prop} (version : Int) (h_list : Rds shVer S_list w0 v_list list) :
  Calls Try.prog 30 #[v_list, .int .i64 version] w0 (Ret w0 (fun v w1 => ∃ r0, v = .tuple #[r0, .int .i64 (cdV list version version)] ∧ Own shI64 2 w0.heap.size w0.heap.size w1.heap.size w1 r0 (wfV list version))) := by
 refine enter (N := 17) Try.func30 rfl rfl rfl ?_
 intro a0 ha0
 have hx0 := Ext.rfl' w0
 have hl_list := h_list.length_le
 refine wp_seq ?_
 refine wp_region_lit ?_
 refine wl_val ha0 rfl rfl rfl (op_assign ha0 rfl rfl) ?_
 intro a1 ha1; clear ha0 a0
 refine wl_val ha1 rfl rfl rfl (op_assign ha1 rfl rfl) ?_
 intro a2 ha2; clear ha1 a1
 refine wpList_nil ?_
 refine then_n ?_
 refine wp_seq ?_
 refine wp_region_lit ?_
 refine wl_val ha2 rfl rfl rfl (op_move ha2 rfl rfl) ?_
 intro a3 ha3; clear ha2 a2
 refine wl_val ha3 rfl rfl rfl (op_move ha3 rfl rfl) ?_
 intro a4 ha4; clear ha3 a3
 refine wl_val ha4 rfl rfl rfl (op_move ha4 rfl rfl) ?_
 intro a5 ha5; clear ha4 a4
 refine wl_callR ha5 rfl rfl rfl (op_call ha5 rfl cb50 rfl) (c_spec_l29Code _ v_list list version version (h_list.ext pos_shVer hx0)) ?_
 rintro v6 w7 he8 rfl a9 ha9; clear ha5 a5
 have hx10 := hx0.trans' he8
 have hzhx10 := he8.size
 refine wl_val ha9 rfl rfl rfl (op_assign ha9 rfl rfl) ?_
 intro a11 ha11; clear ha9 a9
 refine wpList_nil ?_
 refine then_n ?_
 refine wp_seq ?_
 refine wp_seq ?_
 refine wp_region_lit ?_
 refine wl_val ha11 rfl rfl rfl (op_move ha11 rfl rfl) ?_
 intro a12 ha12; clear ha11 a11
 refine wl_val ha12 rfl rfl rfl ((op_neq ha12 rfl rfl rfl).to (congrArg Value.bool decide_not)) ?_
 intro a13 ha13; clear ha12 a12
 refine wpList_nil ?_
 refine then_n ?_
 by_cases c14 : (cdV list version version : Int) = (0 : Int)
 ·
  rw [decide_eq_true c14] at ha13
  obtain ⟨hv1, hv2, hv3⟩ := cdV_ok c14
  have hlen := veB_len hv1
  have hia := in_bd hv2
  have hib := in_bd hv3
  refine cond_f ha13 rfl ?_
  refine wp_skip ?_
  refine then_n ?_
  refine wp_seq ?_
  refine wp_region_lit ?_
  refine wl_val ha13 rfl rfl rfl (op_move ha13 rfl rfl) ?_
  intro a15 ha15; clear ha13 a13
  refine wl_val ha15 rfl rfl rfl (op_move ha15 rfl rfl) ?_
  intro a16 ha16; clear ha15 a15
  refine wl_callR ha16 rfl rfl rfl (op_call ha16 rfl cb75 rfl) (c_spec_l29Way _ v_list list version (h_list.ext pos_shVer hx10) (by first | assumption | omega | (simp; omega) | (simp [mkN_length]; omega)) (by first | assumption | omega | (simp; omega) | (simp [mkN_length]; omega))) ?_
  rintro v17 w18 he19 ho20 a21 ha21; clear ha16 a16
  have hx22 := hx10.trans' he19
  have hzhx22 := he19.size
  refine wl_val ha21 rfl rfl rfl (op_assign ha21 rfl rfl) ?_
  intro a23 ha23; clear ha21 a21
  refine wl_val ha23 rfl rfl rfl (op_assign ha23 rfl rfl) ?_
  intro a24 ha24; clear ha23 a23
  refine wpList_nil ?_
  refine then_n ?_
  refine wp_ret ?_
  refine ret2 ha24 rfl rfl rfl ?_
  clear ha24 a24
  refine ret_mk hx22 ⟨v17, (tup2_eq rfl (int_eq (by first | rfl | omega | exact Eq.symm (by assumption) | (unfold cdV; simp [c14]; done) | (unfold cdV; simp_all; done)))), ?_⟩
  ·refine (ho20.fin (by omega) (by omega) (by omega)).cast ?_
   unfold wfV; first | (rw [if_pos (by assumption)]; done) | (rw [if_neg (by assumption)]; done) | (simp [cdV, c14]; done) | (rw [if_pos (cdV_0 (by assumption) (by assumption) (by assumption))])
 ·
  rw [decide_eq_false c14] at ha13
  refine cond_t ha13 rfl ?_
  refine wp_seq ?_
  refine wp_region_lit ?_
  refine wl_val ha13 rfl rfl rfl (op_move ha13 rfl rfl) ?_
  intro a25 ha25; clear ha13 a13
  refine wl_val ha25 rfl rfl rfl (op_assign ha25 rfl rfl) ?_
  intro a26 ha26; clear ha25 a25
  refine wl_val ha26 rfl rfl rfl (op_assign ha26 rfl rfl) ?_
  intro a27 ha27; clear ha26 a26
  refine wpList_nil ?_
  refine then_n ?_
  refine wp_ret ?_
  refine then_r ?_
  refine ret2 ha27 rfl rfl rfl ?_
  clear ha27 a27
  refine ret_mk hx10 ⟨.slice none 0 0, (tup2_eq rfl (int_eq (by first | rfl | omega | exact Eq.symm (by assumption) | (unfold cdV; simp [c14]; done) | (unfold cdV; simp_all; done)))), ?_⟩
  ·refine Own.nil_ _ _ _ _ _ _ ?_
   unfold wfV; first | (rw [if_pos (by assumption)]; done) | (rw [if_neg (by assumption)]; done) | (simp [cdV, c14]; done) | (rw [if_pos (cdV_0 (by assumption) (by assumption) (by assumption))])

set_option maxHeartbeats 4000000 in
theorem c_spec_SetValue (w0 : World) (v_list : Value) (list : List (Int × List (Str × Int))) {S_list : Nat → Prop} (version : Int) (key : Str) (value : Int) (h_list : Rds shVer S_list w0 v_list list) (g0 : key.length ≤ 1048576) (g1 : I64 value) (g2 : I64 version) :
  Calls Try.prog 27 #[v_list, .int .i64 version, St key, .int .i64 value] w0 (Ret w0 (fun v w1 => ∃ r0 z0, v = .tuple #[r0, .int .i64 (sdC list version key value)] ∧ Own shVerN 56 w0.heap.size w0.heap.size w1.heap.size w1 r0 z0 ∧ Nst shLine 83 (fun x : Int × List (Str × Int) => x.2) w0.heap.size w1.heap.size w1 z0 ∧ z0.map (·.1) = (sdL list version key value))) := by
 refine enter (N := 49) Try.func27 rfl rfl rfl ?_
 intro a0 ha0
 have hx0 := Ext.rfl' w0
 have hl_list := h_list.length_le
 refine wp_seq ?_
 refine wp_region_lit ?_
 refine wl_val ha0 rfl rfl rfl (op_assign ha0 rfl rfl) ?_
 intro a1 ha1; clear ha0 a0
 refine wl_val ha1 rfl rfl rfl (op_assign ha1 rfl rfl) ?_
 intro a2 ha2; clear ha1 a1
 refine wpList_nil ?_
 refine then_n ?_
 refine wp_seq ?_
 refine wp_seq ?_
 refine wp_region_lit ?_
 refine wl_val ha2 rfl rfl rfl (op_move ha2 rfl rfl) ?_
 intro a3 ha3; clear ha2 a2
 refine wl_callR ha3 rfl rfl rfl (op_call ha3 rfl cb70 rfl) (c_spec_IsWord _ key (by first | assumption | omega | (simp; omega))) ?_
 rintro v4 w5 he6 rfl a7 ha7; clear ha3 a3
 have hx8 := hx0.trans' he6
 have hzhx8 := he6.size
 refine wl_val ha7 rfl rfl rfl (op_not ha7 rfl rfl) ?_
 intro a9 ha9; clear ha7 a7
 refine wpList_nil ?_
 refine then_n ?_
 rcases Bool.eq_false_or_eq_true (wordB key) with c10 | c10
 ·
  rw [c10] at ha9
  refine cond_f ha9 rfl ?_
  refine wp_skip ?_
  refine then_n ?_
  refine wp_seq ?_
  refine wp_region_lit ?_
  refine wl_val ha9 rfl rfl rfl (op_move ha9 rfl rfl) ?_
  intro a11 ha11; clear ha9 a9
  refine wl_val ha11 rfl rfl rfl (op_move ha11 rfl rfl) ?_
  intro a12 ha12; clear ha11 a11
  refine wl_val ha12 rfl rfl rfl (op_move ha12 rfl rfl) ?_
  intro a13 ha13; clear ha12 a12
  refine wl_callR ha13 rfl rfl rfl (op_call ha13 rfl cb50 rfl) (c_spec_l29Code _ v_list list version version (h_list.ext pos_shVer hx8)) ?_
  rintro v14 w15 he16 rfl a17 ha17; clear ha13 a13
  have hx18 := hx8.trans' he16
  have hzhx18 := he16.size
  refine wl_val ha17 rfl rfl rfl (op_assign ha17 rfl rfl) ?_
  intro a19 ha19; clear ha17 a17
  refine wpList_nil ?_
  refine then_n ?_
  refine wp_seq ?_
  refine wp_seq ?_
  refine wp_region_lit ?_
  refine wl_val ha19 rfl rfl rfl (op_move ha19 rfl rfl) ?_
  intro a20 ha20; clear ha19 a19
  refine wl_val ha20 rfl rfl rfl (op_eql ha20 rfl rfl rfl) ?_
  intro a21 ha21; clear ha20 a20
  refine wl_val ha21 rfl rfl rfl (op_move ha21 rfl rfl) ?_
  intro a22 ha22; clear ha21 a21
  by_cases c23 : (cdV list version version : Int) = (0 : Int)
  ·
   rw [decide_eq_true c23] at ha22
   obtain ⟨hv1, hv2, hv3⟩ := cdV_ok c23
   have hlen := veB_len hv1
   have hia := in_bd hv2
   have hib := in_bd hv3
   refine wl_val ha22 rfl rfl rfl (op_move ha22 rfl rfl) ?_
   intro a24 ha24; clear ha22 a22
   refine wl_callR ha24 rfl rfl rfl (op_call ha24 rfl cb71 rfl) (c_spec_l01In _ value (-1 : Int) (1000000 : Int) ) ?_
   rintro v25 w26 he27 rfl a28 ha28; clear ha24 a24
   have hx29 := hx18.trans' he27
   have hzhx29 := he27.size
   refine wl_val ha28 rfl rfl rfl (op_not ha28 rfl rfl) ?_
   intro a30 ha30; clear ha28 a28
   refine wl_val ha30 rfl rfl rfl (op_pick_t ha30 rfl rfl rfl) ?_
   intro a31 ha31; clear ha30 a30
   refine wpList_nil ?_
   refine then_n ?_
   rcases Bool.eq_false_or_eq_true (decide ((-1 : Int) ≤ value) && decide (value ≤ (1000000 : Int))) with c32 | c32
   ·
    rw [c32] at ha31
    refine cond_f ha31 rfl ?_
    refine wp_skip ?_
    refine then_n ?_
    refine wp_seq ?_
    refine wp_seq ?_
    refine wp_region_lit ?_
    refine wl_val ha31 rfl rfl rfl (op_move ha31 rfl rfl) ?_
    intro a33 ha33; clear ha31 a31
    refine wl_val ha33 rfl rfl rfl ((op_neq ha33 rfl rfl rfl).to (congrArg Value.bool decide_not)) ?_
    intro a34 ha34; clear ha33 a33
    refine wpList_nil ?_
    refine then_n ?_
    rw [decide_eq_true c23] at ha34
    refine cond_f ha34 rfl ?_
    refine wp_skip ?_
    refine then_n ?_
    refine wp_seq ?_
    refine wp_region_lit ?_
    refine wl_val ha34 rfl rfl rfl (op_move ha34 rfl rfl) ?_
    intro a35 ha35; clear ha34 a34
    refine wl_val ha35 rfl rfl rfl (op_move ha35 rfl rfl) ?_
    intro a36 ha36; clear ha35 a35
    obtain ⟨x37, hx37⟩ := get_ex (xs := list) (j := version.toNat) (by omega)
    obtain ⟨p38, c39, hi40, hc41, hr42, hs43⟩ := Rds.at_ h_list hx37
    obtain ⟨v44, rfl, b45, b46⟩ := inv_shVer hr42
    have hlb46 := b46.length_le
    have hvex37 := veB_at hv1 hx37
    have hlex37 := lnV_eq hx37
    have hlxx37 := shB_len hvex37.1
    have hshx37 := hvex37.1
    refine wl_val ha36 rfl rfl rfl (op_indexAddr ha36 rfl Try.underlying27 ti56 rfl rfl (by omega) hi40) ?_
    intro a47 ha47; clear ha36 a36
    refine wl_val ha47 rfl rfl rfl (op_fieldAddr (sz := 0) ha47 rfl Try.underlying56 rfl rfl ti34 rfl) ?_
    intro a48 ha48; clear ha47 a47
    refine wl_val ha48 rfl rfl rfl (op_loadF (off := 1) ha48 rfl Try.underlying34 rfl rfl (hc41.ext hx29) rfl) ?_
    intro a49 ha49; clear ha48 a48
    refine wl_val ha49 rfl rfl rfl (op_move ha49 rfl rfl) ?_
    intro a50 ha50; clear ha49 a49
    refine wl_val ha50 rfl rfl rfl (op_move ha50 rfl rfl) ?_
    intro a51 ha51; clear ha50 a50
    refine wl_callR ha51 rfl rfl rfl (op_call ha51 rfl cb72 rfl) (c_spec_l29Set _ v44 x37.2 key value (b46.ext pos_shLine hx29) (by first | assumption | omega | (simp; omega)) (by first | assumption | omega | (simp; omega)) (by first | assumption | omega | (simp; omega))) ?_
    rintro v52 w53 he54 ho55 a56 ha56; clear ha51 a51
    have hx57 := hx29.trans' he54
    have hzhx57 := he54.size
    refine wl_val ha56 rfl rfl rfl (op_assign ha56 rfl rfl) ?_
    intro a58 ha58; clear ha56 a56
    refine wpList_nil ?_
    refine then_n ?_
    refine wp_seq ?_
    refine wp_seq ?_
    refine wp_region_lit ?_
    refine wl_val ha58 rfl rfl rfl (op_move ha58 rfl rfl) ?_
    intro a59 ha59; clear ha58 a58
    refine wl_val ha59 rfl rfl rfl (op_len_sl ha59 rfl Try.underlying27 rfl h_list) ?_
    intro a60 ha60; clear ha59 a59
    refine wl_val ha60 rfl rfl rfl (op_eql ha60 rfl rfl rfl) ?_
    intro a61 ha61; clear ha60 a60
    refine wl_val ha61 rfl rfl rfl (op_move ha61 rfl rfl) ?_
    intro a62 ha62; clear ha61 a61
    by_cases c63 : ((list.length : Nat) : Int) = (20 : Int)
    ·
     rw [decide_eq_true c63] at ha62
     refine wl_skip ha62 rfl rfl rfl ?_
     intro a64 ha64; clear ha62 a62
     refine wl_skip ha64 rfl rfl rfl ?_
     intro a65 ha65; clear ha64 a64
     refine wl_skip ha65 rfl rfl rfl ?_
     intro a66 ha66; clear ha65 a65
     refine wl_val ha66 rfl rfl rfl (op_pick_t ha66 rfl rfl rfl) ?_
     intro a67 ha67; clear ha66 a66
     refine wpList_nil ?_
     refine then_n ?_
     refine cond_t ha67 rfl ?_
     refine wp_seq ?_
     refine wp_region_lit ?_
     refine wl_val ha67 rfl rfl rfl (op_assign ha67 rfl rfl) ?_
     intro a68 ha68; clear ha67 a67
     refine wl_val ha68 rfl rfl rfl (op_assign ha68 rfl rfl) ?_
     intro a69 ha69; clear ha68 a68
     refine wpList_nil ?_
     refine then_n ?_
     refine wp_ret ?_
     refine then_r ?_
     refine ret2 ha69 rfl rfl rfl ?_
     clear ha69 a69
     have hst := stL_sh (k := key) (v := value) hshx37 (by assumption) (by first | assumption | omega | simp_all)
     rw [← hlex37] at hst
     have hr : sdC list version key value = (3 : Int) := (by unfold sdC; first | (simp [c10, c23, c32, c63]; done) | (simp [cdV, c10, c23, c32, c63]; done) | (simp_all [cdV]; done) | (simp_all [cdV]; omega))
     refine ret_mk hx57 ⟨(.slice none 0 0), [], (tup2_eq rfl (int_eq (by first | exact hr.symm | omega))), Own.nil _ _ _ _ _ _, Nst.nil _ _ _ _ _ _, ?_⟩
     ·
      unfold sdL; first | (rw [if_neg (show ¬ sdC list version key value = 0 by rw [hr]; first | decide | assumption)]; done) | (rw [if_neg (show ¬ sdC list version key value = 0 by rw [hr]; first | decide | assumption)]; rfl) | (rw [if_pos hr, hlex37]; done) | (rw [if_pos hr, hlex37]; assumption)
    ·
     rw [decide_eq_false c63] at ha62
     refine wl_val ha62 rfl rfl rfl (op_move ha62 rfl rfl) ?_
     intro a70 ha70; clear ha62 a62
     refine wl_callR ha70 rfl rfl rfl (op_call ha70 rfl cb60 rfl) (c_spec_l29Sheet _ v52 ((stL key value x37.2)) (ho55.rds pos_shLine)) ?_
     rintro v71 w72 he73 rfl a74 ha74; clear ha70 a70
     have hx75 := hx57.trans' he73
     have hzhx75 := he73.size
     replace ho55 := ho55.ext he73
     refine wl_val ha74 rfl rfl rfl (op_not ha74 rfl rfl) ?_
     intro a76 ha76; clear ha74 a74
     refine wl_val ha76 rfl rfl rfl (op_pick_f ha76 rfl rfl rfl) ?_
     intro a77 ha77; clear ha76 a76
     refine wpList_nil ?_
     refine then_n ?_
     rcases Bool.eq_false_or_eq_true (shB ((stL key value x37.2))) with c78 | c78
     ·
      rw [c78] at ha77
      refine cond_f ha77 rfl ?_
      refine wp_skip ?_
      refine then_n ?_
      refine wp_seq ?_
      refine wp_region_lit ?_
      refine wl_val ha77 rfl rfl rfl (op_move ha77 rfl rfl) ?_
      intro a79 ha79; clear ha77 a77
      refine wl_val ha79 rfl rfl rfl (op_move ha79 rfl rfl) ?_
      intro a80 ha80; clear ha79 a79
      refine wl_val ha80 rfl rfl rfl (op_move ha80 rfl rfl) ?_
      intro a81 ha81; clear ha80 a80
      refine wl_callR ha81 rfl rfl rfl (op_call ha81 rfl cb73 rfl) (c_spec_l29With _ v_list list version v52 ((stL key value x37.2)) (h_list.ext pos_shVer hx75) (ho55.rds pos_shLine) (by first | assumption | omega | (simp; omega)) (by intro c hc; obtain ⟨j9, hj9⟩ := List.getElem?_of_mem hc; exact Nat.le_trans (shB_len (veB_at hv1 hj9).1) (by decide)) (by have h8 := stL_len key value x37.2; omega) (by first | assumption | omega | (simp; omega))) ?_
      rintro v82 w83 he84 ⟨z86, ho85, hN87, hE88⟩ a89 ha89; clear ha81 a81
      have hx90 := hx75.trans' he84
      have hzhx90 := he84.size
      replace ho55 := ho55.ext he84
      have hlhE88 := absLen hE88
      refine wl_val ha89 rfl rfl rfl (op_assign ha89 rfl rfl) ?_
      intro a91 ha91; clear ha89 a89
      refine wl_val ha91 rfl rfl rfl (op_assign ha91 rfl rfl) ?_
      intro a92 ha92; clear ha91 a91
      refine wpList_nil ?_
      refine then_n ?_
      refine wp_ret ?_
      refine ret2 ha92 rfl rfl rfl ?_
      clear ha92 a92
      have hst := stL_sh (k := key) (v := value) hshx37 (by assumption) (by first | assumption | omega | simp_all)
      rw [← hlex37] at hst
      have hr : sdC list version key value = (0 : Int) := (by unfold sdC; first | (simp [c10, c23, c32, c63, c78]; done) | (simp [cdV, c10, c23, c32, c63, c78]; done) | (simp_all [cdV]; done) | (simp_all [cdV]; omega))
      refine ret_mk hx90 ⟨v82, z86, (tup2_eq rfl (int_eq (by first | exact hr.symm | omega))), ho85.fin (by omega) (by omega) (by omega), hN87.fin (by omega) (by omega), ?_⟩
      ·
       unfold sdL; first | (rw [if_neg (show ¬ sdC list version key value = 0 by rw [hr]; first | decide | assumption)]; done) | (rw [if_neg (show ¬ sdC list version key value = 0 by rw [hr]; first | decide | assumption)]; rfl) | (rw [if_pos hr, hlex37]; done) | (rw [if_pos hr, hlex37]; assumption) | (rw [if_pos hr, ← hF, List.map_append, hE88]; rfl)
     ·
      rw [c78] at ha77
      refine cond_t ha77 rfl ?_
      refine wp_seq ?_
      refine wp_region_lit ?_
      refine wl_val ha77 rfl rfl rfl (op_assign ha77 rfl rfl) ?_
      intro a93 ha93; clear ha77 a77
      refine wl_val ha93 rfl rfl rfl (op_assign ha93 rfl rfl) ?_
      intro a94 ha94; clear ha93 a93
      refine wpList_nil ?_
      refine then_n ?_
      refine wp_ret ?_
      refine then_r ?_
      refine ret2 ha94 rfl rfl rfl ?_
      clear ha94 a94
      have hst := stL_sh (k := key) (v := value) hshx37 (by assumption) (by first | assumption | omega | simp_all)
      rw [← hlex37] at hst
      have hr : sdC list version key value = (3 : Int) := (by unfold sdC; first | (simp [c10, c23, c32, c63, c78]; done) | (simp [cdV, c10, c23, c32, c63, c78]; done) | (simp_all [cdV]; done) | (simp_all [cdV]; omega))
      refine ret_mk hx75 ⟨(.slice none 0 0), [], (tup2_eq rfl (int_eq (by first | exact hr.symm | omega))), Own.nil _ _ _ _ _ _, Nst.nil _ _ _ _ _ _, ?_⟩
      ·
       unfold sdL; first | (rw [if_neg (show ¬ sdC list version key value = 0 by rw [hr]; first | decide | assumption)]; done) | (rw [if_neg (show ¬ sdC list version key value = 0 by rw [hr]; first | decide | assumption)]; rfl) | (rw [if_pos hr, hlex37]; done) | (rw [if_pos hr, hlex37]; assumption)
   ·
    rw [c32] at ha31
    refine cond_t ha31 rfl ?_
    refine wp_region_lit ?_
    refine wl_val ha31 rfl rfl rfl (op_assign ha31 rfl rfl) ?_
    intro a95 ha95; clear ha31 a31
    refine wpList_nil ?_
    refine then_n ?_
    refine wp_seq ?_
    refine wp_seq ?_
    refine wp_region_lit ?_
    refine wl_val ha95 rfl rfl rfl (op_move ha95 rfl rfl) ?_
    intro a96 ha96; clear ha95 a95
    refine wl_val ha96 rfl rfl rfl ((op_neq ha96 rfl rfl rfl).to (congrArg Value.bool decide_not)) ?_
    intro a97 ha97; clear ha96 a96
    refine wpList_nil ?_
    refine then_n ?_
    by_cases c98 : (2 : Int) = (0 : Int)
    ·
     rw [decide_eq_true c98] at ha97
     refine cond_f ha97 rfl ?_
     refine wp_skip ?_
     refine then_n ?_
     refine wp_seq ?_
     refine wp_region_lit ?_
     refine wl_val ha97 rfl rfl rfl (op_move ha97 rfl rfl) ?_
     intro a99 ha99; clear ha97 a97
     refine wl_val ha99 rfl rfl rfl (op_move ha99 rfl rfl) ?_
     intro a100 ha100; clear ha99 a99
     obtain ⟨x101, hx101⟩ := get_ex (xs := list) (j := version.toNat) (by omega)
     obtain ⟨p102, c103, hi104, hc105, hr106, hs107⟩ := Rds.at_ h_list hx101
     obtain ⟨v108, rfl, b109, b110⟩ := inv_shVer hr106
     have hlb110 := b110.length_le
     have hvex101 := veB_at hv1 hx101
     have hlex101 := lnV_eq hx101
     have hlxx101 := shB_len hvex101.1
     have hshx101 := hvex101.1
     refine wl_val ha100 rfl rfl rfl (op_indexAddr ha100 rfl Try.underlying27 ti56 rfl rfl (by omega) hi104) ?_
     intro a111 ha111; clear ha100 a100
     refine wl_val ha111 rfl rfl rfl (op_fieldAddr (sz := 0) ha111 rfl Try.underlying56 rfl rfl ti34 rfl) ?_
     intro a112 ha112; clear ha111 a111
     refine wl_val ha112 rfl rfl rfl (op_loadF (off := 1) ha112 rfl Try.underlying34 rfl rfl (hc105.ext hx29) rfl) ?_
     intro a113 ha113; clear ha112 a112
     refine wl_val ha113 rfl rfl rfl (op_move ha113 rfl rfl) ?_
     intro a114 ha114; clear ha113 a113
     refine wl_val ha114 rfl rfl rfl (op_move ha114 rfl rfl) ?_
     intro a115 ha115; clear ha114 a114
     refine wl_callR ha115 rfl rfl rfl (op_call ha115 rfl cb72 rfl) (c_spec_l29Set _ v108 x101.2 key value (b110.ext pos_shLine hx29) (by first | assumption | omega | (simp; omega)) (by first | assumption | omega | (simp; omega)) (by first | assumption | omega | (simp; omega))) ?_
     rintro v116 w117 he118 ho119 a120 ha120; clear ha115 a115
     have hx121 := hx29.trans' he118
     have hzhx121 := he118.size
     refine wl_val ha120 rfl rfl rfl (op_assign ha120 rfl rfl) ?_
     intro a122 ha122; clear ha120 a120
     refine wpList_nil ?_
     refine then_n ?_
     refine wp_seq ?_
     refine wp_seq ?_
     refine wp_region_lit ?_
     refine wl_val ha122 rfl rfl rfl (op_move ha122 rfl rfl) ?_
     intro a123 ha123; clear ha122 a122
     refine wl_val ha123 rfl rfl rfl (op_len_sl ha123 rfl Try.underlying27 rfl h_list) ?_
     intro a124 ha124; clear ha123 a123
     refine wl_val ha124 rfl rfl rfl (op_eql ha124 rfl rfl rfl) ?_
     intro a125 ha125; clear ha124 a124
     refine wl_val ha125 rfl rfl rfl (op_move ha125 rfl rfl) ?_
     intro a126 ha126; clear ha125 a125
     by_cases c127 : ((list.length : Nat) : Int) = (20 : Int)
     ·
      rw [decide_eq_true c127] at ha126
      refine wl_skip ha126 rfl rfl rfl ?_
      intro a128 ha128; clear ha126 a126
      refine wl_skip ha128 rfl rfl rfl ?_
      intro a129 ha129; clear ha128 a128
      refine wl_skip ha129 rfl rfl rfl ?_
      intro a130 ha130; clear ha129 a129
      refine wl_val ha130 rfl rfl rfl (op_pick_t ha130 rfl rfl rfl) ?_
      intro a131 ha131; clear ha130 a130
      refine wpList_nil ?_
      refine then_n ?_
      refine cond_t ha131 rfl ?_
      refine wp_seq ?_
      refine wp_region_lit ?_
      refine wl_val ha131 rfl rfl rfl (op_assign ha131 rfl rfl) ?_
      intro a132 ha132; clear ha131 a131
      refine wl_val ha132 rfl rfl rfl (op_assign ha132 rfl rfl) ?_
      intro a133 ha133; clear ha132 a132
      refine wpList_nil ?_
      refine then_n ?_
      refine wp_ret ?_
      refine then_r ?_
      refine ret2 ha133 rfl rfl rfl ?_
      clear ha133 a133
      have hst := stL_sh (k := key) (v := value) hshx101 (by assumption) (by first | assumption | omega | simp_all)
      rw [← hlex101] at hst
      have hr : sdC list version key value = (3 : Int) := (by unfold sdC; first | (simp [c10, c23, c32, c98, c127]; done) | (simp [cdV, c10, c23, c32, c98, c127]; done) | (simp_all [cdV]; done) | (simp_all [cdV]; omega))
      refine ret_mk hx121 ⟨(.slice none 0 0), [], (tup2_eq rfl (int_eq (by first | exact hr.symm | omega))), Own.nil _ _ _ _ _ _, Nst.nil _ _ _ _ _ _, ?_⟩
      ·
       unfold sdL; first | (rw [if_neg (show ¬ sdC list version key value = 0 by rw [hr]; first | decide | assumption)]; done) | (rw [if_neg (show ¬ sdC list version key value = 0 by rw [hr]; first | decide | assumption)]; rfl) | (rw [if_pos hr, hlex101]; done) | (rw [if_pos hr, hlex101]; assumption)
     ·
      rw [decide_eq_false c127] at ha126
      refine wl_val ha126 rfl rfl rfl (op_move ha126 rfl rfl) ?_
      intro a134 ha134; clear ha126 a126
      refine wl_callR ha134 rfl rfl rfl (op_call ha134 rfl cb60 rfl) (c_spec_l29Sheet _ v116 ((stL key value x101.2)) (ho119.rds pos_shLine)) ?_
      rintro v135 w136 he137 rfl a138 ha138; clear ha134 a134
      have hx139 := hx121.trans' he137
      have hzhx139 := he137.size
      replace ho119 := ho119.ext he137
      refine wl_val ha138 rfl rfl rfl (op_not ha138 rfl rfl) ?_
      intro a140 ha140; clear ha138 a138
      refine wl_val ha140 rfl rfl rfl (op_pick_f ha140 rfl rfl rfl) ?_
      intro a141 ha141; clear ha140 a140
      refine wpList_nil ?_
      refine then_n ?_
      rcases Bool.eq_false_or_eq_true (shB ((stL key value x101.2))) with c142 | c142
      ·
       rw [c142] at ha141
       refine cond_f ha141 rfl ?_
       refine wp_skip ?_
       refine then_n ?_
       refine wp_seq ?_
       refine wp_region_lit ?_
       refine wl_val ha141 rfl rfl rfl (op_move ha141 rfl rfl) ?_
       intro a143 ha143; clear ha141 a141
       refine wl_val ha143 rfl rfl rfl (op_move ha143 rfl rfl) ?_
       intro a144 ha144; clear ha143 a143
       refine wl_val ha144 rfl rfl rfl (op_move ha144 rfl rfl) ?_
       intro a145 ha145; clear ha144 a144
       refine wl_callR ha145 rfl rfl rfl (op_call ha145 rfl cb73 rfl) (c_spec_l29With _ v_list list version v116 ((stL key value x101.2)) (h_list.ext pos_shVer hx139) (ho119.rds pos_shLine) (by first | assumption | omega | (simp; omega)) (by intro c hc; obtain ⟨j9, hj9⟩ := List.getElem?_of_mem hc; exact Nat.le_trans (shB_len (veB_at hv1 hj9).1) (by decide)) (by have h8 := stL_len key value x101.2; omega) (by first | assumption | omega | (simp; omega))) ?_
       rintro v146 w147 he148 ⟨z150, ho149, hN151, hE152⟩ a153 ha153; clear ha145 a145
       have hx154 := hx139.trans' he148
       have hzhx154 := he148.size
       replace ho119 := ho119.ext he148
       have hlhE152 := absLen hE152
       refine wl_val ha153 rfl rfl rfl (op_assign ha153 rfl rfl) ?_
       intro a155 ha155; clear ha153 a153
       refine wl_val ha155 rfl rfl rfl (op_assign ha155 rfl rfl) ?_
       intro a156 ha156; clear ha155 a155
       refine wpList_nil ?_
       refine then_n ?_
       refine wp_ret ?_
       refine ret2 ha156 rfl rfl rfl ?_
       clear ha156 a156
       have hst := stL_sh (k := key) (v := value) hshx101 (by assumption) (by first | assumption | omega | simp_all)
       rw [← hlex101] at hst
       have hr : sdC list version key value = (0 : Int) := (by unfold sdC; first | (simp [c10, c23, c32, c98, c127, c142]; done) | (simp [cdV, c10, c23, c32, c98, c127, c142]; done) | (simp_all [cdV]; done) | (simp_all [cdV]; omega))
       refine ret_mk hx154 ⟨v146, z150, (tup2_eq rfl (int_eq (by first | exact hr.symm | omega))), ho149.fin (by omega) (by omega) (by omega), hN151.fin (by omega) (by omega), ?_⟩
       ·
        unfold sdL; first | (rw [if_neg (show ¬ sdC list version key value = 0 by rw [hr]; first | decide | assumption)]; done) | (rw [if_neg (show ¬ sdC list version key value = 0 by rw [hr]; first | decide | assumption)]; rfl) | (rw [if_pos hr, hlex101]; done) | (rw [if_pos hr, hlex101]; assumption) | (rw [if_pos hr, ← hF, List.map_append, hE152]; rfl)
      ·
       rw [c142] at ha141
       refine cond_t ha141 rfl ?_
       refine wp_seq ?_
       refine wp_region_lit ?_
       refine wl_val ha141 rfl rfl rfl (op_assign ha141 rfl rfl) ?_
       intro a157 ha157; clear ha141 a141
       refine wl_val ha157 rfl rfl rfl (op_assign ha157 rfl rfl) ?_
       intro a158 ha158; clear ha157 a157
       refine wpList_nil ?_
       refine then_n ?_
       refine wp_ret ?_
       refine then_r ?_
       refine ret2 ha158 rfl rfl rfl ?_
       clear ha158 a158
       have hst := stL_sh (k := key) (v := value) hshx101 (by assumption) (by first | assumption | omega | simp_all)
       rw [← hlex101] at hst
       have hr : sdC list version key value = (3 : Int) := (by unfold sdC; first | (simp [c10, c23, c32, c98, c127, c142]; done) | (simp [cdV, c10, c23, c32, c98, c127, c142]; done) | (simp_all [cdV]; done) | (simp_all [cdV]; omega))
       refine ret_mk hx139 ⟨(.slice none 0 0), [], (tup2_eq rfl (int_eq (by first | exact hr.symm | omega))), Own.nil _ _ _ _ _ _, Nst.nil _ _ _ _ _ _, ?_⟩
       ·
        unfold sdL; first | (rw [if_neg (show ¬ sdC list version key value = 0 by rw [hr]; first | decide | assumption)]; done) | (rw [if_neg (show ¬ sdC list version key value = 0 by rw [hr]; first | decide | assumption)]; rfl) | (rw [if_pos hr, hlex101]; done) | (rw [if_pos hr, hlex101]; assumption)
    ·
     rw [decide_eq_false c98] at ha97
     refine cond_t ha97 rfl ?_
     refine wp_seq ?_
     refine wp_region_lit ?_
     refine wl_val ha97 rfl rfl rfl (op_move ha97 rfl rfl) ?_
     intro a159 ha159; clear ha97 a97
     refine wl_val ha159 rfl rfl rfl (op_assign ha159 rfl rfl) ?_
     intro a160 ha160; clear ha159 a159
     refine wl_val ha160 rfl rfl rfl (op_assign ha160 rfl rfl) ?_
     intro a161 ha161; clear ha160 a160
     refine wpList_nil ?_
     refine then_n ?_
     refine wp_ret ?_
     refine then_r ?_
     refine ret2 ha161 rfl rfl rfl ?_
     clear ha161 a161
     have hr : sdC list version key value = (2 : Int) := (by unfold sdC; first | (simp [c10, c23, c32, c98]; done) | (simp [cdV, c10, c23, c32, c98]; done) | (simp_all [cdV]; done) | (simp_all [cdV]; omega))
     refine ret_mk hx29 ⟨(.slice none 0 0), [], (tup2_eq rfl (int_eq (by first | exact hr.symm | omega))), Own.nil _ _ _ _ _ _, Nst.nil _ _ _ _ _ _, ?_⟩
     ·
      unfold sdL; first | (rw [if_neg (show ¬ sdC list version key value = 0 by rw [hr]; first | decide | assumption)]; done) | (rw [if_neg (show ¬ sdC list version key value = 0 by rw [hr]; first | decide | assumption)]; rfl)
  ·
   rw [decide_eq_false c23] at ha22
   refine wl_skip ha22 rfl rfl rfl ?_
   intro a162 ha162; clear ha22 a22
   refine wl_skip ha162 rfl rfl rfl ?_
   intro a163 ha163; clear ha162 a162
   refine wl_skip ha163 rfl rfl rfl ?_
   intro a164 ha164; clear ha163 a163
   refine wl_val ha164 rfl rfl rfl (op_pick_f ha164 rfl rfl rfl) ?_
   intro a165 ha165; clear ha164 a164
   refine wpList_nil ?_
   refine then_n ?_
   refine cond_f ha165 rfl ?_
   refine wp_skip ?_
   refine then_n ?_
   refine wp_seq ?_
   refine wp_seq ?_
   refine wp_region_lit ?_
   refine wl_val ha165 rfl rfl rfl (op_move ha165 rfl rfl) ?_
   intro a166 ha166; clear ha165 a165
   refine wl_val ha166 rfl rfl rfl ((op_neq ha166 rfl rfl rfl).to (congrArg Value.bool decide_not)) ?_
   intro a167 ha167; clear ha166 a166
   refine wpList_nil ?_
   refine then_n ?_
   rw [decide_eq_false c23] at ha167
   refine cond_t ha167 rfl ?_
   refine wp_seq ?_
   refine wp_region_lit ?_
   refine wl_val ha167 rfl rfl rfl (op_move ha167 rfl rfl) ?_
   intro a168 ha168; clear ha167 a167
   refine wl_val ha168 rfl rfl rfl (op_assign ha168 rfl rfl) ?_
   intro a169 ha169; clear ha168 a168
   refine wl_val ha169 rfl rfl rfl (op_assign ha169 rfl rfl) ?_
   intro a170 ha170; clear ha169 a169
   refine wpList_nil ?_
   refine then_n ?_
   refine wp_ret ?_
   refine then_r ?_
   refine ret2 ha170 rfl rfl rfl ?_
   clear ha170 a170
   have hr : sdC list version key value = (cdV list version version : Int) := (by unfold sdC; first | (simp [c10, c23]; done) | (simp [cdV, c10, c23]; done) | (simp_all [cdV]; done) | (simp_all [cdV]; omega))
   refine ret_mk hx18 ⟨(.slice none 0 0), [], (tup2_eq rfl (int_eq (by first | exact hr.symm | omega))), Own.nil _ _ _ _ _ _, Nst.nil _ _ _ _ _ _, ?_⟩
   ·
    unfold sdL; first | (rw [if_neg (show ¬ sdC list version key value = 0 by rw [hr]; first | decide | assumption)]; done) | (rw [if_neg (show ¬ sdC list version key value = 0 by rw [hr]; first | decide | assumption)]; rfl)
 ·
  rw [c10] at ha9
  refine cond_t ha9 rfl ?_
  refine wp_seq ?_
  refine wp_region_lit ?_
  refine wl_val ha9 rfl rfl rfl (op_assign ha9 rfl rfl) ?_
  intro a171 ha171; clear ha9 a9
  refine wl_val ha171 rfl rfl rfl (op_assign ha171 rfl rfl) ?_
  intro a172 ha172; clear ha171 a171
  refine wpList_nil ?_
  refine then_n ?_
  refine wp_ret ?_
  refine then_r ?_
  refine ret2 ha172 rfl rfl rfl ?_
  clear ha172 a172
  have hr : sdC list version key value = (1 : Int) := (by unfold sdC; first | (simp [c10]; done) | (simp [cdV, c10]; done) | (simp_all [cdV]; done) | (simp_all [cdV]; omega))
  refine ret_mk hx8 ⟨(.slice none 0 0), [], (tup2_eq rfl (int_eq (by first | exact hr.symm | omega))), Own.nil _ _ _ _ _ _, Nst.nil _ _ _ _ _ _, ?_⟩
  ·
   unfold sdL; first | (rw [if_neg (show ¬ sdC list version key value = 0 by rw [hr]; first | decide | assumption)]; done) | (rw [if_neg (show ¬ sdC list version key value = 0 by rw [hr]; first | decide | assumption)]; rfl)


end Go.Proofs.Ytllpdkidaldkiaa
