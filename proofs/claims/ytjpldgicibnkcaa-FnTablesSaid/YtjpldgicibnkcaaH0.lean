/- Is there such a head? -/
import Derived.Test.YtjpldgicibnkcaaS0
namespace Go.Proofs.Ytjpldgicibnkcaa
open Go Go.RowKit

/-- One more column: the head, a row, the rows, the table, the code. -/
def adRow (a b m : Int) (r : List Int) : List Int := r ++ [rowC a r + m * rowC b r]
def adR (a b m : Int) (rs : List (List Int)) : List (List Int) := rs.map (adRow a b m)
def adT (t : Tab) (h : Str) (a b m : Int) : Tab := (t.1 ++ [h], adR a b m t.2)
def cdA (t : Tab) (h : Str) (a b m : Int) : Int :=
  if cdT t a = 0 then (if cdT t b = 0 then (if (decide (-1000 ≤ m) && decide (m ≤ 1000)) = true then (if wordB h = true ∧ fdF (eqB h) t.1 < 0 then (if tabB (adT t h a b m) then 0 else 3) else 5) else 2) else cdT t b) else cdT t a
def acT (t : Tab) (h : Str) (a b m : Int) : Tab := if cdA t h a b m = 0 then adT t h a b m else ([], [])
theorem acT_ok {t : Tab} {h : Str} {a b m : Int} (e : cdA t h a b m = 0) : acT t h a b m = adT t h a b m := by unfold acT; rw [if_pos e]
theorem acT_no {t : Tab} {h : Str} {a b m : Int} (e : ¬ cdA t h a b m = 0) : acT t h a b m = ([], []) := by unfold acT; rw [if_neg e]
theorem mul_bd {m x : Int} (h1 : -1000 ≤ m ∧ m ≤ 1000) (h2 : -1000000000000 ≤ x ∧ x ≤ 1000000000000) : -1000000000000000 ≤ m * x ∧ m * x ≤ 1000000000000000 := by
  rcases Int.le_total 0 m with hm | hm
  · have a1 := Int.mul_le_mul_of_nonneg_left h2.1 hm
    have a2 := Int.mul_le_mul_of_nonneg_left h2.2 hm
    omega
  · have a1 := Int.mul_le_mul_of_nonpos_left hm h2.1
    have a2 := Int.mul_le_mul_of_nonpos_left hm h2.2
    omega
theorem wtn {m : Int} (h : (decide (-1000 ≤ m) && decide (m ≤ 1000)) = true) : -1000 ≤ m ∧ m ≤ 1000 := by simpa using h
theorem adR_len (a b m : Int) (rs : List (List Int)) : (adR a b m rs).length = rs.length := List.length_map ..
theorem ad_at {α : Type} {A rs : List α} {i : Nat} {r : α} (h : (A ++ rs.drop i)[i]? = some r) (hA : A.length = i) : rs[i]? = some r := by
  rw [List.getElem?_append_right (by omega), hA, Nat.sub_self, List.getElem?_drop, Nat.add_zero] at h; exact h
theorem ad_set {α : Type} {A rs : List α} {i : Nat} {r r' : α} (h : rs[i]? = some r) (hA : A.length = i) : (A ++ rs.drop i).set i r' = A ++ r' :: rs.drop (i + 1) := by
  rw [List.set_append_right _ _ (by omega), hA, Nat.sub_self, drop_cons h]; rfl
theorem adR_snoc {a b m : Int} {rs : List (List Int)} {i : Nat} {r : List Int} (h : rs[i]? = some r) : adR a b m (rs.take (i + 1)) = adR a b m (rs.take i) ++ [adRow a b m r] := by
  rw [take_snoc h]; unfold adR; rw [List.map_append]; rfl
theorem adR_tl (a b m : Int) (rs : List (List Int)) (i : Nat) (h : i ≤ rs.length) : (adR a b m (rs.take i)).length = i := by rw [adR_len, List.length_take]; omega
theorem adRow_eq {a b m x y : Int} {r : List Int} (h : r[a.toNat]? = some x) (h' : r[b.toNat]? = some y) : adRow a b m r = r ++ [x + m * y] := by unfold adRow; rw [rowC_eq h, rowC_eq h']
theorem adT_rows {t : Tab} {h : Str} {a b m : Int} (ht : tabB t = true) : ∀ r ∈ (adT t h a b m).2, r.length = t.1.length + 1 := by
  intro r hr
  obtain ⟨r0, h0, rfl⟩ := List.mem_map.1 hr
  have := (tab_rows ht r0 h0).1
  unfold adRow; rw [List.length_append, this]; rfl
/-- The codes, by what was asked. -/
theorem cdA_a {t : Tab} {h : Str} {a b m : Int} (e : ¬ cdT t a = 0) : cdA t h a b m = cdT t a := by unfold cdA; rw [if_neg e]
theorem cdA_b {t : Tab} {h : Str} {a b m : Int} (e : cdT t a = 0) (e' : ¬ cdT t b = 0) : cdA t h a b m = cdT t b := by unfold cdA; rw [if_pos e, if_neg e']
theorem cdA_1 {t : Tab} {h : Str} {a b m : Int} (e : tabB t = false) : cdA t h a b m = 1 := by rw [cdA_a (by rw [cdT_1 e]; decide), cdT_1 e]
theorem cdA_2a {t : Tab} {h : Str} {a b m : Int} (e : tabB t = true) (e' : colB t a = false) : cdA t h a b m = 2 := by rw [cdA_a (by rw [cdT_2 e e']; decide), cdT_2 e e']
theorem cdA_2b {t : Tab} {h : Str} {a b m : Int} (e : tabB t = true) (e1 : colB t a = true) (e' : colB t b = false) : cdA t h a b m = 2 := by rw [cdA_b (cdT_0 e e1) (by rw [cdT_2 e e']; decide), cdT_2 e e']
theorem cdA_2m {t : Tab} {h : Str} {a b m : Int} (e1 : cdT t a = 0) (e2 : cdT t b = 0) (e' : (decide (-1000 ≤ m) && decide (m ≤ 1000)) = false) : cdA t h a b m = 2 := by unfold cdA; rw [if_pos e1, if_pos e2, if_neg (by rw [e']; decide)]
theorem cdA_5 {t : Tab} {h : Str} {a b m : Int} (e1 : cdT t a = 0) (e2 : cdT t b = 0) (e3 : (decide (-1000 ≤ m) && decide (m ≤ 1000)) = true) (e' : wordB h = false ∨ ¬ fdF (eqB h) t.1 < 0) : cdA t h a b m = 5 := by
  unfold cdA; rw [if_pos e1, if_pos e2, if_pos e3, if_neg]
  rintro ⟨h1, h2⟩; rcases e' with e' | e'
  · rw [h1] at e'; cases e'
  · exact e' h2
theorem cdA_e {t : Tab} {h : Str} {a b m : Int} (e1 : cdT t a = 0) (e2 : cdT t b = 0) (e3 : (decide (-1000 ≤ m) && decide (m ≤ 1000)) = true) (e4 : wordB h = true) (e5 : fdF (eqB h) t.1 < 0) : cdA t h a b m = if tabB (adT t h a b m) then 0 else 3 := by
  unfold cdA; rw [if_pos e1, if_pos e2, if_pos e3, if_pos ⟨e4, e5⟩]
def hasB (h : Str) (hs : List Str) : Bool := decide (0 ≤ fdF (eqB h) hs)
theorem hasB_t {h : Str} {hs : List Str} {i : Nat} {x : Str} (hx : hs[i]? = some x) (e : x = h) : hasB h hs = true := by
  unfold hasB; rw [decide_eq_true_eq]
  rcases Int.lt_or_le (fdF (eqB h) hs) 0 with q | q
  · have := fdF_neg.1 q x (List.mem_of_getElem? hx); simp [eqB, e] at this
  · exact q
theorem hasB_f {h : Str} {hs : List Str} (e : ∀ j y, j < hs.length → hs[j]? = some y → y ≠ h) : hasB h hs = false := by
  unfold hasB; rw [decide_eq_false_iff_not]
  have : fdF (eqB h) hs < 0 := fdF_neg.2 fun x hx => by
    obtain ⟨j, hj⟩ := List.getElem?_of_mem hx
    have := e j x (List.getElem?_eq_some_iff.1 hj).1 hj; simp [eqB, this]
  omega
theorem hasB_lt {h : Str} {hs : List Str} (e : hasB h hs = false) : fdF (eqB h) hs < 0 := by unfold hasB at e; rw [decide_eq_false_iff_not] at e; omega
theorem hasB_ge {h : Str} {hs : List Str} (e : hasB h hs = true) : ¬ fdF (eqB h) hs < 0 := by unfold hasB at e; rw [decide_eq_true_eq] at e; omega

theorem c_spec_l31Head (w0 : World) (v_t0 : Value) (v_t1 : Value) (t : List Str × List (List Int)) {S_t0 : Nat → Prop} {S_t1 : Nat → Prop} (head : Str) (h_t0 : Rds shStr S_t0 w0 v_t0 t.1) (h_t1 : Rds shRow S_t1 w0 v_t1 t.2) :
  Calls Try.prog 85 #[.agg #[v_t0, v_t1], St head] w0 (Ret w0 (fun v _ => v = .bool (hasB head t.1))) := by
 refine enter (N := 20) Try.func85 rfl rfl rfl ?_
 intro a0 ha0
 have hx0 := Ext.rfl' w0
 have hl_t0 := h_t0.length_le
 have hl_t1 := h_t1.length_le
 refine wp_seq ?_
 refine wp_region_lit ?_
 refine wl_eff ha0 rfl rfl rfl (op_box' ha0 rfl rfl rfl) ?_
 rintro _ w2 ⟨rfl, he3, hb4, hz5⟩ a6 ha6; clear ha0 a0
 have hx7 := hx0.trans' he3
 have hzhx7 := he3.size
 refine wl_val ha6 rfl rfl rfl (op_assign ha6 rfl rfl) ?_
 intro a8 ha8; clear ha6 a6
 refine wpList_nil ?_
 refine then_n ?_
 refine wp_seq ?_
 refine wp_seq ?_
 refine wp_region_lit ?_
 refine wl_val ha8 rfl rfl rfl (op_assign ha8 rfl rfl) ?_
 intro a9 ha9; clear ha8 a8
 refine wpList_nil ?_
 refine then_n ?_
 refine wp_block ?_
 refine loop_inv (X := Nat) (fun (i : Nat) fr wl => Sl 20 fr [(1, St head), (2, .pointer (some (⟨w0.heap.size, 0, none⟩ : Addr))), (5, .int .i64 ((i : Nat) : Int))] ∧ Ext w0 wl ∧ Box wl w0.heap.size 28 [v_t0, v_t1] ∧ w2.heap.size ≤ wl.heap.size ∧ (i ≤ t.1.length) ∧ (∀ (j : Nat) (y : Str), j < i → t.1[j]? = some y → y ≠ head)) (fun (i : Nat) => t.1.length - i) (0) ?_ ?_
 ·
  exact ⟨(Sl.cons_ ha9 rfl rfl (Sl.cons_ ha9 rfl rfl (Sl.cons_ ha9 rfl (int_eq (by omega)) (Sl.nil_ ha9)))), hx7, hb4, (by omega), (by omega), (by exact all_zero)⟩
 ·
  clear ha9 a9
  rintro i a13 w10 ⟨ha13, hx11, hf12, hzl14, hi, hA⟩
  have hzhx11 := hx11.size
  refine wp_seq ?_
  refine wp_seq ?_
  refine wp_region_lit ?_
  refine wl_val ha13 rfl rfl rfl (op_move ha13 rfl rfl) ?_
  intro a15 ha15; clear ha13 a13
  refine wl_val ha15 rfl rfl rfl (op_fieldAddr (sz := 0) ha15 rfl Try.underlying28 rfl rfl ti22 rfl) ?_
  intro a16 ha16; clear ha15 a15
  refine wl_val ha16 rfl rfl rfl (op_loadF (off := 0) ha16 rfl Try.underlying22 rfl rfl hf12.cells rfl) ?_
  intro a17 ha17; clear ha16 a16
  refine wl_val ha17 rfl rfl rfl (op_len_sl ha17 rfl Try.underlying22 rfl h_t0) ?_
  intro a18 ha18; clear ha17 a17
  refine wl_val ha18 rfl rfl rfl (op_lss ha18 rfl rfl rfl) ?_
  intro a19 ha19; clear ha18 a18
  refine wpList_nil ?_
  refine then_n ?_
  by_cases c20 : ((i : Nat) : Int) < ((t.1.length : Nat) : Int)
  ·
   rw [decide_eq_true c20] at ha19
   refine cond_t ha19 rfl ?_
   refine wp_skip ?_
   refine then_n ?_
   refine wp_seq ?_
   refine wp_block ?_
   refine wp_seq ?_
   refine wp_region_lit ?_
   refine wl_val ha19 rfl rfl rfl (op_fieldAddr (sz := 0) ha19 rfl Try.underlying28 rfl rfl ti22 rfl) ?_
   intro a21 ha21; clear ha19 a19
   refine wl_val ha21 rfl rfl rfl (op_loadF (off := 0) ha21 rfl Try.underlying22 rfl rfl hf12.cells rfl) ?_
   intro a22 ha22; clear ha21 a21
   refine wl_val ha22 rfl rfl rfl (op_move ha22 rfl rfl) ?_
   intro a23 ha23; clear ha22 a22
   obtain ⟨x24, hx24⟩ := get_ex (xs := t.1) (j := i) (by omega)
   obtain ⟨p25, c26, hi27, hc28, hr29, hs30⟩ := Rds.at_ h_t0 hx24
   obtain ⟨rfl, b31⟩ := inv_shStr hr29
   refine wl_val ha23 rfl rfl rfl (op_indexAddr ha23 rfl Try.underlying22 ti9 rfl rfl (by omega) hi27) ?_
   intro a32 ha32; clear ha23 a23
   refine wl_val ha32 rfl rfl rfl (op_loadH ha32 rfl Try.underlying9 rfl rfl (hc28.ext hx11) rfl) ?_
   intro a33 ha33; clear ha32 a32
   refine wl_val ha33 rfl rfl rfl (op_move ha33 rfl rfl) ?_
   intro a34 ha34; clear ha33 a33
   refine wl_val ha34 rfl rfl rfl (op_seql ha34 rfl rfl rfl) ?_
   intro a35 ha35; clear ha34 a34
   refine wpList_nil ?_
   refine then_n ?_
   by_cases c36 : x24 = head
   ·
    rw [decide_eq_true c36] at ha35
    refine cond_t ha35 rfl ?_
    refine wp_seq ?_
    refine wp_region_lit ?_
    refine wl_val ha35 rfl rfl rfl (op_assign ha35 rfl rfl) ?_
    intro a37 ha37; clear ha35 a35
    refine wpList_nil ?_
    refine then_n ?_
    refine wp_ret ?_
    refine block_r ?_
    refine then_r ?_
    refine then_r ?_
    refine block_r ?_
    refine then_r ?_
    refine ret1 ha37 rfl rfl ?_
    clear ha37 a37
    exact ret_mk hx11 (congrArg Value.bool (by exact (hasB_t hx24 (by assumption)).symm))
   ·
    rw [decide_eq_false c36] at ha35
    refine cond_f ha35 rfl ?_
    refine wp_skip ?_
    refine block_n ?_
    refine then_n ?_
    refine wp_region_lit ?_
    refine wl_val ha35 rfl rfl rfl (op_move ha35 rfl rfl) ?_
    intro a38 ha38; clear ha35 a35
    refine wl_val ha38 rfl rfl rfl ((op_add ha38 rfl rfl rfl).int (IntWalk.i64_in _ (by omega))) ?_
    intro a39 ha39; clear ha38 a38
    refine wl_val ha39 rfl rfl rfl (op_assign ha39 rfl rfl) ?_
    intro a40 ha40; clear ha39 a39
    refine wpList_nil ?_
    refine round_end (x := i) ((i + 1)) ?_ ?_
    ·
     refine ⟨(Sl.cons_ ha40 rfl rfl (Sl.cons_ ha40 rfl rfl (Sl.cons_ ha40 rfl (int_eq (by omega)) (Sl.nil_ ha40)))), hx11, hf12, (by omega), (by omega), (by exact all_snoc (p := fun y => y ≠ head) hA hx24 (by assumption))⟩
    ·show (t.1.length - ((i + 1)) : Nat) < t.1.length - i; omega
  ·
   rw [decide_eq_false c20] at ha19
   refine cond_f ha19 rfl ?_
   refine wp_exit ?_
   refine then_e ?_
   refine then_e ?_
   refine block_hit ?_
   refine then_n ?_
   refine wp_seq ?_
   refine wp_region_lit ?_
   refine wl_val ha19 rfl rfl rfl (op_assign ha19 rfl rfl) ?_
   intro a41 ha41; clear ha19 a19
   refine wpList_nil ?_
   refine then_n ?_
   refine wp_ret ?_
   refine ret1 ha41 rfl rfl ?_
   clear ha41 a41
   exact ret_mk hx11 (congrArg Value.bool (by exact (hasB_f fun j y hj hy => hA j y (by omega) hy).symm))


end Go.Proofs.Ytjpldgicibnkcaa
