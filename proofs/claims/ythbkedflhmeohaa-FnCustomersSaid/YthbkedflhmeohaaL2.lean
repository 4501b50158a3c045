/- The helpers of the laws over customers. -/
import Derived.Test.YthbkedflhmeohaaL1
namespace Go.Proofs.Ythbkedflhmeohaa
open Go Go.RowKit

theorem heldG_val {α : Type} {ok : α → Int → Bool} {st : Int} : ∀ {xs : List α} {k : Int}, 0 ≤ st → 0 ≤ k → heldG ok st xs k < 0 ∨ heldG ok st xs k = k + st * (xs.length : Nat)
  | [], k, _, _ => .inr (by simp [heldG])
  | x :: xs, k, h, h' => by
    rw [heldG]; split
    · rcases heldG_val (ok := ok) (xs := xs) (k := k + st) h (by omega) with q | q
      · exact .inl q
      · right; rw [q, List.length_cons, Int.natCast_add, Int.mul_add]; simp; omega
    · exact .inl (by omega)
theorem setN_take {X : Type} {zs : List (X × Value)} {a : List X} {i : Nat} {x : X} {u : Value} (h : (zs.take i).map (·.1) = a.take i) (hl : zs.length = a.length) (hx : a[i]? = some x) : ((zs.set i (x, u)).take (i + 1)).map (·.1) = a.take (i + 1) := by
  have hi : i < a.length := (List.getElem?_eq_some_iff.1 hx).1
  have : (zs.set i (x, u))[i]? = some (x, u) := by rw [List.getElem?_set_self (by omega)]
  rw [take_snoc this, List.take_set_of_le (Nat.le_refl _), List.map_append, h, take_snoc hx]
  rfl
theorem map_take_all {X : Type} {zs : List (X × Value)} {a : List X} {i : Nat} (h : (zs.take i).map (·.1) = a.take i) (hl : zs.length = a.length) (hi : a.length ≤ i) : zs.map (·.1) = a := by
  rw [List.take_of_length_le (by omega), List.take_of_length_le (by omega)] at h; exact h
theorem abs_get {X : Type} {zs : List (X × Value)} {T : List X} {i : Nat} {z : X × Value} (h : zs.map (·.1) = T) (hz : zs[i]? = some z) : T[i]? = some z.1 := by rw [← h, List.getElem?_map, hz]; rfl
theorem abs_len {X : Type} {zs : List (X × Value)} {T : List X} (h : zs.map (·.1) = T) : zs.length = T.length := by rw [← h, List.length_map]
theorem map_set_abs {X : Type} {zs : List (X × Value)} {i : Nat} {q : X × Value} : (zs.set i q).map (·.1) = (zs.map (·.1)).set i q.1 := by rw [List.map_set]
theorem mark_step {X : Type} {zs a : List (X × Value)} {i : Nat} {q : X × Value} {M L : List X} {m : X} (hd : (zs.drop i).map (·.1) = (a.map (·.1)).drop i) (hi : i < zs.length) (hF : (zs.take i).map (·.1) ++ m :: M = L) (hq : q.1 = m) :
    ((zs.set i q).drop (i + 1)).map (·.1) = (a.map (·.1)).drop (i + 1) ∧ ((zs.set i q).take (i + 1)).map (·.1) ++ M = L := by
  constructor
  · rw [List.drop_set_of_lt (by omega), ← List.drop_drop (i := 1) (j := i), ← List.drop_drop (i := 1) (j := i), List.map_drop, hd]
  · have : (zs.set i q)[i]? = some q := by rw [List.getElem?_set_self hi]
    rw [take_snoc this, List.take_set_of_le (Nat.le_refl _), List.map_append, ← hF, ← hq, List.append_assoc]; rfl
theorem mark_at {X : Type} {zs a : List (X × Value)} {i : Nat} {z : X × Value} (hd : (zs.drop i).map (·.1) = (a.map (·.1)).drop i) (hz : zs[i]? = some z) : (a.map (·.1))[i]? = some z.1 := by
  have h1 : ((zs.drop i).map (·.1))[0]? = some z.1 := by rw [List.getElem?_map, List.getElem?_drop, Nat.add_zero, hz]; rfl
  rw [hd, List.getElem?_drop, Nat.add_zero] at h1; exact h1

def costCu (x : Str × Int × List Str) : Nat := x.1.length + costL costS x.2.2
def mkCu1 (x : Str × Int × List Str) (k : Int) : Str × Int × List Str := (mkT k, k + 1, mkN mkS 1 x.2.2.length (k + 1 + 1))
def nxCu (x : Str × Int × List Str) (k : Int) : Int := k + 1 + 1 + 1 * (x.2.2.length : Nat)
def mkCu : List (Str × Int × List Str) → Int → List (Str × Int × List Str)
  | [], _ => []
  | x :: xs, k => mkCu1 x k :: mkCu xs (nxCu x k)
def kkCu : List (Str × Int × List Str) → Int → Int
  | [], k => k
  | x :: xs, k => kkCu xs (nxCu x k)
def heldCu : List (Str × Int × List Str) → Int → Int
  | [], k => k
  | x :: xs, k => if x.1 = mkT (k) ∧ x.2.1 = k + 1 then (if heldG okS 1 x.2.2 (k + 1 + 1) < 0 then -1 else heldCu xs (heldG okS 1 x.2.2 (k + 1 + 1))) else -1
theorem kkCu_ge : ∀ (xs : List (Str × Int × List Str)) (k : Int), k ≤ kkCu xs k
  | [], k => Int.le_refl _
  | x :: xs, k => by have := kkCu_ge xs (nxCu x k); rw [kkCu]; unfold nxCu at *; omega
theorem kkCu_le : ∀ (xs : List (Str × Int × List Str)) (k : Int), kkCu xs k ≤ k + 2 * (costL costCu xs : Nat)
  | [], k => by simp [kkCu, costL, sumC]
  | x :: xs, k => by
    have h1 := kkCu_le xs (nxCu x k)
    have h2 := costL_len costS x.2.2
    have h3 : costL costCu (x :: xs) = costL costCu xs + 1 + costCu x := by unfold costL; simp only [sumC, List.length_cons]; omega
    have h4 : costL costS x.2.2 ≤ costCu x := by unfold costCu; omega
    rw [kkCu, h3]; unfold nxCu at *; omega
theorem mkCu_length : ∀ (xs : List (Str × Int × List Str)) (k : Int), (mkCu xs k).length = xs.length
  | [], _ => rfl
  | x :: xs, k => by rw [mkCu, List.length_cons, mkCu_length xs, List.length_cons]
theorem heldCu_neg : ∀ (xs : List (Str × Int × List Str)) (k : Int), 0 ≤ k → heldCu xs k < 0 → heldCu xs k = -1
  | [], k, h, h' => by simp only [heldCu] at h'; omega
  | x :: xs, k, h, h' => by
    rw [heldCu] at h' ⊢
    by_cases c : x.1 = mkT (k) ∧ x.2.1 = k + 1
    · rw [if_pos c] at h' ⊢
      by_cases d : heldG okS 1 x.2.2 (k + 1 + 1) < 0
      · rw [if_pos d]
      · rw [if_neg d] at h' ⊢; exact heldCu_neg xs _ (by omega) h'
    · rw [if_neg c]
theorem kk_mkCu : ∀ (xs : List (Str × Int × List Str)) (k j : Int), kkCu (mkCu xs j) k = kkCu xs k
  | [], _, _ => rfl
  | x :: xs, k, j => by
    have e : nxCu (mkCu1 x j) k = nxCu x k := by unfold nxCu mkCu1; simp only [mkN_length]
    rw [mkCu, kkCu, kkCu, e, kk_mkCu xs]
theorem kkCu_bd : ∀ (xs : List (Str × Int × List Str)) (k : Int), (∀ x ∈ xs, x.2.2.length ≤ 10) → kkCu xs k ≤ k + 12 * (xs.length : Nat)
  | [], k, _ => by simp [kkCu]
  | x :: xs, k, h => by
    have h1 := kkCu_bd xs (nxCu x k) fun y hy => h y (by simp [hy])
    have h2 := h x (by simp)
    rw [kkCu, List.length_cons]; unfold nxCu at *; omega
theorem held_mkCu : ∀ (xs : List (Str × Int × List Str)) (k : Int), 0 ≤ k → heldCu (mkCu xs k) k = kkCu xs k
  | [], k, _ => rfl
  | x :: xs, k, h => by
    have e : heldG okS 1 (mkCu1 x k).2.2 (k + 1 + 1) = nxCu x k := by
      show heldG okS 1 (mkN mkS 1 x.2.2.length (k + 1 + 1)) (k + 1 + 1) = _
      rw [held_mkN okS_mk]; rfl
    have h0 : 0 ≤ nxCu x k := by unfold nxCu; omega
    rw [mkCu, heldCu, kkCu, if_pos (by simp [mkCu1]), e, if_neg (by omega), held_mkCu xs _ h0]

theorem c_laws_szCustomer (w0 : World) (v_a2 : Value) (a : Str × Int × List Str) {S_a2 : Nat → Prop} (left : Int) (h_a2 : Rds shStr S_a2 w0 v_a2 a.2.2) (g0 : left ≤ 1048576) (g1 : 0 ≤ left) (g2 : a.1.length ≤ 9223372036854775807) :
  Calls Try.prog 51 #[.agg #[St a.1, .int .i64 a.2.1, v_a2], .int .i64 left] w0 (Ret w0 (fun v _ => v = .int .i64 (szR left (costCu a)))) := by
 refine enter (N := 19) Try.func51 rfl rfl rfl ?_
 intro a0 ha0
 have hx0 := Ext.rfl' w0
 have hl_a2 := h_a2.length_le
 refine wp_seq ?_
 refine wp_region_lit ?_
 refine wl_eff ha0 rfl rfl rfl (op_box' ha0 rfl rfl rfl) ?_
 rintro _ w2 ⟨rfl, he3, hb4, hz5⟩ a6 ha6; clear ha0 a0
 have hx7 := hx0.trans' he3
 have hzhx7 := he3.size
 refine wl_val ha6 rfl rfl rfl (op_assign ha6 rfl rfl) ?_
 intro a8 ha8; clear ha6 a6
 refine wpList_nil ?_
 refine then_n ?_
 refine wp_seq ?_
 refine wp_region_lit ?_
 refine wl_val ha8 rfl rfl rfl (op_move ha8 rfl rfl) ?_
 intro a9 ha9; clear ha8 a8
 refine wl_val ha9 rfl rfl rfl (op_fieldAddr (sz := 0) ha9 rfl Try.underlying60 rfl rfl ti9 rfl) ?_
 intro a10 ha10; clear ha9 a9
 refine wl_val ha10 rfl rfl rfl (op_loadF (off := 0) ha10 rfl Try.underlying9 rfl rfl hb4.cells rfl) ?_
 intro a11 ha11; clear ha10 a10
 refine wl_val ha11 rfl rfl rfl (op_len_str ha11 rfl Try.underlying9 rfl) ?_
 intro a12 ha12; clear ha11 a11
 refine wl_val ha12 rfl rfl rfl ((op_sub ha12 rfl rfl rfl).int (IntWalk.i64_in _ (by omega))) ?_
 intro a13 ha13; clear ha12 a12
 refine wl_val ha13 rfl rfl rfl (op_assign ha13 rfl rfl) ?_
 intro a14 ha14; clear ha13 a13
 refine wpList_nil ?_
 refine then_n ?_
 refine wp_seq ?_
 refine wp_seq ?_
 refine wp_region_lit ?_
 refine wl_val ha14 rfl rfl rfl (op_move ha14 rfl rfl) ?_
 intro a15 ha15; clear ha14 a14
 refine wl_val ha15 rfl rfl rfl (op_lss ha15 rfl rfl rfl) ?_
 intro a16 ha16; clear ha15 a15
 refine wpList_nil ?_
 refine then_n ?_
 by_cases c17 : (left - ((a.1.length : Nat) : Int)) < (0 : Int)
 ·
  rw [decide_eq_true c17] at ha16
  refine cond_t ha16 rfl ?_
  refine wp_seq ?_
  refine wp_region_lit ?_
  refine wl_val ha16 rfl rfl rfl (op_assign ha16 rfl rfl) ?_
  intro a18 ha18; clear ha16 a16
  refine wpList_nil ?_
  refine then_n ?_
  refine wp_ret ?_
  refine then_r ?_
  refine ret1 ha18 rfl rfl ?_
  clear ha18 a18
  exact ret_mk hx7 (int_eq (by unfold costCu; first | (rw [szR_add (by rw [szR_nif (by omega)]; omega), szR_nif (k := a.1.length) (by omega)]; done) | (rw [szR_add (by rw [szR_nif (by omega)]; omega), szR_nif (k := a.1.length) (by omega)]; unfold szR; split <;> simp_all [szR] <;> omega) | (rw [szR_neg (by rw [szR_if (by omega)]; omega)])))
 ·
  rw [decide_eq_false c17] at ha16
  refine cond_f ha16 rfl ?_
  refine wp_skip ?_
  refine then_n ?_
  refine wp_seq ?_
  refine wp_region_lit ?_
  refine wl_val ha16 rfl rfl rfl (op_fieldAddr (sz := 0) ha16 rfl Try.underlying60 rfl rfl ti34 rfl) ?_
  intro a19 ha19; clear ha16 a16
  refine wl_val ha19 rfl rfl rfl (op_loadF (off := 2) ha19 rfl Try.underlying34 rfl rfl hb4.cells rfl) ?_
  intro a20 ha20; clear ha19 a19
  refine wl_val ha20 rfl rfl rfl (op_move ha20 rfl rfl) ?_
  intro a21 ha21; clear ha20 a20
  refine wl_callR ha21 rfl rfl rfl (op_call ha21 rfl cb79 rfl) (c_laws_szStringS _ v_a2 a.2.2 (left - ((a.1.length : Nat) : Int)) (h_a2.ext pos_shStr hx7) (by first | assumption | omega | (simp; omega) | (simp [mkN_length]; omega)) (by first | assumption | omega | (simp; omega) | (simp [mkN_length]; omega))) ?_
  rintro v22 w23 he24 rfl a25 ha25; clear ha21 a21
  have hx26 := hx7.trans' he24
  have hzhx26 := he24.size
  replace hb4 := hb4.ext he24
  refine wl_val ha25 rfl rfl rfl (op_assign ha25 rfl rfl) ?_
  intro a27 ha27; clear ha25 a25
  refine wpList_nil ?_
  refine then_n ?_
  refine wp_seq ?_
  refine wp_seq ?_
  refine wp_region_lit ?_
  refine wl_val ha27 rfl rfl rfl (op_move ha27 rfl rfl) ?_
  intro a28 ha28; clear ha27 a27
  refine wl_val ha28 rfl rfl rfl (op_lss ha28 rfl rfl rfl) ?_
  intro a29 ha29; clear ha28 a28
  refine wpList_nil ?_
  refine then_n ?_
  by_cases c30 : (szR (left - ((a.1.length : Nat) : Int)) (costL costS a.2.2) : Int) < (0 : Int)
  ·
   rw [decide_eq_true c30] at ha29
   refine cond_t ha29 rfl ?_
   refine wp_seq ?_
   refine wp_region_lit ?_
   refine wl_val ha29 rfl rfl rfl (op_assign ha29 rfl rfl) ?_
   intro a31 ha31; clear ha29 a29
   refine wpList_nil ?_
   refine then_n ?_
   refine wp_ret ?_
   refine then_r ?_
   refine ret1 ha31 rfl rfl ?_
   clear ha31 a31
   exact ret_mk hx26 (int_eq (by unfold costCu; first | (rw [szR_add (by rw [szR_nif (by omega)]; omega), szR_nif (k := a.1.length) (by omega)]; done) | (rw [szR_add (by rw [szR_nif (by omega)]; omega), szR_nif (k := a.1.length) (by omega)]; unfold szR; split <;> simp_all [szR] <;> omega) | (rw [szR_neg (by rw [szR_if (by omega)]; omega)])))
  ·
   rw [decide_eq_false c30] at ha29
   refine cond_f ha29 rfl ?_
   refine wp_skip ?_
   refine then_n ?_
   refine wp_seq ?_
   refine wp_region_lit ?_
   refine wl_val ha29 rfl rfl rfl (op_move ha29 rfl rfl) ?_
   intro a32 ha32; clear ha29 a29
   refine wl_val ha32 rfl rfl rfl (op_assign ha32 rfl rfl) ?_
   intro a33 ha33; clear ha32 a32
   refine wpList_nil ?_
   refine then_n ?_
   refine wp_ret ?_
   refine ret1 ha33 rfl rfl ?_
   clear ha33 a33
   exact ret_mk hx26 (int_eq (by unfold costCu; first | (rw [szR_add (by rw [szR_nif (by omega)]; omega), szR_nif (k := a.1.length) (by omega)]; done) | (rw [szR_add (by rw [szR_nif (by omega)]; omega), szR_nif (k := a.1.length) (by omega)]; unfold szR; split <;> simp_all [szR] <;> omega) | (rw [szR_neg (by rw [szR_if (by omega)]; omega)])))

theorem c_laws_szCustomerS (w0 : World) (v_a : Value) (a : List (Str × Int × List Str)) {S_a : Nat → Prop} (left : Int) (h_a : Rds shCust S_a w0 v_a a) (g0 : left ≤ 1048576) (g1 : 0 ≤ left) :
  Calls Try.prog 14 #[v_a, .int .i64 left] w0 (Ret w0 (fun v _ => v = .int .i64 (szR left (costL costCu a)))) := by
 refine enter (N := 27) Try.func14 rfl rfl rfl ?_
 intro a0 ha0
 have hx0 := Ext.rfl' w0
 have hl_a := h_a.length_le
 refine wp_seq ?_
 refine wp_region_lit ?_
 refine wl_val ha0 rfl rfl rfl (op_assign ha0 rfl rfl) ?_
 intro a1 ha1; clear ha0 a0
 refine wpList_nil ?_
 refine then_n ?_
 refine wp_seq ?_
 refine wp_region_lit ?_
 refine wl_val ha1 rfl rfl rfl (op_move ha1 rfl rfl) ?_
 intro a2 ha2; clear ha1 a1
 refine wl_val ha2 rfl rfl rfl (op_move ha2 rfl rfl) ?_
 intro a3 ha3; clear ha2 a2
 refine wl_val ha3 rfl rfl rfl (op_len_sl ha3 rfl Try.underlying22 rfl h_a) ?_
 intro a4 ha4; clear ha3 a3
 refine wl_val ha4 rfl rfl rfl ((op_sub ha4 rfl rfl rfl).int (IntWalk.i64_in _ (by omega))) ?_
 intro a5 ha5; clear ha4 a4
 refine wl_val ha5 rfl rfl rfl (op_assign ha5 rfl rfl) ?_
 intro a6 ha6; clear ha5 a5
 refine wpList_nil ?_
 refine then_n ?_
 refine wp_seq ?_
 refine wp_seq ?_
 refine wp_region_lit ?_
 refine wl_val ha6 rfl rfl rfl (op_move ha6 rfl rfl) ?_
 intro a7 ha7; clear ha6 a6
 refine wl_val ha7 rfl rfl rfl (op_lss ha7 rfl rfl rfl) ?_
 intro a8 ha8; clear ha7 a7
 refine wpList_nil ?_
 refine then_n ?_
 by_cases c9 : (left - ((a.length : Nat) : Int)) < (0 : Int)
 ·
  rw [decide_eq_true c9] at ha8
  refine cond_t ha8 rfl ?_
  refine wp_seq ?_
  refine wp_region_lit ?_
  refine wl_val ha8 rfl rfl rfl (op_assign ha8 rfl rfl) ?_
  intro a10 ha10; clear ha8 a8
  refine wpList_nil ?_
  refine then_n ?_
  refine wp_ret ?_
  refine then_r ?_
  refine ret1 ha10 rfl rfl ?_
  clear ha10 a10
  
  exact ret_mk hx0 (int_eq (by unfold costL; rw [szR_if (by omega)]))
 ·
  rw [decide_eq_false c9] at ha8
  refine cond_f ha8 rfl ?_
  refine wp_skip ?_
  refine then_n ?_
  refine wp_seq ?_
  refine wp_seq ?_
  refine wp_region_lit ?_
  refine wl_val ha8 rfl rfl rfl (op_assign ha8 rfl rfl) ?_
  intro a11 ha11; clear ha8 a8
  refine wpList_nil ?_
  refine then_n ?_
  refine wp_block ?_
  refine loop_inv (X := Nat × Int) (fun (⟨i, n⟩ : Nat × Int) fr wl => Sl 27 fr [(0, v_a), (1, .int .i64 n), (5, .int .i64 ((i : Nat) : Int))] ∧ Ext w0 wl ∧ w0.heap.size ≤ wl.heap.size ∧ (i ≤ a.length) ∧ (0 ≤ n) ∧ (n ≤ 1048576) ∧ (szR n (sumC costCu (a.drop i)) = szR left (costL costCu a))) (fun (⟨i, n⟩ : Nat × Int) => a.length - i) (0, (left - ((a.length : Nat) : Int))) ?_ ?_
  ·
   exact ⟨(Sl.cons_ ha11 rfl rfl (Sl.cons_ ha11 rfl (int_eq (by omega)) (Sl.cons_ ha11 rfl (int_eq (by omega)) (Sl.nil_ ha11)))), hx0, (by omega), (by omega), (by omega), (by omega), (by unfold costL; rw [szR_add (by rw [szR_nif (by omega)]; omega), szR_nif (k := a.length) (by omega)]; rfl)⟩
  ·
   clear ha11 a11
   rintro ⟨i, n⟩ a14 w12 ⟨ha14, hx13, hzl15, hi, hn0, hn1, hF⟩
   have hzhx13 := hx13.size
   refine wp_seq ?_
   refine wp_seq ?_
   refine wp_region_lit ?_
   refine wl_val ha14 rfl rfl rfl (op_move ha14 rfl rfl) ?_
   intro a16 ha16; clear ha14 a14
   refine wl_val ha16 rfl rfl rfl (op_move ha16 rfl rfl) ?_
   intro a17 ha17; clear ha16 a16
   refine wl_val ha17 rfl rfl rfl (op_len_sl ha17 rfl Try.underlying22 rfl h_a) ?_
   intro a18 ha18; clear ha17 a17
   refine wl_val ha18 rfl rfl rfl (op_lss ha18 rfl rfl rfl) ?_
   intro a19 ha19; clear ha18 a18
   refine wpList_nil ?_
   refine then_n ?_
   by_cases c20 : ((i : Nat) : Int) < ((a.length : Nat) : Int)
   ·
    rw [decide_eq_true c20] at ha19
    refine cond_t ha19 rfl ?_
    refine wp_skip ?_
    refine then_n ?_
    refine wp_seq ?_
    refine wp_block ?_
    refine wp_seq ?_
    refine wp_region_lit ?_
    refine wl_val ha19 rfl rfl rfl (op_move ha19 rfl rfl) ?_
    intro a21 ha21; clear ha19 a19
    refine wl_val ha21 rfl rfl rfl (op_move ha21 rfl rfl) ?_
    intro a22 ha22; clear ha21 a21
    obtain ⟨x23, hx23⟩ := get_ex (xs := a) (j := i) (by omega)
    obtain ⟨p24, c25, hi26, hc27, hr28, hs29⟩ := Rds.at_ h_a hx23
    obtain ⟨v30, rfl, b31, b32, b33⟩ := inv_shCust hr28
    have hlb33 := b33.length_le
    refine wl_val ha22 rfl rfl rfl (op_indexAddr ha22 rfl Try.underlying22 ti60 rfl rfl (by omega) hi26) ?_
    intro a34 ha34; clear ha22 a22
    refine wl_val ha34 rfl rfl rfl (op_loadS ha34 rfl Try.underlying60 ti60 rfl rfl (hc27.ext hx13)) ?_
    intro a35 ha35; clear ha34 a34
    refine wl_val ha35 rfl rfl rfl (op_move ha35 rfl rfl) ?_
    intro a36 ha36; clear ha35 a35
    refine wl_callR ha36 rfl rfl rfl (op_call ha36 rfl cb51 rfl) (c_laws_szCustomer _ v30 x23 n (b33.ext pos_shStr hx13) (by first | assumption | omega | (simp; omega) | (simp [mkN_length]; omega)) (by first | assumption | omega | (simp; omega) | (simp [mkN_length]; omega)) (by first | assumption | omega | (simp; omega) | (simp [mkN_length]; omega))) ?_
    rintro v37 w38 he39 rfl a40 ha40; clear ha36 a36
    have hx41 := hx13.trans' he39
    have hzhx41 := he39.size
    refine wl_val ha40 rfl rfl rfl (op_assign ha40 rfl rfl) ?_
    intro a42 ha42; clear ha40 a40
    refine wpList_nil ?_
    refine then_n ?_
    refine wp_seq ?_
    refine wp_region_lit ?_
    refine wl_val ha42 rfl rfl rfl (op_move ha42 rfl rfl) ?_
    intro a43 ha43; clear ha42 a42
    refine wl_val ha43 rfl rfl rfl (op_lss ha43 rfl rfl rfl) ?_
    intro a44 ha44; clear ha43 a43
    refine wpList_nil ?_
    refine then_n ?_
    by_cases c45 : (szR n (costCu x23) : Int) < (0 : Int)
    ·
     rw [decide_eq_true c45] at ha44
     refine cond_t ha44 rfl ?_
     refine wp_seq ?_
     refine wp_region_lit ?_
     refine wl_val ha44 rfl rfl rfl (op_assign ha44 rfl rfl) ?_
     intro a46 ha46; clear ha44 a44
     refine wpList_nil ?_
     refine then_n ?_
     refine wp_ret ?_
     refine block_r ?_
     refine then_r ?_
     refine then_r ?_
     refine block_r ?_
     refine then_r ?_
     refine ret1 ha46 rfl rfl ?_
     clear ha46 a46
     rw [drop_cons hx23] at hF
     simp only [sumC] at hF
     rw [szR_neg (by first | omega | (unfold costCu; omega))] at hF
     exact ret_mk hx41 (int_eq (by exact hF))
    ·
     rw [decide_eq_false c45] at ha44
     refine cond_f ha44 rfl ?_
     refine wp_skip ?_
     refine block_n ?_
     refine then_n ?_
     refine wp_region_lit ?_
     refine wl_val ha44 rfl rfl rfl (op_move ha44 rfl rfl) ?_
     intro a47 ha47; clear ha44 a44
     refine wl_val ha47 rfl rfl rfl ((op_add ha47 rfl rfl rfl).int (IntWalk.i64_in _ (by omega))) ?_
     intro a48 ha48; clear ha47 a47
     refine wl_val ha48 rfl rfl rfl (op_assign ha48 rfl rfl) ?_
     intro a49 ha49; clear ha48 a48
     refine wpList_nil ?_
     refine round_end (x := (i, n)) ((i + 1), (szR n (costCu x23) : Int)) ?_ ?_
     ·
      refine ⟨(Sl.cons_ ha49 rfl rfl (Sl.cons_ ha49 rfl (int_eq (by omega)) (Sl.cons_ ha49 rfl (int_eq (by omega)) (Sl.nil_ ha49)))), hx41, (by omega), (by omega), (by omega), (by have := szR_le (k := costCu x23) hn0; first | omega | (unfold costCu at *; omega)), (by rw [drop_cons hx23] at hF; simp only [sumC] at hF; rw [szR_add (by omega)] at hF; exact hF)⟩
     ·show (a.length - ((i + 1)) : Nat) < a.length - i; omega
   ·
    rw [decide_eq_false c20] at ha19
    refine cond_f ha19 rfl ?_
    refine wp_exit ?_
    refine then_e ?_
    refine then_e ?_
    refine block_hit ?_
    refine then_n ?_
    refine wp_seq ?_
    refine wp_region_lit ?_
    refine wl_val ha19 rfl rfl rfl (op_move ha19 rfl rfl) ?_
    intro a50 ha50; clear ha19 a19
    refine wl_val ha50 rfl rfl rfl (op_assign ha50 rfl rfl) ?_
    intro a51 ha51; clear ha50 a50
    refine wpList_nil ?_
    refine then_n ?_
    refine wp_ret ?_
    refine ret1 ha51 rfl rfl ?_
    clear ha51 a51
    rw [drop_nil (by omega)] at hF
    simp only [sumC] at hF
    rw [szR_zero (by omega)] at hF
    exact ret_mk hx13 (int_eq (by exact hF))

theorem c_laws_toCustomer (w0 : World) (v_a2 : Value) (a : Str × Int × List Str) {S_a2 : Nat → Prop} (h_a2 : Rds shStr S_a2 w0 v_a2 a.2.2) (g0 : a.2.2.length ≤ 1048576) :
  Calls Try.prog 55 #[.agg #[St a.1, .int .i64 a.2.1, v_a2]] w0 (Ret w0 (fun v w1 => ∃ r0_2, v = .agg #[St (((a)).1), .int .i64 ((a)).2.1, r0_2] ∧ Own shStr 9 w0.heap.size w0.heap.size w1.heap.size w1 r0_2 ((a).2.2))) := by
 refine enter (N := 15) Try.func55 rfl rfl rfl ?_
 intro a0 ha0
 have hx0 := Ext.rfl' w0
 have hl_a2 := h_a2.length_le
 refine wp_seq ?_
 refine wp_region_lit ?_
 refine wl_eff ha0 rfl rfl rfl (op_box' ha0 rfl rfl rfl) ?_
 rintro _ w2 ⟨rfl, he3, hb4, hz5⟩ a6 ha6; clear ha0 a0
 have hx7 := hx0.trans' he3
 have hzhx7 := he3.size
 refine wl_eff ha6 rfl rfl rfl (op_alloc' rfl ti55 rfl) ?_
 rintro _ w9 ⟨rfl, he10, hb11, hz12⟩ a13 ha13; clear ha6 a6
 have hx14 := hx7.trans' he10
 have hzhx14 := he10.size
 replace hb4 := hb4.ext he10
 refine wpList_nil ?_
 refine then_n ?_
 refine wp_seq ?_
 refine wp_region_lit ?_
 refine wl_eff ha13 rfl rfl rfl (op_alloc' rfl ti55 rfl) ?_
 rintro _ w16 ⟨rfl, he17, hb18, hz19⟩ a20 ha20; clear ha13 a13
 have hx21 := hx14.trans' he17
 have hzhx21 := he17.size
 replace hb4 := hb4.ext he17
 replace hb11 := hb11.ext he17
 refine wpList_nil ?_
 refine then_n ?_
 refine wp_seq ?_
 refine wp_region_lit ?_
 refine wl_val ha20 rfl rfl rfl (op_fieldAddr (sz := 0) ha20 rfl Try.underlying60 rfl rfl ti9 rfl) ?_
 intro a22 ha22; clear ha20 a20
 refine wl_val ha22 rfl rfl rfl (op_loadF (off := 0) ha22 rfl Try.underlying9 rfl rfl hb4.cells rfl) ?_
 intro a23 ha23; clear ha22 a22
 refine wl_val ha23 rfl rfl rfl (op_fieldAddr (sz := 0) ha23 rfl Try.underlying55 rfl rfl ti9 rfl) ?_
 intro a24 ha24; clear ha23 a23
 refine wl_effS ha24 rfl rfl (op_store' (off := 0) ha24 rfl ti9 rfl rfl hb18 rfl rfl (by simp [Value.oneCell']) (Nat.le_of_ble_eq_true rfl)) ?_
 rintro w25 ⟨hb27, hst26, hz28⟩
 have hx29 := hx21.stp hst26 (by intro q hq; cases hq; exact (by omega))
 have hzhx29 := hst26.size
 replace hb4 := hb4.stp hst26 (by intro q hq; cases hq; omega)
 replace hb11 := hb11.stp hst26 (by intro q hq; cases hq; omega)
 clear hb18
 refine wpList_nil ?_
 refine then_n ?_
 refine wp_seq ?_
 refine wp_region_lit ?_
 refine wl_val ha24 rfl rfl rfl (op_fieldAddr (sz := 0) ha24 rfl Try.underlying60 rfl rfl ti2 rfl) ?_
 intro a30 ha30; clear ha24 a24
 refine wl_val ha30 rfl rfl rfl (op_loadF (off := 1) ha30 rfl Try.underlying2 rfl rfl hb4.cells rfl) ?_
 intro a31 ha31; clear ha30 a30
 refine wl_val ha31 rfl rfl rfl (op_fieldAddr (sz := 0) ha31 rfl Try.underlying55 rfl rfl ti2 rfl) ?_
 intro a32 ha32; clear ha31 a31
 refine wl_effS ha32 rfl rfl (op_store' (off := 1) ha32 rfl ti2 rfl rfl hb27 rfl rfl (by simp [Value.oneCell']) (Nat.le_of_ble_eq_true rfl)) ?_
 rintro w33 ⟨hb35, hst34, hz36⟩
 have hx37 := hx29.stp hst34 (by intro q hq; cases hq; exact (by omega))
 have hzhx37 := hst34.size
 replace hb4 := hb4.stp hst34 (by intro q hq; cases hq; omega)
 replace hb11 := hb11.stp hst34 (by intro q hq; cases hq; omega)
 clear hb27
 refine wpList_nil ?_
 refine then_n ?_
 refine wp_seq ?_
 refine wp_region_lit ?_
 refine wl_val ha32 rfl rfl rfl (op_fieldAddr (sz := 0) ha32 rfl Try.underlying60 rfl rfl ti34 rfl) ?_
 intro a38 ha38; clear ha32 a32
 refine wl_val ha38 rfl rfl rfl (op_loadF (off := 2) ha38 rfl Try.underlying34 rfl rfl hb4.cells rfl) ?_
 intro a39 ha39; clear ha38 a38
 refine wl_callR ha39 rfl rfl rfl (op_call ha39 rfl cb80 rfl) (c_laws_toStringS _ v_a2 a.2.2 (h_a2.ext pos_shStr hx37) (by first | assumption | omega | (simp; omega) | (simp [mkN_length]; omega))) ?_
 rintro v40 w41 he42 ho43 a44 ha44; clear ha39 a39
 have hx45 := hx37.trans' he42
 have hzhx45 := he42.size
 replace hb4 := hb4.ext he42
 replace hb11 := hb11.ext he42
 replace hb35 := hb35.ext he42
 refine wl_val ha44 rfl rfl rfl (op_fieldAddr (sz := 0) ha44 rfl Try.underlying55 rfl rfl ti34 rfl) ?_
 intro a46 ha46; clear ha44 a44
 refine wl_effS ha46 rfl rfl (op_store' (off := 2) ha46 rfl ti34 rfl rfl hb35 ho43.cells1 rfl (by intro u hu; have hu : u ∈ ([v40] : List Value) := hu; simp only [List.mem_cons, List.mem_nil_iff, or_false] at hu; rcases hu with rfl <;> first | rfl | exact ho43.one) (Nat.le_of_ble_eq_true rfl)) ?_
 rintro w47 ⟨hb49, hst48, hz50⟩
 have hx51 := hx45.stp hst48 (by intro q hq; cases hq; exact (by omega))
 have hzhx51 := hst48.size
 replace hb4 := hb4.stp hst48 (by intro q hq; cases hq; omega)
 replace hb11 := hb11.stp hst48 (by intro q hq; cases hq; omega)
 replace ho43 := ho43.stp hst48 (by intro q hq; cases hq; omega)
 clear hb35
 refine wpList_nil ?_
 refine then_n ?_
 refine wp_seq ?_
 refine wp_region_lit ?_
 refine wl_val ha46 rfl rfl rfl (op_loadS ha46 rfl Try.underlying55 ti55 rfl rfl hb49.cells) ?_
 intro a52 ha52; clear ha46 a46
 refine wl_effS ha52 rfl rfl (op_storeAll' ha52 rfl ti55 rfl rfl hb11 rfl rfl (by intro u hu; have hu : u ∈ ([St a.1, .int .i64 a.2.1, v40] : List Value) := hu; simp only [List.mem_cons, List.mem_nil_iff, or_false] at hu; rcases hu with rfl | rfl | rfl <;> first | rfl | exact ho43.one) rfl) ?_
 rintro w53 ⟨hb55, hst54, hz56⟩
 have hx57 := hx51.stp hst54 (by intro q hq; cases hq; exact (by omega))
 have hzhx57 := hst54.size
 replace hb4 := hb4.stp hst54 (by intro q hq; cases hq; omega)
 replace ho43 := ho43.stp hst54 (by intro q hq; cases hq; omega)
 replace hb49 := hb49.stp hst54 (by intro q hq; cases hq; omega)
 clear hb11
 refine wpList_nil ?_
 refine then_n ?_
 refine wp_ret ?_
 refine retc ha52 rfl rfl Try.underlying55 ti55 rfl hb55.cells ?_
 clear ha52 a52
 refine ret_mk hx57 ⟨v40, (by rfl), ?_⟩
 ·
  refine (ho43.fin (by omega) (by omega) (by omega)).cast ?_
  rfl

theorem c_laws_toCustomerS (w0 : World) (v_a : Value) (a : List (Str × Int × List Str)) {S_a : Nat → Prop} (h_a : Rds shCust S_a w0 v_a a) (g0 : costL costCu a ≤ 1048576) :
  Calls Try.prog 16 #[v_a] w0 (Ret w0 (fun v w1 => ∃ z, Own shCustN 55 w0.heap.size w0.heap.size w1.heap.size w1 v z ∧ Nst shStr 9 (fun x : Str × Int × List Str => x.2.2) w0.heap.size w1.heap.size w1 z ∧ z.map (·.1) = (a))) := by
 refine enter (N := 23) Try.func16 rfl rfl rfl ?_
 intro a0 ha0
 have hx0 := Ext.rfl' w0
 have hl_a := h_a.length_le
 have hcl := costL_len costCu a
 refine wp_seq ?_
 refine wp_region_lit ?_
 refine wl_val ha0 rfl rfl rfl (op_assign ha0 rfl rfl) ?_
 intro a1 ha1; clear ha0 a0
 refine wpList_nil ?_
 refine then_n ?_
 refine wp_seq ?_
 refine wp_region_lit ?_
 refine wl_val ha1 rfl rfl rfl (op_move ha1 rfl rfl) ?_
 intro a2 ha2; clear ha1 a1
 refine wl_val ha2 rfl rfl rfl (op_len_sl ha2 rfl Try.underlying22 rfl h_a) ?_
 intro a3 ha3; clear ha2 a2
 refine wl_eff ha3 rfl rfl rfl (op_make (s := shCustN) (n := a.length) (k' := .i64) ha3 rfl Try.underlying25 ti55 pos_shCustN rfl (by omega) zero_shCustN (by omega) (by omega)) ?_
 rintro v4 w5 ⟨ho6, he7⟩ a8 ha8; clear ha3 a3
 have hx9 := hx0.trans' he7
 have hzhx9 := he7.size
 have hN10 : Nst shStr 9 (fun x : Str × Int × List Str => x.2.2) w0.heap.size w5.heap.size w5 ((List.replicate a.length ((([], 0, []) : Str × Int × List Str), (.slice none 0 0 : Value)))) := Nst.zeros rfl
 refine wl_val ha8 rfl rfl rfl (op_assign ha8 rfl rfl) ?_
 intro a11 ha11; clear ha8 a8
 refine wpList_nil ?_
 refine then_n ?_
 refine wp_seq ?_
 refine wp_seq ?_
 refine wp_region_lit ?_
 refine wl_val ha11 rfl rfl rfl (op_assign ha11 rfl rfl) ?_
 intro a12 ha12; clear ha11 a11
 refine wpList_nil ?_
 refine then_n ?_
 refine wp_block ?_
 refine loop_inv (X := Nat × Value × (List ((Str × Int × List Str) × Value))) (fun (⟨i, v, zs⟩ : Nat × Value × (List ((Str × Int × List Str) × Value))) fr wl => Sl 23 fr [(0, v_a), (3, v), (4, .int .i64 ((i : Nat) : Int))] ∧ Ext w0 wl ∧ Own shCustN 55 w0.heap.size w0.heap.size wl.heap.size wl v zs ∧ Nst shStr 9 (fun x : Str × Int × List Str => x.2.2) w0.heap.size wl.heap.size wl zs ∧ w5.heap.size ≤ wl.heap.size ∧ (i ≤ a.length) ∧ (zs.length = a.length) ∧ ((zs.take i).map (·.1) = a.take i)) (fun (⟨i, v, zs⟩ : Nat × Value × (List ((Str × Int × List Str) × Value))) => a.length - i) (0, v4, (List.replicate a.length ((([], 0, []) : Str × Int × List Str), (.slice none 0 0 : Value)))) ?_ ?_
 ·
  exact ⟨(Sl.cons_ ha12 rfl rfl (Sl.cons_ ha12 rfl rfl (Sl.cons_ ha12 rfl (int_eq (by omega)) (Sl.nil_ ha12)))), hx9, (ho6.fin (by omega) (by omega) (by omega)), (hN10.fin (by omega) (by omega)), (by omega), (by omega), (by simp), (by simp)⟩
 ·
  clear ha12 a12
  rintro ⟨i, v, zs⟩ a17 w13 ⟨ha17, hx14, hf15, hf16, hzl18, hi, hl, hF⟩
  have hzhx14 := hx14.size
  refine wp_seq ?_
  refine wp_seq ?_
  refine wp_region_lit ?_
  refine wl_val ha17 rfl rfl rfl (op_move ha17 rfl rfl) ?_
  intro a19 ha19; clear ha17 a17
  refine wl_val ha19 rfl rfl rfl (op_move ha19 rfl rfl) ?_
  intro a20 ha20; clear ha19 a19
  refine wl_val ha20 rfl rfl rfl (op_len_sl ha20 rfl Try.underlying22 rfl h_a) ?_
  intro a21 ha21; clear ha20 a20
  refine wl_val ha21 rfl rfl rfl (op_lss ha21 rfl rfl rfl) ?_
  intro a22 ha22; clear ha21 a21
  refine wpList_nil ?_
  refine then_n ?_
  by_cases c23 : ((i : Nat) : Int) < ((a.length : Nat) : Int)
  ·
   rw [decide_eq_true c23] at ha22
   refine cond_t ha22 rfl ?_
   refine wp_skip ?_
   refine then_n ?_
   refine wp_seq ?_
   refine wp_block ?_
   refine wp_region_lit ?_
   refine wl_val ha22 rfl rfl rfl (op_move ha22 rfl rfl) ?_
   intro a24 ha24; clear ha22 a22
   refine wl_val ha24 rfl rfl rfl (op_move ha24 rfl rfl) ?_
   intro a25 ha25; clear ha24 a24
   refine wl_val ha25 rfl rfl rfl (op_move ha25 rfl rfl) ?_
   intro a26 ha26; clear ha25 a25
   refine wl_val ha26 rfl rfl rfl (op_move ha26 rfl rfl) ?_
   intro a27 ha27; clear ha26 a26
   obtain ⟨x28, hx28⟩ := get_ex (xs := a) (j := i) (by omega)
   obtain ⟨p29, c30, hi31, hc32, hr33, hs34⟩ := Rds.at_ h_a hx28
   obtain ⟨v35, rfl, b36, b37, b38⟩ := inv_shCust hr33
   have hlb38 := b38.length_le
   have hcmx28 := cost_mem (c := costCu) (List.mem_of_getElem? hx28)
   have hcnx28 := costL_len costS x28.2.2
   have hcux28 : costL costS x28.2.2 ≤ costCu x28 := by unfold costCu; omega
   refine wl_val ha27 rfl rfl rfl (op_indexAddr ha27 rfl Try.underlying22 ti60 rfl rfl (by omega) hi31) ?_
   intro a39 ha39; clear ha27 a27
   refine wl_val ha39 rfl rfl rfl (op_loadS ha39 rfl Try.underlying60 ti60 rfl rfl (hc32.ext hx14)) ?_
   intro a40 ha40; clear ha39 a39
   refine wl_callR ha40 rfl rfl rfl (op_call ha40 rfl cb55 rfl) (c_laws_toCustomer _ v35 x28 (b38.ext pos_shStr hx14) (by first | assumption | omega | (simp; omega) | (simp [mkN_length]; omega))) ?_
   rintro v41 w42 he43 ⟨u44, rfl, ho45⟩ a46 ha46; clear ha40 a40
   have hx47 := hx14.trans' he43
   have hzhx47 := he43.size
   replace hf15 := hf15.ext he43
   replace hf16 := hf16.ext he43
   obtain ⟨x48, hx48⟩ := get_ex (xs := zs) (j := i) (by omega)
   obtain ⟨p49, c50, hi51, hc52, hr53, hs54⟩ := Rds.at_ (hf15.rds pos_shCustN) hx48
   obtain ⟨rfl, b55, b56, b57⟩ := inv_shCustN hr53
   have hn58 : Own shStr 9 w0.heap.size w0.heap.size w13.heap.size w42 x48.2 x48.1.2.2 := hf16.get hx48
   obtain ⟨_, _⟩ : _ ∧ _ := hs54
   refine wl_val ha46 rfl rfl rfl (op_indexAddr ha46 rfl Try.underlying25 ti55 rfl rfl (by omega) hi51) ?_
   intro a59 ha59; clear ha46 a46
   refine wl_effS ha59 rfl rfl (op_setElem (s := shCustN) (ds := [St (((x28)).1), .int .i64 ((x28)).2.1, u44]) (S' := fun _ => False) ha59 rfl ti55 rfl rfl rfl hf15 pos_shCustN hi51 (by omega) (mk_shCustN (((x28), (u44 : Value))) (by first | assumption | omega | (simp; omega)) (by first | assumption | omega | (simp; omega)) ho45.one) (fun _ h => h.elim)) ?_
   rintro w60 ⟨ho62, hst61, hz63⟩
   have hx64 := hx47.stp hst61 (by intro q hq; have hq0 := hf15.lt q hq; omega)
   have hzhx64 := hst61.size
   first | replace hf16 := hf16.stpF flat_shStr hst61 hf15 rfl | replace hf16 := hf16.stp hst61 (by intro q hq; have hq0 := hf15.lt q hq; omega)
   replace ho45 := ho45.stp hst61 (by intro q hq; have hq0 := hf15.lt q hq; omega)
   first | replace hn58 := hn58.stp hst61 (by intro q hq; have hq0 := hf15.lt q hq; omega) | replace hn58 := hn58.stpF flat_shStr hst61 (hn58.ne hf15 rfl)
   clear hf15
   have hlsho62 : ((zs.set i (((x28), (u44 : Value))))).length = zs.length := List.length_set
   have hN65 : Nst shStr 9 (fun x : Str × Int × List Str => x.2.2) w0.heap.size w42.heap.size w60 ((zs.set i (((x28), (u44 : Value))))) := hf16.set ho45 (by omega) (by omega) (by omega)
   refine wpList_nil ?_
   refine block_n ?_
   refine then_n ?_
   refine wp_region_lit ?_
   refine wl_val ha59 rfl rfl rfl (op_move ha59 rfl rfl) ?_
   intro a66 ha66; clear ha59 a59
   refine wl_val ha66 rfl rfl rfl ((op_add ha66 rfl rfl rfl).int (IntWalk.i64_in _ (by omega))) ?_
   intro a67 ha67; clear ha66 a66
   refine wl_val ha67 rfl rfl rfl (op_assign ha67 rfl rfl) ?_
   intro a68 ha68; clear ha67 a67
   refine wpList_nil ?_
   refine round_end (x := (i, v, zs)) ((i + 1), v, (zs.set i (((x28), (u44 : Value))))) ?_ ?_
   ·
    refine ⟨(Sl.cons_ ha68 rfl rfl (Sl.cons_ ha68 rfl rfl (Sl.cons_ ha68 rfl (int_eq (by omega)) (Sl.nil_ ha68)))), hx64, (ho62.fin (by omega) (by omega) (by omega)), (hN65.fin (by omega) (by omega)), (by omega), (by omega), (by simpa using hl), (by exact setN_take hF hl hx28)⟩
   ·show (a.length - ((i + 1)) : Nat) < a.length - i; omega
  ·
   rw [decide_eq_false c23] at ha22
   refine cond_f ha22 rfl ?_
   refine wp_exit ?_
   refine then_e ?_
   refine then_e ?_
   refine block_hit ?_
   refine then_n ?_
   refine wp_seq ?_
   refine wp_region_lit ?_
   refine wl_val ha22 rfl rfl rfl (op_move ha22 rfl rfl) ?_
   intro a69 ha69; clear ha22 a22
   refine wl_val ha69 rfl rfl rfl (op_assign ha69 rfl rfl) ?_
   intro a70 ha70; clear ha69 a69
   refine wpList_nil ?_
   refine then_n ?_
   refine wp_ret ?_
   refine ret1 ha70 rfl rfl ?_
   clear ha70 a70
   refine ret_mk hx14 ⟨zs, hf15.fin (by omega) (by omega) (by omega), hf16.fin (by omega) (by omega), ?_⟩
   ·
    exact map_take_all hF hl (by omega)

theorem c_laws_eqCustomer (w0 : World) (v_a2 : Value) (a : Str × Int × List Str) {S_a2 : Nat → Prop} (v_b2 : Value) (b : Str × Int × List Str) {S_b2 : Nat → Prop} (h_a2 : Rds shStr S_a2 w0 v_a2 a.2.2) (h_b2 : Rds shStr S_b2 w0 v_b2 b.2.2) :
  Calls Try.prog 60 #[.agg #[St a.1, .int .i64 a.2.1, v_a2], .agg #[St b.1, .int .i64 b.2.1, v_b2]] w0 (Ret w0 (fun v _ => v = .bool (decide (a = b)))) := by
 refine enter (N := 21) Try.func60 rfl rfl rfl ?_
 intro a0 ha0
 have hx0 := Ext.rfl' w0
 have hl_a2 := h_a2.length_le
 have hl_b2 := h_b2.length_le
 refine wp_seq ?_
 refine wp_region_lit ?_
 refine wl_eff ha0 rfl rfl rfl (op_box' ha0 rfl rfl rfl) ?_
 rintro _ w2 ⟨rfl, he3, hb4, hz5⟩ a6 ha6; clear ha0 a0
 have hx7 := hx0.trans' he3
 have hzhx7 := he3.size
 refine wl_eff ha6 rfl rfl rfl (op_box' ha6 rfl rfl rfl) ?_
 rintro _ w9 ⟨rfl, he10, hb11, hz12⟩ a13 ha13; clear ha6 a6
 have hx14 := hx7.trans' he10
 have hzhx14 := he10.size
 replace hb4 := hb4.ext he10
 refine wl_val ha13 rfl rfl rfl (op_assign ha13 rfl rfl) ?_
 intro a15 ha15; clear ha13 a13
 refine wpList_nil ?_
 refine then_n ?_
 refine wp_seq ?_
 refine wp_seq ?_
 refine wp_region_lit ?_
 refine wl_val ha15 rfl rfl rfl (op_fieldAddr (sz := 0) ha15 rfl Try.underlying55 rfl rfl ti9 rfl) ?_
 intro a16 ha16; clear ha15 a15
 refine wl_val ha16 rfl rfl rfl (op_loadF (off := 0) ha16 rfl Try.underlying9 rfl rfl hb4.cells rfl) ?_
 intro a17 ha17; clear ha16 a16
 refine wl_val ha17 rfl rfl rfl (op_fieldAddr (sz := 0) ha17 rfl Try.underlying55 rfl rfl ti9 rfl) ?_
 intro a18 ha18; clear ha17 a17
 refine wl_val ha18 rfl rfl rfl (op_loadF (off := 0) ha18 rfl Try.underlying9 rfl rfl hb11.cells rfl) ?_
 intro a19 ha19; clear ha18 a18
 refine wl_val ha19 rfl rfl rfl ((op_sneq ha19 rfl rfl rfl).to (congrArg Value.bool decide_not)) ?_
 intro a20 ha20; clear ha19 a19
 refine wpList_nil ?_
 refine then_n ?_
 by_cases c21 : a.1 = b.1
 ·
  rw [decide_eq_true c21] at ha20
  refine cond_f ha20 rfl ?_
  refine wp_skip ?_
  refine then_n ?_
  refine wp_seq ?_
  refine wp_seq ?_
  refine wp_region_lit ?_
  refine wl_val ha20 rfl rfl rfl (op_fieldAddr (sz := 0) ha20 rfl Try.underlying55 rfl rfl ti2 rfl) ?_
  intro a22 ha22; clear ha20 a20
  refine wl_val ha22 rfl rfl rfl (op_loadF (off := 1) ha22 rfl Try.underlying2 rfl rfl hb4.cells rfl) ?_
  intro a23 ha23; clear ha22 a22
  refine wl_val ha23 rfl rfl rfl (op_fieldAddr (sz := 0) ha23 rfl Try.underlying55 rfl rfl ti2 rfl) ?_
  intro a24 ha24; clear ha23 a23
  refine wl_val ha24 rfl rfl rfl (op_loadF (off := 1) ha24 rfl Try.underlying2 rfl rfl hb11.cells rfl) ?_
  intro a25 ha25; clear ha24 a24
  refine wl_val ha25 rfl rfl rfl ((op_neq ha25 rfl rfl rfl).to (congrArg Value.bool decide_not)) ?_
  intro a26 ha26; clear ha25 a25
  refine wpList_nil ?_
  refine then_n ?_
  by_cases c27 : a.2.1 = b.2.1
  ·
   rw [decide_eq_true c27] at ha26
   refine cond_f ha26 rfl ?_
   refine wp_skip ?_
   refine then_n ?_
   refine wp_seq ?_
   refine wp_seq ?_
   refine wp_region_lit ?_
   refine wl_val ha26 rfl rfl rfl (op_fieldAddr (sz := 0) ha26 rfl Try.underlying55 rfl rfl ti34 rfl) ?_
   intro a28 ha28; clear ha26 a26
   refine wl_val ha28 rfl rfl rfl (op_loadF (off := 2) ha28 rfl Try.underlying34 rfl rfl hb4.cells rfl) ?_
   intro a29 ha29; clear ha28 a28
   refine wl_val ha29 rfl rfl rfl (op_fieldAddr (sz := 0) ha29 rfl Try.underlying55 rfl rfl ti34 rfl) ?_
   intro a30 ha30; clear ha29 a29
   refine wl_val ha30 rfl rfl rfl (op_loadF (off := 2) ha30 rfl Try.underlying34 rfl rfl hb11.cells rfl) ?_
   intro a31 ha31; clear ha30 a30
   refine wl_callR ha31 rfl rfl rfl (op_call ha31 rfl cb25 rfl) (c_laws_eqStringS _ v_a2 a.2.2 v_b2 b.2.2 (h_a2.ext pos_shStr hx14) (h_b2.ext pos_shStr hx14)) ?_
   rintro v32 w33 he34 rfl a35 ha35; clear ha31 a31
   have hx36 := hx14.trans' he34
   have hzhx36 := he34.size
   replace hb4 := hb4.ext he34
   replace hb11 := hb11.ext he34
   refine wl_val ha35 rfl rfl rfl (op_not ha35 rfl rfl) ?_
   intro a37 ha37; clear ha35 a35
   refine wpList_nil ?_
   refine then_n ?_
   rcases Bool.eq_false_or_eq_true (eqL a.2.2 b.2.2) with c38 | c38
   ·
    rw [c38] at ha37
    refine cond_f ha37 rfl ?_
    refine wp_skip ?_
    refine then_n ?_
    refine wp_seq ?_
    refine wp_region_lit ?_
    refine wl_val ha37 rfl rfl rfl (op_assign ha37 rfl rfl) ?_
    intro a39 ha39; clear ha37 a37
    refine wpList_nil ?_
    refine then_n ?_
    refine wp_ret ?_
    refine ret1 ha39 rfl rfl ?_
    clear ha39 a39
    exact ret_mk hx36 (congrArg Value.bool (by first | (simp [eqL, Prod.ext_iff, c21, c27, c38]; done) | (simp [eqL, Prod.ext_iff, c21, c27, c38]; omega) | (simp_all [eqL, Prod.ext_iff]; done) | (simp_all [eqL, Prod.ext_iff]; omega)))
   ·
    rw [c38] at ha37
    refine cond_t ha37 rfl ?_
    refine wp_seq ?_
    refine wp_region_lit ?_
    refine wl_val ha37 rfl rfl rfl (op_assign ha37 rfl rfl) ?_
    intro a40 ha40; clear ha37 a37
    refine wpList_nil ?_
    refine then_n ?_
    refine wp_ret ?_
    refine then_r ?_
    refine ret1 ha40 rfl rfl ?_
    clear ha40 a40
    exact ret_mk hx36 (congrArg Value.bool (by first | (simp [eqL, Prod.ext_iff, c21, c27, c38]; done) | (simp [eqL, Prod.ext_iff, c21, c27, c38]; omega) | (simp_all [eqL, Prod.ext_iff]; done) | (simp_all [eqL, Prod.ext_iff]; omega)))
  ·
   rw [decide_eq_false c27] at ha26
   refine cond_t ha26 rfl ?_
   refine wp_seq ?_
   refine wp_region_lit ?_
   refine wl_val ha26 rfl rfl rfl (op_assign ha26 rfl rfl) ?_
   intro a41 ha41; clear ha26 a26
   refine wpList_nil ?_
   refine then_n ?_
   refine wp_ret ?_
   refine then_r ?_
   refine ret1 ha41 rfl rfl ?_
   clear ha41 a41
   exact ret_mk hx14 (congrArg Value.bool (by first | (simp [eqL, Prod.ext_iff, c21, c27]; done) | (simp [eqL, Prod.ext_iff, c21, c27]; omega) | (simp_all [eqL, Prod.ext_iff]; done) | (simp_all [eqL, Prod.ext_iff]; omega)))
 ·
  rw [decide_eq_false c21] at ha20
  refine cond_t ha20 rfl ?_
  refine wp_seq ?_
  refine wp_region_lit ?_
  refine wl_val ha20 rfl rfl rfl (op_assign ha20 rfl rfl) ?_
  intro a42 ha42; clear ha20 a20
  refine wpList_nil ?_
  refine then_n ?_
  refine wp_ret ?_
  refine then_r ?_
  refine ret1 ha42 rfl rfl ?_
  clear ha42 a42
  exact ret_mk hx14 (congrArg Value.bool (by first | (simp [eqL, Prod.ext_iff, c21]; done) | (simp [eqL, Prod.ext_iff, c21]; omega) | (simp_all [eqL, Prod.ext_iff]; done) | (simp_all [eqL, Prod.ext_iff]; omega)))

theorem c_laws_eqCustomerS (w0 : World) (v_a : Value) (a : List (Str × Int × List Str)) {S_a : Nat → Prop} (v_b : Value) (b : List (Str × Int × List Str)) {S_b : Nat → Prop} (h_a : Rds shCust S_a w0 v_a a) (h_b : Rds shCust S_b w0 v_b b) :
  Calls Try.prog 18 #[v_a, v_b] w0 (Ret w0 (fun v _ => v = .bool (eqL a b))) := by
 refine enter (N := 27) Try.func18 rfl rfl rfl ?_
 intro a0 ha0
 have hx0 := Ext.rfl' w0
 have hl_a := h_a.length_le
 have hl_b := h_b.length_le
 refine wp_seq ?_
 refine wp_region_lit ?_
 refine wl_val ha0 rfl rfl rfl (op_assign ha0 rfl rfl) ?_
 intro a1 ha1; clear ha0 a0
 refine wpList_nil ?_
 refine then_n ?_
 refine wp_seq ?_
 refine wp_seq ?_
 refine wp_region_lit ?_
 refine wl_val ha1 rfl rfl rfl (op_move ha1 rfl rfl) ?_
 intro a2 ha2; clear ha1 a1
 refine wl_val ha2 rfl rfl rfl (op_len_sl ha2 rfl Try.underlying25 rfl h_a) ?_
 intro a3 ha3; clear ha2 a2
 refine wl_val ha3 rfl rfl rfl (op_move ha3 rfl rfl) ?_
 intro a4 ha4; clear ha3 a3
 refine wl_val ha4 rfl rfl rfl (op_len_sl ha4 rfl Try.underlying25 rfl h_b) ?_
 intro a5 ha5; clear ha4 a4
 refine wl_val ha5 rfl rfl rfl ((op_neq ha5 rfl rfl rfl).to (congrArg Value.bool decide_not)) ?_
 intro a6 ha6; clear ha5 a5
 refine wpList_nil ?_
 refine then_n ?_
 by_cases c7 : ((a.length : Nat) : Int) = ((b.length : Nat) : Int)
 ·
  rw [decide_eq_true c7] at ha6
  refine cond_f ha6 rfl ?_
  refine wp_skip ?_
  refine then_n ?_
  refine wp_seq ?_
  refine wp_seq ?_
  refine wp_region_lit ?_
  refine wl_val ha6 rfl rfl rfl (op_assign ha6 rfl rfl) ?_
  intro a8 ha8; clear ha6 a6
  refine wpList_nil ?_
  refine then_n ?_
  refine wp_block ?_
  refine loop_inv (X := Nat) (fun (i : Nat) fr wl => Sl 27 fr [(0, v_a), (1, v_b), (5, .int .i64 ((i : Nat) : Int))] ∧ Ext w0 wl ∧ w0.heap.size ≤ wl.heap.size ∧ (i ≤ a.length) ∧ (a.length = b.length) ∧ (eqL (a.drop i) (b.drop i) = eqL a b)) (fun (i : Nat) => a.length - i) (0) ?_ ?_
  ·
   exact ⟨(Sl.cons_ ha8 rfl rfl (Sl.cons_ ha8 rfl rfl (Sl.cons_ ha8 rfl (int_eq (by omega)) (Sl.nil_ ha8)))), hx0, (by omega), (by omega), (by omega), (by simp)⟩
  ·
   clear ha8 a8
   rintro i a11 w9 ⟨ha11, hx10, hzl12, hi, hl, hF⟩
   have hzhx10 := hx10.size
   refine wp_seq ?_
   refine wp_seq ?_
   refine wp_region_lit ?_
   refine wl_val ha11 rfl rfl rfl (op_move ha11 rfl rfl) ?_
   intro a13 ha13; clear ha11 a11
   refine wl_val ha13 rfl rfl rfl (op_move ha13 rfl rfl) ?_
   intro a14 ha14; clear ha13 a13
   refine wl_val ha14 rfl rfl rfl (op_len_sl ha14 rfl Try.underlying25 rfl h_a) ?_
   intro a15 ha15; clear ha14 a14
   refine wl_val ha15 rfl rfl rfl (op_lss ha15 rfl rfl rfl) ?_
   intro a16 ha16; clear ha15 a15
   refine wpList_nil ?_
   refine then_n ?_
   by_cases c17 : ((i : Nat) : Int) < ((a.length : Nat) : Int)
   ·
    rw [decide_eq_true c17] at ha16
    refine cond_t ha16 rfl ?_
    refine wp_skip ?_
    refine then_n ?_
    refine wp_seq ?_
    refine wp_block ?_
    refine wp_seq ?_
    refine dr_enter Ext follows_mixed ?_
    intro w18 he19
    have hx20 := hx10.trans' he19
    have hzhx20 := he19.size
    have hs21 : Ext w18 w18 := Ext.rfl' _
    refine dr_val (i := 0) ha16 rfl (by kernel_rfl) (by kernel_rfl) (by kernel_rfl) rfl rfl rfl hs21 (fun w' hw' => op_move ha16 rfl rfl) ?_
    intro a22 ha22; clear ha16 a16
    refine dr_val (i := 1) ha22 rfl (by kernel_rfl) (by kernel_rfl) (by kernel_rfl) rfl rfl rfl hs21 (fun w' hw' => op_move ha22 rfl rfl) ?_
    intro a23 ha23; clear ha22 a22
    obtain ⟨x24, hx24⟩ := get_ex (xs := a) (j := i) (by omega)
    obtain ⟨p25, c26, hi27, hc28, hr29, hs30⟩ := Rds.at_ h_a hx24
    obtain ⟨v31, rfl, b32, b33, b34⟩ := inv_shCust hr29
    have hlb34 := b34.length_le
    refine dr_val (i := 2) ha23 rfl (by kernel_rfl) (by kernel_rfl) (by kernel_rfl) rfl rfl rfl hs21 (fun w' hw' => op_indexAddr ha23 rfl Try.underlying25 ti55 rfl rfl (by omega) hi27) ?_
    intro a35 ha35; clear ha23 a23
    refine dr_val (i := 3) ha35 rfl (by kernel_rfl) (by kernel_rfl) (by kernel_rfl) rfl rfl rfl hs21 (fun w' hw' => op_loadS ha35 rfl Try.underlying55 ti55 rfl rfl (hc28.ext (hx20.trans' hw'))) ?_
    intro a36 ha36; clear ha35 a35
    refine dr_val (i := 4) ha36 rfl (by kernel_rfl) (by kernel_rfl) (by kernel_rfl) rfl rfl rfl hs21 (fun w' hw' => op_move ha36 rfl rfl) ?_
    intro a37 ha37; clear ha36 a36
    refine dr_val (i := 5) ha37 rfl (by kernel_rfl) (by kernel_rfl) (by kernel_rfl) rfl rfl rfl hs21 (fun w' hw' => op_move ha37 rfl rfl) ?_
    intro a38 ha38; clear ha37 a37
    obtain ⟨x39, hx39⟩ := get_ex (xs := b) (j := i) (by omega)
    obtain ⟨p40, c41, hi42, hc43, hr44, hs45⟩ := Rds.at_ h_b hx39
    obtain ⟨v46, rfl, b47, b48, b49⟩ := inv_shCust hr44
    have hlb49 := b49.length_le
    refine dr_val (i := 6) ha38 rfl (by kernel_rfl) (by kernel_rfl) (by kernel_rfl) rfl rfl rfl hs21 (fun w' hw' => op_indexAddr ha38 rfl Try.underlying25 ti55 rfl rfl (by omega) hi42) ?_
    intro a50 ha50; clear ha38 a38
    refine dr_val (i := 7) ha50 rfl (by kernel_rfl) (by kernel_rfl) (by kernel_rfl) rfl rfl rfl hs21 (fun w' hw' => op_loadS ha50 rfl Try.underlying55 ti55 rfl rfl (hc43.ext (hx20.trans' hw'))) ?_
    intro a51 ha51; clear ha50 a50
    refine dr_one (i := 8) (by kernel_rfl) ?_
    refine po_callR ha51 rfl rfl rfl rfl (op_call ha51 rfl cb60 rfl) (c_laws_eqCustomer _ v31 x24 v46 x39 (b34.ext pos_shStr (hx20.trans' hs21)) (b49.ext pos_shStr (hx20.trans' hs21))) ?_
    rintro v52 w53 he54 rfl a55 ha55; clear ha51 a51
    have hs56 := hs21.trans' he54
    have hx57 := hx20.trans' he54
    have hzhx57 := he54.size
    refine ⟨hs56, ?_⟩
    refine dr_val (i := 9) ha55 rfl (by kernel_rfl) (by kernel_rfl) (by kernel_rfl) rfl rfl rfl hs56 (fun w' hw' => op_not ha55 rfl rfl) ?_
    intro a58 ha58; clear ha55 a55
    refine dr_end (by kernel_rfl) ?_
    refine then_n ?_
    rcases Bool.eq_false_or_eq_true (decide (x24 = x39)) with c59 | c59
    ·
     rw [c59] at ha58
     refine cond_f ha58 rfl ?_
     refine wp_skip ?_
     refine block_n ?_
     refine then_n ?_
     refine wp_region_lit ?_
     refine wl_val ha58 rfl rfl rfl (op_move ha58 rfl rfl) ?_
     intro a60 ha60; clear ha58 a58
     refine wl_val ha60 rfl rfl rfl ((op_add ha60 rfl rfl rfl).int (IntWalk.i64_in _ (by omega))) ?_
     intro a61 ha61; clear ha60 a60
     refine wl_val ha61 rfl rfl rfl (op_assign ha61 rfl rfl) ?_
     intro a62 ha62; clear ha61 a61
     refine wpList_nil ?_
     refine round_end (x := i) ((i + 1)) ?_ ?_
     ·
      refine ⟨(Sl.cons_ ha62 rfl rfl (Sl.cons_ ha62 rfl rfl (Sl.cons_ ha62 rfl (int_eq (by omega)) (Sl.nil_ ha62)))), hx57, (by omega), (by omega), (by exact hl), (by rw [eqL_step hx24 hx39] at hF; simpa [c7, c17, c59] using hF)⟩
     ·show (a.length - ((i + 1)) : Nat) < a.length - i; omega
    ·
     rw [c59] at ha58
     refine cond_t ha58 rfl ?_
     refine wp_seq ?_
     refine wp_region_lit ?_
     refine wl_val ha58 rfl rfl rfl (op_assign ha58 rfl rfl) ?_
     intro a63 ha63; clear ha58 a58
     refine wpList_nil ?_
     refine then_n ?_
     refine wp_ret ?_
     refine block_r ?_
     refine then_r ?_
     refine then_r ?_
     refine block_r ?_
     refine then_r ?_
     refine ret1 ha63 rfl rfl ?_
     clear ha63 a63
     rw [eqL_step hx24 hx39] at hF
     exact ret_mk hx57 (congrArg Value.bool (by first | (simp [← hF, c7, c17, c59]; done) | (rw [← hF]; simp_all [eqL]; done)))
   ·
    rw [decide_eq_false c17] at ha16
    refine cond_f ha16 rfl ?_
    refine wp_exit ?_
    refine then_e ?_
    refine then_e ?_
    refine block_hit ?_
    refine then_n ?_
    refine wp_seq ?_
    refine wp_region_lit ?_
    refine wl_val ha16 rfl rfl rfl (op_assign ha16 rfl rfl) ?_
    intro a64 ha64; clear ha16 a16
    refine wpList_nil ?_
    refine then_n ?_
    refine wp_ret ?_
    refine ret1 ha64 rfl rfl ?_
    clear ha64 a64
    rw [drop_nil (by omega), drop_nil (by omega), eqL_nil] at hF
    exact ret_mk hx10 (congrArg Value.bool (by first | (simp [← hF, c7, c17]; done) | (rw [← hF]; simp_all [eqL]; done)))
 ·
  rw [decide_eq_false c7] at ha6
  refine cond_t ha6 rfl ?_
  refine wp_seq ?_
  refine wp_region_lit ?_
  refine wl_val ha6 rfl rfl rfl (op_assign ha6 rfl rfl) ?_
  intro a65 ha65; clear ha6 a6
  refine wpList_nil ?_
  refine then_n ?_
  refine wp_ret ?_
  refine then_r ?_
  refine ret1 ha65 rfl rfl ?_
  clear ha65 a65
  
  exact ret_mk hx0 (congrArg Value.bool (by rw [eqL_len (by omega)]))


end Go.Proofs.Ythbkedflhmeohaa
