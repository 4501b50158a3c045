/- The helpers of the laws over versions. -/
import Derived.Test.YtllpdkidaldkiaaL1
namespace Go.Proofs.Ytllpdkidaldkiaa
open Go Go.RowKit

theorem heldG_val {α : Type} {ok : α → Int → Bool} {st : Int} : ∀ {xs : List α} {k : Int}, 0 ≤ st → 0 ≤ k → heldG ok st xs k < 0 ∨ heldG ok st xs k = k + st * (xs.length : Nat)
  | [], k, _, _ => .inr (by simp [heldG])
  | x :: xs, k, h, h' => by
    rw [heldG]; split
    · rcases heldG_val (ok := ok) (xs := xs) (k := k + st) h (by omega) with q | q
      · exact .inl q
      · right; rw [q, List.length_cons, Int.natCast_add, Int.mul_add]; simp; omega
    · exact .inl (by omega)
theorem setN_take {X : Type} {zs : List (X × Value)} {a : List X} {i : Nat} {x : X} {u : Value} (h : (zs.take i).map (·.1) = a.take i) (hl : zs.length = a.length) (hx : a[i]? = some x) : ((zs.set i (x, u)).take (i + 1)).map (·.1) = a.take (i + 1) := by
  have hi : i < a.length := (List.getElem?_eq_some_iff.1 hx).1
  have : (zs.set i (x, u))[i]? = some (x, u) := by rw [List.getElem?_set_self (by omega)]
  rw [take_snoc this, List.take_set_of_le (Nat.le_refl _), List.map_append, h, take_snoc hx]
  rfl
theorem map_take_all {X : Type} {zs : List (X × Value)} {a : List X} {i : Nat} (h : (zs.take i).map (·.1) = a.take i) (hl : zs.length = a.length) (hi : a.length ≤ i) : zs.map (·.1) = a := by
  rw [List.take_of_length_le (by omega), List.take_of_length_le (by omega)] at h; exact h
theorem abs_get {X : Type} {zs : List (X × Value)} {T : List X} {i : Nat} {z : X × Value} (h : zs.map (·.1) = T) (hz : zs[i]? = some z) : T[i]? = some z.1 := by rw [← h, List.getElem?_map, hz]; rfl
theorem abs_len {X : Type} {zs : List (X × Value)} {T : List X} (h : zs.map (·.1) = T) : zs.length = T.length := by rw [← h, List.length_map]
theorem map_set_abs {X : Type} {zs : List (X × Value)} {i : Nat} {q : X × Value} : (zs.set i q).map (·.1) = (zs.map (·.1)).set i q.1 := by rw [List.map_set]
theorem mark_step {X : Type} {zs a : List (X × Value)} {i : Nat} {q : X × Value} {M L : List X} {m : X} (hd : (zs.drop i).map (·.1) = (a.map (·.1)).drop i) (hi : i < zs.length) (hF : (zs.take i).map (·.1) ++ m :: M = L) (hq : q.1 = m) :
    ((zs.set i q).drop (i + 1)).map (·.1) = (a.map (·.1)).drop (i + 1) ∧ ((zs.set i q).take (i + 1)).map (·.1) ++ M = L := by
  constructor
  · rw [List.drop_set_of_lt (by omega), ← List.drop_drop (i := 1) (j := i), ← List.drop_drop (i := 1) (j := i), List.map_drop, hd]
  · have : (zs.set i q)[i]? = some q := by rw [List.getElem?_set_self hi]
    rw [take_snoc this, List.take_set_of_le (Nat.le_refl _), List.map_append, ← hF, ← hq, List.append_assoc]; rfl
theorem mark_at {X : Type} {zs a : List (X × Value)} {i : Nat} {z : X × Value} (hd : (zs.drop i).map (·.1) = (a.map (·.1)).drop i) (hz : zs[i]? = some z) : (a.map (·.1))[i]? = some z.1 := by
  have h1 : ((zs.drop i).map (·.1))[0]? = some z.1 := by rw [List.getElem?_map, List.getElem?_drop, Nat.add_zero, hz]; rfl
  rw [hd, List.getElem?_drop, Nat.add_zero] at h1; exact h1

def costVr (x : Int × List (Str × Int)) : Nat := costL costLn x.2
def mkVr1 (x : Int × List (Str × Int)) (k : Int) : Int × List (Str × Int) := (k, mkN mkLn 2 x.2.length (k + 1))
def nxVr (x : Int × List (Str × Int)) (k : Int) : Int := k + 1 + 2 * (x.2.length : Nat)
def mkVr : List (Int × List (Str × Int)) → Int → List (Int × List (Str × Int))
  | [], _ => []
  | x :: xs, k => mkVr1 x k :: mkVr xs (nxVr x k)
def kkVr : List (Int × List (Str × Int)) → Int → Int
  | [], k => k
  | x :: xs, k => kkVr xs (nxVr x k)
def heldVr : List (Int × List (Str × Int)) → Int → Int
  | [], k => k
  | x :: xs, k => if x.1 = k then (if heldG okLn 2 x.2 (k + 1) < 0 then -1 else heldVr xs (heldG okLn 2 x.2 (k + 1))) else -1
theorem kkVr_ge : ∀ (xs : List (Int × List (Str × Int))) (k : Int), k ≤ kkVr xs k
  | [], k => Int.le_refl _
  | x :: xs, k => by have := kkVr_ge xs (nxVr x k); rw [kkVr]; unfold nxVr at *; omega
theorem kkVr_le : ∀ (xs : List (Int × List (Str × Int))) (k : Int), kkVr xs k ≤ k + 2 * (costL costVr xs : Nat)
  | [], k => by simp [kkVr, costL, sumC]
  | x :: xs, k => by
    have h1 := kkVr_le xs (nxVr x k)
    have h2 := costL_len costLn x.2
    have h3 : costL costVr (x :: xs) = costL costVr xs + 1 + costVr x := by unfold costL; simp only [sumC, List.length_cons]; omega
    have h4 : costL costLn x.2 ≤ costVr x := by unfold costVr; omega
    rw [kkVr, h3]; unfold nxVr at *; omega
theorem mkVr_length : ∀ (xs : List (Int × List (Str × Int))) (k : Int), (mkVr xs k).length = xs.length
  | [], _ => rfl
  | x :: xs, k => by rw [mkVr, List.length_cons, mkVr_length xs, List.length_cons]
theorem heldVr_neg : ∀ (xs : List (Int × List (Str × Int))) (k : Int), 0 ≤ k → heldVr xs k < 0 → heldVr xs k = -1
  | [], k, h, h' => by simp only [heldVr] at h'; omega
  | x :: xs, k, h, h' => by
    rw [heldVr] at h' ⊢
    by_cases c : x.1 = k
    · rw [if_pos c] at h' ⊢
      by_cases d : heldG okLn 2 x.2 (k + 1) < 0
      · rw [if_pos d]
      · rw [if_neg d] at h' ⊢; exact heldVr_neg xs _ (by omega) h'
    · rw [if_neg c]
theorem kk_mkVr : ∀ (xs : List (Int × List (Str × Int))) (k j : Int), kkVr (mkVr xs j) k = kkVr xs k
  | [], _, _ => rfl
  | x :: xs, k, j => by
    have e : nxVr (mkVr1 x j) k = nxVr x k := by unfold nxVr mkVr1; simp only [mkN_length]
    rw [mkVr, kkVr, kkVr, e, kk_mkVr xs]
theorem kkVr_bd : ∀ (xs : List (Int × List (Str × Int))) (k : Int), (∀ x ∈ xs, x.2.length ≤ 10) → kkVr xs k ≤ k + 21 * (xs.length : Nat)
  | [], k, _ => by simp [kkVr]
  | x :: xs, k, h => by
    have h1 := kkVr_bd xs (nxVr x k) fun y hy => h y (by simp [hy])
    have h2 := h x (by simp)
    rw [kkVr, List.length_cons]; unfold nxVr at *; omega
theorem held_mkVr : ∀ (xs : List (Int × List (Str × Int))) (k : Int), 0 ≤ k → heldVr (mkVr xs k) k = kkVr xs k
  | [], k, _ => rfl
  | x :: xs, k, h => by
    have e : heldG okLn 2 (mkVr1 x k).2 (k + 1) = nxVr x k := by
      show heldG okLn 2 (mkN mkLn 2 x.2.length (k + 1)) (k + 1) = _
      rw [held_mkN okLn_mk]; rfl
    have h0 : 0 ≤ nxVr x k := by unfold nxVr; omega
    rw [mkVr, heldVr, kkVr, if_pos (by simp [mkVr1]), e, if_neg (by omega), held_mkVr xs _ h0]

theorem c_laws_szVersion (w0 : World) (v_a1 : Value) (a : Int × List (Str × Int)) {S_a1 : Nat → Prop} (left : Int) (h_a1 : Rds shLine S_a1 w0 v_a1 a.2) (g0 : left ≤ 1048576) (g1 : 0 ≤ left) :
    Calls Try.prog 49 #[.agg #[.int .i64 a.1, v_a1], .int .i64 left] w0 (Ret w0 (fun v _ => v = .int .i64 (szR left (costVr a)))) := by
  refine enter (N := 12) Try.func49 rfl rfl rfl ?_
  intro a0 ha0
  have hx0 := Ext.rfl' w0
  have hl_a1 := h_a1.length_le
  refine wp_seq ?_
  refine wp_region_lit ?_
  refine wl_eff ha0 rfl rfl rfl (op_box' ha0 rfl rfl rfl) ?_
  rintro _ w2 ⟨rfl, he3, hb4, hz5⟩ a6 ha6; clear ha0 a0
  have hx7 := hx0.trans' he3
  have hzhx7 := he3.size
  refine wl_val ha6 rfl rfl rfl (op_assign ha6 rfl rfl) ?_
  intro a8 ha8; clear ha6 a6
  refine wpList_nil ?_
  refine then_n ?_
  refine wp_seq ?_
  refine wp_region_lit ?_
  refine wl_val ha8 rfl rfl rfl (op_fieldAddr (sz := 0) ha8 rfl Try.underlying69 rfl rfl ti67 rfl) ?_
  intro a9 ha9; clear ha8 a8
  refine wl_val ha9 rfl rfl rfl (op_loadF (off := 1) ha9 rfl Try.underlying67 rfl rfl hb4.cells rfl) ?_
  intro a10 ha10; clear ha9 a9
  refine wl_val ha10 rfl rfl rfl (op_move ha10 rfl rfl) ?_
  intro a11 ha11; clear ha10 a10
  refine wl_callR ha11 rfl rfl rfl (op_call ha11 rfl cb84 rfl) (c_laws_szLineS _ v_a1 a.2 left (h_a1.ext pos_shLine hx7) (by first | assumption | omega | (simp; omega) | (simp [mkN_length]; omega)) (by first | assumption | omega | (simp; omega) | (simp [mkN_length]; omega))) ?_
  rintro v12 w13 he14 rfl a15 ha15; clear ha11 a11
  have hx16 := hx7.trans' he14
  have hzhx16 := he14.size
  replace hb4 := hb4.ext he14
  refine wl_val ha15 rfl rfl rfl (op_assign ha15 rfl rfl) ?_
  intro a17 ha17; clear ha15 a15
  refine wpList_nil ?_
  refine then_n ?_
  refine wp_seq ?_
  refine wp_seq ?_
  refine wp_region_lit ?_
  refine wl_val ha17 rfl rfl rfl (op_move ha17 rfl rfl) ?_
  intro a18 ha18; clear ha17 a17
  refine wl_val ha18 rfl rfl rfl (op_lss ha18 rfl rfl rfl) ?_
  intro a19 ha19; clear ha18 a18
  refine wpList_nil ?_
  refine then_n ?_
  by_cases c20 : (szR left (costL costLn a.2) : Int) < (0 : Int)
  ·
    rw [decide_eq_true c20] at ha19
    refine cond_t ha19 rfl ?_
    refine wp_seq ?_
    refine wp_region_lit ?_
    refine wl_val ha19 rfl rfl rfl (op_assign ha19 rfl rfl) ?_
    intro a21 ha21; clear ha19 a19
    refine wpList_nil ?_
    refine then_n ?_
    refine wp_ret ?_
    refine then_r ?_
    refine ret1 ha21 rfl rfl ?_
    clear ha21 a21
    exact ret_mk hx16 (int_eq (by unfold costVr; first | rfl | (unfold szR at *; split <;> simp_all <;> omega)))
  ·
    rw [decide_eq_false c20] at ha19
    refine cond_f ha19 rfl ?_
    refine wp_skip ?_
    refine then_n ?_
    refine wp_seq ?_
    refine wp_region_lit ?_
    refine wl_val ha19 rfl rfl rfl (op_move ha19 rfl rfl) ?_
    intro a22 ha22; clear ha19 a19
    refine wl_val ha22 rfl rfl rfl (op_assign ha22 rfl rfl) ?_
    intro a23 ha23; clear ha22 a22
    refine wpList_nil ?_
    refine then_n ?_
    refine wp_ret ?_
    refine ret1 ha23 rfl rfl ?_
    clear ha23 a23
    exact ret_mk hx16 (int_eq (by unfold costVr; first | rfl | (unfold szR at *; split <;> simp_all <;> omega)))

theorem c_laws_szVersionS (w0 : World) (v_a : Value) (a : List (Int × List (Str × Int))) {S_a : Nat → Prop} (left : Int) (h_a : Rds shVer S_a w0 v_a a) (g0 : left ≤ 1048576) (g1 : 0 ≤ left) :
    Calls Try.prog 8 #[v_a, .int .i64 left] w0 (Ret w0 (fun v _ => v = .int .i64 (szR left (costL costVr a)))) := by
  refine enter (N := 27) Try.func8 rfl rfl rfl ?_
  intro a0 ha0
  have hx0 := Ext.rfl' w0
  have hl_a := h_a.length_le
  refine wp_seq ?_
  refine wp_region_lit ?_
  refine wl_val ha0 rfl rfl rfl (op_assign ha0 rfl rfl) ?_
  intro a1 ha1; clear ha0 a0
  refine wpList_nil ?_
  refine then_n ?_
  refine wp_seq ?_
  refine wp_region_lit ?_
  refine wl_val ha1 rfl rfl rfl (op_move ha1 rfl rfl) ?_
  intro a2 ha2; clear ha1 a1
  refine wl_val ha2 rfl rfl rfl (op_move ha2 rfl rfl) ?_
  intro a3 ha3; clear ha2 a2
  refine wl_val ha3 rfl rfl rfl (op_len_sl ha3 rfl Try.underlying22 rfl h_a) ?_
  intro a4 ha4; clear ha3 a3
  refine wl_val ha4 rfl rfl rfl ((op_sub ha4 rfl rfl rfl).int (IntWalk.i64_in _ (by omega))) ?_
  intro a5 ha5; clear ha4 a4
  refine wl_val ha5 rfl rfl rfl (op_assign ha5 rfl rfl) ?_
  intro a6 ha6; clear ha5 a5
  refine wpList_nil ?_
  refine then_n ?_
  refine wp_seq ?_
  refine wp_seq ?_
  refine wp_region_lit ?_
  refine wl_val ha6 rfl rfl rfl (op_move ha6 rfl rfl) ?_
  intro a7 ha7; clear ha6 a6
  refine wl_val ha7 rfl rfl rfl (op_lss ha7 rfl rfl rfl) ?_
  intro a8 ha8; clear ha7 a7
  refine wpList_nil ?_
  refine then_n ?_
  by_cases c9 : (left - ((a.length : Nat) : Int)) < (0 : Int)
  ·
    rw [decide_eq_true c9] at ha8
    refine cond_t ha8 rfl ?_
    refine wp_seq ?_
    refine wp_region_lit ?_
    refine wl_val ha8 rfl rfl rfl (op_assign ha8 rfl rfl) ?_
    intro a10 ha10; clear ha8 a8
    refine wpList_nil ?_
    refine then_n ?_
    refine wp_ret ?_
    refine then_r ?_
    refine ret1 ha10 rfl rfl ?_
    clear ha10 a10
    
    exact ret_mk hx0 (int_eq (by unfold costL; rw [szR_if (by omega)]))
  ·
    rw [decide_eq_false c9] at ha8
    refine cond_f ha8 rfl ?_
    refine wp_skip ?_
    refine then_n ?_
    refine wp_seq ?_
    refine wp_seq ?_
    refine wp_region_lit ?_
    refine wl_val ha8 rfl rfl rfl (op_assign ha8 rfl rfl) ?_
    intro a11 ha11; clear ha8 a8
    refine wpList_nil ?_
    refine then_n ?_
    refine wp_block ?_
    refine loop_inv (X := Nat × Int) (fun (⟨i, n⟩ : Nat × Int) fr wl => Sl 27 fr [(0, v_a), (1, .int .i64 n), (5, .int .i64 ((i : Nat) : Int))] ∧ Ext w0 wl ∧ w0.heap.size ≤ wl.heap.size ∧ (i ≤ a.length) ∧ (0 ≤ n) ∧ (n ≤ 1048576) ∧ (szR n (sumC costVr (a.drop i)) = szR left (costL costVr a))) (fun (⟨i, n⟩ : Nat × Int) => a.length - i) (0, (left - ((a.length : Nat) : Int))) ?_ ?_
    ·
      exact ⟨(Sl.cons_ ha11 rfl rfl (Sl.cons_ ha11 rfl (int_eq (by omega)) (Sl.cons_ ha11 rfl (int_eq (by omega)) (Sl.nil_ ha11)))), hx0, (by omega), (by omega), (by omega), (by omega), (by unfold costL; rw [szR_add (by rw [szR_nif (by omega)]; omega), szR_nif (k := a.length) (by omega)]; rfl)⟩
    ·
      clear ha11 a11
      rintro ⟨i, n⟩ a14 w12 ⟨ha14, hx13, hzl15, hi, hn0, hn1, hF⟩
      have hzhx13 := hx13.size
      refine wp_seq ?_
      refine wp_seq ?_
      refine wp_region_lit ?_
      refine wl_val ha14 rfl rfl rfl (op_move ha14 rfl rfl) ?_
      intro a16 ha16; clear ha14 a14
      refine wl_val ha16 rfl rfl rfl (op_move ha16 rfl rfl) ?_
      intro a17 ha17; clear ha16 a16
      refine wl_val ha17 rfl rfl rfl (op_len_sl ha17 rfl Try.underlying22 rfl h_a) ?_
      intro a18 ha18; clear ha17 a17
      refine wl_val ha18 rfl rfl rfl (op_lss ha18 rfl rfl rfl) ?_
      intro a19 ha19; clear ha18 a18
      refine wpList_nil ?_
      refine then_n ?_
      by_cases c20 : ((i : Nat) : Int) < ((a.length : Nat) : Int)
      ·
        rw [decide_eq_true c20] at ha19
        refine cond_t ha19 rfl ?_
        refine wp_skip ?_
        refine then_n ?_
        refine wp_seq ?_
        refine wp_block ?_
        refine wp_seq ?_
        refine wp_region_lit ?_
        refine wl_val ha19 rfl rfl rfl (op_move ha19 rfl rfl) ?_
        intro a21 ha21; clear ha19 a19
        refine wl_val ha21 rfl rfl rfl (op_move ha21 rfl rfl) ?_
        intro a22 ha22; clear ha21 a21
        obtain ⟨x23, hx23⟩ := get_ex (xs := a) (j := i) (by omega)
        obtain ⟨p24, c25, hi26, hc27, hr28, hs29⟩ := Rds.at_ h_a hx23
        obtain ⟨v30, rfl, b31, b32⟩ := inv_shVer hr28
        have hlb32 := b32.length_le
        refine wl_val ha22 rfl rfl rfl (op_indexAddr ha22 rfl Try.underlying22 ti69 rfl rfl (by omega) hi26) ?_
        intro a33 ha33; clear ha22 a22
        refine wl_val ha33 rfl rfl rfl (op_loadS ha33 rfl Try.underlying69 ti69 rfl rfl (hc27.ext hx13)) ?_
        intro a34 ha34; clear ha33 a33
        refine wl_val ha34 rfl rfl rfl (op_move ha34 rfl rfl) ?_
        intro a35 ha35; clear ha34 a34
        refine wl_callR ha35 rfl rfl rfl (op_call ha35 rfl cb49 rfl) (c_laws_szVersion _ v30 x23 n (b32.ext pos_shLine hx13) (by first | assumption | omega | (simp; omega) | (simp [mkN_length]; omega)) (by first | assumption | omega | (simp; omega) | (simp [mkN_length]; omega))) ?_
        rintro v36 w37 he38 rfl a39 ha39; clear ha35 a35
        have hx40 := hx13.trans' he38
        have hzhx40 := he38.size
        refine wl_val ha39 rfl rfl rfl (op_assign ha39 rfl rfl) ?_
        intro a41 ha41; clear ha39 a39
        refine wpList_nil ?_
        refine then_n ?_
        refine wp_seq ?_
        refine wp_region_lit ?_
        refine wl_val ha41 rfl rfl rfl (op_move ha41 rfl rfl) ?_
        intro a42 ha42; clear ha41 a41
        refine wl_val ha42 rfl rfl rfl (op_lss ha42 rfl rfl rfl) ?_
        intro a43 ha43; clear ha42 a42
        refine wpList_nil ?_
        refine then_n ?_
        by_cases c44 : (szR n (costVr x23) : Int) < (0 : Int)
        ·
          rw [decide_eq_true c44] at ha43
          refine cond_t ha43 rfl ?_
          refine wp_seq ?_
          refine wp_region_lit ?_
          refine wl_val ha43 rfl rfl rfl (op_assign ha43 rfl rfl) ?_
          intro a45 ha45; clear ha43 a43
          refine wpList_nil ?_
          refine then_n ?_
          refine wp_ret ?_
          refine block_r ?_
          refine then_r ?_
          refine then_r ?_
          refine block_r ?_
          refine then_r ?_
          refine ret1 ha45 rfl rfl ?_
          clear ha45 a45
          rw [drop_cons hx23] at hF
          simp only [sumC] at hF
          rw [szR_neg (by first | omega | (unfold costVr; omega))] at hF
          exact ret_mk hx40 (int_eq (by exact hF))
        ·
          rw [decide_eq_false c44] at ha43
          refine cond_f ha43 rfl ?_
          refine wp_skip ?_
          refine block_n ?_
          refine then_n ?_
          refine wp_region_lit ?_
          refine wl_val ha43 rfl rfl rfl (op_move ha43 rfl rfl) ?_
          intro a46 ha46; clear ha43 a43
          refine wl_val ha46 rfl rfl rfl ((op_add ha46 rfl rfl rfl).int (IntWalk.i64_in _ (by omega))) ?_
          intro a47 ha47; clear ha46 a46
          refine wl_val ha47 rfl rfl rfl (op_assign ha47 rfl rfl) ?_
          intro a48 ha48; clear ha47 a47
          refine wpList_nil ?_
          refine round_end (x := (i, n)) ((i + 1), (szR n (costVr x23) : Int)) ?_ ?_
          ·
            refine ⟨(Sl.cons_ ha48 rfl rfl (Sl.cons_ ha48 rfl (int_eq (by omega)) (Sl.cons_ ha48 rfl (int_eq (by omega)) (Sl.nil_ ha48)))), hx40, (by omega), (by omega), (by omega), (by have := szR_le (k := costVr x23) hn0; first | omega | (unfold costVr at *; omega)), (by rw [drop_cons hx23] at hF; simp only [sumC] at hF; rw [szR_add (by omega)] at hF; exact hF)⟩
          · show (a.length - ((i + 1)) : Nat) < a.length - i; omega
      ·
        rw [decide_eq_false c20] at ha19
        refine cond_f ha19 rfl ?_
        refine wp_exit ?_
        refine then_e ?_
        refine then_e ?_
        refine block_hit ?_
        refine then_n ?_
        refine wp_seq ?_
        refine wp_region_lit ?_
        refine wl_val ha19 rfl rfl rfl (op_move ha19 rfl rfl) ?_
        intro a49 ha49; clear ha19 a19
        refine wl_val ha49 rfl rfl rfl (op_assign ha49 rfl rfl) ?_
        intro a50 ha50; clear ha49 a49
        refine wpList_nil ?_
        refine then_n ?_
        refine wp_ret ?_
        refine ret1 ha50 rfl rfl ?_
        clear ha50 a50
        rw [drop_nil (by omega)] at hF
        simp only [sumC] at hF
        rw [szR_zero (by omega)] at hF
        exact ret_mk hx13 (int_eq (by exact hF))

theorem c_laws_toVersion (w0 : World) (v_a1 : Value) (a : Int × List (Str × Int)) {S_a1 : Nat → Prop} (h_a1 : Rds shLine S_a1 w0 v_a1 a.2) (g0 : a.2.length ≤ 1048576) :
    Calls Try.prog 53 #[.agg #[.int .i64 a.1, v_a1]] w0 (Ret w0 (fun v w1 => ∃ r0_1, v = .agg #[.int .i64 ((a)).1, r0_1] ∧ Own shLine 83 w0.heap.size w0.heap.size w1.heap.size w1 r0_1 ((a).2))) := by
  refine enter (N := 12) Try.func53 rfl rfl rfl ?_
  intro a0 ha0
  have hx0 := Ext.rfl' w0
  have hl_a1 := h_a1.length_le
  refine wp_seq ?_
  refine wp_region_lit ?_
  refine wl_eff ha0 rfl rfl rfl (op_box' ha0 rfl rfl rfl) ?_
  rintro _ w2 ⟨rfl, he3, hb4, hz5⟩ a6 ha6; clear ha0 a0
  have hx7 := hx0.trans' he3
  have hzhx7 := he3.size
  refine wl_eff ha6 rfl rfl rfl (op_alloc' rfl ti56 rfl) ?_
  rintro _ w9 ⟨rfl, he10, hb11, hz12⟩ a13 ha13; clear ha6 a6
  have hx14 := hx7.trans' he10
  have hzhx14 := he10.size
  replace hb4 := hb4.ext he10
  refine wpList_nil ?_
  refine then_n ?_
  refine wp_seq ?_
  refine wp_region_lit ?_
  refine wl_eff ha13 rfl rfl rfl (op_alloc' rfl ti56 rfl) ?_
  rintro _ w16 ⟨rfl, he17, hb18, hz19⟩ a20 ha20; clear ha13 a13
  have hx21 := hx14.trans' he17
  have hzhx21 := he17.size
  replace hb4 := hb4.ext he17
  replace hb11 := hb11.ext he17
  refine wpList_nil ?_
  refine then_n ?_
  refine wp_seq ?_
  refine wp_region_lit ?_
  refine wl_val ha20 rfl rfl rfl (op_fieldAddr (sz := 0) ha20 rfl Try.underlying69 rfl rfl ti2 rfl) ?_
  intro a22 ha22; clear ha20 a20
  refine wl_val ha22 rfl rfl rfl (op_loadF (off := 0) ha22 rfl Try.underlying2 rfl rfl hb4.cells rfl) ?_
  intro a23 ha23; clear ha22 a22
  refine wl_val ha23 rfl rfl rfl (op_fieldAddr (sz := 0) ha23 rfl Try.underlying56 rfl rfl ti2 rfl) ?_
  intro a24 ha24; clear ha23 a23
  refine wl_effS ha24 rfl rfl (op_store' (off := 0) ha24 rfl ti2 rfl rfl hb18 rfl rfl (by simp [Value.oneCell']) (Nat.le_of_ble_eq_true rfl)) ?_
  rintro w25 ⟨hb27, hst26, hz28⟩
  have hx29 := hx21.stp hst26 (by intro q hq; cases hq; exact (by omega))
  have hzhx29 := hst26.size
  replace hb4 := hb4.stp hst26 (by intro q hq; cases hq; omega)
  replace hb11 := hb11.stp hst26 (by intro q hq; cases hq; omega)
  clear hb18
  refine wpList_nil ?_
  refine then_n ?_
  refine wp_seq ?_
  refine wp_region_lit ?_
  refine wl_val ha24 rfl rfl rfl (op_fieldAddr (sz := 0) ha24 rfl Try.underlying69 rfl rfl ti67 rfl) ?_
  intro a30 ha30; clear ha24 a24
  refine wl_val ha30 rfl rfl rfl (op_loadF (off := 1) ha30 rfl Try.underlying67 rfl rfl hb4.cells rfl) ?_
  intro a31 ha31; clear ha30 a30
  refine wl_callR ha31 rfl rfl rfl (op_call ha31 rfl cb86 rfl) (c_laws_toLineS _ v_a1 a.2 (h_a1.ext pos_shLine hx29) (by first | assumption | omega | (simp; omega) | (simp [mkN_length]; omega))) ?_
  rintro v32 w33 he34 ho35 a36 ha36; clear ha31 a31
  have hx37 := hx29.trans' he34
  have hzhx37 := he34.size
  replace hb4 := hb4.ext he34
  replace hb11 := hb11.ext he34
  replace hb27 := hb27.ext he34
  refine wl_val ha36 rfl rfl rfl (op_fieldAddr (sz := 0) ha36 rfl Try.underlying56 rfl rfl ti34 rfl) ?_
  intro a38 ha38; clear ha36 a36
  refine wl_effS ha38 rfl rfl (op_store' (off := 1) ha38 rfl ti34 rfl rfl hb27 ho35.cells1 rfl (by intro u hu; have hu : u ∈ ([v32] : List Value) := hu; simp only [List.mem_cons, List.mem_nil_iff, or_false] at hu; rcases hu with rfl <;> first | rfl | exact ho35.one) (Nat.le_of_ble_eq_true rfl)) ?_
  rintro w39 ⟨hb41, hst40, hz42⟩
  have hx43 := hx37.stp hst40 (by intro q hq; cases hq; exact (by omega))
  have hzhx43 := hst40.size
  replace hb4 := hb4.stp hst40 (by intro q hq; cases hq; omega)
  replace hb11 := hb11.stp hst40 (by intro q hq; cases hq; omega)
  replace ho35 : Own shLine 83 w25.heap.size w25.heap.size w33.heap.size w39 v32 ((a.2)) := by first | exact ho35.stp hst40 (by intro q hq; cases hq; omega) | exact ho35.stpF flat_shLine hst40 (by intro q hq; cases hq; exact ho35.ne_box (by assumption) rfl)
  clear hb27
  refine wpList_nil ?_
  refine then_n ?_
  refine wp_seq ?_
  refine wp_region_lit ?_
  refine wl_val ha38 rfl rfl rfl (op_loadS ha38 rfl Try.underlying56 ti56 rfl rfl hb41.cells) ?_
  intro a44 ha44; clear ha38 a38
  refine wl_effS ha44 rfl rfl (op_storeAll' ha44 rfl ti56 rfl rfl hb11 rfl rfl (by intro u hu; have hu : u ∈ ([.int .i64 a.1, v32] : List Value) := hu; simp only [List.mem_cons, List.mem_nil_iff, or_false] at hu; rcases hu with rfl | rfl <;> first | rfl | exact ho35.one) rfl) ?_
  rintro w45 ⟨hb47, hst46, hz48⟩
  have hx49 := hx43.stp hst46 (by intro q hq; cases hq; exact (by omega))
  have hzhx49 := hst46.size
  replace hb4 := hb4.stp hst46 (by intro q hq; cases hq; omega)
  replace ho35 : Own shLine 83 w25.heap.size w25.heap.size w33.heap.size w45 v32 ((a.2)) := by first | exact ho35.stp hst46 (by intro q hq; cases hq; omega) | exact ho35.stpF flat_shLine hst46 (by intro q hq; cases hq; exact ho35.ne_box (by assumption) rfl)
  replace hb41 := hb41.stp hst46 (by intro q hq; cases hq; omega)
  clear hb11
  refine wpList_nil ?_
  refine then_n ?_
  refine wp_ret ?_
  refine retc ha44 rfl rfl Try.underlying56 ti56 rfl hb47.cells ?_
  clear ha44 a44
  refine ret_mk hx49 ⟨v32, (by rfl), ?_⟩
  ·
    refine (ho35.fin (by omega) (by omega) (by omega)).cast ?_
    rfl

theorem c_laws_toVersionS (w0 : World) (v_a : Value) (a : List (Int × List (Str × Int))) {S_a : Nat → Prop} (h_a : Rds shVer S_a w0 v_a a) (g0 : costL costVr a ≤ 1048576) :
    Calls Try.prog 10 #[v_a] w0 (Ret w0 (fun v w1 => ∃ z, Own shVerN 56 w0.heap.size w0.heap.size w1.heap.size w1 v z ∧ Nst shLine 83 (fun x : Int × List (Str × Int) => x.2) w0.heap.size w1.heap.size w1 z ∧ z.map (·.1) = (a))) := by
  refine enter (N := 23) Try.func10 rfl rfl rfl ?_
  intro a0 ha0
  have hx0 := Ext.rfl' w0
  have hl_a := h_a.length_le
  have hcl := costL_len costVr a
  refine wp_seq ?_
  refine wp_region_lit ?_
  refine wl_val ha0 rfl rfl rfl (op_assign ha0 rfl rfl) ?_
  intro a1 ha1; clear ha0 a0
  refine wpList_nil ?_
  refine then_n ?_
  refine wp_seq ?_
  refine wp_region_lit ?_
  refine wl_val ha1 rfl rfl rfl (op_move ha1 rfl rfl) ?_
  intro a2 ha2; clear ha1 a1
  refine wl_val ha2 rfl rfl rfl (op_len_sl ha2 rfl Try.underlying22 rfl h_a) ?_
  intro a3 ha3; clear ha2 a2
  refine wl_eff ha3 rfl rfl rfl (op_make (s := shVerN) (n := a.length) (k' := .i64) ha3 rfl Try.underlying27 ti56 pos_shVerN rfl (by omega) zero_shVerN (by omega) (by omega)) ?_
  rintro v4 w5 ⟨ho6, he7⟩ a8 ha8; clear ha3 a3
  have hx9 := hx0.trans' he7
  have hzhx9 := he7.size
  have hN10 : Nst shLine 83 (fun x : Int × List (Str × Int) => x.2) w0.heap.size w5.heap.size w5 ((List.replicate a.length (((0, []) : Int × List (Str × Int)), (.slice none 0 0 : Value)))) := Nst.zeros rfl
  refine wl_val ha8 rfl rfl rfl (op_assign ha8 rfl rfl) ?_
  intro a11 ha11; clear ha8 a8
  refine wpList_nil ?_
  refine then_n ?_
  refine wp_seq ?_
  refine wp_seq ?_
  refine wp_region_lit ?_
  refine wl_val ha11 rfl rfl rfl (op_assign ha11 rfl rfl) ?_
  intro a12 ha12; clear ha11 a11
  refine wpList_nil ?_
  refine then_n ?_
  refine wp_block ?_
  refine loop_inv (X := Nat × Value × (List ((Int × List (Str × Int)) × Value))) (fun (⟨i, v, zs⟩ : Nat × Value × (List ((Int × List (Str × Int)) × Value))) fr wl => Sl 23 fr [(0, v_a), (3, v), (4, .int .i64 ((i : Nat) : Int))] ∧ Ext w0 wl ∧ Own shVerN 56 w0.heap.size w0.heap.size wl.heap.size wl v zs ∧ Nst shLine 83 (fun x : Int × List (Str × Int) => x.2) w0.heap.size wl.heap.size wl zs ∧ w5.heap.size ≤ wl.heap.size ∧ (i ≤ a.length) ∧ (zs.length = a.length) ∧ ((zs.take i).map (·.1) = a.take i)) (fun (⟨i, v, zs⟩ : Nat × Value × (List ((Int × List (Str × Int)) × Value))) => a.length - i) (0, v4, (List.replicate a.length (((0, []) : Int × List (Str × Int)), (.slice none 0 0 : Value)))) ?_ ?_
  ·
    exact ⟨(Sl.cons_ ha12 rfl rfl (Sl.cons_ ha12 rfl rfl (Sl.cons_ ha12 rfl (int_eq (by omega)) (Sl.nil_ ha12)))), hx9, (ho6.fin (by omega) (by omega) (by omega)), (hN10.fin (by omega) (by omega)), (by omega), (by omega), (by simp), (by simp)⟩
  ·
    clear ha12 a12
    rintro ⟨i, v, zs⟩ a17 w13 ⟨ha17, hx14, hf15, hf16, hzl18, hi, hl, hF⟩
    have hzhx14 := hx14.size
    refine wp_seq ?_
    refine wp_seq ?_
    refine wp_region_lit ?_
    refine wl_val ha17 rfl rfl rfl (op_move ha17 rfl rfl) ?_
    intro a19 ha19; clear ha17 a17
    refine wl_val ha19 rfl rfl rfl (op_move ha19 rfl rfl) ?_
    intro a20 ha20; clear ha19 a19
    refine wl_val ha20 rfl rfl rfl (op_len_sl ha20 rfl Try.underlying22 rfl h_a) ?_
    intro a21 ha21; clear ha20 a20
    refine wl_val ha21 rfl rfl rfl (op_lss ha21 rfl rfl rfl) ?_
    intro a22 ha22; clear ha21 a21
    refine wpList_nil ?_
    refine then_n ?_
    by_cases c23 : ((i : Nat) : Int) < ((a.length : Nat) : Int)
    ·
      rw [decide_eq_true c23] at ha22
      refine cond_t ha22 rfl ?_
      refine wp_skip ?_
      refine then_n ?_
      refine wp_seq ?_
      refine wp_block ?_
      refine wp_region_lit ?_
      refine wl_val ha22 rfl rfl rfl (op_move ha22 rfl rfl) ?_
      intro a24 ha24; clear ha22 a22
      refine wl_val ha24 rfl rfl rfl (op_move ha24 rfl rfl) ?_
      intro a25 ha25; clear ha24 a24
      refine wl_val ha25 rfl rfl rfl (op_move ha25 rfl rfl) ?_
      intro a26 ha26; clear ha25 a25
      refine wl_val ha26 rfl rfl rfl (op_move ha26 rfl rfl) ?_
      intro a27 ha27; clear ha26 a26
      obtain ⟨x28, hx28⟩ := get_ex (xs := a) (j := i) (by omega)
      obtain ⟨p29, c30, hi31, hc32, hr33, hs34⟩ := Rds.at_ h_a hx28
      obtain ⟨v35, rfl, b36, b37⟩ := inv_shVer hr33
      have hlb37 := b37.length_le
      have hcmx28 := cost_mem (c := costVr) (List.mem_of_getElem? hx28)
      have hcnx28 := costL_len costLn x28.2
      have hcux28 : costL costLn x28.2 ≤ costVr x28 := by unfold costVr; omega
      refine wl_val ha27 rfl rfl rfl (op_indexAddr ha27 rfl Try.underlying22 ti69 rfl rfl (by omega) hi31) ?_
      intro a38 ha38; clear ha27 a27
      refine wl_val ha38 rfl rfl rfl (op_loadS ha38 rfl Try.underlying69 ti69 rfl rfl (hc32.ext hx14)) ?_
      intro a39 ha39; clear ha38 a38
      refine wl_callR ha39 rfl rfl rfl (op_call ha39 rfl cb53 rfl) (c_laws_toVersion _ v35 x28 (b37.ext pos_shLine hx14) (by first | assumption | omega | (simp; omega) | (simp [mkN_length]; omega))) ?_
      rintro v40 w41 he42 ⟨u43, rfl, ho44⟩ a45 ha45; clear ha39 a39
      have hx46 := hx14.trans' he42
      have hzhx46 := he42.size
      replace hf15 := hf15.ext he42
      replace hf16 := hf16.ext he42
      obtain ⟨x47, hx47⟩ := get_ex (xs := zs) (j := i) (by omega)
      obtain ⟨p48, c49, hi50, hc51, hr52, hs53⟩ := Rds.at_ (hf15.rds pos_shVerN) hx47
      obtain ⟨rfl, b54, b55⟩ := inv_shVerN hr52
      have hn56 : Own shLine 83 w0.heap.size w0.heap.size w13.heap.size w41 x47.2 x47.1.2 := hf16.get hx47
      obtain ⟨_, _⟩ : _ ∧ _ := hs53
      refine wl_val ha45 rfl rfl rfl (op_indexAddr ha45 rfl Try.underlying27 ti56 rfl rfl (by omega) hi50) ?_
      intro a57 ha57; clear ha45 a45
      refine wl_effS ha57 rfl rfl (op_setElem (s := shVerN) (ds := [.int .i64 ((x28)).1, u43]) (S' := fun _ => False) ha57 rfl ti56 rfl rfl rfl hf15 pos_shVerN hi50 (by omega) (mk_shVerN (((x28), (u43 : Value))) (by first | assumption | omega | (simp; omega)) ho44.one) (fun _ h => h.elim)) ?_
      rintro w58 ⟨ho60, hst59, hz61⟩
      have hx62 := hx46.stp hst59 (by intro q hq; have hq0 := hf15.lt q hq; omega)
      have hzhx62 := hst59.size
      replace hf16 : Nst shLine 83 (fun x : Int × List (Str × Int) => x.2) w0.heap.size w13.heap.size w58 zs := by first | exact hf16.stpF flat_shLine hst59 hf15 rfl | exact hf16.stp hst59 (by intro q hq; have hq0 := hf15.lt q hq; omega)
      replace ho44 : Own shLine 83 w13.heap.size w13.heap.size w41.heap.size w58 u43 (((x28).2)) := by first | exact ho44.stp hst59 (by intro q hq; have hq0 := hf15.lt q hq; omega) | exact ho44.stpF flat_shLine hst59 (ho44.ne hf15 rfl)
      replace hn56 : Own shLine 83 w0.heap.size w0.heap.size w13.heap.size w58 x47.2 x47.1.2 := by first | exact hn56.stp hst59 (by intro q hq; have hq0 := hf15.lt q hq; omega) | exact hn56.stpF flat_shLine hst59 (hn56.ne hf15 rfl)
      clear hf15
      have hlsho60 : ((zs.set i (((x28), (u43 : Value))))).length = zs.length := List.length_set
      have hN63 : Nst shLine 83 (fun x : Int × List (Str × Int) => x.2) w0.heap.size w41.heap.size w58 ((zs.set i (((x28), (u43 : Value))))) := hf16.set ho44 (by omega) (by omega) (by omega)
      refine wpList_nil ?_
      refine block_n ?_
      refine then_n ?_
      refine wp_region_lit ?_
      refine wl_val ha57 rfl rfl rfl (op_move ha57 rfl rfl) ?_
      intro a64 ha64; clear ha57 a57
      refine wl_val ha64 rfl rfl rfl ((op_add ha64 rfl rfl rfl).int (IntWalk.i64_in _ (by omega))) ?_
      intro a65 ha65; clear ha64 a64
      refine wl_val ha65 rfl rfl rfl (op_assign ha65 rfl rfl) ?_
      intro a66 ha66; clear ha65 a65
      refine wpList_nil ?_
      refine round_end (x := (i, v, zs)) ((i + 1), v, (zs.set i (((x28), (u43 : Value))))) ?_ ?_
      ·
        refine ⟨(Sl.cons_ ha66 rfl rfl (Sl.cons_ ha66 rfl rfl (Sl.cons_ ha66 rfl (int_eq (by omega)) (Sl.nil_ ha66)))), hx62, (ho60.fin (by omega) (by omega) (by omega)), (hN63.fin (by omega) (by omega)), (by omega), (by omega), (by simpa using hl), (by exact setN_take hF hl hx28)⟩
      · show (a.length - ((i + 1)) : Nat) < a.length - i; omega
    ·
      rw [decide_eq_false c23] at ha22
      refine cond_f ha22 rfl ?_
      refine wp_exit ?_
      refine then_e ?_
      refine then_e ?_
      refine block_hit ?_
      refine then_n ?_
      refine wp_seq ?_
      refine wp_region_lit ?_
      refine wl_val ha22 rfl rfl rfl (op_move ha22 rfl rfl) ?_
      intro a67 ha67; clear ha22 a22
      refine wl_val ha67 rfl rfl rfl (op_assign ha67 rfl rfl) ?_
      intro a68 ha68; clear ha67 a67
      refine wpList_nil ?_
      refine then_n ?_
      refine wp_ret ?_
      refine ret1 ha68 rfl rfl ?_
      clear ha68 a68
      refine ret_mk hx14 ⟨zs, hf15.fin (by omega) (by omega) (by omega), hf16.fin (by omega) (by omega), ?_⟩
      ·
        exact map_take_all hF hl (by omega)

theorem c_laws_eqVersion (w0 : World) (v_a1 : Value) (a : Int × List (Str × Int)) {S_a1 : Nat → Prop} (v_b1 : Value) (b : Int × List (Str × Int)) {S_b1 : Nat → Prop} (h_a1 : Rds shLine S_a1 w0 v_a1 a.2) (h_b1 : Rds shLine S_b1 w0 v_b1 b.2) :
    Calls Try.prog 57 #[.agg #[.int .i64 a.1, v_a1], .agg #[.int .i64 b.1, v_b1]] w0 (Ret w0 (fun v _ => v = .bool (decide (a = b)))) := by
  refine enter (N := 16) Try.func57 rfl rfl rfl ?_
  intro a0 ha0
  have hx0 := Ext.rfl' w0
  have hl_a1 := h_a1.length_le
  have hl_b1 := h_b1.length_le
  refine wp_seq ?_
  refine wp_region_lit ?_
  refine wl_eff ha0 rfl rfl rfl (op_box' ha0 rfl rfl rfl) ?_
  rintro _ w2 ⟨rfl, he3, hb4, hz5⟩ a6 ha6; clear ha0 a0
  have hx7 := hx0.trans' he3
  have hzhx7 := he3.size
  refine wl_eff ha6 rfl rfl rfl (op_box' ha6 rfl rfl rfl) ?_
  rintro _ w9 ⟨rfl, he10, hb11, hz12⟩ a13 ha13; clear ha6 a6
  have hx14 := hx7.trans' he10
  have hzhx14 := he10.size
  replace hb4 := hb4.ext he10
  refine wl_val ha13 rfl rfl rfl (op_assign ha13 rfl rfl) ?_
  intro a15 ha15; clear ha13 a13
  refine wpList_nil ?_
  refine then_n ?_
  refine wp_seq ?_
  refine wp_seq ?_
  refine wp_region_lit ?_
  refine wl_val ha15 rfl rfl rfl (op_fieldAddr (sz := 0) ha15 rfl Try.underlying56 rfl rfl ti2 rfl) ?_
  intro a16 ha16; clear ha15 a15
  refine wl_val ha16 rfl rfl rfl (op_loadF (off := 0) ha16 rfl Try.underlying2 rfl rfl hb4.cells rfl) ?_
  intro a17 ha17; clear ha16 a16
  refine wl_val ha17 rfl rfl rfl (op_fieldAddr (sz := 0) ha17 rfl Try.underlying56 rfl rfl ti2 rfl) ?_
  intro a18 ha18; clear ha17 a17
  refine wl_val ha18 rfl rfl rfl (op_loadF (off := 0) ha18 rfl Try.underlying2 rfl rfl hb11.cells rfl) ?_
  intro a19 ha19; clear ha18 a18
  refine wl_val ha19 rfl rfl rfl ((op_neq ha19 rfl rfl rfl).to (congrArg Value.bool decide_not)) ?_
  intro a20 ha20; clear ha19 a19
  refine wpList_nil ?_
  refine then_n ?_
  by_cases c21 : a.1 = b.1
  ·
    rw [decide_eq_true c21] at ha20
    refine cond_f ha20 rfl ?_
    refine wp_skip ?_
    refine then_n ?_
    refine wp_seq ?_
    refine wp_seq ?_
    refine wp_region_lit ?_
    refine wl_val ha20 rfl rfl rfl (op_fieldAddr (sz := 0) ha20 rfl Try.underlying56 rfl rfl ti34 rfl) ?_
    intro a22 ha22; clear ha20 a20
    refine wl_val ha22 rfl rfl rfl (op_loadF (off := 1) ha22 rfl Try.underlying34 rfl rfl hb4.cells rfl) ?_
    intro a23 ha23; clear ha22 a22
    refine wl_val ha23 rfl rfl rfl (op_fieldAddr (sz := 0) ha23 rfl Try.underlying56 rfl rfl ti34 rfl) ?_
    intro a24 ha24; clear ha23 a23
    refine wl_val ha24 rfl rfl rfl (op_loadF (off := 1) ha24 rfl Try.underlying34 rfl rfl hb11.cells rfl) ?_
    intro a25 ha25; clear ha24 a24
    refine wl_callR ha25 rfl rfl rfl (op_call ha25 rfl cb19 rfl) (c_laws_eqLineS _ v_a1 a.2 v_b1 b.2 (h_a1.ext pos_shLine hx14) (h_b1.ext pos_shLine hx14)) ?_
    rintro v26 w27 he28 rfl a29 ha29; clear ha25 a25
    have hx30 := hx14.trans' he28
    have hzhx30 := he28.size
    replace hb4 := hb4.ext he28
    replace hb11 := hb11.ext he28
    refine wl_val ha29 rfl rfl rfl (op_not ha29 rfl rfl) ?_
    intro a31 ha31; clear ha29 a29
    refine wpList_nil ?_
    refine then_n ?_
    rcases Bool.eq_false_or_eq_true (eqL a.2 b.2) with c32 | c32
    ·
      rw [c32] at ha31
      refine cond_f ha31 rfl ?_
      refine wp_skip ?_
      refine then_n ?_
      refine wp_seq ?_
      refine wp_region_lit ?_
      refine wl_val ha31 rfl rfl rfl (op_assign ha31 rfl rfl) ?_
      intro a33 ha33; clear ha31 a31
      refine wpList_nil ?_
      refine then_n ?_
      refine wp_ret ?_
      refine ret1 ha33 rfl rfl ?_
      clear ha33 a33
      exact ret_mk hx30 (congrArg Value.bool (by first | (simp [eqL, Prod.ext_iff, c21, c32]; done) | (simp [eqL, Prod.ext_iff, c21, c32]; omega) | (simp_all [eqL, Prod.ext_iff]; done) | (simp_all [eqL, Prod.ext_iff]; omega)))
    ·
      rw [c32] at ha31
      refine cond_t ha31 rfl ?_
      refine wp_seq ?_
      refine wp_region_lit ?_
      refine wl_val ha31 rfl rfl rfl (op_assign ha31 rfl rfl) ?_
      intro a34 ha34; clear ha31 a31
      refine wpList_nil ?_
      refine then_n ?_
      refine wp_ret ?_
      refine then_r ?_
      refine ret1 ha34 rfl rfl ?_
      clear ha34 a34
      exact ret_mk hx30 (congrArg Value.bool (by first | (simp [eqL, Prod.ext_iff, c21, c32]; done) | (simp [eqL, Prod.ext_iff, c21, c32]; omega) | (simp_all [eqL, Prod.ext_iff]; done) | (simp_all [eqL, Prod.ext_iff]; omega)))
  ·
    rw [decide_eq_false c21] at ha20
    refine cond_t ha20 rfl ?_
    refine wp_seq ?_
    refine wp_region_lit ?_
    refine wl_val ha20 rfl rfl rfl (op_assign ha20 rfl rfl) ?_
    intro a35 ha35; clear ha20 a20
    refine wpList_nil ?_
    refine then_n ?_
    refine wp_ret ?_
    refine then_r ?_
    refine ret1 ha35 rfl rfl ?_
    clear ha35 a35
    exact ret_mk hx14 (congrArg Value.bool (by first | (simp [eqL, Prod.ext_iff, c21]; done) | (simp [eqL, Prod.ext_iff, c21]; omega) | (simp_all [eqL, Prod.ext_iff]; done) | (simp_all [eqL, Prod.ext_iff]; omega)))

theorem c_laws_eqVersionS (w0 : World) (v_a : Value) (a : List (Int × List (Str × Int))) {S_a : Nat → Prop} (v_b : Value) (b : List (Int × List (Str × Int))) {S_b : Nat → Prop} (h_a : Rds shVer S_a w0 v_a a) (h_b : Rds shVer S_b w0 v_b b) :
    Calls Try.prog 13 #[v_a, v_b] w0 (Ret w0 (fun v _ => v = .bool (eqL a b))) := by
  refine enter (N := 27) Try.func13 rfl rfl rfl ?_
  intro a0 ha0
  have hx0 := Ext.rfl' w0
  have hl_a := h_a.length_le
  have hl_b := h_b.length_le
  refine wp_seq ?_
  refine wp_region_lit ?_
  refine wl_val ha0 rfl rfl rfl (op_assign ha0 rfl rfl) ?_
  intro a1 ha1; clear ha0 a0
  refine wpList_nil ?_
  refine then_n ?_
  refine wp_seq ?_
  refine wp_seq ?_
  refine wp_region_lit ?_
  refine wl_val ha1 rfl rfl rfl (op_move ha1 rfl rfl) ?_
  intro a2 ha2; clear ha1 a1
  refine wl_val ha2 rfl rfl rfl (op_len_sl ha2 rfl Try.underlying27 rfl h_a) ?_
  intro a3 ha3; clear ha2 a2
  refine wl_val ha3 rfl rfl rfl (op_move ha3 rfl rfl) ?_
  intro a4 ha4; clear ha3 a3
  refine wl_val ha4 rfl rfl rfl (op_len_sl ha4 rfl Try.underlying27 rfl h_b) ?_
  intro a5 ha5; clear ha4 a4
  refine wl_val ha5 rfl rfl rfl ((op_neq ha5 rfl rfl rfl).to (congrArg Value.bool decide_not)) ?_
  intro a6 ha6; clear ha5 a5
  refine wpList_nil ?_
  refine then_n ?_
  by_cases c7 : ((a.length : Nat) : Int) = ((b.length : Nat) : Int)
  ·
    rw [decide_eq_true c7] at ha6
    refine cond_f ha6 rfl ?_
    refine wp_skip ?_
    refine then_n ?_
    refine wp_seq ?_
    refine wp_seq ?_
    refine wp_region_lit ?_
    refine wl_val ha6 rfl rfl rfl (op_assign ha6 rfl rfl) ?_
    intro a8 ha8; clear ha6 a6
    refine wpList_nil ?_
    refine then_n ?_
    refine wp_block ?_
    refine loop_inv (X := Nat) (fun (i : Nat) fr wl => Sl 27 fr [(0, v_a), (1, v_b), (5, .int .i64 ((i : Nat) : Int))] ∧ Ext w0 wl ∧ w0.heap.size ≤ wl.heap.size ∧ (i ≤ a.length) ∧ (a.length = b.length) ∧ (eqL (a.drop i) (b.drop i) = eqL a b)) (fun (i : Nat) => a.length - i) (0) ?_ ?_
    ·
      exact ⟨(Sl.cons_ ha8 rfl rfl (Sl.cons_ ha8 rfl rfl (Sl.cons_ ha8 rfl (int_eq (by omega)) (Sl.nil_ ha8)))), hx0, (by omega), (by omega), (by omega), (by simp)⟩
    ·
      clear ha8 a8
      rintro i a11 w9 ⟨ha11, hx10, hzl12, hi, hl, hF⟩
      have hzhx10 := hx10.size
      refine wp_seq ?_
      refine wp_seq ?_
      refine wp_region_lit ?_
      refine wl_val ha11 rfl rfl rfl (op_move ha11 rfl rfl) ?_
      intro a13 ha13; clear ha11 a11
      refine wl_val ha13 rfl rfl rfl (op_move ha13 rfl rfl) ?_
      intro a14 ha14; clear ha13 a13
      refine wl_val ha14 rfl rfl rfl (op_len_sl ha14 rfl Try.underlying27 rfl h_a) ?_
      intro a15 ha15; clear ha14 a14
      refine wl_val ha15 rfl rfl rfl (op_lss ha15 rfl rfl rfl) ?_
      intro a16 ha16; clear ha15 a15
      refine wpList_nil ?_
      refine then_n ?_
      by_cases c17 : ((i : Nat) : Int) < ((a.length : Nat) : Int)
      ·
        rw [decide_eq_true c17] at ha16
        refine cond_t ha16 rfl ?_
        refine wp_skip ?_
        refine then_n ?_
        refine wp_seq ?_
        refine wp_block ?_
        refine wp_seq ?_
        refine dr_enter Ext follows_mixed ?_
        intro w18 he19
        have hx20 := hx10.trans' he19
        have hzhx20 := he19.size
        have hs21 : Ext w18 w18 := Ext.rfl' _
        refine dr_val (i := 0) ha16 rfl (by kernel_rfl) (by kernel_rfl) (by kernel_rfl) rfl rfl rfl hs21 (fun w' hw' => op_move ha16 rfl rfl) ?_
        intro a22 ha22; clear ha16 a16
        refine dr_val (i := 1) ha22 rfl (by kernel_rfl) (by kernel_rfl) (by kernel_rfl) rfl rfl rfl hs21 (fun w' hw' => op_move ha22 rfl rfl) ?_
        intro a23 ha23; clear ha22 a22
        obtain ⟨x24, hx24⟩ := get_ex (xs := a) (j := i) (by omega)
        obtain ⟨p25, c26, hi27, hc28, hr29, hs30⟩ := Rds.at_ h_a hx24
        obtain ⟨v31, rfl, b32, b33⟩ := inv_shVer hr29
        have hlb33 := b33.length_le
        refine dr_val (i := 2) ha23 rfl (by kernel_rfl) (by kernel_rfl) (by kernel_rfl) rfl rfl rfl hs21 (fun w' hw' => op_indexAddr ha23 rfl Try.underlying27 ti56 rfl rfl (by omega) hi27) ?_
        intro a34 ha34; clear ha23 a23
        refine dr_val (i := 3) ha34 rfl (by kernel_rfl) (by kernel_rfl) (by kernel_rfl) rfl rfl rfl hs21 (fun w' hw' => op_loadS ha34 rfl Try.underlying56 ti56 rfl rfl (hc28.ext (hx20.trans' hw'))) ?_
        intro a35 ha35; clear ha34 a34
        refine dr_val (i := 4) ha35 rfl (by kernel_rfl) (by kernel_rfl) (by kernel_rfl) rfl rfl rfl hs21 (fun w' hw' => op_move ha35 rfl rfl) ?_
        intro a36 ha36; clear ha35 a35
        refine dr_val (i := 5) ha36 rfl (by kernel_rfl) (by kernel_rfl) (by kernel_rfl) rfl rfl rfl hs21 (fun w' hw' => op_move ha36 rfl rfl) ?_
        intro a37 ha37; clear ha36 a36
        obtain ⟨x38, hx38⟩ := get_ex (xs := b) (j := i) (by omega)
        obtain ⟨p39, c40, hi41, hc42, hr43, hs44⟩ := Rds.at_ h_b hx38
        obtain ⟨v45, rfl, b46, b47⟩ := inv_shVer hr43
        have hlb47 := b47.length_le
        refine dr_val (i := 6) ha37 rfl (by kernel_rfl) (by kernel_rfl) (by kernel_rfl) rfl rfl rfl hs21 (fun w' hw' => op_indexAddr ha37 rfl Try.underlying27 ti56 rfl rfl (by omega) hi41) ?_
        intro a48 ha48; clear ha37 a37
        refine dr_val (i := 7) ha48 rfl (by kernel_rfl) (by kernel_rfl) (by kernel_rfl) rfl rfl rfl hs21 (fun w' hw' => op_loadS ha48 rfl Try.underlying56 ti56 rfl rfl (hc42.ext (hx20.trans' hw'))) ?_
        intro a49 ha49; clear ha48 a48
        refine dr_one (i := 8) (by kernel_rfl) ?_
        refine po_callR ha49 rfl rfl rfl rfl (op_call ha49 rfl cb57 rfl) (c_laws_eqVersion _ v31 x24 v45 x38 (b33.ext pos_shLine (hx20.trans' hs21)) (b47.ext pos_shLine (hx20.trans' hs21))) ?_
        rintro v50 w51 he52 rfl a53 ha53; clear ha49 a49
        have hs54 := hs21.trans' he52
        have hx55 := hx20.trans' he52
        have hzhx55 := he52.size
        refine ⟨hs54, ?_⟩
        refine dr_val (i := 9) ha53 rfl (by kernel_rfl) (by kernel_rfl) (by kernel_rfl) rfl rfl rfl hs54 (fun w' hw' => op_not ha53 rfl rfl) ?_
        intro a56 ha56; clear ha53 a53
        refine dr_end (by kernel_rfl) ?_
        refine then_n ?_
        rcases Bool.eq_false_or_eq_true (decide (x24 = x38)) with c57 | c57
        ·
          rw [c57] at ha56
          refine cond_f ha56 rfl ?_
          refine wp_skip ?_
          refine block_n ?_
          refine then_n ?_
          refine wp_region_lit ?_
          refine wl_val ha56 rfl rfl rfl (op_move ha56 rfl rfl) ?_
          intro a58 ha58; clear ha56 a56
          refine wl_val ha58 rfl rfl rfl ((op_add ha58 rfl rfl rfl).int (IntWalk.i64_in _ (by omega))) ?_
          intro a59 ha59; clear ha58 a58
          refine wl_val ha59 rfl rfl rfl (op_assign ha59 rfl rfl) ?_
          intro a60 ha60; clear ha59 a59
          refine wpList_nil ?_
          refine round_end (x := i) ((i + 1)) ?_ ?_
          ·
            refine ⟨(Sl.cons_ ha60 rfl rfl (Sl.cons_ ha60 rfl rfl (Sl.cons_ ha60 rfl (int_eq (by omega)) (Sl.nil_ ha60)))), hx55, (by omega), (by omega), (by exact hl), (by rw [eqL_step hx24 hx38] at hF; simpa [c7, c17, c57] using hF)⟩
          · show (a.length - ((i + 1)) : Nat) < a.length - i; omega
        ·
          rw [c57] at ha56
          refine cond_t ha56 rfl ?_
          refine wp_seq ?_
          refine wp_region_lit ?_
          refine wl_val ha56 rfl rfl rfl (op_assign ha56 rfl rfl) ?_
          intro a61 ha61; clear ha56 a56
          refine wpList_nil ?_
          refine then_n ?_
          refine wp_ret ?_
          refine block_r ?_
          refine then_r ?_
          refine then_r ?_
          refine block_r ?_
          refine then_r ?_
          refine ret1 ha61 rfl rfl ?_
          clear ha61 a61
          rw [eqL_step hx24 hx38] at hF
          exact ret_mk hx55 (congrArg Value.bool (by first | (simp [← hF, c7, c17, c57]; done) | (rw [← hF]; simp_all [eqL]; done)))
      ·
        rw [decide_eq_false c17] at ha16
        refine cond_f ha16 rfl ?_
        refine wp_exit ?_
        refine then_e ?_
        refine then_e ?_
        refine block_hit ?_
        refine then_n ?_
        refine wp_seq ?_
        refine wp_region_lit ?_
        refine wl_val ha16 rfl rfl rfl (op_assign ha16 rfl rfl) ?_
        intro a62 ha62; clear ha16 a16
        refine wpList_nil ?_
        refine then_n ?_
        refine wp_ret ?_
        refine ret1 ha62 rfl rfl ?_
        clear ha62 a62
        rw [drop_nil (by omega), drop_nil (by omega), eqL_nil] at hF
        exact ret_mk hx10 (congrArg Value.bool (by first | (simp [← hF, c7, c17]; done) | (rw [← hF]; simp_all [eqL]; done)))
  ·
    rw [decide_eq_false c7] at ha6
    refine cond_t ha6 rfl ?_
    refine wp_seq ?_
    refine wp_region_lit ?_
    refine wl_val ha6 rfl rfl rfl (op_assign ha6 rfl rfl) ?_
    intro a63 ha63; clear ha6 a6
    refine wpList_nil ?_
    refine then_n ?_
    refine wp_ret ?_
    refine then_r ?_
    refine ret1 ha63 rfl rfl ?_
    clear ha63 a63
    
    exact ret_mk hx0 (congrArg Value.bool (by rw [eqL_len (by omega)]))

theorem c_laws_markVersionS (w0 : World) (v_a : Value) (a : List ((Int × List (Str × Int)) × Value)) {lo_a hi_a : Nat} (k : Int) (h_a : Own shVerN 56 lo_a lo_a hi_a w0 v_a a) (n_a : Nst shLine 83 (fun x : Int × List (Str × Int) => x.2) lo_a hi_a w0 a) (k_a : hi_a ≤ w0.heap.size) (g0 : 0 ≤ k) (g1 : kkVr (a.map (·.1)) k ≤ 4611686018427) (g2 : (a.map (·.1)).length ≤ 4611686018427) :
    Calls Try.prog 14 #[v_a, .int .i64 k] w0 (RetI w0 lo_a hi_a (fun v w1 => ∃ z, v = .int .i64 (kkVr (a.map (·.1)) k) ∧ Own shVerN 56 lo_a lo_a hi_a w1 v_a z ∧ Nst shLine 83 (fun x : Int × List (Str × Int) => x.2) lo_a hi_a w1 z ∧ z.map (·.1) = mkVr (a.map (·.1)) k)) := by
  refine enter (N := 27) Try.func14 rfl rfl rfl ?_
  intro a0 ha0
  have hx0 := StpI.rfl' w0 lo_a hi_a
  have hl_a := (h_a.rds pos_shVerN).length_le
  have hln : (a.map (·.1)).length = a.length := List.length_map _
  refine wp_seq ?_
  refine wp_region_lit ?_
  refine wl_val ha0 rfl rfl rfl (op_assign ha0 rfl rfl) ?_
  intro a1 ha1; clear ha0 a0
  refine wpList_nil ?_
  refine then_n ?_
  refine wp_seq ?_
  refine wp_seq ?_
  refine wp_region_lit ?_
  refine wl_val ha1 rfl rfl rfl (op_assign ha1 rfl rfl) ?_
  intro a2 ha2; clear ha1 a1
  refine wpList_nil ?_
  refine then_n ?_
  refine wp_block ?_
  refine loop_inv (X := Nat × Int × (List ((Int × List (Str × Int)) × Value))) (fun (⟨i, q, zs⟩ : Nat × Int × (List ((Int × List (Str × Int)) × Value))) fr wl => Sl 27 fr [(0, v_a), (1, .int .i64 q), (5, .int .i64 ((i : Nat) : Int))] ∧ StpI w0 wl lo_a hi_a ∧ Own shVerN 56 lo_a lo_a hi_a wl v_a zs ∧ Nst shLine 83 (fun x : Int × List (Str × Int) => x.2) lo_a hi_a wl zs ∧ w0.heap.size ≤ wl.heap.size ∧ (i ≤ a.length) ∧ (zs.length = a.length) ∧ (0 ≤ q) ∧ (q ≤ kkVr ((a.map (·.1)).drop i) q) ∧ ((zs.drop i).map (·.1) = (a.map (·.1)).drop i) ∧ ((zs.take i).map (·.1) ++ mkVr ((a.map (·.1)).drop i) q = mkVr (a.map (·.1)) k) ∧ (kkVr ((a.map (·.1)).drop i) q = kkVr (a.map (·.1)) k)) (fun (⟨i, q, zs⟩ : Nat × Int × (List ((Int × List (Str × Int)) × Value))) => a.length - i) (0, k, a) ?_ ?_
  ·
    exact ⟨(Sl.cons_ ha2 rfl rfl (Sl.cons_ ha2 rfl (int_eq (by omega)) (Sl.cons_ ha2 rfl (int_eq (by omega)) (Sl.nil_ ha2)))), hx0, h_a, (n_a.fin (by omega) (by omega)), (by omega), (by omega), (by rfl), (by omega), (by exact kkVr_ge _ _), (by simp), (by simp), (by rfl)⟩
  ·
    clear ha2 a2
    rintro ⟨i, q, zs⟩ a7 w3 ⟨ha7, hx4, hf5, hf6, hzl8, hi, hl, hq0, hq1, hd, hF, hG⟩
    have hzhx4 := hx4.size
    have hbound : kkVr ((a.map (·.1)).drop i) q ≤ 4611686018427 := by rw [hG]; assumption
    refine wp_seq ?_
    refine wp_seq ?_
    refine wp_region_lit ?_
    refine wl_val ha7 rfl rfl rfl (op_move ha7 rfl rfl) ?_
    intro a9 ha9; clear ha7 a7
    refine wl_val ha9 rfl rfl rfl (op_move ha9 rfl rfl) ?_
    intro a10 ha10; clear ha9 a9
    refine wl_val ha10 rfl rfl rfl (op_len_sl ha10 rfl Try.underlying27 rfl (hf5.rds pos_shVerN)) ?_
    intro a11 ha11; clear ha10 a10
    refine wl_val ha11 rfl rfl rfl (op_lss ha11 rfl rfl rfl) ?_
    intro a12 ha12; clear ha11 a11
    refine wpList_nil ?_
    refine then_n ?_
    by_cases c13 : ((i : Nat) : Int) < ((zs.length : Nat) : Int)
    ·
      rw [decide_eq_true c13] at ha12
      refine cond_t ha12 rfl ?_
      refine wp_skip ?_
      refine then_n ?_
      refine wp_seq ?_
      refine wp_block ?_
      refine wp_seq ?_
      refine wp_region_lit ?_
      refine wl_val ha12 rfl rfl rfl (op_move ha12 rfl rfl) ?_
      intro a14 ha14; clear ha12 a12
      refine wl_val ha14 rfl rfl rfl (op_move ha14 rfl rfl) ?_
      intro a15 ha15; clear ha14 a14
      refine wl_val ha15 rfl rfl rfl (op_move ha15 rfl rfl) ?_
      intro a16 ha16; clear ha15 a15
      obtain ⟨x17, hx17⟩ := get_ex (xs := zs) (j := i) (by first | omega | (simp only [List.length_set]; omega))
      obtain ⟨p18, c19, hi20, hc21, hr22, hs23⟩ := Rds.at_ (hf5.rds pos_shVerN) hx17
      obtain ⟨rfl, b24, b25⟩ := inv_shVerN hr22
      have hn26 : Own shLine 83 lo_a lo_a hi_a w3 x17.2 x17.1.2 := hf6.get hx17
      obtain ⟨_, _⟩ : _ ∧ _ := hs23
      have hatx17 := mark_at hd hx17
      have hkkx17 : nxVr x17.1 q ≤ kkVr ((a.map (·.1)).drop i) q := by rw [drop_cons hatx17, kkVr]; exact kkVr_ge _ _
      unfold nxVr at hkkx17
      refine wl_val ha16 rfl rfl rfl (op_indexAddr ha16 rfl Try.underlying27 ti56 rfl rfl (by omega) hi20) ?_
      intro a27 ha27; clear ha16 a16
      refine wl_val ha27 rfl rfl rfl (op_fieldAddr (sz := 0) ha27 rfl Try.underlying56 rfl rfl ti2 rfl) ?_
      intro a28 ha28; clear ha27 a27
      refine wl_effS ha28 rfl rfl (op_setCells (s := shVerN) (off := 0) (ds := [.int .i64 q]) (S' := fun _ => False) ha28 rfl ti2 rfl rfl rfl rfl (by simp [Value.oneCell']) hf5 hi20 (by first | omega | (simp only [List.length_set]; omega)) (Nat.le_of_ble_eq_true rfl) hc21 rfl (mk_shVerN ((((q, x17.1.2) : Int × List (Str × Int)), (x17.2 : Value))) (by first | assumption | omega | (dsimp only; omega) | exact Nat.le_trans (mkT_len (by omega)) (by omega)) hn26.one) (fun _ h => h.elim)) ?_
      rintro w29 ⟨ho31, hst30, hz32⟩
      have hx33 := hx4.trans' (StpI.of_stp hst30 (by intro q hq; have hq0 := hf5.lt q hq; omega))
      have hzhx33 := hst30.size
      replace hf6 : Nst shLine 83 (fun x : Int × List (Str × Int) => x.2) lo_a hi_a w29 zs := by first | exact hf6.stpF flat_shLine hst30 hf5 rfl | exact hf6.stp hst30 (by intro q hq; have hq0 := hf5.lt q hq; omega)
      replace hn26 : Own shLine 83 lo_a lo_a hi_a w29 x17.2 x17.1.2 := by first | exact hn26.stp hst30 (by intro q hq; have hq0 := hf5.lt q hq; omega) | exact hn26.stpF flat_shLine hst30 (hn26.ne hf5 rfl)
      clear hf5
      have hlsho31 : ((zs.set i ((((q, x17.1.2) : Int × List (Str × Int)), (x17.2 : Value))))).length = zs.length := List.length_set
      have hN34 : Nst shLine 83 (fun x : Int × List (Str × Int) => x.2) lo_a hi_a w29 ((zs.set i ((((q, x17.1.2) : Int × List (Str × Int)), (x17.2 : Value))))) := hf6.stay hx17 rfl
      refine wpList_nil ?_
      refine then_n ?_
      refine wp_seq ?_
      refine wp_region_lit ?_
      refine wl_val ha28 rfl rfl rfl (op_move ha28 rfl rfl) ?_
      intro a35 ha35; clear ha28 a28
      refine wl_val ha35 rfl rfl rfl ((op_add ha35 rfl rfl rfl).int (IntWalk.i64_in _ (by omega))) ?_
      intro a36 ha36; clear ha35 a35
      refine wl_val ha36 rfl rfl rfl (op_assign ha36 rfl rfl) ?_
      intro a37 ha37; clear ha36 a36
      refine wpList_nil ?_
      refine then_n ?_
      refine wp_region_lit ?_
      refine wl_val ha37 rfl rfl rfl (op_move ha37 rfl rfl) ?_
      intro a38 ha38; clear ha37 a37
      refine wl_val ha38 rfl rfl rfl (op_move ha38 rfl rfl) ?_
      intro a39 ha39; clear ha38 a38
      obtain ⟨x40, hx40⟩ := get_ex (xs := (zs.set i ((((q, x17.1.2) : Int × List (Str × Int)), (x17.2 : Value))))) (j := i) (by first | omega | (simp only [List.length_set]; omega))
      obtain ⟨p41, c42, hi43, hc44, hr45, hs46⟩ := Rds.at_ (ho31.rds pos_shVerN) hx40
      obtain ⟨rfl, b47, b48⟩ := inv_shVerN hr45
      have hn49 : Own shLine 83 lo_a lo_a hi_a w29 x40.2 x40.1.2 := hN34.get hx40
      obtain ⟨_, _⟩ : _ ∧ _ := hs46
      have hqlx40 : x40.1.2.length = x17.1.2.length := congrArg (fun z => z.1.2.length) (hset_self hx40 (by first | omega | (simp only [List.length_set]; omega)))
      refine wl_val ha39 rfl rfl rfl (op_indexAddr ha39 rfl Try.underlying27 ti56 rfl rfl (by omega) hi43) ?_
      intro a50 ha50; clear ha39 a39
      refine wl_val ha50 rfl rfl rfl (op_fieldAddr (sz := 0) ha50 rfl Try.underlying56 rfl rfl ti34 rfl) ?_
      intro a51 ha51; clear ha50 a50
      refine wl_val ha51 rfl rfl rfl (op_loadF (off := 1) ha51 rfl Try.underlying34 rfl rfl hc44 rfl) ?_
      intro a52 ha52; clear ha51 a51
      refine wl_val ha52 rfl rfl rfl (op_move ha52 rfl rfl) ?_
      intro a53 ha53; clear ha52 a52
      refine wl_callS ha53 rfl rfl rfl (op_call ha53 rfl cb20 rfl) (c_laws_markLineS _ x40.2 x40.1.2 (q + (1 : Int)) hn49 (by first | assumption | omega | (simp; omega) | (have hat0 := mark_at hd (by assumption); omega)) (by first | assumption | omega | (simp; omega) | (have hat0 := mark_at hd (by assumption); omega)) (by first | assumption | omega | (simp; omega) | (have hat0 := mark_at hd (by assumption); omega))) ?_
      rintro v54 w55 he56 ⟨rfl, ho57⟩ a58 ha58; clear ha53 a53
      have hx59 := hx33.trans' (StpI.of_stp he56 (by intro q hq; have hq0 := hn49.lt q hq; omega))
      have hzhx59 := he56.size
      replace ho31 : Own shVerN 56 lo_a lo_a hi_a w55 v_a ((zs.set i ((((q, x17.1.2) : Int × List (Str × Int)), (x17.2 : Value))))) := by first | exact ho31.stp he56 (by intro q hq; have hq0 := hn49.lt q hq; omega) | exact ho31.stpF flat_shVerN he56 (ho31.ne hn49 rfl)
      clear hn49
      have ho60 : Own shVerN 56 lo_a lo_a hi_a w55 v_a ((((zs.set i ((((q, x17.1.2) : Int × List (Str × Int)), (x17.2 : Value))))).set i (((x40.1.1, (mkN mkLn 2 x40.1.2.length ((q + (1 : Int))))) : Int × List (Str × Int)), (x40.2 : Value)))) := ho31.ghost hx40 fun _ _ _ h => h
      have hN61 : Nst shLine 83 (fun x : Int × List (Str × Int) => x.2) lo_a hi_a w55 ((((zs.set i ((((q, x17.1.2) : Int × List (Str × Int)), (x17.2 : Value))))).set i (((x40.1.1, (mkN mkLn 2 x40.1.2.length ((q + (1 : Int))))) : Int × List (Str × Int)), (x40.2 : Value)))) := hN34.put flat_shLine hx40 he56 ho57 (.inl rfl) (by omega)
      clear ho31 hN34
      have hlsho60 : ((((zs.set i ((((q, x17.1.2) : Int × List (Str × Int)), (x17.2 : Value))))).set i (((x40.1.1, (mkN mkLn 2 x40.1.2.length ((q + (1 : Int))))) : Int × List (Str × Int)), (x40.2 : Value)))).length = ((zs.set i ((((q, x17.1.2) : Int × List (Str × Int)), (x17.2 : Value))))).length := List.length_set
      refine wl_val ha58 rfl rfl rfl (op_assign ha58 rfl rfl) ?_
      intro a62 ha62; clear ha58 a58
      refine wpList_nil ?_
      refine block_n ?_
      refine then_n ?_
      refine wp_region_lit ?_
      refine wl_val ha62 rfl rfl rfl (op_move ha62 rfl rfl) ?_
      intro a63 ha63; clear ha62 a62
      refine wl_val ha63 rfl rfl rfl ((op_add ha63 rfl rfl rfl).int (IntWalk.i64_in _ (by omega))) ?_
      intro a64 ha64; clear ha63 a63
      refine wl_val ha64 rfl rfl rfl (op_assign ha64 rfl rfl) ?_
      intro a65 ha65; clear ha64 a64
      refine wpList_nil ?_
      refine round_end (x := (i, q, zs)) ((i + 1), (((q + (1 : Int))) + 2 * (x40.1.2.length : Nat) : Int), (((zs.set i ((((q, x17.1.2) : Int × List (Str × Int)), (x17.2 : Value))))).set i (((x40.1.1, (mkN mkLn 2 x40.1.2.length ((q + (1 : Int))))) : Int × List (Str × Int)), (x40.2 : Value)))) ?_ ?_
      ·
        refine ⟨(Sl.cons_ ha65 rfl rfl (Sl.cons_ ha65 rfl (int_eq (by omega)) (Sl.cons_ ha65 rfl (int_eq (by omega)) (Sl.nil_ ha65)))), hx59, ho60, (hN61.fin (by omega) (by omega)), (by omega), (by omega), (by simp only [List.length_set]; exact hl), (by omega), (by exact kkVr_ge _ _), (by have e5 := hset_self hx40 (by first | omega | (simp only [List.length_set]; omega)); subst e5; have hat := mark_at hd hx17; rw [drop_cons hat, mkVr] at hF; (try simp only [List.set_set]); exact (mark_step hd (by first | omega | (simp only [List.length_set]; omega)) hF rfl).1), (by have e5 := hset_self hx40 (by first | omega | (simp only [List.length_set]; omega)); subst e5; have hat := mark_at hd hx17; rw [drop_cons hat, mkVr] at hF; (try simp only [List.set_set]); exact (mark_step hd (by first | omega | (simp only [List.length_set]; omega)) hF rfl).2), (by have e5 := hset_self hx40 (by first | omega | (simp only [List.length_set]; omega)); subst e5; have hat := mark_at hd hx17; rw [drop_cons hat, kkVr] at hG; exact hG)⟩
      · show (a.length - ((i + 1)) : Nat) < a.length - i; omega
    ·
      rw [decide_eq_false c13] at ha12
      refine cond_f ha12 rfl ?_
      refine wp_exit ?_
      refine then_e ?_
      refine then_e ?_
      refine block_hit ?_
      refine then_n ?_
      refine wp_seq ?_
      refine wp_region_lit ?_
      refine wl_val ha12 rfl rfl rfl (op_move ha12 rfl rfl) ?_
      intro a66 ha66; clear ha12 a12
      refine wl_val ha66 rfl rfl rfl (op_assign ha66 rfl rfl) ?_
      intro a67 ha67; clear ha66 a66
      refine wpList_nil ?_
      refine then_n ?_
      refine wp_ret ?_
      refine ret1 ha67 rfl rfl ?_
      clear ha67 a67
      exact ret_mkI hx4 ⟨_, int_eq (by rw [drop_nil (by simp; omega), kkVr] at hG; exact hG), hf5.fin (by omega) (by omega) (by omega), hf6.fin (by omega) (by omega), (by rw [List.take_of_length_le (by omega), drop_nil (by simp; omega), mkVr, List.append_nil] at hF; exact hF)⟩


end Go.Proofs.Ytllpdkidaldkiaa
