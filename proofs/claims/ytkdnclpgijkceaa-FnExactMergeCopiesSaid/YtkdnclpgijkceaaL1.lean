/- The helpers of the laws over records. -/
import Derived.Test.YtkdnclpgijkceaaShapes
namespace Go.Proofs.Ytkdnclpgijkceaa
open Go Go.RowKit

/-- How much is left of a size behind a text; -1: too little. -/
def szR (n : Int) (k : Nat) : Int := if n - k < 0 then -1 else n - k
theorem szR_le {n : Int} {k : Nat} (h : 0 ≤ n) : szR n k ≤ n := by unfold szR; split <;> omega
def szGo : List (Int × Str) → Int → Int
  | [], n => n
  | r :: rs, n => if szR n r.2.length < 0 then -1 else szGo rs (szR n r.2.length)
def szL (xs : List (Int × Str)) (n : Int) : Int := if n - xs.length < 0 then -1 else szGo xs (n - xs.length)
theorem set_take {α : Type} {acc xs : List α} {i : Nat} {x : α} (h : acc.take i = xs.take i) (hl : acc.length = xs.length) (hx : xs[i]? = some x) : (acc.set i x).take (i + 1) = xs.take (i + 1) := by
  have hi : i < xs.length := (List.getElem?_eq_some_iff.1 hx).1
  rw [take_snoc hx, ← h]
  have : (acc.set i x)[i]? = some x := by rw [List.getElem?_set_self (by omega)]
  rw [take_snoc this, List.take_set_of_le (Nat.le_refl _)]
/-- Do two lists of records agree place by place? -/
def eqL {α : Type} [DecidableEq α] (xs ys : List α) : Bool := decide (xs = ys)
theorem eqL_nil {α : Type} [DecidableEq α] : eqL ([] : List α) [] = true := by simp [eqL]
theorem eqL_len {α : Type} [DecidableEq α] {xs ys : List α} (h : ¬ xs.length = ys.length) : eqL xs ys = false := by
  unfold eqL; rw [decide_eq_false]; intro e; exact h (by rw [e])
theorem eqL_step {α : Type} [DecidableEq α] {xs ys : List α} {i : Nat} {x y : α} (hx : xs[i]? = some x) (hy : ys[i]? = some y) : eqL (xs.drop i) (ys.drop i) = (decide (x = y) && eqL (xs.drop (i + 1)) (ys.drop (i + 1))) := by
  unfold eqL; rw [drop_cons hx, drop_cons hy, Bool.eq_iff_iff]; simp

theorem c_laws_szRecord (w0 : World) (r : Int × Str) (left : Int) (g0 : r.2.length ≤ 9223372036854775807) (g1 : left ≤ 1048576) (g2 : 0 ≤ left) :
    Calls Try.prog 20 #[.agg #[.int .i64 r.1, St r.2], .int .i64 left] w0 (Ret w0 (fun v _ => v = .int .i64 (szR left r.2.length))) := by
  refine enter (N := 13) Try.func20 rfl rfl rfl ?_
  intro a0 ha0
  have hx0 := Ext.rfl' w0
  refine wp_seq ?_
  refine wp_region_lit ?_
  refine wl_eff ha0 rfl rfl rfl (op_box' ha0 rfl rfl rfl) ?_
  rintro _ w2 ⟨rfl, he3, hb4, hz5⟩ a6 ha6; clear ha0 a0
  have hx7 := hx0.trans' he3
  have hzhx7 := he3.size
  refine wl_val ha6 rfl rfl rfl (op_assign ha6 rfl rfl) ?_
  intro a8 ha8; clear ha6 a6
  refine wpList_nil ?_
  refine then_n ?_
  refine wp_seq ?_
  refine wp_region_lit ?_
  refine wl_val ha8 rfl rfl rfl (op_move ha8 rfl rfl) ?_
  intro a9 ha9; clear ha8 a8
  refine wl_val ha9 rfl rfl rfl (op_fieldAddr (sz := 0) ha9 rfl Try.underlying32 rfl rfl ti9 rfl) ?_
  intro a10 ha10; clear ha9 a9
  refine wl_val ha10 rfl rfl rfl (op_loadF (off := 1) ha10 rfl Try.underlying9 rfl rfl hb4.cells rfl) ?_
  intro a11 ha11; clear ha10 a10
  refine wl_val ha11 rfl rfl rfl (op_len_str ha11 rfl Try.underlying9 rfl) ?_
  intro a12 ha12; clear ha11 a11
  refine wl_val ha12 rfl rfl rfl ((op_sub ha12 rfl rfl rfl).int (IntWalk.i64_in _ (by omega))) ?_
  intro a13 ha13; clear ha12 a12
  refine wl_val ha13 rfl rfl rfl (op_assign ha13 rfl rfl) ?_
  intro a14 ha14; clear ha13 a13
  refine wpList_nil ?_
  refine then_n ?_
  refine wp_seq ?_
  refine wp_seq ?_
  refine wp_region_lit ?_
  refine wl_val ha14 rfl rfl rfl (op_move ha14 rfl rfl) ?_
  intro a15 ha15; clear ha14 a14
  refine wl_val ha15 rfl rfl rfl (op_lss ha15 rfl rfl rfl) ?_
  intro a16 ha16; clear ha15 a15
  refine wpList_nil ?_
  refine then_n ?_
  by_cases c17 : (left - ((r.2.length : Nat) : Int)) < (0 : Int)
  ·
    rw [decide_eq_true c17] at ha16
    refine cond_t ha16 rfl ?_
    refine wp_seq ?_
    refine wp_region_lit ?_
    refine wl_val ha16 rfl rfl rfl (op_assign ha16 rfl rfl) ?_
    intro a18 ha18; clear ha16 a16
    refine wpList_nil ?_
    refine then_n ?_
    refine wp_ret ?_
    refine then_r ?_
    refine ret1 ha18 rfl rfl ?_
    clear ha18 a18
    exact ret_mk hx7 (int_eq (by simp [szR, c17]; try omega))
  ·
    rw [decide_eq_false c17] at ha16
    refine cond_f ha16 rfl ?_
    refine wp_skip ?_
    refine then_n ?_
    refine wp_seq ?_
    refine wp_region_lit ?_
    refine wl_val ha16 rfl rfl rfl (op_move ha16 rfl rfl) ?_
    intro a19 ha19; clear ha16 a16
    refine wl_val ha19 rfl rfl rfl (op_assign ha19 rfl rfl) ?_
    intro a20 ha20; clear ha19 a19
    refine wpList_nil ?_
    refine then_n ?_
    refine wp_ret ?_
    refine ret1 ha20 rfl rfl ?_
    clear ha20 a20
    exact ret_mk hx7 (int_eq (by simp [szR, c17]; try omega))

theorem c_laws_szRecordS (w0 : World) (v_a : Value) (a : List (Int × Str)) {S_a : Nat → Prop} (left : Int) (h_a : Rds shRec S_a w0 v_a a) (g0 : left ≤ 1048576) (g1 : 0 ≤ left) :
    Calls Try.prog 13 #[v_a, .int .i64 left] w0 (Ret w0 (fun v _ => v = .int .i64 (szL a left))) := by
  refine enter (N := 27) Try.func13 rfl rfl rfl ?_
  intro a0 ha0
  have hx0 := Ext.rfl' w0
  have hl_a := h_a.length_le
  refine wp_seq ?_
  refine wp_region_lit ?_
  refine wl_val ha0 rfl rfl rfl (op_assign ha0 rfl rfl) ?_
  intro a1 ha1; clear ha0 a0
  refine wpList_nil ?_
  refine then_n ?_
  refine wp_seq ?_
  refine wp_region_lit ?_
  refine wl_val ha1 rfl rfl rfl (op_move ha1 rfl rfl) ?_
  intro a2 ha2; clear ha1 a1
  refine wl_val ha2 rfl rfl rfl (op_move ha2 rfl rfl) ?_
  intro a3 ha3; clear ha2 a2
  refine wl_val ha3 rfl rfl rfl (op_len_sl ha3 rfl Try.underlying22 rfl h_a) ?_
  intro a4 ha4; clear ha3 a3
  refine wl_val ha4 rfl rfl rfl ((op_sub ha4 rfl rfl rfl).int (IntWalk.i64_in _ (by omega))) ?_
  intro a5 ha5; clear ha4 a4
  refine wl_val ha5 rfl rfl rfl (op_assign ha5 rfl rfl) ?_
  intro a6 ha6; clear ha5 a5
  refine wpList_nil ?_
  refine then_n ?_
  refine wp_seq ?_
  refine wp_seq ?_
  refine wp_region_lit ?_
  refine wl_val ha6 rfl rfl rfl (op_move ha6 rfl rfl) ?_
  intro a7 ha7; clear ha6 a6
  refine wl_val ha7 rfl rfl rfl (op_lss ha7 rfl rfl rfl) ?_
  intro a8 ha8; clear ha7 a7
  refine wpList_nil ?_
  refine then_n ?_
  by_cases c9 : (left - ((a.length : Nat) : Int)) < (0 : Int)
  ·
    rw [decide_eq_true c9] at ha8
    refine cond_t ha8 rfl ?_
    refine wp_seq ?_
    refine wp_region_lit ?_
    refine wl_val ha8 rfl rfl rfl (op_assign ha8 rfl rfl) ?_
    intro a10 ha10; clear ha8 a8
    refine wpList_nil ?_
    refine then_n ?_
    refine wp_ret ?_
    refine then_r ?_
    refine ret1 ha10 rfl rfl ?_
    clear ha10 a10
    
    exact ret_mk hx0 (int_eq (by unfold szL; rw [if_pos (by omega)]))
  ·
    rw [decide_eq_false c9] at ha8
    refine cond_f ha8 rfl ?_
    refine wp_skip ?_
    refine then_n ?_
    refine wp_seq ?_
    refine wp_seq ?_
    refine wp_region_lit ?_
    refine wl_val ha8 rfl rfl rfl (op_assign ha8 rfl rfl) ?_
    intro a11 ha11; clear ha8 a8
    refine wpList_nil ?_
    refine then_n ?_
    refine wp_block ?_
    refine loop_inv (X := Nat × Int) (fun (⟨i, n⟩ : Nat × Int) fr wl => Sl 27 fr [(0, v_a), (1, .int .i64 n), (5, .int .i64 ((i : Nat) : Int))] ∧ Ext w0 wl ∧ w0.heap.size ≤ wl.heap.size ∧ (i ≤ a.length) ∧ (0 ≤ n) ∧ (n ≤ 1048576) ∧ (szGo (a.drop i) n = szL a left)) (fun (⟨i, n⟩ : Nat × Int) => a.length - i) (0, (left - ((a.length : Nat) : Int))) ?_ ?_
    ·
      exact ⟨(Sl.cons_ ha11 rfl rfl (Sl.cons_ ha11 rfl (int_eq (by omega)) (Sl.cons_ ha11 rfl (int_eq (by omega)) (Sl.nil_ ha11)))), hx0, (by omega), (by omega), (by omega), (by omega), (by unfold szL; rw [if_neg (by omega)]; rfl)⟩
    ·
      clear ha11 a11
      rintro ⟨i, n⟩ a14 w12 ⟨ha14, hx13, hzl15, hi, hn0, hn1, hF⟩
      have hzhx13 := hx13.size
      refine wp_seq ?_
      refine wp_seq ?_
      refine wp_region_lit ?_
      refine wl_val ha14 rfl rfl rfl (op_move ha14 rfl rfl) ?_
      intro a16 ha16; clear ha14 a14
      refine wl_val ha16 rfl rfl rfl (op_move ha16 rfl rfl) ?_
      intro a17 ha17; clear ha16 a16
      refine wl_val ha17 rfl rfl rfl (op_len_sl ha17 rfl Try.underlying22 rfl h_a) ?_
      intro a18 ha18; clear ha17 a17
      refine wl_val ha18 rfl rfl rfl (op_lss ha18 rfl rfl rfl) ?_
      intro a19 ha19; clear ha18 a18
      refine wpList_nil ?_
      refine then_n ?_
      by_cases c20 : ((i : Nat) : Int) < ((a.length : Nat) : Int)
      ·
        rw [decide_eq_true c20] at ha19
        refine cond_t ha19 rfl ?_
        refine wp_skip ?_
        refine then_n ?_
        refine wp_seq ?_
        refine wp_block ?_
        refine wp_seq ?_
        refine wp_region_lit ?_
        refine wl_val ha19 rfl rfl rfl (op_move ha19 rfl rfl) ?_
        intro a21 ha21; clear ha19 a19
        refine wl_val ha21 rfl rfl rfl (op_move ha21 rfl rfl) ?_
        intro a22 ha22; clear ha21 a21
        obtain ⟨x23, hx23⟩ := get_ex (xs := a) (j := i) (by omega)
        obtain ⟨p24, c25, hi26, hc27, hr28, hs29⟩ := Rds.at_ h_a hx23
        obtain ⟨rfl, b30, b31⟩ := inv_shRec hr28
        refine wl_val ha22 rfl rfl rfl (op_indexAddr ha22 rfl Try.underlying22 ti32 rfl rfl (by omega) hi26) ?_
        intro a32 ha32; clear ha22 a22
        refine wl_val ha32 rfl rfl rfl (op_loadS ha32 rfl Try.underlying32 ti32 rfl rfl (hc27.ext hx13)) ?_
        intro a33 ha33; clear ha32 a32
        refine wl_val ha33 rfl rfl rfl (op_move ha33 rfl rfl) ?_
        intro a34 ha34; clear ha33 a33
        refine wl_callR ha34 rfl rfl rfl (op_call ha34 rfl cb20 rfl) (c_laws_szRecord _ x23 n (by first | assumption | omega | (simp; omega) | (simp [mkN_length]; omega)) (by first | assumption | omega | (simp; omega) | (simp [mkN_length]; omega)) (by first | assumption | omega | (simp; omega) | (simp [mkN_length]; omega))) ?_
        rintro v35 w36 he37 rfl a38 ha38; clear ha34 a34
        have hx39 := hx13.trans' he37
        have hzhx39 := he37.size
        refine wl_val ha38 rfl rfl rfl (op_assign ha38 rfl rfl) ?_
        intro a40 ha40; clear ha38 a38
        refine wpList_nil ?_
        refine then_n ?_
        refine wp_seq ?_
        refine wp_region_lit ?_
        refine wl_val ha40 rfl rfl rfl (op_move ha40 rfl rfl) ?_
        intro a41 ha41; clear ha40 a40
        refine wl_val ha41 rfl rfl rfl (op_lss ha41 rfl rfl rfl) ?_
        intro a42 ha42; clear ha41 a41
        refine wpList_nil ?_
        refine then_n ?_
        by_cases c43 : (szR n x23.2.length : Int) < (0 : Int)
        ·
          rw [decide_eq_true c43] at ha42
          refine cond_t ha42 rfl ?_
          refine wp_seq ?_
          refine wp_region_lit ?_
          refine wl_val ha42 rfl rfl rfl (op_assign ha42 rfl rfl) ?_
          intro a44 ha44; clear ha42 a42
          refine wpList_nil ?_
          refine then_n ?_
          refine wp_ret ?_
          refine block_r ?_
          refine then_r ?_
          refine then_r ?_
          refine block_r ?_
          refine then_r ?_
          refine ret1 ha44 rfl rfl ?_
          clear ha44 a44
          rw [drop_cons hx23] at hF
          simp only [szGo] at hF
          exact ret_mk hx39 (int_eq (by first | exact hF | (rw [if_pos (by omega)] at hF; exact hF)))
        ·
          rw [decide_eq_false c43] at ha42
          refine cond_f ha42 rfl ?_
          refine wp_skip ?_
          refine block_n ?_
          refine then_n ?_
          refine wp_region_lit ?_
          refine wl_val ha42 rfl rfl rfl (op_move ha42 rfl rfl) ?_
          intro a45 ha45; clear ha42 a42
          refine wl_val ha45 rfl rfl rfl ((op_add ha45 rfl rfl rfl).int (IntWalk.i64_in _ (by omega))) ?_
          intro a46 ha46; clear ha45 a45
          refine wl_val ha46 rfl rfl rfl (op_assign ha46 rfl rfl) ?_
          intro a47 ha47; clear ha46 a46
          refine wpList_nil ?_
          refine round_end (x := (i, n)) ((i + 1), (szR n x23.2.length : Int)) ?_ ?_
          ·
            refine ⟨(Sl.cons_ ha47 rfl rfl (Sl.cons_ ha47 rfl (int_eq (by omega)) (Sl.cons_ ha47 rfl (int_eq (by omega)) (Sl.nil_ ha47)))), hx39, (by omega), (by omega), (by omega), (by have := szR_le (k := x23.2.length) hn0; omega), (by rw [drop_cons hx23] at hF; simp only [szGo] at hF; rw [if_neg (by omega)] at hF; exact hF)⟩
          · show (a.length - ((i + 1)) : Nat) < a.length - i; omega
      ·
        rw [decide_eq_false c20] at ha19
        refine cond_f ha19 rfl ?_
        refine wp_exit ?_
        refine then_e ?_
        refine then_e ?_
        refine block_hit ?_
        refine then_n ?_
        refine wp_seq ?_
        refine wp_region_lit ?_
        refine wl_val ha19 rfl rfl rfl (op_move ha19 rfl rfl) ?_
        intro a48 ha48; clear ha19 a19
        refine wl_val ha48 rfl rfl rfl (op_assign ha48 rfl rfl) ?_
        intro a49 ha49; clear ha48 a48
        refine wpList_nil ?_
        refine then_n ?_
        refine wp_ret ?_
        refine ret1 ha49 rfl rfl ?_
        clear ha49 a49
        rw [drop_nil (by omega)] at hF
        simp only [szGo] at hF
        exact ret_mk hx13 (int_eq (by first | exact hF | (rw [if_pos (by omega)] at hF; exact hF)))

theorem c_laws_toRecord (w0 : World) (a : Int × Str)  :
    Calls Try.prog 22 #[.agg #[.int .i64 a.1, St a.2]] w0 (Ret w0 (fun v _ => v = .agg #[.int .i64 ((a)).1, St (((a)).2)])) := by
  refine enter (N := 11) Try.func22 rfl rfl rfl ?_
  intro a0 ha0
  have hx0 := Ext.rfl' w0
  refine wp_seq ?_
  refine wp_region_lit ?_
  refine wl_eff ha0 rfl rfl rfl (op_box' ha0 rfl rfl rfl) ?_
  rintro _ w2 ⟨rfl, he3, hb4, hz5⟩ a6 ha6; clear ha0 a0
  have hx7 := hx0.trans' he3
  have hzhx7 := he3.size
  refine wl_eff ha6 rfl rfl rfl (op_alloc' rfl ti36 rfl) ?_
  rintro _ w9 ⟨rfl, he10, hb11, hz12⟩ a13 ha13; clear ha6 a6
  have hx14 := hx7.trans' he10
  have hzhx14 := he10.size
  replace hb4 := hb4.ext he10
  refine wpList_nil ?_
  refine then_n ?_
  refine wp_seq ?_
  refine wp_region_lit ?_
  refine wl_eff ha13 rfl rfl rfl (op_alloc' rfl ti36 rfl) ?_
  rintro _ w16 ⟨rfl, he17, hb18, hz19⟩ a20 ha20; clear ha13 a13
  have hx21 := hx14.trans' he17
  have hzhx21 := he17.size
  replace hb4 := hb4.ext he17
  replace hb11 := hb11.ext he17
  refine wpList_nil ?_
  refine then_n ?_
  refine wp_seq ?_
  refine wp_region_lit ?_
  refine wl_val ha20 rfl rfl rfl (op_fieldAddr (sz := 0) ha20 rfl Try.underlying32 rfl rfl ti2 rfl) ?_
  intro a22 ha22; clear ha20 a20
  refine wl_val ha22 rfl rfl rfl (op_loadF (off := 0) ha22 rfl Try.underlying2 rfl rfl hb4.cells rfl) ?_
  intro a23 ha23; clear ha22 a22
  refine wl_val ha23 rfl rfl rfl (op_fieldAddr (sz := 0) ha23 rfl Try.underlying36 rfl rfl ti2 rfl) ?_
  intro a24 ha24; clear ha23 a23
  refine wl_effS ha24 rfl rfl (op_store' (off := 0) ha24 rfl ti2 rfl rfl hb18 rfl rfl (by simp [Value.oneCell']) (Nat.le_of_ble_eq_true rfl)) ?_
  rintro w25 ⟨hb27, hst26, hz28⟩
  have hx29 := hx21.stp hst26 (by intro q hq; cases hq; exact (by omega))
  have hzhx29 := hst26.size
  replace hb4 := hb4.stp hst26 (by intro q hq; cases hq; omega)
  replace hb11 := hb11.stp hst26 (by intro q hq; cases hq; omega)
  clear hb18
  refine wpList_nil ?_
  refine then_n ?_
  refine wp_seq ?_
  refine wp_region_lit ?_
  refine wl_val ha24 rfl rfl rfl (op_fieldAddr (sz := 0) ha24 rfl Try.underlying32 rfl rfl ti9 rfl) ?_
  intro a30 ha30; clear ha24 a24
  refine wl_val ha30 rfl rfl rfl (op_loadF (off := 1) ha30 rfl Try.underlying9 rfl rfl hb4.cells rfl) ?_
  intro a31 ha31; clear ha30 a30
  refine wl_val ha31 rfl rfl rfl (op_fieldAddr (sz := 0) ha31 rfl Try.underlying36 rfl rfl ti9 rfl) ?_
  intro a32 ha32; clear ha31 a31
  refine wl_effS ha32 rfl rfl (op_store' (off := 1) ha32 rfl ti9 rfl rfl hb27 rfl rfl (by simp [Value.oneCell']) (Nat.le_of_ble_eq_true rfl)) ?_
  rintro w33 ⟨hb35, hst34, hz36⟩
  have hx37 := hx29.stp hst34 (by intro q hq; cases hq; exact (by omega))
  have hzhx37 := hst34.size
  replace hb4 := hb4.stp hst34 (by intro q hq; cases hq; omega)
  replace hb11 := hb11.stp hst34 (by intro q hq; cases hq; omega)
  clear hb27
  refine wpList_nil ?_
  refine then_n ?_
  refine wp_seq ?_
  refine wp_region_lit ?_
  refine wl_val ha32 rfl rfl rfl (op_loadS ha32 rfl Try.underlying36 ti36 rfl rfl hb35.cells) ?_
  intro a38 ha38; clear ha32 a32
  refine wl_effS ha38 rfl rfl (op_storeAll' ha38 rfl ti36 rfl rfl hb11 rfl rfl (by simp [Value.oneCell']) rfl) ?_
  rintro w39 ⟨hb41, hst40, hz42⟩
  have hx43 := hx37.stp hst40 (by intro q hq; cases hq; exact (by omega))
  have hzhx43 := hst40.size
  replace hb4 := hb4.stp hst40 (by intro q hq; cases hq; omega)
  replace hb35 := hb35.stp hst40 (by intro q hq; cases hq; omega)
  clear hb11
  refine wpList_nil ?_
  refine then_n ?_
  refine wp_ret ?_
  refine retc ha38 rfl rfl Try.underlying36 ti36 rfl hb41.cells ?_
  clear ha38 a38
  exact ret_mk hx43 (by rfl)

theorem c_laws_toRecordS (w0 : World) (v_a : Value) (a : List (Int × Str)) {S_a : Nat → Prop} (h_a : Rds shRec S_a w0 v_a a) (g0 : a.length ≤ 1048576) :
    Calls Try.prog 15 #[v_a] w0 (Ret w0 (fun v w1 => Own shRec 36 w0.heap.size w0.heap.size w1.heap.size w1 v (a))) := by
  refine enter (N := 23) Try.func15 rfl rfl rfl ?_
  intro a0 ha0
  have hx0 := Ext.rfl' w0
  have hl_a := h_a.length_le
  refine wp_seq ?_
  refine wp_region_lit ?_
  refine wl_val ha0 rfl rfl rfl (op_assign ha0 rfl rfl) ?_
  intro a1 ha1; clear ha0 a0
  refine wpList_nil ?_
  refine then_n ?_
  refine wp_seq ?_
  refine wp_region_lit ?_
  refine wl_val ha1 rfl rfl rfl (op_move ha1 rfl rfl) ?_
  intro a2 ha2; clear ha1 a1
  refine wl_val ha2 rfl rfl rfl (op_len_sl ha2 rfl Try.underlying22 rfl h_a) ?_
  intro a3 ha3; clear ha2 a2
  refine wl_eff ha3 rfl rfl rfl (op_make (s := shRec) (n := a.length) (k' := .i64) ha3 rfl Try.underlying25 ti36 pos_shRec rfl (by omega) zero_shRec (by omega) (by omega)) ?_
  rintro v4 w5 ⟨ho6, he7⟩ a8 ha8; clear ha3 a3
  have hx9 := hx0.trans' he7
  have hzhx9 := he7.size
  refine wl_val ha8 rfl rfl rfl (op_assign ha8 rfl rfl) ?_
  intro a10 ha10; clear ha8 a8
  refine wpList_nil ?_
  refine then_n ?_
  refine wp_seq ?_
  refine wp_seq ?_
  refine wp_region_lit ?_
  refine wl_val ha10 rfl rfl rfl (op_assign ha10 rfl rfl) ?_
  intro a11 ha11; clear ha10 a10
  refine wpList_nil ?_
  refine then_n ?_
  refine wp_block ?_
  refine loop_inv (X := Nat × Value × (List (Int × Str))) (fun (⟨i, v, acc⟩ : Nat × Value × (List (Int × Str))) fr wl => Sl 23 fr [(0, v_a), (3, v), (4, .int .i64 ((i : Nat) : Int))] ∧ Ext w0 wl ∧ Own shRec 36 w0.heap.size w0.heap.size wl.heap.size wl v acc ∧ w5.heap.size ≤ wl.heap.size ∧ (i ≤ a.length) ∧ (acc.length = a.length) ∧ (acc.take i = a.take i)) (fun (⟨i, v, acc⟩ : Nat × Value × (List (Int × Str))) => a.length - i) (0, v4, (List.replicate a.length ((0, []) : Int × Str))) ?_ ?_
  ·
    exact ⟨(Sl.cons_ ha11 rfl rfl (Sl.cons_ ha11 rfl rfl (Sl.cons_ ha11 rfl (int_eq (by omega)) (Sl.nil_ ha11)))), hx9, (ho6.fin (by omega) (by omega) (by omega)), (by omega), (by omega), (by simp), (by simp)⟩
  ·
    clear ha11 a11
    rintro ⟨i, v, acc⟩ a15 w12 ⟨ha15, hx13, hf14, hzl16, hi, hl, hF⟩
    have hzhx13 := hx13.size
    refine wp_seq ?_
    refine wp_seq ?_
    refine wp_region_lit ?_
    refine wl_val ha15 rfl rfl rfl (op_move ha15 rfl rfl) ?_
    intro a17 ha17; clear ha15 a15
    refine wl_val ha17 rfl rfl rfl (op_move ha17 rfl rfl) ?_
    intro a18 ha18; clear ha17 a17
    refine wl_val ha18 rfl rfl rfl (op_len_sl ha18 rfl Try.underlying22 rfl h_a) ?_
    intro a19 ha19; clear ha18 a18
    refine wl_val ha19 rfl rfl rfl (op_lss ha19 rfl rfl rfl) ?_
    intro a20 ha20; clear ha19 a19
    refine wpList_nil ?_
    refine then_n ?_
    by_cases c21 : ((i : Nat) : Int) < ((a.length : Nat) : Int)
    ·
      rw [decide_eq_true c21] at ha20
      refine cond_t ha20 rfl ?_
      refine wp_skip ?_
      refine then_n ?_
      refine wp_seq ?_
      refine wp_block ?_
      refine wp_region_lit ?_
      refine wl_val ha20 rfl rfl rfl (op_move ha20 rfl rfl) ?_
      intro a22 ha22; clear ha20 a20
      refine wl_val ha22 rfl rfl rfl (op_move ha22 rfl rfl) ?_
      intro a23 ha23; clear ha22 a22
      refine wl_val ha23 rfl rfl rfl (op_move ha23 rfl rfl) ?_
      intro a24 ha24; clear ha23 a23
      refine wl_val ha24 rfl rfl rfl (op_move ha24 rfl rfl) ?_
      intro a25 ha25; clear ha24 a24
      obtain ⟨x26, hx26⟩ := get_ex (xs := a) (j := i) (by omega)
      obtain ⟨p27, c28, hi29, hc30, hr31, hs32⟩ := Rds.at_ h_a hx26
      obtain ⟨rfl, b33, b34⟩ := inv_shRec hr31
      refine wl_val ha25 rfl rfl rfl (op_indexAddr ha25 rfl Try.underlying22 ti32 rfl rfl (by omega) hi29) ?_
      intro a35 ha35; clear ha25 a25
      refine wl_val ha35 rfl rfl rfl (op_loadS ha35 rfl Try.underlying32 ti32 rfl rfl (hc30.ext hx13)) ?_
      intro a36 ha36; clear ha35 a35
      refine wl_callR ha36 rfl rfl rfl (op_call ha36 rfl cb22 rfl) (c_laws_toRecord _ x26 ) ?_
      rintro v37 w38 he39 rfl a40 ha40; clear ha36 a36
      have hx41 := hx13.trans' he39
      have hzhx41 := he39.size
      replace hf14 := hf14.ext he39
      obtain ⟨x42, hx42⟩ := get_ex (xs := acc) (j := i) (by omega)
      obtain ⟨p43, c44, hi45, hc46, hr47, hs48⟩ := Rds.at_ (hf14.rds pos_shRec) hx42
      obtain ⟨rfl, b49, b50⟩ := inv_shRec hr47
      obtain ⟨_, _⟩ : _ ∧ _ := hs48
      refine wl_val ha40 rfl rfl rfl (op_indexAddr ha40 rfl Try.underlying25 ti36 rfl rfl (by omega) hi45) ?_
      intro a51 ha51; clear ha40 a40
      refine wl_effS ha51 rfl rfl (op_setElem (s := shRec) (ds := [.int .i64 ((x26)).1, St (((x26)).2)]) (S' := fun _ => False) ha51 rfl ti36 rfl rfl rfl hf14 pos_shRec hi45 (by omega) (mk_shRec ((x26)) (by first | assumption | omega | (simp; omega)) (by first | assumption | omega | (simp; omega))) (fun _ h => h.elim)) ?_
      rintro w52 ⟨ho54, hst53, hz55⟩
      have hx56 := hx41.stp hst53 (by intro q hq; have hq0 := hf14.lt q hq; omega)
      have hzhx56 := hst53.size
      clear hf14
      have hlsho54 : ((acc.set i ((x26)))).length = acc.length := List.length_set
      refine wpList_nil ?_
      refine block_n ?_
      refine then_n ?_
      refine wp_region_lit ?_
      refine wl_val ha51 rfl rfl rfl (op_move ha51 rfl rfl) ?_
      intro a57 ha57; clear ha51 a51
      refine wl_val ha57 rfl rfl rfl ((op_add ha57 rfl rfl rfl).int (IntWalk.i64_in _ (by omega))) ?_
      intro a58 ha58; clear ha57 a57
      refine wl_val ha58 rfl rfl rfl (op_assign ha58 rfl rfl) ?_
      intro a59 ha59; clear ha58 a58
      refine wpList_nil ?_
      refine round_end (x := (i, v, acc)) ((i + 1), v, (acc.set i ((x26)))) ?_ ?_
      ·
        refine ⟨(Sl.cons_ ha59 rfl rfl (Sl.cons_ ha59 rfl rfl (Sl.cons_ ha59 rfl (int_eq (by omega)) (Sl.nil_ ha59)))), hx56, (ho54.fin (by omega) (by omega) (by omega)), (by omega), (by omega), (by simpa using hl), (by exact set_take hF hl hx26)⟩
      · show (a.length - ((i + 1)) : Nat) < a.length - i; omega
    ·
      rw [decide_eq_false c21] at ha20
      refine cond_f ha20 rfl ?_
      refine wp_exit ?_
      refine then_e ?_
      refine then_e ?_
      refine block_hit ?_
      refine then_n ?_
      refine wp_seq ?_
      refine wp_region_lit ?_
      refine wl_val ha20 rfl rfl rfl (op_move ha20 rfl rfl) ?_
      intro a60 ha60; clear ha20 a20
      refine wl_val ha60 rfl rfl rfl (op_assign ha60 rfl rfl) ?_
      intro a61 ha61; clear ha60 a60
      refine wpList_nil ?_
      refine then_n ?_
      refine wp_ret ?_
      refine ret1 ha61 rfl rfl ?_
      clear ha61 a61
      refine ret_mk hx13 ?_
      refine (hf14.fin (by omega) (by omega) (by omega)).cast ?_
      rw [List.take_of_length_le (by omega)] at hF; rw [List.take_of_length_le (by omega)] at hF; exact hF

theorem c_laws_eqRecord (w0 : World) (a : Int × Str) (b : Int × Str)  :
    Calls Try.prog 50 #[.agg #[.int .i64 a.1, St a.2], .agg #[.int .i64 b.1, St b.2]] w0 (Ret w0 (fun v _ => v = .bool (decide (a = b)))) := by
  refine enter (N := 15) Try.func50 rfl rfl rfl ?_
  intro a0 ha0
  have hx0 := Ext.rfl' w0
  refine wp_seq ?_
  refine wp_region_lit ?_
  refine wl_eff ha0 rfl rfl rfl (op_box' ha0 rfl rfl rfl) ?_
  rintro _ w2 ⟨rfl, he3, hb4, hz5⟩ a6 ha6; clear ha0 a0
  have hx7 := hx0.trans' he3
  have hzhx7 := he3.size
  refine wl_eff ha6 rfl rfl rfl (op_box' ha6 rfl rfl rfl) ?_
  rintro _ w9 ⟨rfl, he10, hb11, hz12⟩ a13 ha13; clear ha6 a6
  have hx14 := hx7.trans' he10
  have hzhx14 := he10.size
  replace hb4 := hb4.ext he10
  refine wl_val ha13 rfl rfl rfl (op_assign ha13 rfl rfl) ?_
  intro a15 ha15; clear ha13 a13
  refine wpList_nil ?_
  refine then_n ?_
  refine wp_seq ?_
  refine wp_seq ?_
  refine wp_region_lit ?_
  refine wl_val ha15 rfl rfl rfl (op_fieldAddr (sz := 0) ha15 rfl Try.underlying36 rfl rfl ti2 rfl) ?_
  intro a16 ha16; clear ha15 a15
  refine wl_val ha16 rfl rfl rfl (op_loadF (off := 0) ha16 rfl Try.underlying2 rfl rfl hb4.cells rfl) ?_
  intro a17 ha17; clear ha16 a16
  refine wl_val ha17 rfl rfl rfl (op_fieldAddr (sz := 0) ha17 rfl Try.underlying36 rfl rfl ti2 rfl) ?_
  intro a18 ha18; clear ha17 a17
  refine wl_val ha18 rfl rfl rfl (op_loadF (off := 0) ha18 rfl Try.underlying2 rfl rfl hb11.cells rfl) ?_
  intro a19 ha19; clear ha18 a18
  refine wl_val ha19 rfl rfl rfl ((op_neq ha19 rfl rfl rfl).to (congrArg Value.bool decide_not)) ?_
  intro a20 ha20; clear ha19 a19
  refine wpList_nil ?_
  refine then_n ?_
  by_cases c21 : a.1 = b.1
  ·
    rw [decide_eq_true c21] at ha20
    refine cond_f ha20 rfl ?_
    refine wp_skip ?_
    refine then_n ?_
    refine wp_seq ?_
    refine wp_seq ?_
    refine wp_region_lit ?_
    refine wl_val ha20 rfl rfl rfl (op_fieldAddr (sz := 0) ha20 rfl Try.underlying36 rfl rfl ti9 rfl) ?_
    intro a22 ha22; clear ha20 a20
    refine wl_val ha22 rfl rfl rfl (op_loadF (off := 1) ha22 rfl Try.underlying9 rfl rfl hb4.cells rfl) ?_
    intro a23 ha23; clear ha22 a22
    refine wl_val ha23 rfl rfl rfl (op_fieldAddr (sz := 0) ha23 rfl Try.underlying36 rfl rfl ti9 rfl) ?_
    intro a24 ha24; clear ha23 a23
    refine wl_val ha24 rfl rfl rfl (op_loadF (off := 1) ha24 rfl Try.underlying9 rfl rfl hb11.cells rfl) ?_
    intro a25 ha25; clear ha24 a24
    refine wl_val ha25 rfl rfl rfl ((op_sneq ha25 rfl rfl rfl).to (congrArg Value.bool decide_not)) ?_
    intro a26 ha26; clear ha25 a25
    refine wpList_nil ?_
    refine then_n ?_
    by_cases c27 : a.2 = b.2
    ·
      rw [decide_eq_true c27] at ha26
      refine cond_f ha26 rfl ?_
      refine wp_skip ?_
      refine then_n ?_
      refine wp_seq ?_
      refine wp_region_lit ?_
      refine wl_val ha26 rfl rfl rfl (op_assign ha26 rfl rfl) ?_
      intro a28 ha28; clear ha26 a26
      refine wpList_nil ?_
      refine then_n ?_
      refine wp_ret ?_
      refine ret1 ha28 rfl rfl ?_
      clear ha28 a28
      exact ret_mk hx14 (congrArg Value.bool (by simp [Prod.ext_iff, c21, c27]))
    ·
      rw [decide_eq_false c27] at ha26
      refine cond_t ha26 rfl ?_
      refine wp_seq ?_
      refine wp_region_lit ?_
      refine wl_val ha26 rfl rfl rfl (op_assign ha26 rfl rfl) ?_
      intro a29 ha29; clear ha26 a26
      refine wpList_nil ?_
      refine then_n ?_
      refine wp_ret ?_
      refine then_r ?_
      refine ret1 ha29 rfl rfl ?_
      clear ha29 a29
      exact ret_mk hx14 (congrArg Value.bool (by simp [Prod.ext_iff, c21, c27]))
  ·
    rw [decide_eq_false c21] at ha20
    refine cond_t ha20 rfl ?_
    refine wp_seq ?_
    refine wp_region_lit ?_
    refine wl_val ha20 rfl rfl rfl (op_assign ha20 rfl rfl) ?_
    intro a30 ha30; clear ha20 a20
    refine wpList_nil ?_
    refine then_n ?_
    refine wp_ret ?_
    refine then_r ?_
    refine ret1 ha30 rfl rfl ?_
    clear ha30 a30
    exact ret_mk hx14 (congrArg Value.bool (by simp [Prod.ext_iff, c21]))

theorem c_laws_eqRecordS (w0 : World) (v_a : Value) (a : List (Int × Str)) {S_a : Nat → Prop} (v_b : Value) (b : List (Int × Str)) {S_b : Nat → Prop} (h_a : Rds shRec S_a w0 v_a a) (h_b : Rds shRec S_b w0 v_b b) :
    Calls Try.prog 17 #[v_a, v_b] w0 (Ret w0 (fun v _ => v = .bool (eqL a b))) := by
  refine enter (N := 27) Try.func17 rfl rfl rfl ?_
  intro a0 ha0
  have hx0 := Ext.rfl' w0
  have hl_a := h_a.length_le
  have hl_b := h_b.length_le
  refine wp_seq ?_
  refine wp_region_lit ?_
  refine wl_val ha0 rfl rfl rfl (op_assign ha0 rfl rfl) ?_
  intro a1 ha1; clear ha0 a0
  refine wpList_nil ?_
  refine then_n ?_
  refine wp_seq ?_
  refine wp_seq ?_
  refine wp_region_lit ?_
  refine wl_val ha1 rfl rfl rfl (op_move ha1 rfl rfl) ?_
  intro a2 ha2; clear ha1 a1
  refine wl_val ha2 rfl rfl rfl (op_len_sl ha2 rfl Try.underlying25 rfl h_a) ?_
  intro a3 ha3; clear ha2 a2
  refine wl_val ha3 rfl rfl rfl (op_move ha3 rfl rfl) ?_
  intro a4 ha4; clear ha3 a3
  refine wl_val ha4 rfl rfl rfl (op_len_sl ha4 rfl Try.underlying25 rfl h_b) ?_
  intro a5 ha5; clear ha4 a4
  refine wl_val ha5 rfl rfl rfl ((op_neq ha5 rfl rfl rfl).to (congrArg Value.bool decide_not)) ?_
  intro a6 ha6; clear ha5 a5
  refine wpList_nil ?_
  refine then_n ?_
  by_cases c7 : ((a.length : Nat) : Int) = ((b.length : Nat) : Int)
  ·
    rw [decide_eq_true c7] at ha6
    refine cond_f ha6 rfl ?_
    refine wp_skip ?_
    refine then_n ?_
    refine wp_seq ?_
    refine wp_seq ?_
    refine wp_region_lit ?_
    refine wl_val ha6 rfl rfl rfl (op_assign ha6 rfl rfl) ?_
    intro a8 ha8; clear ha6 a6
    refine wpList_nil ?_
    refine then_n ?_
    refine wp_block ?_
    refine loop_inv (X := Nat) (fun (i : Nat) fr wl => Sl 27 fr [(0, v_a), (1, v_b), (5, .int .i64 ((i : Nat) : Int))] ∧ Ext w0 wl ∧ w0.heap.size ≤ wl.heap.size ∧ (i ≤ a.length) ∧ (a.length = b.length) ∧ (eqL (a.drop i) (b.drop i) = eqL a b)) (fun (i : Nat) => a.length - i) (0) ?_ ?_
    ·
      exact ⟨(Sl.cons_ ha8 rfl rfl (Sl.cons_ ha8 rfl rfl (Sl.cons_ ha8 rfl (int_eq (by omega)) (Sl.nil_ ha8)))), hx0, (by omega), (by omega), (by omega), (by simp)⟩
    ·
      clear ha8 a8
      rintro i a11 w9 ⟨ha11, hx10, hzl12, hi, hl, hF⟩
      have hzhx10 := hx10.size
      refine wp_seq ?_
      refine wp_seq ?_
      refine wp_region_lit ?_
      refine wl_val ha11 rfl rfl rfl (op_move ha11 rfl rfl) ?_
      intro a13 ha13; clear ha11 a11
      refine wl_val ha13 rfl rfl rfl (op_move ha13 rfl rfl) ?_
      intro a14 ha14; clear ha13 a13
      refine wl_val ha14 rfl rfl rfl (op_len_sl ha14 rfl Try.underlying25 rfl h_a) ?_
      intro a15 ha15; clear ha14 a14
      refine wl_val ha15 rfl rfl rfl (op_lss ha15 rfl rfl rfl) ?_
      intro a16 ha16; clear ha15 a15
      refine wpList_nil ?_
      refine then_n ?_
      by_cases c17 : ((i : Nat) : Int) < ((a.length : Nat) : Int)
      ·
        rw [decide_eq_true c17] at ha16
        refine cond_t ha16 rfl ?_
        refine wp_skip ?_
        refine then_n ?_
        refine wp_seq ?_
        refine wp_block ?_
        refine wp_seq ?_
        refine dr_enter Ext follows_mixed ?_
        intro w18 he19
        have hx20 := hx10.trans' he19
        have hzhx20 := he19.size
        have hs21 : Ext w18 w18 := Ext.rfl' _
        refine dr_val (i := 0) ha16 rfl (by kernel_rfl) (by kernel_rfl) (by kernel_rfl) rfl rfl rfl hs21 (fun w' hw' => op_move ha16 rfl rfl) ?_
        intro a22 ha22; clear ha16 a16
        refine dr_val (i := 1) ha22 rfl (by kernel_rfl) (by kernel_rfl) (by kernel_rfl) rfl rfl rfl hs21 (fun w' hw' => op_move ha22 rfl rfl) ?_
        intro a23 ha23; clear ha22 a22
        obtain ⟨x24, hx24⟩ := get_ex (xs := a) (j := i) (by omega)
        obtain ⟨p25, c26, hi27, hc28, hr29, hs30⟩ := Rds.at_ h_a hx24
        obtain ⟨rfl, b31, b32⟩ := inv_shRec hr29
        refine dr_val (i := 2) ha23 rfl (by kernel_rfl) (by kernel_rfl) (by kernel_rfl) rfl rfl rfl hs21 (fun w' hw' => op_indexAddr ha23 rfl Try.underlying25 ti36 rfl rfl (by omega) hi27) ?_
        intro a33 ha33; clear ha23 a23
        refine dr_val (i := 3) ha33 rfl (by kernel_rfl) (by kernel_rfl) (by kernel_rfl) rfl rfl rfl hs21 (fun w' hw' => op_loadS ha33 rfl Try.underlying36 ti36 rfl rfl (hc28.ext (hx20.trans' hw'))) ?_
        intro a34 ha34; clear ha33 a33
        refine dr_val (i := 4) ha34 rfl (by kernel_rfl) (by kernel_rfl) (by kernel_rfl) rfl rfl rfl hs21 (fun w' hw' => op_move ha34 rfl rfl) ?_
        intro a35 ha35; clear ha34 a34
        refine dr_val (i := 5) ha35 rfl (by kernel_rfl) (by kernel_rfl) (by kernel_rfl) rfl rfl rfl hs21 (fun w' hw' => op_move ha35 rfl rfl) ?_
        intro a36 ha36; clear ha35 a35
        obtain ⟨x37, hx37⟩ := get_ex (xs := b) (j := i) (by omega)
        obtain ⟨p38, c39, hi40, hc41, hr42, hs43⟩ := Rds.at_ h_b hx37
        obtain ⟨rfl, b44, b45⟩ := inv_shRec hr42
        refine dr_val (i := 6) ha36 rfl (by kernel_rfl) (by kernel_rfl) (by kernel_rfl) rfl rfl rfl hs21 (fun w' hw' => op_indexAddr ha36 rfl Try.underlying25 ti36 rfl rfl (by omega) hi40) ?_
        intro a46 ha46; clear ha36 a36
        refine dr_val (i := 7) ha46 rfl (by kernel_rfl) (by kernel_rfl) (by kernel_rfl) rfl rfl rfl hs21 (fun w' hw' => op_loadS ha46 rfl Try.underlying36 ti36 rfl rfl (hc41.ext (hx20.trans' hw'))) ?_
        intro a47 ha47; clear ha46 a46
        refine dr_one (i := 8) (by kernel_rfl) ?_
        refine po_callR ha47 rfl rfl rfl rfl (op_call ha47 rfl cb50 rfl) (c_laws_eqRecord _ x24 x37 ) ?_
        rintro v48 w49 he50 rfl a51 ha51; clear ha47 a47
        have hs52 := hs21.trans' he50
        have hx53 := hx20.trans' he50
        have hzhx53 := he50.size
        refine ⟨hs52, ?_⟩
        refine dr_val (i := 9) ha51 rfl (by kernel_rfl) (by kernel_rfl) (by kernel_rfl) rfl rfl rfl hs52 (fun w' hw' => op_not ha51 rfl rfl) ?_
        intro a54 ha54; clear ha51 a51
        refine dr_end (by kernel_rfl) ?_
        refine then_n ?_
        rcases Bool.eq_false_or_eq_true (decide (x24 = x37)) with c55 | c55
        ·
          rw [c55] at ha54
          refine cond_f ha54 rfl ?_
          refine wp_skip ?_
          refine block_n ?_
          refine then_n ?_
          refine wp_region_lit ?_
          refine wl_val ha54 rfl rfl rfl (op_move ha54 rfl rfl) ?_
          intro a56 ha56; clear ha54 a54
          refine wl_val ha56 rfl rfl rfl ((op_add ha56 rfl rfl rfl).int (IntWalk.i64_in _ (by omega))) ?_
          intro a57 ha57; clear ha56 a56
          refine wl_val ha57 rfl rfl rfl (op_assign ha57 rfl rfl) ?_
          intro a58 ha58; clear ha57 a57
          refine wpList_nil ?_
          refine round_end (x := i) ((i + 1)) ?_ ?_
          ·
            refine ⟨(Sl.cons_ ha58 rfl rfl (Sl.cons_ ha58 rfl rfl (Sl.cons_ ha58 rfl (int_eq (by omega)) (Sl.nil_ ha58)))), hx53, (by omega), (by omega), (by exact hl), (by rw [eqL_step hx24 hx37] at hF; simpa [c7, c17, c55] using hF)⟩
          · show (a.length - ((i + 1)) : Nat) < a.length - i; omega
        ·
          rw [c55] at ha54
          refine cond_t ha54 rfl ?_
          refine wp_seq ?_
          refine wp_region_lit ?_
          refine wl_val ha54 rfl rfl rfl (op_assign ha54 rfl rfl) ?_
          intro a59 ha59; clear ha54 a54
          refine wpList_nil ?_
          refine then_n ?_
          refine wp_ret ?_
          refine block_r ?_
          refine then_r ?_
          refine then_r ?_
          refine block_r ?_
          refine then_r ?_
          refine ret1 ha59 rfl rfl ?_
          clear ha59 a59
          rw [eqL_step hx24 hx37] at hF
          exact ret_mk hx53 (congrArg Value.bool (by first | (simp [← hF, c7, c17, c55]; done) | (simp [← hF, c7, c17, c55]; omega) | (rw [Bool.eq_iff_iff]; simp [← hF, c7, c17, c55]; done) | (rw [Bool.eq_iff_iff]; simp [← hF, c7, c17, c55]; omega)))
      ·
        rw [decide_eq_false c17] at ha16
        refine cond_f ha16 rfl ?_
        refine wp_exit ?_
        refine then_e ?_
        refine then_e ?_
        refine block_hit ?_
        refine then_n ?_
        refine wp_seq ?_
        refine wp_region_lit ?_
        refine wl_val ha16 rfl rfl rfl (op_assign ha16 rfl rfl) ?_
        intro a60 ha60; clear ha16 a16
        refine wpList_nil ?_
        refine then_n ?_
        refine wp_ret ?_
        refine ret1 ha60 rfl rfl ?_
        clear ha60 a60
        rw [drop_nil (by omega), drop_nil (by omega), eqL_nil] at hF
        exact ret_mk hx10 (congrArg Value.bool (by first | (simp [← hF, c7, c17]; done) | (simp [← hF, c7, c17]; omega) | (rw [Bool.eq_iff_iff]; simp [← hF, c7, c17]; done) | (rw [Bool.eq_iff_iff]; simp [← hF, c7, c17]; omega)))
  ·
    rw [decide_eq_false c7] at ha6
    refine cond_t ha6 rfl ?_
    refine wp_seq ?_
    refine wp_region_lit ?_
    refine wl_val ha6 rfl rfl rfl (op_assign ha6 rfl rfl) ?_
    intro a61 ha61; clear ha6 a6
    refine wpList_nil ?_
    refine then_n ?_
    refine wp_ret ?_
    refine then_r ?_
    refine ret1 ha61 rfl rfl ?_
    clear ha61 a61
    
    exact ret_mk hx0 (congrArg Value.bool (by rw [eqL_len (by omega)]))


end Go.Proofs.Ytkdnclpgijkceaa
