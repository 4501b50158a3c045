/- The helpers of the laws over desks. -/
import Derived.Test.YthbehhhblchhhaaS1
import Derived.Test.YthbehhhblchhhaaD1
namespace Go.Proofs.Ythbehhhblchhhaa
open Go Go.RowKit

theorem set_take {α : Type} {acc xs : List α} {i : Nat} {x : α} (h : acc.take i = xs.take i) (hl : acc.length = xs.length) (hx : xs[i]? = some x) : (acc.set i x).take (i + 1) = xs.take (i + 1) := by
  have hi : i < xs.length := (List.getElem?_eq_some_iff.1 hx).1
  rw [take_snoc hx, ← h]
  have : (acc.set i x)[i]? = some x := by rw [List.getElem?_set_self (by omega)]
  rw [take_snoc this, List.take_set_of_le (Nat.le_refl _)]
/-- Do two lists agree place by place? -/
def eqL {α : Type} [DecidableEq α] (xs ys : List α) : Bool := decide (xs = ys)
theorem eqL_nil {α : Type} [DecidableEq α] : eqL ([] : List α) [] = true := by simp [eqL]
theorem eqL_self {α : Type} [DecidableEq α] (xs : List α) : eqL xs xs = true := by simp [eqL]
theorem eqL_len {α : Type} [DecidableEq α] {xs ys : List α} (h : ¬ xs.length = ys.length) : eqL xs ys = false := by
  unfold eqL; rw [decide_eq_false]; intro e; exact h (by rw [e])
theorem eqL_step {α : Type} [DecidableEq α] {xs ys : List α} {i : Nat} {x y : α} (hx : xs[i]? = some x) (hy : ys[i]? = some y) : eqL (xs.drop i) (ys.drop i) = (decide (x = y) && eqL (xs.drop (i + 1)) (ys.drop (i + 1))) := by
  unfold eqL; rw [drop_cons hx, drop_cons hy, Bool.eq_iff_iff]; simp
/-- How much is left of a size behind a piece of that cost; -1: too little. -/
def szR (n : Int) (k : Nat) : Int := if n - k < 0 then -1 else n - k
theorem szR_ok {n : Int} {k : Nat} (h : ¬ szR n k < 0) : (k : Int) ≤ n ∧ szR n k = n - k := by unfold szR at *; split at h <;> simp_all <;> omega
theorem szR_no {n : Int} {k : Nat} (h : szR n k < 0) : n < (k : Int) := by unfold szR at h; split at h <;> omega
theorem szR_add {n : Int} {k m : Nat} (h : ¬ szR n k < 0) : szR n (k + m) = szR (szR n k) m := by
  obtain ⟨h1, h2⟩ := szR_ok h
  rw [h2]; unfold szR; split <;> split <;> omega
theorem szR_neg {n : Int} {k m : Nat} (h : szR n k < 0) : szR n (k + m) = -1 := by
  have := szR_no h; unfold szR; rw [if_pos (by omega)]
theorem szR_le {n : Int} {k : Nat} (h : 0 ≤ n) : szR n k ≤ n := by unfold szR; split <;> omega
theorem szR_zero {n : Int} (h : 0 ≤ n) : szR n 0 = n := by unfold szR; rw [if_neg (by omega)]; omega
theorem szR_if {n : Int} {k : Nat} (h : n < (k : Int)) : szR n k = -1 := by unfold szR; rw [if_pos (by omega)]
theorem szR_nif {n : Int} {k : Nat} (h : (k : Int) ≤ n) : szR n k = n - k := by unfold szR; rw [if_neg (by omega)]
/-- What the elements cost, and a list of them. -/
def sumC {α : Type} (c : α → Nat) : List α → Nat
  | [] => 0
  | x :: xs => c x + sumC c xs
def costL {α : Type} (c : α → Nat) (xs : List α) : Nat := xs.length + sumC c xs
theorem costL_len {α : Type} (c : α → Nat) (xs : List α) : xs.length ≤ costL c xs := by unfold costL; omega
theorem sumC_mem {α : Type} (c : α → Nat) : ∀ (xs : List α) (x : α), x ∈ xs → c x ≤ sumC c xs
  | [], x, h => by simp at h
  | y :: ys, x, h => by
    rcases List.mem_cons.1 h with e | e
    · subst e; simp only [sumC]; omega
    · have := sumC_mem c ys x e; simp only [sumC]; omega
theorem cost_mem {α : Type} {c : α → Nat} {xs : List α} {x : α} (h : x ∈ xs) : c x ≤ costL c xs := by have := sumC_mem c xs x h; unfold costL; omega
theorem hset_self {α : Type} {xs : List α} {i : Nat} {x y : α} (h : (xs.set i x)[i]? = some y) (hi : i < xs.length) : y = x := by
  rw [List.getElem?_set_self hi] at h; exact (Option.some.inj h).symm

/-- The text of a mark. -/
def mkT (k : Int) : Str := if k ≤ 0 then [109, 48] else 109 :: digs k.toNat
theorem mkT_step {m : Int} (h : 0 < m) : (if 0 < m / 10 then digs (m / 10).toNat else []) ++ [UInt8.ofNat (48 + m.toNat % 10)] = digs m.toNat := by
  by_cases h10 : m < 10
  · rw [if_neg (by omega), digs_lt (by omega)]; simp
  · have e : (m / 10).toNat = m.toNat / 10 := by omega
    rw [if_pos (by omega), digs_ge (n := m.toNat) (by omega), e]
theorem mkT_len {k : Int} (h : k ≤ 9223372036854775807) : (mkT k).length ≤ 20 := by
  unfold mkT
  split
  · simp
  · have := digs_len19 (n := k.toNat) (by omega); simp; omega

def mkI (k : Int) : Int := k
def okI (x : Int) (k : Int) : Bool := decide (x = k)
theorem okI_mk (k : Int) : okI (mkI k) k = true := by simp [okI, mkI]
def mkS (k : Int) : Str := mkT k
def okS (x : Str) (k : Int) : Bool := decide (x = mkT k)
theorem okS_mk (k : Int) : okS (mkS k) k = true := by simp [okS, mkS]

def costEnt (x : Int × Int × Str × Int) : Nat := x.2.2.1.length
def mkEnt (k : Int) : Int × Int × Str × Int := (k, k + 1, mkT (k + 1 + 1), k + 1 + 1 + 1)
def okEnt (x : Int × Int × Str × Int) (k : Int) : Bool := decide (x = mkEnt k)
theorem okEnt_mk (k : Int) : okEnt (mkEnt k) k = true := by simp [okEnt]

def costBin (x : Str × Int × Int × Int × Int) : Nat := x.1.length
def mkBin (k : Int) : Str × Int × Int × Int × Int := (mkT k, k + 1, k + 1 + 1, k + 1 + 1 + 1, k + 1 + 1 + 1 + 1)
def okBin (x : Str × Int × Int × Int × Int) (k : Int) : Bool := decide (x = mkBin k)
theorem okBin_mk (k : Int) : okBin (mkBin k) k = true := by simp [okBin]

def costProm (x : Str × Int × Int) : Nat := x.1.length
def mkProm (k : Int) : Str × Int × Int := (mkT k, k + 1, k + 1 + 1)
def okProm (x : Str × Int × Int) (k : Int) : Bool := decide (x = mkProm k)
theorem okProm_mk (k : Int) : okProm (mkProm k) k = true := by simp [okProm]

instance decPE : DecidableEq (List (Str × Int × Int) × List (Int × Int × Str × Int)) := instDecidableEqProd
instance decDesk : DecidableEq (List (Str × Int × Int × Int × Int) × List (Str × Int × Int) × List (Int × Int × Str × Int)) := instDecidableEqProd
theorem szR_m1 {n : Int} {k : Nat} (h : szR n k < 0) : szR n k = -1 := by have := szR_neg (m := 0) h; simpa using this
def costDesk (d : List Bin × List Prom × List Ent) : Nat := costL costBin d.1 + (costL costProm d.2.1 + costL costEnt d.2.2)
theorem costDesk_eq (d : List Bin × List Prom × List Ent) : costDesk d = costL costBin d.1 + costL costProm d.2.1 + costL costEnt d.2.2 := by unfold costDesk; omega

theorem c_laws_szBin (w0 : World) (a : Str × Int × Int × Int × Int) (left : Int) (g0 : left ≤ 1048576) (g1 : 0 ≤ left) (g2 : a.1.length ≤ 9223372036854775807) :
    Calls Try.prog 35 #[.agg #[St a.1, .int .i64 a.2.1, .int .i64 a.2.2.1, .int .i64 a.2.2.2.1, .int .i64 a.2.2.2.2], .int .i64 left] w0 (Ret w0 (fun v _ => v = .int .i64 (szR left (costBin a)))) := by
  refine enter (N := 13) Try.func35 rfl rfl rfl ?_
  intro a0 ha0
  have hx0 := Ext.rfl' w0
  refine wp_seq ?_
  refine wp_region_lit ?_
  refine wl_eff ha0 rfl rfl rfl (op_box' ha0 rfl rfl rfl) ?_
  rintro _ w2 ⟨rfl, he3, hb4, hz5⟩ a6 ha6; clear ha0 a0
  have hx7 := hx0.trans' he3
  have hzhx7 := he3.size
  refine wl_val ha6 rfl rfl rfl (op_assign ha6 rfl rfl) ?_
  intro a8 ha8; clear ha6 a6
  refine wpList_nil ?_
  refine then_n ?_
  refine wp_seq ?_
  refine wp_region_lit ?_
  refine wl_val ha8 rfl rfl rfl (op_move ha8 rfl rfl) ?_
  intro a9 ha9; clear ha8 a8
  refine wl_val ha9 rfl rfl rfl (op_fieldAddr (sz := 0) ha9 rfl Try.underlying62 rfl rfl ti9 rfl) ?_
  intro a10 ha10; clear ha9 a9
  refine wl_val ha10 rfl rfl rfl (op_loadF (off := 0) ha10 rfl Try.underlying9 rfl rfl hb4.cells rfl) ?_
  intro a11 ha11; clear ha10 a10
  refine wl_val ha11 rfl rfl rfl (op_len_str ha11 rfl Try.underlying9 rfl) ?_
  intro a12 ha12; clear ha11 a11
  refine wl_val ha12 rfl rfl rfl ((op_sub ha12 rfl rfl rfl).int (IntWalk.i64_in _ (by omega))) ?_
  intro a13 ha13; clear ha12 a12
  refine wl_val ha13 rfl rfl rfl (op_assign ha13 rfl rfl) ?_
  intro a14 ha14; clear ha13 a13
  refine wpList_nil ?_
  refine then_n ?_
  refine wp_seq ?_
  refine wp_seq ?_
  refine wp_region_lit ?_
  refine wl_val ha14 rfl rfl rfl (op_move ha14 rfl rfl) ?_
  intro a15 ha15; clear ha14 a14
  refine wl_val ha15 rfl rfl rfl (op_lss ha15 rfl rfl rfl) ?_
  intro a16 ha16; clear ha15 a15
  refine wpList_nil ?_
  refine then_n ?_
  by_cases c17 : (left - ((a.1.length : Nat) : Int)) < (0 : Int)
  ·
    rw [decide_eq_true c17] at ha16
    refine cond_t ha16 rfl ?_
    refine wp_seq ?_
    refine wp_region_lit ?_
    refine wl_val ha16 rfl rfl rfl (op_assign ha16 rfl rfl) ?_
    intro a18 ha18; clear ha16 a16
    refine wpList_nil ?_
    refine then_n ?_
    refine wp_ret ?_
    refine then_r ?_
    refine ret1 ha18 rfl rfl ?_
    clear ha18 a18
    exact ret_mk hx7 (int_eq (by unfold costBin; first | rw [szR_if (by omega)] | rw [szR_nif (by omega)] | (rw [szR_nif (by omega)]; omega)))
  ·
    rw [decide_eq_false c17] at ha16
    refine cond_f ha16 rfl ?_
    refine wp_skip ?_
    refine then_n ?_
    refine wp_seq ?_
    refine wp_region_lit ?_
    refine wl_val ha16 rfl rfl rfl (op_move ha16 rfl rfl) ?_
    intro a19 ha19; clear ha16 a16
    refine wl_val ha19 rfl rfl rfl (op_assign ha19 rfl rfl) ?_
    intro a20 ha20; clear ha19 a19
    refine wpList_nil ?_
    refine then_n ?_
    refine wp_ret ?_
    refine ret1 ha20 rfl rfl ?_
    clear ha20 a20
    exact ret_mk hx7 (int_eq (by unfold costBin; first | rw [szR_if (by omega)] | rw [szR_nif (by omega)] | (rw [szR_nif (by omega)]; omega)))

theorem c_laws_szBinS (w0 : World) (v_a : Value) (a : List (Str × Int × Int × Int × Int)) {S_a : Nat → Prop} (left : Int) (h_a : Rds shBin S_a w0 v_a a) (g0 : left ≤ 1048576) (g1 : 0 ≤ left) :
    Calls Try.prog 14 #[v_a, .int .i64 left] w0 (Ret w0 (fun v _ => v = .int .i64 (szR left (costL costBin a)))) := by
  refine enter (N := 27) Try.func14 rfl rfl rfl ?_
  intro a0 ha0
  have hx0 := Ext.rfl' w0
  have hl_a := h_a.length_le
  refine wp_seq ?_
  refine wp_region_lit ?_
  refine wl_val ha0 rfl rfl rfl (op_assign ha0 rfl rfl) ?_
  intro a1 ha1; clear ha0 a0
  refine wpList_nil ?_
  refine then_n ?_
  refine wp_seq ?_
  refine wp_region_lit ?_
  refine wl_val ha1 rfl rfl rfl (op_move ha1 rfl rfl) ?_
  intro a2 ha2; clear ha1 a1
  refine wl_val ha2 rfl rfl rfl (op_move ha2 rfl rfl) ?_
  intro a3 ha3; clear ha2 a2
  refine wl_val ha3 rfl rfl rfl (op_len_sl ha3 rfl Try.underlying23 rfl h_a) ?_
  intro a4 ha4; clear ha3 a3
  refine wl_val ha4 rfl rfl rfl ((op_sub ha4 rfl rfl rfl).int (IntWalk.i64_in _ (by omega))) ?_
  intro a5 ha5; clear ha4 a4
  refine wl_val ha5 rfl rfl rfl (op_assign ha5 rfl rfl) ?_
  intro a6 ha6; clear ha5 a5
  refine wpList_nil ?_
  refine then_n ?_
  refine wp_seq ?_
  refine wp_seq ?_
  refine wp_region_lit ?_
  refine wl_val ha6 rfl rfl rfl (op_move ha6 rfl rfl) ?_
  intro a7 ha7; clear ha6 a6
  refine wl_val ha7 rfl rfl rfl (op_lss ha7 rfl rfl rfl) ?_
  intro a8 ha8; clear ha7 a7
  refine wpList_nil ?_
  refine then_n ?_
  by_cases c9 : (left - ((a.length : Nat) : Int)) < (0 : Int)
  ·
    rw [decide_eq_true c9] at ha8
    refine cond_t ha8 rfl ?_
    refine wp_seq ?_
    refine wp_region_lit ?_
    refine wl_val ha8 rfl rfl rfl (op_assign ha8 rfl rfl) ?_
    intro a10 ha10; clear ha8 a8
    refine wpList_nil ?_
    refine then_n ?_
    refine wp_ret ?_
    refine then_r ?_
    refine ret1 ha10 rfl rfl ?_
    clear ha10 a10
    
    exact ret_mk hx0 (int_eq (by unfold costL; rw [szR_if (by omega)]))
  ·
    rw [decide_eq_false c9] at ha8
    refine cond_f ha8 rfl ?_
    refine wp_skip ?_
    refine then_n ?_
    refine wp_seq ?_
    refine wp_seq ?_
    refine wp_region_lit ?_
    refine wl_val ha8 rfl rfl rfl (op_assign ha8 rfl rfl) ?_
    intro a11 ha11; clear ha8 a8
    refine wpList_nil ?_
    refine then_n ?_
    refine wp_block ?_
    refine loop_inv (X := Nat × Int) (fun (⟨i, n⟩ : Nat × Int) fr wl => Sl 27 fr [(0, v_a), (1, .int .i64 n), (5, .int .i64 ((i : Nat) : Int))] ∧ Ext w0 wl ∧ w0.heap.size ≤ wl.heap.size ∧ (i ≤ a.length) ∧ (0 ≤ n) ∧ (n ≤ 1048576) ∧ (szR n (sumC costBin (a.drop i)) = szR left (costL costBin a))) (fun (⟨i, n⟩ : Nat × Int) => a.length - i) (0, (left - ((a.length : Nat) : Int))) ?_ ?_
    ·
      exact ⟨(Sl.cons_ ha11 rfl rfl (Sl.cons_ ha11 rfl (int_eq (by omega)) (Sl.cons_ ha11 rfl (int_eq (by omega)) (Sl.nil_ ha11)))), hx0, (by omega), (by omega), (by omega), (by omega), (by unfold costL; rw [szR_add (by rw [szR_nif (by omega)]; omega), szR_nif (k := a.length) (by omega)]; rfl)⟩
    ·
      clear ha11 a11
      rintro ⟨i, n⟩ a14 w12 ⟨ha14, hx13, hzl15, hi, hn0, hn1, hF⟩
      have hzhx13 := hx13.size
      refine wp_seq ?_
      refine wp_seq ?_
      refine wp_region_lit ?_
      refine wl_val ha14 rfl rfl rfl (op_move ha14 rfl rfl) ?_
      intro a16 ha16; clear ha14 a14
      refine wl_val ha16 rfl rfl rfl (op_move ha16 rfl rfl) ?_
      intro a17 ha17; clear ha16 a16
      refine wl_val ha17 rfl rfl rfl (op_len_sl ha17 rfl Try.underlying23 rfl h_a) ?_
      intro a18 ha18; clear ha17 a17
      refine wl_val ha18 rfl rfl rfl (op_lss ha18 rfl rfl rfl) ?_
      intro a19 ha19; clear ha18 a18
      refine wpList_nil ?_
      refine then_n ?_
      by_cases c20 : ((i : Nat) : Int) < ((a.length : Nat) : Int)
      ·
        rw [decide_eq_true c20] at ha19
        refine cond_t ha19 rfl ?_
        refine wp_skip ?_
        refine then_n ?_
        refine wp_seq ?_
        refine wp_block ?_
        refine wp_seq ?_
        refine wp_region_lit ?_
        refine wl_val ha19 rfl rfl rfl (op_move ha19 rfl rfl) ?_
        intro a21 ha21; clear ha19 a19
        refine wl_val ha21 rfl rfl rfl (op_move ha21 rfl rfl) ?_
        intro a22 ha22; clear ha21 a21
        obtain ⟨x23, hx23⟩ := get_ex (xs := a) (j := i) (by omega)
        obtain ⟨p24, c25, hi26, hc27, hr28, hs29⟩ := Rds.at_ h_a hx23
        obtain ⟨rfl, b30, b31, b32, b33, b34⟩ := inv_shBin hr28
        refine wl_val ha22 rfl rfl rfl (op_indexAddr ha22 rfl Try.underlying23 ti62 rfl rfl (by omega) hi26) ?_
        intro a35 ha35; clear ha22 a22
        refine wl_val ha35 rfl rfl rfl (op_loadS ha35 rfl Try.underlying62 ti62 rfl rfl (hc27.ext hx13)) ?_
        intro a36 ha36; clear ha35 a35
        refine wl_val ha36 rfl rfl rfl (op_move ha36 rfl rfl) ?_
        intro a37 ha37; clear ha36 a36
        refine wl_callR ha37 rfl rfl rfl (op_call ha37 rfl cb35 rfl) (c_laws_szBin _ x23 n (by first | assumption | omega | (simp; omega) | (simp [mkN_length]; omega)) (by first | assumption | omega | (simp; omega) | (simp [mkN_length]; omega)) (by first | assumption | omega | (simp; omega) | (simp [mkN_length]; omega))) ?_
        rintro v38 w39 he40 rfl a41 ha41; clear ha37 a37
        have hx42 := hx13.trans' he40
        have hzhx42 := he40.size
        refine wl_val ha41 rfl rfl rfl (op_assign ha41 rfl rfl) ?_
        intro a43 ha43; clear ha41 a41
        refine wpList_nil ?_
        refine then_n ?_
        refine wp_seq ?_
        refine wp_region_lit ?_
        refine wl_val ha43 rfl rfl rfl (op_move ha43 rfl rfl) ?_
        intro a44 ha44; clear ha43 a43
        refine wl_val ha44 rfl rfl rfl (op_lss ha44 rfl rfl rfl) ?_
        intro a45 ha45; clear ha44 a44
        refine wpList_nil ?_
        refine then_n ?_
        by_cases c46 : (szR n (costBin x23) : Int) < (0 : Int)
        ·
          rw [decide_eq_true c46] at ha45
          refine cond_t ha45 rfl ?_
          refine wp_seq ?_
          refine wp_region_lit ?_
          refine wl_val ha45 rfl rfl rfl (op_assign ha45 rfl rfl) ?_
          intro a47 ha47; clear ha45 a45
          refine wpList_nil ?_
          refine then_n ?_
          refine wp_ret ?_
          refine block_r ?_
          refine then_r ?_
          refine then_r ?_
          refine block_r ?_
          refine then_r ?_
          refine ret1 ha47 rfl rfl ?_
          clear ha47 a47
          rw [drop_cons hx23] at hF
          simp only [sumC] at hF
          rw [szR_neg (by omega)] at hF
          exact ret_mk hx42 (int_eq (by exact hF))
        ·
          rw [decide_eq_false c46] at ha45
          refine cond_f ha45 rfl ?_
          refine wp_skip ?_
          refine block_n ?_
          refine then_n ?_
          refine wp_region_lit ?_
          refine wl_val ha45 rfl rfl rfl (op_move ha45 rfl rfl) ?_
          intro a48 ha48; clear ha45 a45
          refine wl_val ha48 rfl rfl rfl ((op_add ha48 rfl rfl rfl).int (IntWalk.i64_in _ (by omega))) ?_
          intro a49 ha49; clear ha48 a48
          refine wl_val ha49 rfl rfl rfl (op_assign ha49 rfl rfl) ?_
          intro a50 ha50; clear ha49 a49
          refine wpList_nil ?_
          refine round_end (x := (i, n)) ((i + 1), (szR n (costBin x23) : Int)) ?_ ?_
          ·
            refine ⟨(Sl.cons_ ha50 rfl rfl (Sl.cons_ ha50 rfl (int_eq (by omega)) (Sl.cons_ ha50 rfl (int_eq (by omega)) (Sl.nil_ ha50)))), hx42, (by omega), (by omega), (by omega), (by have := szR_le (k := costBin x23) hn0; omega), (by rw [drop_cons hx23] at hF; simp only [sumC] at hF; rw [szR_add (by omega)] at hF; exact hF)⟩
          · show (a.length - ((i + 1)) : Nat) < a.length - i; omega
      ·
        rw [decide_eq_false c20] at ha19
        refine cond_f ha19 rfl ?_
        refine wp_exit ?_
        refine then_e ?_
        refine then_e ?_
        refine block_hit ?_
        refine then_n ?_
        refine wp_seq ?_
        refine wp_region_lit ?_
        refine wl_val ha19 rfl rfl rfl (op_move ha19 rfl rfl) ?_
        intro a51 ha51; clear ha19 a19
        refine wl_val ha51 rfl rfl rfl (op_assign ha51 rfl rfl) ?_
        intro a52 ha52; clear ha51 a51
        refine wpList_nil ?_
        refine then_n ?_
        refine wp_ret ?_
        refine ret1 ha52 rfl rfl ?_
        clear ha52 a52
        rw [drop_nil (by omega)] at hF
        simp only [sumC] at hF
        rw [szR_zero (by omega)] at hF
        exact ret_mk hx13 (int_eq (by exact hF))

theorem c_laws_szPromise (w0 : World) (a : Str × Int × Int) (left : Int) (g0 : left ≤ 1048576) (g1 : 0 ≤ left) (g2 : a.1.length ≤ 9223372036854775807) :
    Calls Try.prog 36 #[.agg #[St a.1, .int .i64 a.2.1, .int .i64 a.2.2], .int .i64 left] w0 (Ret w0 (fun v _ => v = .int .i64 (szR left (costProm a)))) := by
  refine enter (N := 13) Try.func36 rfl rfl rfl ?_
  intro a0 ha0
  have hx0 := Ext.rfl' w0
  refine wp_seq ?_
  refine wp_region_lit ?_
  refine wl_eff ha0 rfl rfl rfl (op_box' ha0 rfl rfl rfl) ?_
  rintro _ w2 ⟨rfl, he3, hb4, hz5⟩ a6 ha6; clear ha0 a0
  have hx7 := hx0.trans' he3
  have hzhx7 := he3.size
  refine wl_val ha6 rfl rfl rfl (op_assign ha6 rfl rfl) ?_
  intro a8 ha8; clear ha6 a6
  refine wpList_nil ?_
  refine then_n ?_
  refine wp_seq ?_
  refine wp_region_lit ?_
  refine wl_val ha8 rfl rfl rfl (op_move ha8 rfl rfl) ?_
  intro a9 ha9; clear ha8 a8
  refine wl_val ha9 rfl rfl rfl (op_fieldAddr (sz := 0) ha9 rfl Try.underlying65 rfl rfl ti9 rfl) ?_
  intro a10 ha10; clear ha9 a9
  refine wl_val ha10 rfl rfl rfl (op_loadF (off := 0) ha10 rfl Try.underlying9 rfl rfl hb4.cells rfl) ?_
  intro a11 ha11; clear ha10 a10
  refine wl_val ha11 rfl rfl rfl (op_len_str ha11 rfl Try.underlying9 rfl) ?_
  intro a12 ha12; clear ha11 a11
  refine wl_val ha12 rfl rfl rfl ((op_sub ha12 rfl rfl rfl).int (IntWalk.i64_in _ (by omega))) ?_
  intro a13 ha13; clear ha12 a12
  refine wl_val ha13 rfl rfl rfl (op_assign ha13 rfl rfl) ?_
  intro a14 ha14; clear ha13 a13
  refine wpList_nil ?_
  refine then_n ?_
  refine wp_seq ?_
  refine wp_seq ?_
  refine wp_region_lit ?_
  refine wl_val ha14 rfl rfl rfl (op_move ha14 rfl rfl) ?_
  intro a15 ha15; clear ha14 a14
  refine wl_val ha15 rfl rfl rfl (op_lss ha15 rfl rfl rfl) ?_
  intro a16 ha16; clear ha15 a15
  refine wpList_nil ?_
  refine then_n ?_
  by_cases c17 : (left - ((a.1.length : Nat) : Int)) < (0 : Int)
  ·
    rw [decide_eq_true c17] at ha16
    refine cond_t ha16 rfl ?_
    refine wp_seq ?_
    refine wp_region_lit ?_
    refine wl_val ha16 rfl rfl rfl (op_assign ha16 rfl rfl) ?_
    intro a18 ha18; clear ha16 a16
    refine wpList_nil ?_
    refine then_n ?_
    refine wp_ret ?_
    refine then_r ?_
    refine ret1 ha18 rfl rfl ?_
    clear ha18 a18
    exact ret_mk hx7 (int_eq (by unfold costProm; first | rw [szR_if (by omega)] | rw [szR_nif (by omega)] | (rw [szR_nif (by omega)]; omega)))
  ·
    rw [decide_eq_false c17] at ha16
    refine cond_f ha16 rfl ?_
    refine wp_skip ?_
    refine then_n ?_
    refine wp_seq ?_
    refine wp_region_lit ?_
    refine wl_val ha16 rfl rfl rfl (op_move ha16 rfl rfl) ?_
    intro a19 ha19; clear ha16 a16
    refine wl_val ha19 rfl rfl rfl (op_assign ha19 rfl rfl) ?_
    intro a20 ha20; clear ha19 a19
    refine wpList_nil ?_
    refine then_n ?_
    refine wp_ret ?_
    refine ret1 ha20 rfl rfl ?_
    clear ha20 a20
    exact ret_mk hx7 (int_eq (by unfold costProm; first | rw [szR_if (by omega)] | rw [szR_nif (by omega)] | (rw [szR_nif (by omega)]; omega)))

theorem c_laws_szPromiseS (w0 : World) (v_a : Value) (a : List (Str × Int × Int)) {S_a : Nat → Prop} (left : Int) (h_a : Rds shProm S_a w0 v_a a) (g0 : left ≤ 1048576) (g1 : 0 ≤ left) :
    Calls Try.prog 15 #[v_a, .int .i64 left] w0 (Ret w0 (fun v _ => v = .int .i64 (szR left (costL costProm a)))) := by
  refine enter (N := 27) Try.func15 rfl rfl rfl ?_
  intro a0 ha0
  have hx0 := Ext.rfl' w0
  have hl_a := h_a.length_le
  refine wp_seq ?_
  refine wp_region_lit ?_
  refine wl_val ha0 rfl rfl rfl (op_assign ha0 rfl rfl) ?_
  intro a1 ha1; clear ha0 a0
  refine wpList_nil ?_
  refine then_n ?_
  refine wp_seq ?_
  refine wp_region_lit ?_
  refine wl_val ha1 rfl rfl rfl (op_move ha1 rfl rfl) ?_
  intro a2 ha2; clear ha1 a1
  refine wl_val ha2 rfl rfl rfl (op_move ha2 rfl rfl) ?_
  intro a3 ha3; clear ha2 a2
  refine wl_val ha3 rfl rfl rfl (op_len_sl ha3 rfl Try.underlying24 rfl h_a) ?_
  intro a4 ha4; clear ha3 a3
  refine wl_val ha4 rfl rfl rfl ((op_sub ha4 rfl rfl rfl).int (IntWalk.i64_in _ (by omega))) ?_
  intro a5 ha5; clear ha4 a4
  refine wl_val ha5 rfl rfl rfl (op_assign ha5 rfl rfl) ?_
  intro a6 ha6; clear ha5 a5
  refine wpList_nil ?_
  refine then_n ?_
  refine wp_seq ?_
  refine wp_seq ?_
  refine wp_region_lit ?_
  refine wl_val ha6 rfl rfl rfl (op_move ha6 rfl rfl) ?_
  intro a7 ha7; clear ha6 a6
  refine wl_val ha7 rfl rfl rfl (op_lss ha7 rfl rfl rfl) ?_
  intro a8 ha8; clear ha7 a7
  refine wpList_nil ?_
  refine then_n ?_
  by_cases c9 : (left - ((a.length : Nat) : Int)) < (0 : Int)
  ·
    rw [decide_eq_true c9] at ha8
    refine cond_t ha8 rfl ?_
    refine wp_seq ?_
    refine wp_region_lit ?_
    refine wl_val ha8 rfl rfl rfl (op_assign ha8 rfl rfl) ?_
    intro a10 ha10; clear ha8 a8
    refine wpList_nil ?_
    refine then_n ?_
    refine wp_ret ?_
    refine then_r ?_
    refine ret1 ha10 rfl rfl ?_
    clear ha10 a10
    
    exact ret_mk hx0 (int_eq (by unfold costL; rw [szR_if (by omega)]))
  ·
    rw [decide_eq_false c9] at ha8
    refine cond_f ha8 rfl ?_
    refine wp_skip ?_
    refine then_n ?_
    refine wp_seq ?_
    refine wp_seq ?_
    refine wp_region_lit ?_
    refine wl_val ha8 rfl rfl rfl (op_assign ha8 rfl rfl) ?_
    intro a11 ha11; clear ha8 a8
    refine wpList_nil ?_
    refine then_n ?_
    refine wp_block ?_
    refine loop_inv (X := Nat × Int) (fun (⟨i, n⟩ : Nat × Int) fr wl => Sl 27 fr [(0, v_a), (1, .int .i64 n), (5, .int .i64 ((i : Nat) : Int))] ∧ Ext w0 wl ∧ w0.heap.size ≤ wl.heap.size ∧ (i ≤ a.length) ∧ (0 ≤ n) ∧ (n ≤ 1048576) ∧ (szR n (sumC costProm (a.drop i)) = szR left (costL costProm a))) (fun (⟨i, n⟩ : Nat × Int) => a.length - i) (0, (left - ((a.length : Nat) : Int))) ?_ ?_
    ·
      exact ⟨(Sl.cons_ ha11 rfl rfl (Sl.cons_ ha11 rfl (int_eq (by omega)) (Sl.cons_ ha11 rfl (int_eq (by omega)) (Sl.nil_ ha11)))), hx0, (by omega), (by omega), (by omega), (by omega), (by unfold costL; rw [szR_add (by rw [szR_nif (by omega)]; omega), szR_nif (k := a.length) (by omega)]; rfl)⟩
    ·
      clear ha11 a11
      rintro ⟨i, n⟩ a14 w12 ⟨ha14, hx13, hzl15, hi, hn0, hn1, hF⟩
      have hzhx13 := hx13.size
      refine wp_seq ?_
      refine wp_seq ?_
      refine wp_region_lit ?_
      refine wl_val ha14 rfl rfl rfl (op_move ha14 rfl rfl) ?_
      intro a16 ha16; clear ha14 a14
      refine wl_val ha16 rfl rfl rfl (op_move ha16 rfl rfl) ?_
      intro a17 ha17; clear ha16 a16
      refine wl_val ha17 rfl rfl rfl (op_len_sl ha17 rfl Try.underlying24 rfl h_a) ?_
      intro a18 ha18; clear ha17 a17
      refine wl_val ha18 rfl rfl rfl (op_lss ha18 rfl rfl rfl) ?_
      intro a19 ha19; clear ha18 a18
      refine wpList_nil ?_
      refine then_n ?_
      by_cases c20 : ((i : Nat) : Int) < ((a.length : Nat) : Int)
      ·
        rw [decide_eq_true c20] at ha19
        refine cond_t ha19 rfl ?_
        refine wp_skip ?_
        refine then_n ?_
        refine wp_seq ?_
        refine wp_block ?_
        refine wp_seq ?_
        refine wp_region_lit ?_
        refine wl_val ha19 rfl rfl rfl (op_move ha19 rfl rfl) ?_
        intro a21 ha21; clear ha19 a19
        refine wl_val ha21 rfl rfl rfl (op_move ha21 rfl rfl) ?_
        intro a22 ha22; clear ha21 a21
        obtain ⟨x23, hx23⟩ := get_ex (xs := a) (j := i) (by omega)
        obtain ⟨p24, c25, hi26, hc27, hr28, hs29⟩ := Rds.at_ h_a hx23
        obtain ⟨rfl, b30, b31, b32⟩ := inv_shProm hr28
        refine wl_val ha22 rfl rfl rfl (op_indexAddr ha22 rfl Try.underlying24 ti65 rfl rfl (by omega) hi26) ?_
        intro a33 ha33; clear ha22 a22
        refine wl_val ha33 rfl rfl rfl (op_loadS ha33 rfl Try.underlying65 ti65 rfl rfl (hc27.ext hx13)) ?_
        intro a34 ha34; clear ha33 a33
        refine wl_val ha34 rfl rfl rfl (op_move ha34 rfl rfl) ?_
        intro a35 ha35; clear ha34 a34
        refine wl_callR ha35 rfl rfl rfl (op_call ha35 rfl cb36 rfl) (c_laws_szPromise _ x23 n (by first | assumption | omega | (simp; omega) | (simp [mkN_length]; omega)) (by first | assumption | omega | (simp; omega) | (simp [mkN_length]; omega)) (by first | assumption | omega | (simp; omega) | (simp [mkN_length]; omega))) ?_
        rintro v36 w37 he38 rfl a39 ha39; clear ha35 a35
        have hx40 := hx13.trans' he38
        have hzhx40 := he38.size
        refine wl_val ha39 rfl rfl rfl (op_assign ha39 rfl rfl) ?_
        intro a41 ha41; clear ha39 a39
        refine wpList_nil ?_
        refine then_n ?_
        refine wp_seq ?_
        refine wp_region_lit ?_
        refine wl_val ha41 rfl rfl rfl (op_move ha41 rfl rfl) ?_
        intro a42 ha42; clear ha41 a41
        refine wl_val ha42 rfl rfl rfl (op_lss ha42 rfl rfl rfl) ?_
        intro a43 ha43; clear ha42 a42
        refine wpList_nil ?_
        refine then_n ?_
        by_cases c44 : (szR n (costProm x23) : Int) < (0 : Int)
        ·
          rw [decide_eq_true c44] at ha43
          refine cond_t ha43 rfl ?_
          refine wp_seq ?_
          refine wp_region_lit ?_
          refine wl_val ha43 rfl rfl rfl (op_assign ha43 rfl rfl) ?_
          intro a45 ha45; clear ha43 a43
          refine wpList_nil ?_
          refine then_n ?_
          refine wp_ret ?_
          refine block_r ?_
          refine then_r ?_
          refine then_r ?_
          refine block_r ?_
          refine then_r ?_
          refine ret1 ha45 rfl rfl ?_
          clear ha45 a45
          rw [drop_cons hx23] at hF
          simp only [sumC] at hF
          rw [szR_neg (by omega)] at hF
          exact ret_mk hx40 (int_eq (by exact hF))
        ·
          rw [decide_eq_false c44] at ha43
          refine cond_f ha43 rfl ?_
          refine wp_skip ?_
          refine block_n ?_
          refine then_n ?_
          refine wp_region_lit ?_
          refine wl_val ha43 rfl rfl rfl (op_move ha43 rfl rfl) ?_
          intro a46 ha46; clear ha43 a43
          refine wl_val ha46 rfl rfl rfl ((op_add ha46 rfl rfl rfl).int (IntWalk.i64_in _ (by omega))) ?_
          intro a47 ha47; clear ha46 a46
          refine wl_val ha47 rfl rfl rfl (op_assign ha47 rfl rfl) ?_
          intro a48 ha48; clear ha47 a47
          refine wpList_nil ?_
          refine round_end (x := (i, n)) ((i + 1), (szR n (costProm x23) : Int)) ?_ ?_
          ·
            refine ⟨(Sl.cons_ ha48 rfl rfl (Sl.cons_ ha48 rfl (int_eq (by omega)) (Sl.cons_ ha48 rfl (int_eq (by omega)) (Sl.nil_ ha48)))), hx40, (by omega), (by omega), (by omega), (by have := szR_le (k := costProm x23) hn0; omega), (by rw [drop_cons hx23] at hF; simp only [sumC] at hF; rw [szR_add (by omega)] at hF; exact hF)⟩
          · show (a.length - ((i + 1)) : Nat) < a.length - i; omega
      ·
        rw [decide_eq_false c20] at ha19
        refine cond_f ha19 rfl ?_
        refine wp_exit ?_
        refine then_e ?_
        refine then_e ?_
        refine block_hit ?_
        refine then_n ?_
        refine wp_seq ?_
        refine wp_region_lit ?_
        refine wl_val ha19 rfl rfl rfl (op_move ha19 rfl rfl) ?_
        intro a49 ha49; clear ha19 a19
        refine wl_val ha49 rfl rfl rfl (op_assign ha49 rfl rfl) ?_
        intro a50 ha50; clear ha49 a49
        refine wpList_nil ?_
        refine then_n ?_
        refine wp_ret ?_
        refine ret1 ha50 rfl rfl ?_
        clear ha50 a50
        rw [drop_nil (by omega)] at hF
        simp only [sumC] at hF
        rw [szR_zero (by omega)] at hF
        exact ret_mk hx13 (int_eq (by exact hF))

theorem c_laws_szEntry (w0 : World) (a : Int × Int × Str × Int) (left : Int) (g0 : left ≤ 1048576) (g1 : 0 ≤ left) (g2 : a.2.2.1.length ≤ 9223372036854775807) :
    Calls Try.prog 37 #[.agg #[.int .i64 a.1, .int .i64 a.2.1, St a.2.2.1, .int .i64 a.2.2.2], .int .i64 left] w0 (Ret w0 (fun v _ => v = .int .i64 (szR left (costEnt a)))) := by
  refine enter (N := 13) Try.func37 rfl rfl rfl ?_
  intro a0 ha0
  have hx0 := Ext.rfl' w0
  refine wp_seq ?_
  refine wp_region_lit ?_
  refine wl_eff ha0 rfl rfl rfl (op_box' ha0 rfl rfl rfl) ?_
  rintro _ w2 ⟨rfl, he3, hb4, hz5⟩ a6 ha6; clear ha0 a0
  have hx7 := hx0.trans' he3
  have hzhx7 := he3.size
  refine wl_val ha6 rfl rfl rfl (op_assign ha6 rfl rfl) ?_
  intro a8 ha8; clear ha6 a6
  refine wpList_nil ?_
  refine then_n ?_
  refine wp_seq ?_
  refine wp_region_lit ?_
  refine wl_val ha8 rfl rfl rfl (op_move ha8 rfl rfl) ?_
  intro a9 ha9; clear ha8 a8
  refine wl_val ha9 rfl rfl rfl (op_fieldAddr (sz := 0) ha9 rfl Try.underlying68 rfl rfl ti9 rfl) ?_
  intro a10 ha10; clear ha9 a9
  refine wl_val ha10 rfl rfl rfl (op_loadF (off := 2) ha10 rfl Try.underlying9 rfl rfl hb4.cells rfl) ?_
  intro a11 ha11; clear ha10 a10
  refine wl_val ha11 rfl rfl rfl (op_len_str ha11 rfl Try.underlying9 rfl) ?_
  intro a12 ha12; clear ha11 a11
  refine wl_val ha12 rfl rfl rfl ((op_sub ha12 rfl rfl rfl).int (IntWalk.i64_in _ (by omega))) ?_
  intro a13 ha13; clear ha12 a12
  refine wl_val ha13 rfl rfl rfl (op_assign ha13 rfl rfl) ?_
  intro a14 ha14; clear ha13 a13
  refine wpList_nil ?_
  refine then_n ?_
  refine wp_seq ?_
  refine wp_seq ?_
  refine wp_region_lit ?_
  refine wl_val ha14 rfl rfl rfl (op_move ha14 rfl rfl) ?_
  intro a15 ha15; clear ha14 a14
  refine wl_val ha15 rfl rfl rfl (op_lss ha15 rfl rfl rfl) ?_
  intro a16 ha16; clear ha15 a15
  refine wpList_nil ?_
  refine then_n ?_
  by_cases c17 : (left - ((a.2.2.1.length : Nat) : Int)) < (0 : Int)
  ·
    rw [decide_eq_true c17] at ha16
    refine cond_t ha16 rfl ?_
    refine wp_seq ?_
    refine wp_region_lit ?_
    refine wl_val ha16 rfl rfl rfl (op_assign ha16 rfl rfl) ?_
    intro a18 ha18; clear ha16 a16
    refine wpList_nil ?_
    refine then_n ?_
    refine wp_ret ?_
    refine then_r ?_
    refine ret1 ha18 rfl rfl ?_
    clear ha18 a18
    exact ret_mk hx7 (int_eq (by unfold costEnt; first | rw [szR_if (by omega)] | rw [szR_nif (by omega)] | (rw [szR_nif (by omega)]; omega)))
  ·
    rw [decide_eq_false c17] at ha16
    refine cond_f ha16 rfl ?_
    refine wp_skip ?_
    refine then_n ?_
    refine wp_seq ?_
    refine wp_region_lit ?_
    refine wl_val ha16 rfl rfl rfl (op_move ha16 rfl rfl) ?_
    intro a19 ha19; clear ha16 a16
    refine wl_val ha19 rfl rfl rfl (op_assign ha19 rfl rfl) ?_
    intro a20 ha20; clear ha19 a19
    refine wpList_nil ?_
    refine then_n ?_
    refine wp_ret ?_
    refine ret1 ha20 rfl rfl ?_
    clear ha20 a20
    exact ret_mk hx7 (int_eq (by unfold costEnt; first | rw [szR_if (by omega)] | rw [szR_nif (by omega)] | (rw [szR_nif (by omega)]; omega)))

theorem c_laws_szEntryS (w0 : World) (v_a : Value) (a : List (Int × Int × Str × Int)) {S_a : Nat → Prop} (left : Int) (h_a : Rds shEnt S_a w0 v_a a) (g0 : left ≤ 1048576) (g1 : 0 ≤ left) :
    Calls Try.prog 16 #[v_a, .int .i64 left] w0 (Ret w0 (fun v _ => v = .int .i64 (szR left (costL costEnt a)))) := by
  refine enter (N := 27) Try.func16 rfl rfl rfl ?_
  intro a0 ha0
  have hx0 := Ext.rfl' w0
  have hl_a := h_a.length_le
  refine wp_seq ?_
  refine wp_region_lit ?_
  refine wl_val ha0 rfl rfl rfl (op_assign ha0 rfl rfl) ?_
  intro a1 ha1; clear ha0 a0
  refine wpList_nil ?_
  refine then_n ?_
  refine wp_seq ?_
  refine wp_region_lit ?_
  refine wl_val ha1 rfl rfl rfl (op_move ha1 rfl rfl) ?_
  intro a2 ha2; clear ha1 a1
  refine wl_val ha2 rfl rfl rfl (op_move ha2 rfl rfl) ?_
  intro a3 ha3; clear ha2 a2
  refine wl_val ha3 rfl rfl rfl (op_len_sl ha3 rfl Try.underlying25 rfl h_a) ?_
  intro a4 ha4; clear ha3 a3
  refine wl_val ha4 rfl rfl rfl ((op_sub ha4 rfl rfl rfl).int (IntWalk.i64_in _ (by omega))) ?_
  intro a5 ha5; clear ha4 a4
  refine wl_val ha5 rfl rfl rfl (op_assign ha5 rfl rfl) ?_
  intro a6 ha6; clear ha5 a5
  refine wpList_nil ?_
  refine then_n ?_
  refine wp_seq ?_
  refine wp_seq ?_
  refine wp_region_lit ?_
  refine wl_val ha6 rfl rfl rfl (op_move ha6 rfl rfl) ?_
  intro a7 ha7; clear ha6 a6
  refine wl_val ha7 rfl rfl rfl (op_lss ha7 rfl rfl rfl) ?_
  intro a8 ha8; clear ha7 a7
  refine wpList_nil ?_
  refine then_n ?_
  by_cases c9 : (left - ((a.length : Nat) : Int)) < (0 : Int)
  ·
    rw [decide_eq_true c9] at ha8
    refine cond_t ha8 rfl ?_
    refine wp_seq ?_
    refine wp_region_lit ?_
    refine wl_val ha8 rfl rfl rfl (op_assign ha8 rfl rfl) ?_
    intro a10 ha10; clear ha8 a8
    refine wpList_nil ?_
    refine then_n ?_
    refine wp_ret ?_
    refine then_r ?_
    refine ret1 ha10 rfl rfl ?_
    clear ha10 a10
    
    exact ret_mk hx0 (int_eq (by unfold costL; rw [szR_if (by omega)]))
  ·
    rw [decide_eq_false c9] at ha8
    refine cond_f ha8 rfl ?_
    refine wp_skip ?_
    refine then_n ?_
    refine wp_seq ?_
    refine wp_seq ?_
    refine wp_region_lit ?_
    refine wl_val ha8 rfl rfl rfl (op_assign ha8 rfl rfl) ?_
    intro a11 ha11; clear ha8 a8
    refine wpList_nil ?_
    refine then_n ?_
    refine wp_block ?_
    refine loop_inv (X := Nat × Int) (fun (⟨i, n⟩ : Nat × Int) fr wl => Sl 27 fr [(0, v_a), (1, .int .i64 n), (5, .int .i64 ((i : Nat) : Int))] ∧ Ext w0 wl ∧ w0.heap.size ≤ wl.heap.size ∧ (i ≤ a.length) ∧ (0 ≤ n) ∧ (n ≤ 1048576) ∧ (szR n (sumC costEnt (a.drop i)) = szR left (costL costEnt a))) (fun (⟨i, n⟩ : Nat × Int) => a.length - i) (0, (left - ((a.length : Nat) : Int))) ?_ ?_
    ·
      exact ⟨(Sl.cons_ ha11 rfl rfl (Sl.cons_ ha11 rfl (int_eq (by omega)) (Sl.cons_ ha11 rfl (int_eq (by omega)) (Sl.nil_ ha11)))), hx0, (by omega), (by omega), (by omega), (by omega), (by unfold costL; rw [szR_add (by rw [szR_nif (by omega)]; omega), szR_nif (k := a.length) (by omega)]; rfl)⟩
    ·
      clear ha11 a11
      rintro ⟨i, n⟩ a14 w12 ⟨ha14, hx13, hzl15, hi, hn0, hn1, hF⟩
      have hzhx13 := hx13.size
      refine wp_seq ?_
      refine wp_seq ?_
      refine wp_region_lit ?_
      refine wl_val ha14 rfl rfl rfl (op_move ha14 rfl rfl) ?_
      intro a16 ha16; clear ha14 a14
      refine wl_val ha16 rfl rfl rfl (op_move ha16 rfl rfl) ?_
      intro a17 ha17; clear ha16 a16
      refine wl_val ha17 rfl rfl rfl (op_len_sl ha17 rfl Try.underlying25 rfl h_a) ?_
      intro a18 ha18; clear ha17 a17
      refine wl_val ha18 rfl rfl rfl (op_lss ha18 rfl rfl rfl) ?_
      intro a19 ha19; clear ha18 a18
      refine wpList_nil ?_
      refine then_n ?_
      by_cases c20 : ((i : Nat) : Int) < ((a.length : Nat) : Int)
      ·
        rw [decide_eq_true c20] at ha19
        refine cond_t ha19 rfl ?_
        refine wp_skip ?_
        refine then_n ?_
        refine wp_seq ?_
        refine wp_block ?_
        refine wp_seq ?_
        refine wp_region_lit ?_
        refine wl_val ha19 rfl rfl rfl (op_move ha19 rfl rfl) ?_
        intro a21 ha21; clear ha19 a19
        refine wl_val ha21 rfl rfl rfl (op_move ha21 rfl rfl) ?_
        intro a22 ha22; clear ha21 a21
        obtain ⟨x23, hx23⟩ := get_ex (xs := a) (j := i) (by omega)
        obtain ⟨p24, c25, hi26, hc27, hr28, hs29⟩ := Rds.at_ h_a hx23
        obtain ⟨rfl, b30, b31, b32, b33⟩ := inv_shEnt hr28
        refine wl_val ha22 rfl rfl rfl (op_indexAddr ha22 rfl Try.underlying25 ti68 rfl rfl (by omega) hi26) ?_
        intro a34 ha34; clear ha22 a22
        refine wl_val ha34 rfl rfl rfl (op_loadS ha34 rfl Try.underlying68 ti68 rfl rfl (hc27.ext hx13)) ?_
        intro a35 ha35; clear ha34 a34
        refine wl_val ha35 rfl rfl rfl (op_move ha35 rfl rfl) ?_
        intro a36 ha36; clear ha35 a35
        refine wl_callR ha36 rfl rfl rfl (op_call ha36 rfl cb37 rfl) (c_laws_szEntry _ x23 n (by first | assumption | omega | (simp; omega) | (simp [mkN_length]; omega)) (by first | assumption | omega | (simp; omega) | (simp [mkN_length]; omega)) (by first | assumption | omega | (simp; omega) | (simp [mkN_length]; omega))) ?_
        rintro v37 w38 he39 rfl a40 ha40; clear ha36 a36
        have hx41 := hx13.trans' he39
        have hzhx41 := he39.size
        refine wl_val ha40 rfl rfl rfl (op_assign ha40 rfl rfl) ?_
        intro a42 ha42; clear ha40 a40
        refine wpList_nil ?_
        refine then_n ?_
        refine wp_seq ?_
        refine wp_region_lit ?_
        refine wl_val ha42 rfl rfl rfl (op_move ha42 rfl rfl) ?_
        intro a43 ha43; clear ha42 a42
        refine wl_val ha43 rfl rfl rfl (op_lss ha43 rfl rfl rfl) ?_
        intro a44 ha44; clear ha43 a43
        refine wpList_nil ?_
        refine then_n ?_
        by_cases c45 : (szR n (costEnt x23) : Int) < (0 : Int)
        ·
          rw [decide_eq_true c45] at ha44
          refine cond_t ha44 rfl ?_
          refine wp_seq ?_
          refine wp_region_lit ?_
          refine wl_val ha44 rfl rfl rfl (op_assign ha44 rfl rfl) ?_
          intro a46 ha46; clear ha44 a44
          refine wpList_nil ?_
          refine then_n ?_
          refine wp_ret ?_
          refine block_r ?_
          refine then_r ?_
          refine then_r ?_
          refine block_r ?_
          refine then_r ?_
          refine ret1 ha46 rfl rfl ?_
          clear ha46 a46
          rw [drop_cons hx23] at hF
          simp only [sumC] at hF
          rw [szR_neg (by omega)] at hF
          exact ret_mk hx41 (int_eq (by exact hF))
        ·
          rw [decide_eq_false c45] at ha44
          refine cond_f ha44 rfl ?_
          refine wp_skip ?_
          refine block_n ?_
          refine then_n ?_
          refine wp_region_lit ?_
          refine wl_val ha44 rfl rfl rfl (op_move ha44 rfl rfl) ?_
          intro a47 ha47; clear ha44 a44
          refine wl_val ha47 rfl rfl rfl ((op_add ha47 rfl rfl rfl).int (IntWalk.i64_in _ (by omega))) ?_
          intro a48 ha48; clear ha47 a47
          refine wl_val ha48 rfl rfl rfl (op_assign ha48 rfl rfl) ?_
          intro a49 ha49; clear ha48 a48
          refine wpList_nil ?_
          refine round_end (x := (i, n)) ((i + 1), (szR n (costEnt x23) : Int)) ?_ ?_
          ·
            refine ⟨(Sl.cons_ ha49 rfl rfl (Sl.cons_ ha49 rfl (int_eq (by omega)) (Sl.cons_ ha49 rfl (int_eq (by omega)) (Sl.nil_ ha49)))), hx41, (by omega), (by omega), (by omega), (by have := szR_le (k := costEnt x23) hn0; omega), (by rw [drop_cons hx23] at hF; simp only [sumC] at hF; rw [szR_add (by omega)] at hF; exact hF)⟩
          · show (a.length - ((i + 1)) : Nat) < a.length - i; omega
      ·
        rw [decide_eq_false c20] at ha19
        refine cond_f ha19 rfl ?_
        refine wp_exit ?_
        refine then_e ?_
        refine then_e ?_
        refine block_hit ?_
        refine then_n ?_
        refine wp_seq ?_
        refine wp_region_lit ?_
        refine wl_val ha19 rfl rfl rfl (op_move ha19 rfl rfl) ?_
        intro a50 ha50; clear ha19 a19
        refine wl_val ha50 rfl rfl rfl (op_assign ha50 rfl rfl) ?_
        intro a51 ha51; clear ha50 a50
        refine wpList_nil ?_
        refine then_n ?_
        refine wp_ret ?_
        refine ret1 ha51 rfl rfl ?_
        clear ha51 a51
        rw [drop_nil (by omega)] at hF
        simp only [sumC] at hF
        rw [szR_zero (by omega)] at hF
        exact ret_mk hx13 (int_eq (by exact hF))

theorem c_laws_toBin (w0 : World) (a : Str × Int × Int × Int × Int)  :
    Calls Try.prog 44 #[.agg #[St a.1, .int .i64 a.2.1, .int .i64 a.2.2.1, .int .i64 a.2.2.2.1, .int .i64 a.2.2.2.2]] w0 (Ret w0 (fun v _ => v = .agg #[St (((a)).1), .int .i64 ((a)).2.1, .int .i64 ((a)).2.2.1, .int .i64 ((a)).2.2.2.1, .int .i64 ((a)).2.2.2.2])) := by
  refine enter (N := 20) Try.func44 rfl rfl rfl ?_
  intro a0 ha0
  have hx0 := Ext.rfl' w0
  refine wp_seq ?_
  refine wp_region_lit ?_
  refine wl_eff ha0 rfl rfl rfl (op_box' ha0 rfl rfl rfl) ?_
  rintro _ w2 ⟨rfl, he3, hb4, hz5⟩ a6 ha6; clear ha0 a0
  have hx7 := hx0.trans' he3
  have hzhx7 := he3.size
  refine wl_eff ha6 rfl rfl rfl (op_alloc' rfl ti69 rfl) ?_
  rintro _ w9 ⟨rfl, he10, hb11, hz12⟩ a13 ha13; clear ha6 a6
  have hx14 := hx7.trans' he10
  have hzhx14 := he10.size
  replace hb4 := hb4.ext he10
  refine wpList_nil ?_
  refine then_n ?_
  refine wp_seq ?_
  refine wp_region_lit ?_
  refine wl_eff ha13 rfl rfl rfl (op_alloc' rfl ti69 rfl) ?_
  rintro _ w16 ⟨rfl, he17, hb18, hz19⟩ a20 ha20; clear ha13 a13
  have hx21 := hx14.trans' he17
  have hzhx21 := he17.size
  replace hb4 := hb4.ext he17
  replace hb11 := hb11.ext he17
  refine wpList_nil ?_
  refine then_n ?_
  refine wp_seq ?_
  refine wp_region_lit ?_
  refine wl_val ha20 rfl rfl rfl (op_fieldAddr (sz := 0) ha20 rfl Try.underlying62 rfl rfl ti9 rfl) ?_
  intro a22 ha22; clear ha20 a20
  refine wl_val ha22 rfl rfl rfl (op_loadF (off := 0) ha22 rfl Try.underlying9 rfl rfl hb4.cells rfl) ?_
  intro a23 ha23; clear ha22 a22
  refine wl_val ha23 rfl rfl rfl (op_fieldAddr (sz := 0) ha23 rfl Try.underlying69 rfl rfl ti9 rfl) ?_
  intro a24 ha24; clear ha23 a23
  refine wl_effS ha24 rfl rfl (op_store' (off := 0) ha24 rfl ti9 rfl rfl hb18 rfl rfl (by simp [Value.oneCell']) (Nat.le_of_ble_eq_true rfl)) ?_
  rintro w25 ⟨hb27, hst26, hz28⟩
  have hx29 := hx21.stp hst26 (by intro q hq; cases hq; exact (by omega))
  have hzhx29 := hst26.size
  replace hb4 := hb4.stp hst26 (by intro q hq; cases hq; omega)
  replace hb11 := hb11.stp hst26 (by intro q hq; cases hq; omega)
  clear hb18
  refine wpList_nil ?_
  refine then_n ?_
  refine wp_seq ?_
  refine wp_region_lit ?_
  refine wl_val ha24 rfl rfl rfl (op_fieldAddr (sz := 0) ha24 rfl Try.underlying62 rfl rfl ti2 rfl) ?_
  intro a30 ha30; clear ha24 a24
  refine wl_val ha30 rfl rfl rfl (op_loadF (off := 1) ha30 rfl Try.underlying2 rfl rfl hb4.cells rfl) ?_
  intro a31 ha31; clear ha30 a30
  refine wl_val ha31 rfl rfl rfl (op_fieldAddr (sz := 0) ha31 rfl Try.underlying69 rfl rfl ti2 rfl) ?_
  intro a32 ha32; clear ha31 a31
  refine wl_effS ha32 rfl rfl (op_store' (off := 1) ha32 rfl ti2 rfl rfl hb27 rfl rfl (by simp [Value.oneCell']) (Nat.le_of_ble_eq_true rfl)) ?_
  rintro w33 ⟨hb35, hst34, hz36⟩
  have hx37 := hx29.stp hst34 (by intro q hq; cases hq; exact (by omega))
  have hzhx37 := hst34.size
  replace hb4 := hb4.stp hst34 (by intro q hq; cases hq; omega)
  replace hb11 := hb11.stp hst34 (by intro q hq; cases hq; omega)
  clear hb27
  refine wpList_nil ?_
  refine then_n ?_
  refine wp_seq ?_
  refine wp_region_lit ?_
  refine wl_val ha32 rfl rfl rfl (op_fieldAddr (sz := 0) ha32 rfl Try.underlying62 rfl rfl ti2 rfl) ?_
  intro a38 ha38; clear ha32 a32
  refine wl_val ha38 rfl rfl rfl (op_loadF (off := 2) ha38 rfl Try.underlying2 rfl rfl hb4.cells rfl) ?_
  intro a39 ha39; clear ha38 a38
  refine wl_val ha39 rfl rfl rfl (op_fieldAddr (sz := 0) ha39 rfl Try.underlying69 rfl rfl ti2 rfl) ?_
  intro a40 ha40; clear ha39 a39
  refine wl_effS ha40 rfl rfl (op_store' (off := 2) ha40 rfl ti2 rfl rfl hb35 rfl rfl (by simp [Value.oneCell']) (Nat.le_of_ble_eq_true rfl)) ?_
  rintro w41 ⟨hb43, hst42, hz44⟩
  have hx45 := hx37.stp hst42 (by intro q hq; cases hq; exact (by omega))
  have hzhx45 := hst42.size
  replace hb4 := hb4.stp hst42 (by intro q hq; cases hq; omega)
  replace hb11 := hb11.stp hst42 (by intro q hq; cases hq; omega)
  clear hb35
  refine wpList_nil ?_
  refine then_n ?_
  refine wp_seq ?_
  refine wp_region_lit ?_
  refine wl_val ha40 rfl rfl rfl (op_fieldAddr (sz := 0) ha40 rfl Try.underlying62 rfl rfl ti2 rfl) ?_
  intro a46 ha46; clear ha40 a40
  refine wl_val ha46 rfl rfl rfl (op_loadF (off := 3) ha46 rfl Try.underlying2 rfl rfl hb4.cells rfl) ?_
  intro a47 ha47; clear ha46 a46
  refine wl_val ha47 rfl rfl rfl (op_fieldAddr (sz := 0) ha47 rfl Try.underlying69 rfl rfl ti2 rfl) ?_
  intro a48 ha48; clear ha47 a47
  refine wl_effS ha48 rfl rfl (op_store' (off := 3) ha48 rfl ti2 rfl rfl hb43 rfl rfl (by simp [Value.oneCell']) (Nat.le_of_ble_eq_true rfl)) ?_
  rintro w49 ⟨hb51, hst50, hz52⟩
  have hx53 := hx45.stp hst50 (by intro q hq; cases hq; exact (by omega))
  have hzhx53 := hst50.size
  replace hb4 := hb4.stp hst50 (by intro q hq; cases hq; omega)
  replace hb11 := hb11.stp hst50 (by intro q hq; cases hq; omega)
  clear hb43
  refine wpList_nil ?_
  refine then_n ?_
  refine wp_seq ?_
  refine wp_region_lit ?_
  refine wl_val ha48 rfl rfl rfl (op_fieldAddr (sz := 0) ha48 rfl Try.underlying62 rfl rfl ti2 rfl) ?_
  intro a54 ha54; clear ha48 a48
  refine wl_val ha54 rfl rfl rfl (op_loadF (off := 4) ha54 rfl Try.underlying2 rfl rfl hb4.cells rfl) ?_
  intro a55 ha55; clear ha54 a54
  refine wl_val ha55 rfl rfl rfl (op_fieldAddr (sz := 0) ha55 rfl Try.underlying69 rfl rfl ti2 rfl) ?_
  intro a56 ha56; clear ha55 a55
  refine wl_effS ha56 rfl rfl (op_store' (off := 4) ha56 rfl ti2 rfl rfl hb51 rfl rfl (by simp [Value.oneCell']) (Nat.le_of_ble_eq_true rfl)) ?_
  rintro w57 ⟨hb59, hst58, hz60⟩
  have hx61 := hx53.stp hst58 (by intro q hq; cases hq; exact (by omega))
  have hzhx61 := hst58.size
  replace hb4 := hb4.stp hst58 (by intro q hq; cases hq; omega)
  replace hb11 := hb11.stp hst58 (by intro q hq; cases hq; omega)
  clear hb51
  refine wpList_nil ?_
  refine then_n ?_
  refine wp_seq ?_
  refine wp_region_lit ?_
  refine wl_val ha56 rfl rfl rfl (op_loadS ha56 rfl Try.underlying69 ti69 rfl rfl hb59.cells) ?_
  intro a62 ha62; clear ha56 a56
  refine wl_effS ha62 rfl rfl (op_storeAll' ha62 rfl ti69 rfl rfl hb11 rfl rfl (by simp [Value.oneCell']) rfl) ?_
  rintro w63 ⟨hb65, hst64, hz66⟩
  have hx67 := hx61.stp hst64 (by intro q hq; cases hq; exact (by omega))
  have hzhx67 := hst64.size
  replace hb4 := hb4.stp hst64 (by intro q hq; cases hq; omega)
  replace hb59 := hb59.stp hst64 (by intro q hq; cases hq; omega)
  clear hb11
  refine wpList_nil ?_
  refine then_n ?_
  refine wp_ret ?_
  refine retc ha62 rfl rfl Try.underlying69 ti69 rfl hb65.cells ?_
  clear ha62 a62
  exact ret_mk hx67 (by rfl)

theorem c_laws_toBinS (w0 : World) (v_a : Value) (a : List (Str × Int × Int × Int × Int)) {S_a : Nat → Prop} (h_a : Rds shBin S_a w0 v_a a) (g0 : a.length ≤ 1048576) :
    Calls Try.prog 20 #[v_a] w0 (Ret w0 (fun v w1 => Own shBin 69 w0.heap.size w0.heap.size w1.heap.size w1 v (a))) := by
  refine enter (N := 23) Try.func20 rfl rfl rfl ?_
  intro a0 ha0
  have hx0 := Ext.rfl' w0
  have hl_a := h_a.length_le
  refine wp_seq ?_
  refine wp_region_lit ?_
  refine wl_val ha0 rfl rfl rfl (op_assign ha0 rfl rfl) ?_
  intro a1 ha1; clear ha0 a0
  refine wpList_nil ?_
  refine then_n ?_
  refine wp_seq ?_
  refine wp_region_lit ?_
  refine wl_val ha1 rfl rfl rfl (op_move ha1 rfl rfl) ?_
  intro a2 ha2; clear ha1 a1
  refine wl_val ha2 rfl rfl rfl (op_len_sl ha2 rfl Try.underlying23 rfl h_a) ?_
  intro a3 ha3; clear ha2 a2
  refine wl_eff ha3 rfl rfl rfl (op_make (s := shBin) (n := a.length) (k' := .i64) ha3 rfl Try.underlying30 ti69 pos_shBin rfl (by omega) zero_shBin (by omega) (by omega)) ?_
  rintro v4 w5 ⟨ho6, he7⟩ a8 ha8; clear ha3 a3
  have hx9 := hx0.trans' he7
  have hzhx9 := he7.size
  refine wl_val ha8 rfl rfl rfl (op_assign ha8 rfl rfl) ?_
  intro a10 ha10; clear ha8 a8
  refine wpList_nil ?_
  refine then_n ?_
  refine wp_seq ?_
  refine wp_seq ?_
  refine wp_region_lit ?_
  refine wl_val ha10 rfl rfl rfl (op_assign ha10 rfl rfl) ?_
  intro a11 ha11; clear ha10 a10
  refine wpList_nil ?_
  refine then_n ?_
  refine wp_block ?_
  refine loop_inv (X := Nat × Value × (List (Str × Int × Int × Int × Int))) (fun (⟨i, v, acc⟩ : Nat × Value × (List (Str × Int × Int × Int × Int))) fr wl => Sl 23 fr [(0, v_a), (3, v), (4, .int .i64 ((i : Nat) : Int))] ∧ Ext w0 wl ∧ Own shBin 69 w0.heap.size w0.heap.size wl.heap.size wl v acc ∧ w5.heap.size ≤ wl.heap.size ∧ (i ≤ a.length) ∧ (acc.length = a.length) ∧ (acc.take i = a.take i)) (fun (⟨i, v, acc⟩ : Nat × Value × (List (Str × Int × Int × Int × Int))) => a.length - i) (0, v4, (List.replicate a.length (([], 0, 0, 0, 0) : Str × Int × Int × Int × Int))) ?_ ?_
  ·
    exact ⟨(Sl.cons_ ha11 rfl rfl (Sl.cons_ ha11 rfl rfl (Sl.cons_ ha11 rfl (int_eq (by omega)) (Sl.nil_ ha11)))), hx9, (ho6.fin (by omega) (by omega) (by omega)), (by omega), (by omega), (by simp), (by simp)⟩
  ·
    clear ha11 a11
    rintro ⟨i, v, acc⟩ a15 w12 ⟨ha15, hx13, hf14, hzl16, hi, hl, hF⟩
    have hzhx13 := hx13.size
    refine wp_seq ?_
    refine wp_seq ?_
    refine wp_region_lit ?_
    refine wl_val ha15 rfl rfl rfl (op_move ha15 rfl rfl) ?_
    intro a17 ha17; clear ha15 a15
    refine wl_val ha17 rfl rfl rfl (op_move ha17 rfl rfl) ?_
    intro a18 ha18; clear ha17 a17
    refine wl_val ha18 rfl rfl rfl (op_len_sl ha18 rfl Try.underlying23 rfl h_a) ?_
    intro a19 ha19; clear ha18 a18
    refine wl_val ha19 rfl rfl rfl (op_lss ha19 rfl rfl rfl) ?_
    intro a20 ha20; clear ha19 a19
    refine wpList_nil ?_
    refine then_n ?_
    by_cases c21 : ((i : Nat) : Int) < ((a.length : Nat) : Int)
    ·
      rw [decide_eq_true c21] at ha20
      refine cond_t ha20 rfl ?_
      refine wp_skip ?_
      refine then_n ?_
      refine wp_seq ?_
      refine wp_block ?_
      refine wp_region_lit ?_
      refine wl_val ha20 rfl rfl rfl (op_move ha20 rfl rfl) ?_
      intro a22 ha22; clear ha20 a20
      refine wl_val ha22 rfl rfl rfl (op_move ha22 rfl rfl) ?_
      intro a23 ha23; clear ha22 a22
      refine wl_val ha23 rfl rfl rfl (op_move ha23 rfl rfl) ?_
      intro a24 ha24; clear ha23 a23
      refine wl_val ha24 rfl rfl rfl (op_move ha24 rfl rfl) ?_
      intro a25 ha25; clear ha24 a24
      obtain ⟨x26, hx26⟩ := get_ex (xs := a) (j := i) (by omega)
      obtain ⟨p27, c28, hi29, hc30, hr31, hs32⟩ := Rds.at_ h_a hx26
      obtain ⟨rfl, b33, b34, b35, b36, b37⟩ := inv_shBin hr31
      refine wl_val ha25 rfl rfl rfl (op_indexAddr ha25 rfl Try.underlying23 ti62 rfl rfl (by omega) hi29) ?_
      intro a38 ha38; clear ha25 a25
      refine wl_val ha38 rfl rfl rfl (op_loadS ha38 rfl Try.underlying62 ti62 rfl rfl (hc30.ext hx13)) ?_
      intro a39 ha39; clear ha38 a38
      refine wl_callR ha39 rfl rfl rfl (op_call ha39 rfl cb44 rfl) (c_laws_toBin _ x26 ) ?_
      rintro v40 w41 he42 rfl a43 ha43; clear ha39 a39
      have hx44 := hx13.trans' he42
      have hzhx44 := he42.size
      replace hf14 := hf14.ext he42
      obtain ⟨x45, hx45⟩ := get_ex (xs := acc) (j := i) (by omega)
      obtain ⟨p46, c47, hi48, hc49, hr50, hs51⟩ := Rds.at_ (hf14.rds pos_shBin) hx45
      obtain ⟨rfl, b52, b53, b54, b55, b56⟩ := inv_shBin hr50
      obtain ⟨_, _⟩ : _ ∧ _ := hs51
      refine wl_val ha43 rfl rfl rfl (op_indexAddr ha43 rfl Try.underlying30 ti69 rfl rfl (by omega) hi48) ?_
      intro a57 ha57; clear ha43 a43
      refine wl_effS ha57 rfl rfl (op_setElem (s := shBin) (ds := [St (((x26)).1), .int .i64 ((x26)).2.1, .int .i64 ((x26)).2.2.1, .int .i64 ((x26)).2.2.2.1, .int .i64 ((x26)).2.2.2.2]) (S' := fun _ => False) ha57 rfl ti69 rfl rfl rfl hf14 pos_shBin hi48 (by omega) (mk_shBin ((x26)) (by first | assumption | omega | (simp; omega)) (by first | assumption | omega | (simp; omega)) (by first | assumption | omega | (simp; omega)) (by first | assumption | omega | (simp; omega)) (by first | assumption | omega | (simp; omega))) (fun _ h => h.elim)) ?_
      rintro w58 ⟨ho60, hst59, hz61⟩
      have hx62 := hx44.stp hst59 (by intro q hq; have hq0 := hf14.lt q hq; omega)
      have hzhx62 := hst59.size
      clear hf14
      have hlsho60 : ((acc.set i ((x26)))).length = acc.length := List.length_set
      refine wpList_nil ?_
      refine block_n ?_
      refine then_n ?_
      refine wp_region_lit ?_
      refine wl_val ha57 rfl rfl rfl (op_move ha57 rfl rfl) ?_
      intro a63 ha63; clear ha57 a57
      refine wl_val ha63 rfl rfl rfl ((op_add ha63 rfl rfl rfl).int (IntWalk.i64_in _ (by omega))) ?_
      intro a64 ha64; clear ha63 a63
      refine wl_val ha64 rfl rfl rfl (op_assign ha64 rfl rfl) ?_
      intro a65 ha65; clear ha64 a64
      refine wpList_nil ?_
      refine round_end (x := (i, v, acc)) ((i + 1), v, (acc.set i ((x26)))) ?_ ?_
      ·
        refine ⟨(Sl.cons_ ha65 rfl rfl (Sl.cons_ ha65 rfl rfl (Sl.cons_ ha65 rfl (int_eq (by omega)) (Sl.nil_ ha65)))), hx62, (ho60.fin (by omega) (by omega) (by omega)), (by omega), (by omega), (by simpa using hl), (by exact set_take hF hl hx26)⟩
      · show (a.length - ((i + 1)) : Nat) < a.length - i; omega
    ·
      rw [decide_eq_false c21] at ha20
      refine cond_f ha20 rfl ?_
      refine wp_exit ?_
      refine then_e ?_
      refine then_e ?_
      refine block_hit ?_
      refine then_n ?_
      refine wp_seq ?_
      refine wp_region_lit ?_
      refine wl_val ha20 rfl rfl rfl (op_move ha20 rfl rfl) ?_
      intro a66 ha66; clear ha20 a20
      refine wl_val ha66 rfl rfl rfl (op_assign ha66 rfl rfl) ?_
      intro a67 ha67; clear ha66 a66
      refine wpList_nil ?_
      refine then_n ?_
      refine wp_ret ?_
      refine ret1 ha67 rfl rfl ?_
      clear ha67 a67
      refine ret_mk hx13 ?_
      refine (hf14.fin (by omega) (by omega) (by omega)).cast ?_
      rw [List.take_of_length_le (by omega)] at hF; rw [List.take_of_length_le (by omega)] at hF; exact hF

theorem c_laws_toPromise (w0 : World) (a : Str × Int × Int)  :
    Calls Try.prog 45 #[.agg #[St a.1, .int .i64 a.2.1, .int .i64 a.2.2]] w0 (Ret w0 (fun v _ => v = .agg #[St (((a)).1), .int .i64 ((a)).2.1, .int .i64 ((a)).2.2])) := by
  refine enter (N := 14) Try.func45 rfl rfl rfl ?_
  intro a0 ha0
  have hx0 := Ext.rfl' w0
  refine wp_seq ?_
  refine wp_region_lit ?_
  refine wl_eff ha0 rfl rfl rfl (op_box' ha0 rfl rfl rfl) ?_
  rintro _ w2 ⟨rfl, he3, hb4, hz5⟩ a6 ha6; clear ha0 a0
  have hx7 := hx0.trans' he3
  have hzhx7 := he3.size
  refine wl_eff ha6 rfl rfl rfl (op_alloc' rfl ti72 rfl) ?_
  rintro _ w9 ⟨rfl, he10, hb11, hz12⟩ a13 ha13; clear ha6 a6
  have hx14 := hx7.trans' he10
  have hzhx14 := he10.size
  replace hb4 := hb4.ext he10
  refine wpList_nil ?_
  refine then_n ?_
  refine wp_seq ?_
  refine wp_region_lit ?_
  refine wl_eff ha13 rfl rfl rfl (op_alloc' rfl ti72 rfl) ?_
  rintro _ w16 ⟨rfl, he17, hb18, hz19⟩ a20 ha20; clear ha13 a13
  have hx21 := hx14.trans' he17
  have hzhx21 := he17.size
  replace hb4 := hb4.ext he17
  replace hb11 := hb11.ext he17
  refine wpList_nil ?_
  refine then_n ?_
  refine wp_seq ?_
  refine wp_region_lit ?_
  refine wl_val ha20 rfl rfl rfl (op_fieldAddr (sz := 0) ha20 rfl Try.underlying65 rfl rfl ti9 rfl) ?_
  intro a22 ha22; clear ha20 a20
  refine wl_val ha22 rfl rfl rfl (op_loadF (off := 0) ha22 rfl Try.underlying9 rfl rfl hb4.cells rfl) ?_
  intro a23 ha23; clear ha22 a22
  refine wl_val ha23 rfl rfl rfl (op_fieldAddr (sz := 0) ha23 rfl Try.underlying72 rfl rfl ti9 rfl) ?_
  intro a24 ha24; clear ha23 a23
  refine wl_effS ha24 rfl rfl (op_store' (off := 0) ha24 rfl ti9 rfl rfl hb18 rfl rfl (by simp [Value.oneCell']) (Nat.le_of_ble_eq_true rfl)) ?_
  rintro w25 ⟨hb27, hst26, hz28⟩
  have hx29 := hx21.stp hst26 (by intro q hq; cases hq; exact (by omega))
  have hzhx29 := hst26.size
  replace hb4 := hb4.stp hst26 (by intro q hq; cases hq; omega)
  replace hb11 := hb11.stp hst26 (by intro q hq; cases hq; omega)
  clear hb18
  refine wpList_nil ?_
  refine then_n ?_
  refine wp_seq ?_
  refine wp_region_lit ?_
  refine wl_val ha24 rfl rfl rfl (op_fieldAddr (sz := 0) ha24 rfl Try.underlying65 rfl rfl ti2 rfl) ?_
  intro a30 ha30; clear ha24 a24
  refine wl_val ha30 rfl rfl rfl (op_loadF (off := 1) ha30 rfl Try.underlying2 rfl rfl hb4.cells rfl) ?_
  intro a31 ha31; clear ha30 a30
  refine wl_val ha31 rfl rfl rfl (op_fieldAddr (sz := 0) ha31 rfl Try.underlying72 rfl rfl ti2 rfl) ?_
  intro a32 ha32; clear ha31 a31
  refine wl_effS ha32 rfl rfl (op_store' (off := 1) ha32 rfl ti2 rfl rfl hb27 rfl rfl (by simp [Value.oneCell']) (Nat.le_of_ble_eq_true rfl)) ?_
  rintro w33 ⟨hb35, hst34, hz36⟩
  have hx37 := hx29.stp hst34 (by intro q hq; cases hq; exact (by omega))
  have hzhx37 := hst34.size
  replace hb4 := hb4.stp hst34 (by intro q hq; cases hq; omega)
  replace hb11 := hb11.stp hst34 (by intro q hq; cases hq; omega)
  clear hb27
  refine wpList_nil ?_
  refine then_n ?_
  refine wp_seq ?_
  refine wp_region_lit ?_
  refine wl_val ha32 rfl rfl rfl (op_fieldAddr (sz := 0) ha32 rfl Try.underlying65 rfl rfl ti2 rfl) ?_
  intro a38 ha38; clear ha32 a32
  refine wl_val ha38 rfl rfl rfl (op_loadF (off := 2) ha38 rfl Try.underlying2 rfl rfl hb4.cells rfl) ?_
  intro a39 ha39; clear ha38 a38
  refine wl_val ha39 rfl rfl rfl (op_fieldAddr (sz := 0) ha39 rfl Try.underlying72 rfl rfl ti2 rfl) ?_
  intro a40 ha40; clear ha39 a39
  refine wl_effS ha40 rfl rfl (op_store' (off := 2) ha40 rfl ti2 rfl rfl hb35 rfl rfl (by simp [Value.oneCell']) (Nat.le_of_ble_eq_true rfl)) ?_
  rintro w41 ⟨hb43, hst42, hz44⟩
  have hx45 := hx37.stp hst42 (by intro q hq; cases hq; exact (by omega))
  have hzhx45 := hst42.size
  replace hb4 := hb4.stp hst42 (by intro q hq; cases hq; omega)
  replace hb11 := hb11.stp hst42 (by intro q hq; cases hq; omega)
  clear hb35
  refine wpList_nil ?_
  refine then_n ?_
  refine wp_seq ?_
  refine wp_region_lit ?_
  refine wl_val ha40 rfl rfl rfl (op_loadS ha40 rfl Try.underlying72 ti72 rfl rfl hb43.cells) ?_
  intro a46 ha46; clear ha40 a40
  refine wl_effS ha46 rfl rfl (op_storeAll' ha46 rfl ti72 rfl rfl hb11 rfl rfl (by simp [Value.oneCell']) rfl) ?_
  rintro w47 ⟨hb49, hst48, hz50⟩
  have hx51 := hx45.stp hst48 (by intro q hq; cases hq; exact (by omega))
  have hzhx51 := hst48.size
  replace hb4 := hb4.stp hst48 (by intro q hq; cases hq; omega)
  replace hb43 := hb43.stp hst48 (by intro q hq; cases hq; omega)
  clear hb11
  refine wpList_nil ?_
  refine then_n ?_
  refine wp_ret ?_
  refine retc ha46 rfl rfl Try.underlying72 ti72 rfl hb49.cells ?_
  clear ha46 a46
  exact ret_mk hx51 (by rfl)

theorem c_laws_toPromiseS (w0 : World) (v_a : Value) (a : List (Str × Int × Int)) {S_a : Nat → Prop} (h_a : Rds shProm S_a w0 v_a a) (g0 : a.length ≤ 1048576) :
    Calls Try.prog 21 #[v_a] w0 (Ret w0 (fun v w1 => Own shProm 72 w0.heap.size w0.heap.size w1.heap.size w1 v (a))) := by
  refine enter (N := 23) Try.func21 rfl rfl rfl ?_
  intro a0 ha0
  have hx0 := Ext.rfl' w0
  have hl_a := h_a.length_le
  refine wp_seq ?_
  refine wp_region_lit ?_
  refine wl_val ha0 rfl rfl rfl (op_assign ha0 rfl rfl) ?_
  intro a1 ha1; clear ha0 a0
  refine wpList_nil ?_
  refine then_n ?_
  refine wp_seq ?_
  refine wp_region_lit ?_
  refine wl_val ha1 rfl rfl rfl (op_move ha1 rfl rfl) ?_
  intro a2 ha2; clear ha1 a1
  refine wl_val ha2 rfl rfl rfl (op_len_sl ha2 rfl Try.underlying24 rfl h_a) ?_
  intro a3 ha3; clear ha2 a2
  refine wl_eff ha3 rfl rfl rfl (op_make (s := shProm) (n := a.length) (k' := .i64) ha3 rfl Try.underlying31 ti72 pos_shProm rfl (by omega) zero_shProm (by omega) (by omega)) ?_
  rintro v4 w5 ⟨ho6, he7⟩ a8 ha8; clear ha3 a3
  have hx9 := hx0.trans' he7
  have hzhx9 := he7.size
  refine wl_val ha8 rfl rfl rfl (op_assign ha8 rfl rfl) ?_
  intro a10 ha10; clear ha8 a8
  refine wpList_nil ?_
  refine then_n ?_
  refine wp_seq ?_
  refine wp_seq ?_
  refine wp_region_lit ?_
  refine wl_val ha10 rfl rfl rfl (op_assign ha10 rfl rfl) ?_
  intro a11 ha11; clear ha10 a10
  refine wpList_nil ?_
  refine then_n ?_
  refine wp_block ?_
  refine loop_inv (X := Nat × Value × (List (Str × Int × Int))) (fun (⟨i, v, acc⟩ : Nat × Value × (List (Str × Int × Int))) fr wl => Sl 23 fr [(0, v_a), (3, v), (4, .int .i64 ((i : Nat) : Int))] ∧ Ext w0 wl ∧ Own shProm 72 w0.heap.size w0.heap.size wl.heap.size wl v acc ∧ w5.heap.size ≤ wl.heap.size ∧ (i ≤ a.length) ∧ (acc.length = a.length) ∧ (acc.take i = a.take i)) (fun (⟨i, v, acc⟩ : Nat × Value × (List (Str × Int × Int))) => a.length - i) (0, v4, (List.replicate a.length (([], 0, 0) : Str × Int × Int))) ?_ ?_
  ·
    exact ⟨(Sl.cons_ ha11 rfl rfl (Sl.cons_ ha11 rfl rfl (Sl.cons_ ha11 rfl (int_eq (by omega)) (Sl.nil_ ha11)))), hx9, (ho6.fin (by omega) (by omega) (by omega)), (by omega), (by omega), (by simp), (by simp)⟩
  ·
    clear ha11 a11
    rintro ⟨i, v, acc⟩ a15 w12 ⟨ha15, hx13, hf14, hzl16, hi, hl, hF⟩
    have hzhx13 := hx13.size
    refine wp_seq ?_
    refine wp_seq ?_
    refine wp_region_lit ?_
    refine wl_val ha15 rfl rfl rfl (op_move ha15 rfl rfl) ?_
    intro a17 ha17; clear ha15 a15
    refine wl_val ha17 rfl rfl rfl (op_move ha17 rfl rfl) ?_
    intro a18 ha18; clear ha17 a17
    refine wl_val ha18 rfl rfl rfl (op_len_sl ha18 rfl Try.underlying24 rfl h_a) ?_
    intro a19 ha19; clear ha18 a18
    refine wl_val ha19 rfl rfl rfl (op_lss ha19 rfl rfl rfl) ?_
    intro a20 ha20; clear ha19 a19
    refine wpList_nil ?_
    refine then_n ?_
    by_cases c21 : ((i : Nat) : Int) < ((a.length : Nat) : Int)
    ·
      rw [decide_eq_true c21] at ha20
      refine cond_t ha20 rfl ?_
      refine wp_skip ?_
      refine then_n ?_
      refine wp_seq ?_
      refine wp_block ?_
      refine wp_region_lit ?_
      refine wl_val ha20 rfl rfl rfl (op_move ha20 rfl rfl) ?_
      intro a22 ha22; clear ha20 a20
      refine wl_val ha22 rfl rfl rfl (op_move ha22 rfl rfl) ?_
      intro a23 ha23; clear ha22 a22
      refine wl_val ha23 rfl rfl rfl (op_move ha23 rfl rfl) ?_
      intro a24 ha24; clear ha23 a23
      refine wl_val ha24 rfl rfl rfl (op_move ha24 rfl rfl) ?_
      intro a25 ha25; clear ha24 a24
      obtain ⟨x26, hx26⟩ := get_ex (xs := a) (j := i) (by omega)
      obtain ⟨p27, c28, hi29, hc30, hr31, hs32⟩ := Rds.at_ h_a hx26
      obtain ⟨rfl, b33, b34, b35⟩ := inv_shProm hr31
      refine wl_val ha25 rfl rfl rfl (op_indexAddr ha25 rfl Try.underlying24 ti65 rfl rfl (by omega) hi29) ?_
      intro a36 ha36; clear ha25 a25
      refine wl_val ha36 rfl rfl rfl (op_loadS ha36 rfl Try.underlying65 ti65 rfl rfl (hc30.ext hx13)) ?_
      intro a37 ha37; clear ha36 a36
      refine wl_callR ha37 rfl rfl rfl (op_call ha37 rfl cb45 rfl) (c_laws_toPromise _ x26 ) ?_
      rintro v38 w39 he40 rfl a41 ha41; clear ha37 a37
      have hx42 := hx13.trans' he40
      have hzhx42 := he40.size
      replace hf14 := hf14.ext he40
      obtain ⟨x43, hx43⟩ := get_ex (xs := acc) (j := i) (by omega)
      obtain ⟨p44, c45, hi46, hc47, hr48, hs49⟩ := Rds.at_ (hf14.rds pos_shProm) hx43
      obtain ⟨rfl, b50, b51, b52⟩ := inv_shProm hr48
      obtain ⟨_, _⟩ : _ ∧ _ := hs49
      refine wl_val ha41 rfl rfl rfl (op_indexAddr ha41 rfl Try.underlying31 ti72 rfl rfl (by omega) hi46) ?_
      intro a53 ha53; clear ha41 a41
      refine wl_effS ha53 rfl rfl (op_setElem (s := shProm) (ds := [St (((x26)).1), .int .i64 ((x26)).2.1, .int .i64 ((x26)).2.2]) (S' := fun _ => False) ha53 rfl ti72 rfl rfl rfl hf14 pos_shProm hi46 (by omega) (mk_shProm ((x26)) (by first | assumption | omega | (simp; omega)) (by first | assumption | omega | (simp; omega)) (by first | assumption | omega | (simp; omega))) (fun _ h => h.elim)) ?_
      rintro w54 ⟨ho56, hst55, hz57⟩
      have hx58 := hx42.stp hst55 (by intro q hq; have hq0 := hf14.lt q hq; omega)
      have hzhx58 := hst55.size
      clear hf14
      have hlsho56 : ((acc.set i ((x26)))).length = acc.length := List.length_set
      refine wpList_nil ?_
      refine block_n ?_
      refine then_n ?_
      refine wp_region_lit ?_
      refine wl_val ha53 rfl rfl rfl (op_move ha53 rfl rfl) ?_
      intro a59 ha59; clear ha53 a53
      refine wl_val ha59 rfl rfl rfl ((op_add ha59 rfl rfl rfl).int (IntWalk.i64_in _ (by omega))) ?_
      intro a60 ha60; clear ha59 a59
      refine wl_val ha60 rfl rfl rfl (op_assign ha60 rfl rfl) ?_
      intro a61 ha61; clear ha60 a60
      refine wpList_nil ?_
      refine round_end (x := (i, v, acc)) ((i + 1), v, (acc.set i ((x26)))) ?_ ?_
      ·
        refine ⟨(Sl.cons_ ha61 rfl rfl (Sl.cons_ ha61 rfl rfl (Sl.cons_ ha61 rfl (int_eq (by omega)) (Sl.nil_ ha61)))), hx58, (ho56.fin (by omega) (by omega) (by omega)), (by omega), (by omega), (by simpa using hl), (by exact set_take hF hl hx26)⟩
      · show (a.length - ((i + 1)) : Nat) < a.length - i; omega
    ·
      rw [decide_eq_false c21] at ha20
      refine cond_f ha20 rfl ?_
      refine wp_exit ?_
      refine then_e ?_
      refine then_e ?_
      refine block_hit ?_
      refine then_n ?_
      refine wp_seq ?_
      refine wp_region_lit ?_
      refine wl_val ha20 rfl rfl rfl (op_move ha20 rfl rfl) ?_
      intro a62 ha62; clear ha20 a20
      refine wl_val ha62 rfl rfl rfl (op_assign ha62 rfl rfl) ?_
      intro a63 ha63; clear ha62 a62
      refine wpList_nil ?_
      refine then_n ?_
      refine wp_ret ?_
      refine ret1 ha63 rfl rfl ?_
      clear ha63 a63
      refine ret_mk hx13 ?_
      refine (hf14.fin (by omega) (by omega) (by omega)).cast ?_
      rw [List.take_of_length_le (by omega)] at hF; rw [List.take_of_length_le (by omega)] at hF; exact hF

theorem c_laws_toEntry (w0 : World) (a : Int × Int × Str × Int)  :
    Calls Try.prog 46 #[.agg #[.int .i64 a.1, .int .i64 a.2.1, St a.2.2.1, .int .i64 a.2.2.2]] w0 (Ret w0 (fun v _ => v = .agg #[.int .i64 ((a)).1, .int .i64 ((a)).2.1, St (((a)).2.2.1), .int .i64 ((a)).2.2.2])) := by
  refine enter (N := 17) Try.func46 rfl rfl rfl ?_
  intro a0 ha0
  have hx0 := Ext.rfl' w0
  refine wp_seq ?_
  refine wp_region_lit ?_
  refine wl_eff ha0 rfl rfl rfl (op_box' ha0 rfl rfl rfl) ?_
  rintro _ w2 ⟨rfl, he3, hb4, hz5⟩ a6 ha6; clear ha0 a0
  have hx7 := hx0.trans' he3
  have hzhx7 := he3.size
  refine wl_eff ha6 rfl rfl rfl (op_alloc' rfl ti74 rfl) ?_
  rintro _ w9 ⟨rfl, he10, hb11, hz12⟩ a13 ha13; clear ha6 a6
  have hx14 := hx7.trans' he10
  have hzhx14 := he10.size
  replace hb4 := hb4.ext he10
  refine wpList_nil ?_
  refine then_n ?_
  refine wp_seq ?_
  refine wp_region_lit ?_
  refine wl_eff ha13 rfl rfl rfl (op_alloc' rfl ti74 rfl) ?_
  rintro _ w16 ⟨rfl, he17, hb18, hz19⟩ a20 ha20; clear ha13 a13
  have hx21 := hx14.trans' he17
  have hzhx21 := he17.size
  replace hb4 := hb4.ext he17
  replace hb11 := hb11.ext he17
  refine wpList_nil ?_
  refine then_n ?_
  refine wp_seq ?_
  refine wp_region_lit ?_
  refine wl_val ha20 rfl rfl rfl (op_fieldAddr (sz := 0) ha20 rfl Try.underlying68 rfl rfl ti2 rfl) ?_
  intro a22 ha22; clear ha20 a20
  refine wl_val ha22 rfl rfl rfl (op_loadF (off := 0) ha22 rfl Try.underlying2 rfl rfl hb4.cells rfl) ?_
  intro a23 ha23; clear ha22 a22
  refine wl_val ha23 rfl rfl rfl (op_fieldAddr (sz := 0) ha23 rfl Try.underlying74 rfl rfl ti2 rfl) ?_
  intro a24 ha24; clear ha23 a23
  refine wl_effS ha24 rfl rfl (op_store' (off := 0) ha24 rfl ti2 rfl rfl hb18 rfl rfl (by simp [Value.oneCell']) (Nat.le_of_ble_eq_true rfl)) ?_
  rintro w25 ⟨hb27, hst26, hz28⟩
  have hx29 := hx21.stp hst26 (by intro q hq; cases hq; exact (by omega))
  have hzhx29 := hst26.size
  replace hb4 := hb4.stp hst26 (by intro q hq; cases hq; omega)
  replace hb11 := hb11.stp hst26 (by intro q hq; cases hq; omega)
  clear hb18
  refine wpList_nil ?_
  refine then_n ?_
  refine wp_seq ?_
  refine wp_region_lit ?_
  refine wl_val ha24 rfl rfl rfl (op_fieldAddr (sz := 0) ha24 rfl Try.underlying68 rfl rfl ti2 rfl) ?_
  intro a30 ha30; clear ha24 a24
  refine wl_val ha30 rfl rfl rfl (op_loadF (off := 1) ha30 rfl Try.underlying2 rfl rfl hb4.cells rfl) ?_
  intro a31 ha31; clear ha30 a30
  refine wl_val ha31 rfl rfl rfl (op_fieldAddr (sz := 0) ha31 rfl Try.underlying74 rfl rfl ti2 rfl) ?_
  intro a32 ha32; clear ha31 a31
  refine wl_effS ha32 rfl rfl (op_store' (off := 1) ha32 rfl ti2 rfl rfl hb27 rfl rfl (by simp [Value.oneCell']) (Nat.le_of_ble_eq_true rfl)) ?_
  rintro w33 ⟨hb35, hst34, hz36⟩
  have hx37 := hx29.stp hst34 (by intro q hq; cases hq; exact (by omega))
  have hzhx37 := hst34.size
  replace hb4 := hb4.stp hst34 (by intro q hq; cases hq; omega)
  replace hb11 := hb11.stp hst34 (by intro q hq; cases hq; omega)
  clear hb27
  refine wpList_nil ?_
  refine then_n ?_
  refine wp_seq ?_
  refine wp_region_lit ?_
  refine wl_val ha32 rfl rfl rfl (op_fieldAddr (sz := 0) ha32 rfl Try.underlying68 rfl rfl ti9 rfl) ?_
  intro a38 ha38; clear ha32 a32
  refine wl_val ha38 rfl rfl rfl (op_loadF (off := 2) ha38 rfl Try.underlying9 rfl rfl hb4.cells rfl) ?_
  intro a39 ha39; clear ha38 a38
  refine wl_val ha39 rfl rfl rfl (op_fieldAddr (sz := 0) ha39 rfl Try.underlying74 rfl rfl ti9 rfl) ?_
  intro a40 ha40; clear ha39 a39
  refine wl_effS ha40 rfl rfl (op_store' (off := 2) ha40 rfl ti9 rfl rfl hb35 rfl rfl (by simp [Value.oneCell']) (Nat.le_of_ble_eq_true rfl)) ?_
  rintro w41 ⟨hb43, hst42, hz44⟩
  have hx45 := hx37.stp hst42 (by intro q hq; cases hq; exact (by omega))
  have hzhx45 := hst42.size
  replace hb4 := hb4.stp hst42 (by intro q hq; cases hq; omega)
  replace hb11 := hb11.stp hst42 (by intro q hq; cases hq; omega)
  clear hb35
  refine wpList_nil ?_
  refine then_n ?_
  refine wp_seq ?_
  refine wp_region_lit ?_
  refine wl_val ha40 rfl rfl rfl (op_fieldAddr (sz := 0) ha40 rfl Try.underlying68 rfl rfl ti2 rfl) ?_
  intro a46 ha46; clear ha40 a40
  refine wl_val ha46 rfl rfl rfl (op_loadF (off := 3) ha46 rfl Try.underlying2 rfl rfl hb4.cells rfl) ?_
  intro a47 ha47; clear ha46 a46
  refine wl_val ha47 rfl rfl rfl (op_fieldAddr (sz := 0) ha47 rfl Try.underlying74 rfl rfl ti2 rfl) ?_
  intro a48 ha48; clear ha47 a47
  refine wl_effS ha48 rfl rfl (op_store' (off := 3) ha48 rfl ti2 rfl rfl hb43 rfl rfl (by simp [Value.oneCell']) (Nat.le_of_ble_eq_true rfl)) ?_
  rintro w49 ⟨hb51, hst50, hz52⟩
  have hx53 := hx45.stp hst50 (by intro q hq; cases hq; exact (by omega))
  have hzhx53 := hst50.size
  replace hb4 := hb4.stp hst50 (by intro q hq; cases hq; omega)
  replace hb11 := hb11.stp hst50 (by intro q hq; cases hq; omega)
  clear hb43
  refine wpList_nil ?_
  refine then_n ?_
  refine wp_seq ?_
  refine wp_region_lit ?_
  refine wl_val ha48 rfl rfl rfl (op_loadS ha48 rfl Try.underlying74 ti74 rfl rfl hb51.cells) ?_
  intro a54 ha54; clear ha48 a48
  refine wl_effS ha54 rfl rfl (op_storeAll' ha54 rfl ti74 rfl rfl hb11 rfl rfl (by simp [Value.oneCell']) rfl) ?_
  rintro w55 ⟨hb57, hst56, hz58⟩
  have hx59 := hx53.stp hst56 (by intro q hq; cases hq; exact (by omega))
  have hzhx59 := hst56.size
  replace hb4 := hb4.stp hst56 (by intro q hq; cases hq; omega)
  replace hb51 := hb51.stp hst56 (by intro q hq; cases hq; omega)
  clear hb11
  refine wpList_nil ?_
  refine then_n ?_
  refine wp_ret ?_
  refine retc ha54 rfl rfl Try.underlying74 ti74 rfl hb57.cells ?_
  clear ha54 a54
  exact ret_mk hx59 (by rfl)

theorem c_laws_toEntryS (w0 : World) (v_a : Value) (a : List (Int × Int × Str × Int)) {S_a : Nat → Prop} (h_a : Rds shEnt S_a w0 v_a a) (g0 : a.length ≤ 1048576) :
    Calls Try.prog 22 #[v_a] w0 (Ret w0 (fun v w1 => Own shEnt 74 w0.heap.size w0.heap.size w1.heap.size w1 v (a))) := by
  refine enter (N := 23) Try.func22 rfl rfl rfl ?_
  intro a0 ha0
  have hx0 := Ext.rfl' w0
  have hl_a := h_a.length_le
  refine wp_seq ?_
  refine wp_region_lit ?_
  refine wl_val ha0 rfl rfl rfl (op_assign ha0 rfl rfl) ?_
  intro a1 ha1; clear ha0 a0
  refine wpList_nil ?_
  refine then_n ?_
  refine wp_seq ?_
  refine wp_region_lit ?_
  refine wl_val ha1 rfl rfl rfl (op_move ha1 rfl rfl) ?_
  intro a2 ha2; clear ha1 a1
  refine wl_val ha2 rfl rfl rfl (op_len_sl ha2 rfl Try.underlying25 rfl h_a) ?_
  intro a3 ha3; clear ha2 a2
  refine wl_eff ha3 rfl rfl rfl (op_make (s := shEnt) (n := a.length) (k' := .i64) ha3 rfl Try.underlying32 ti74 pos_shEnt rfl (by omega) zero_shEnt (by omega) (by omega)) ?_
  rintro v4 w5 ⟨ho6, he7⟩ a8 ha8; clear ha3 a3
  have hx9 := hx0.trans' he7
  have hzhx9 := he7.size
  refine wl_val ha8 rfl rfl rfl (op_assign ha8 rfl rfl) ?_
  intro a10 ha10; clear ha8 a8
  refine wpList_nil ?_
  refine then_n ?_
  refine wp_seq ?_
  refine wp_seq ?_
  refine wp_region_lit ?_
  refine wl_val ha10 rfl rfl rfl (op_assign ha10 rfl rfl) ?_
  intro a11 ha11; clear ha10 a10
  refine wpList_nil ?_
  refine then_n ?_
  refine wp_block ?_
  refine loop_inv (X := Nat × Value × (List (Int × Int × Str × Int))) (fun (⟨i, v, acc⟩ : Nat × Value × (List (Int × Int × Str × Int))) fr wl => Sl 23 fr [(0, v_a), (3, v), (4, .int .i64 ((i : Nat) : Int))] ∧ Ext w0 wl ∧ Own shEnt 74 w0.heap.size w0.heap.size wl.heap.size wl v acc ∧ w5.heap.size ≤ wl.heap.size ∧ (i ≤ a.length) ∧ (acc.length = a.length) ∧ (acc.take i = a.take i)) (fun (⟨i, v, acc⟩ : Nat × Value × (List (Int × Int × Str × Int))) => a.length - i) (0, v4, (List.replicate a.length ((0, 0, [], 0) : Int × Int × Str × Int))) ?_ ?_
  ·
    exact ⟨(Sl.cons_ ha11 rfl rfl (Sl.cons_ ha11 rfl rfl (Sl.cons_ ha11 rfl (int_eq (by omega)) (Sl.nil_ ha11)))), hx9, (ho6.fin (by omega) (by omega) (by omega)), (by omega), (by omega), (by simp), (by simp)⟩
  ·
    clear ha11 a11
    rintro ⟨i, v, acc⟩ a15 w12 ⟨ha15, hx13, hf14, hzl16, hi, hl, hF⟩
    have hzhx13 := hx13.size
    refine wp_seq ?_
    refine wp_seq ?_
    refine wp_region_lit ?_
    refine wl_val ha15 rfl rfl rfl (op_move ha15 rfl rfl) ?_
    intro a17 ha17; clear ha15 a15
    refine wl_val ha17 rfl rfl rfl (op_move ha17 rfl rfl) ?_
    intro a18 ha18; clear ha17 a17
    refine wl_val ha18 rfl rfl rfl (op_len_sl ha18 rfl Try.underlying25 rfl h_a) ?_
    intro a19 ha19; clear ha18 a18
    refine wl_val ha19 rfl rfl rfl (op_lss ha19 rfl rfl rfl) ?_
    intro a20 ha20; clear ha19 a19
    refine wpList_nil ?_
    refine then_n ?_
    by_cases c21 : ((i : Nat) : Int) < ((a.length : Nat) : Int)
    ·
      rw [decide_eq_true c21] at ha20
      refine cond_t ha20 rfl ?_
      refine wp_skip ?_
      refine then_n ?_
      refine wp_seq ?_
      refine wp_block ?_
      refine wp_region_lit ?_
      refine wl_val ha20 rfl rfl rfl (op_move ha20 rfl rfl) ?_
      intro a22 ha22; clear ha20 a20
      refine wl_val ha22 rfl rfl rfl (op_move ha22 rfl rfl) ?_
      intro a23 ha23; clear ha22 a22
      refine wl_val ha23 rfl rfl rfl (op_move ha23 rfl rfl) ?_
      intro a24 ha24; clear ha23 a23
      refine wl_val ha24 rfl rfl rfl (op_move ha24 rfl rfl) ?_
      intro a25 ha25; clear ha24 a24
      obtain ⟨x26, hx26⟩ := get_ex (xs := a) (j := i) (by omega)
      obtain ⟨p27, c28, hi29, hc30, hr31, hs32⟩ := Rds.at_ h_a hx26
      obtain ⟨rfl, b33, b34, b35, b36⟩ := inv_shEnt hr31
      refine wl_val ha25 rfl rfl rfl (op_indexAddr ha25 rfl Try.underlying25 ti68 rfl rfl (by omega) hi29) ?_
      intro a37 ha37; clear ha25 a25
      refine wl_val ha37 rfl rfl rfl (op_loadS ha37 rfl Try.underlying68 ti68 rfl rfl (hc30.ext hx13)) ?_
      intro a38 ha38; clear ha37 a37
      refine wl_callR ha38 rfl rfl rfl (op_call ha38 rfl cb46 rfl) (c_laws_toEntry _ x26 ) ?_
      rintro v39 w40 he41 rfl a42 ha42; clear ha38 a38
      have hx43 := hx13.trans' he41
      have hzhx43 := he41.size
      replace hf14 := hf14.ext he41
      obtain ⟨x44, hx44⟩ := get_ex (xs := acc) (j := i) (by omega)
      obtain ⟨p45, c46, hi47, hc48, hr49, hs50⟩ := Rds.at_ (hf14.rds pos_shEnt) hx44
      obtain ⟨rfl, b51, b52, b53, b54⟩ := inv_shEnt hr49
      obtain ⟨_, _⟩ : _ ∧ _ := hs50
      refine wl_val ha42 rfl rfl rfl (op_indexAddr ha42 rfl Try.underlying32 ti74 rfl rfl (by omega) hi47) ?_
      intro a55 ha55; clear ha42 a42
      refine wl_effS ha55 rfl rfl (op_setElem (s := shEnt) (ds := [.int .i64 ((x26)).1, .int .i64 ((x26)).2.1, St (((x26)).2.2.1), .int .i64 ((x26)).2.2.2]) (S' := fun _ => False) ha55 rfl ti74 rfl rfl rfl hf14 pos_shEnt hi47 (by omega) (mk_shEnt ((x26)) (by first | assumption | omega | (simp; omega)) (by first | assumption | omega | (simp; omega)) (by first | assumption | omega | (simp; omega)) (by first | assumption | omega | (simp; omega))) (fun _ h => h.elim)) ?_
      rintro w56 ⟨ho58, hst57, hz59⟩
      have hx60 := hx43.stp hst57 (by intro q hq; have hq0 := hf14.lt q hq; omega)
      have hzhx60 := hst57.size
      clear hf14
      have hlsho58 : ((acc.set i ((x26)))).length = acc.length := List.length_set
      refine wpList_nil ?_
      refine block_n ?_
      refine then_n ?_
      refine wp_region_lit ?_
      refine wl_val ha55 rfl rfl rfl (op_move ha55 rfl rfl) ?_
      intro a61 ha61; clear ha55 a55
      refine wl_val ha61 rfl rfl rfl ((op_add ha61 rfl rfl rfl).int (IntWalk.i64_in _ (by omega))) ?_
      intro a62 ha62; clear ha61 a61
      refine wl_val ha62 rfl rfl rfl (op_assign ha62 rfl rfl) ?_
      intro a63 ha63; clear ha62 a62
      refine wpList_nil ?_
      refine round_end (x := (i, v, acc)) ((i + 1), v, (acc.set i ((x26)))) ?_ ?_
      ·
        refine ⟨(Sl.cons_ ha63 rfl rfl (Sl.cons_ ha63 rfl rfl (Sl.cons_ ha63 rfl (int_eq (by omega)) (Sl.nil_ ha63)))), hx60, (ho58.fin (by omega) (by omega) (by omega)), (by omega), (by omega), (by simpa using hl), (by exact set_take hF hl hx26)⟩
      · show (a.length - ((i + 1)) : Nat) < a.length - i; omega
    ·
      rw [decide_eq_false c21] at ha20
      refine cond_f ha20 rfl ?_
      refine wp_exit ?_
      refine then_e ?_
      refine then_e ?_
      refine block_hit ?_
      refine then_n ?_
      refine wp_seq ?_
      refine wp_region_lit ?_
      refine wl_val ha20 rfl rfl rfl (op_move ha20 rfl rfl) ?_
      intro a64 ha64; clear ha20 a20
      refine wl_val ha64 rfl rfl rfl (op_assign ha64 rfl rfl) ?_
      intro a65 ha65; clear ha64 a64
      refine wpList_nil ?_
      refine then_n ?_
      refine wp_ret ?_
      refine ret1 ha65 rfl rfl ?_
      clear ha65 a65
      refine ret_mk hx13 ?_
      refine (hf14.fin (by omega) (by omega) (by omega)).cast ?_
      rw [List.take_of_length_le (by omega)] at hF; rw [List.take_of_length_le (by omega)] at hF; exact hF

theorem c_laws_eqBin (w0 : World) (a : Str × Int × Int × Int × Int) (b : Str × Int × Int × Int × Int)  :
    Calls Try.prog 53 #[.agg #[St a.1, .int .i64 a.2.1, .int .i64 a.2.2.1, .int .i64 a.2.2.2.1, .int .i64 a.2.2.2.2], .agg #[St b.1, .int .i64 b.2.1, .int .i64 b.2.2.1, .int .i64 b.2.2.2.1, .int .i64 b.2.2.2.2]] w0 (Ret w0 (fun v _ => v = .bool (decide (a = b)))) := by
  refine enter (N := 30) Try.func53 rfl rfl rfl ?_
  intro a0 ha0
  have hx0 := Ext.rfl' w0
  refine wp_seq ?_
  refine wp_region_lit ?_
  refine wl_eff ha0 rfl rfl rfl (op_box' ha0 rfl rfl rfl) ?_
  rintro _ w2 ⟨rfl, he3, hb4, hz5⟩ a6 ha6; clear ha0 a0
  have hx7 := hx0.trans' he3
  have hzhx7 := he3.size
  refine wl_eff ha6 rfl rfl rfl (op_box' ha6 rfl rfl rfl) ?_
  rintro _ w9 ⟨rfl, he10, hb11, hz12⟩ a13 ha13; clear ha6 a6
  have hx14 := hx7.trans' he10
  have hzhx14 := he10.size
  replace hb4 := hb4.ext he10
  refine wl_val ha13 rfl rfl rfl (op_assign ha13 rfl rfl) ?_
  intro a15 ha15; clear ha13 a13
  refine wpList_nil ?_
  refine then_n ?_
  refine wp_seq ?_
  refine wp_seq ?_
  refine wp_region_lit ?_
  refine wl_val ha15 rfl rfl rfl (op_fieldAddr (sz := 0) ha15 rfl Try.underlying69 rfl rfl ti9 rfl) ?_
  intro a16 ha16; clear ha15 a15
  refine wl_val ha16 rfl rfl rfl (op_loadF (off := 0) ha16 rfl Try.underlying9 rfl rfl hb4.cells rfl) ?_
  intro a17 ha17; clear ha16 a16
  refine wl_val ha17 rfl rfl rfl (op_fieldAddr (sz := 0) ha17 rfl Try.underlying69 rfl rfl ti9 rfl) ?_
  intro a18 ha18; clear ha17 a17
  refine wl_val ha18 rfl rfl rfl (op_loadF (off := 0) ha18 rfl Try.underlying9 rfl rfl hb11.cells rfl) ?_
  intro a19 ha19; clear ha18 a18
  refine wl_val ha19 rfl rfl rfl ((op_sneq ha19 rfl rfl rfl).to (congrArg Value.bool decide_not)) ?_
  intro a20 ha20; clear ha19 a19
  refine wpList_nil ?_
  refine then_n ?_
  by_cases c21 : a.1 = b.1
  ·
    rw [decide_eq_true c21] at ha20
    refine cond_f ha20 rfl ?_
    refine wp_skip ?_
    refine then_n ?_
    refine wp_seq ?_
    refine wp_seq ?_
    refine wp_region_lit ?_
    refine wl_val ha20 rfl rfl rfl (op_fieldAddr (sz := 0) ha20 rfl Try.underlying69 rfl rfl ti2 rfl) ?_
    intro a22 ha22; clear ha20 a20
    refine wl_val ha22 rfl rfl rfl (op_loadF (off := 1) ha22 rfl Try.underlying2 rfl rfl hb4.cells rfl) ?_
    intro a23 ha23; clear ha22 a22
    refine wl_val ha23 rfl rfl rfl (op_fieldAddr (sz := 0) ha23 rfl Try.underlying69 rfl rfl ti2 rfl) ?_
    intro a24 ha24; clear ha23 a23
    refine wl_val ha24 rfl rfl rfl (op_loadF (off := 1) ha24 rfl Try.underlying2 rfl rfl hb11.cells rfl) ?_
    intro a25 ha25; clear ha24 a24
    refine wl_val ha25 rfl rfl rfl ((op_neq ha25 rfl rfl rfl).to (congrArg Value.bool decide_not)) ?_
    intro a26 ha26; clear ha25 a25
    refine wpList_nil ?_
    refine then_n ?_
    by_cases c27 : a.2.1 = b.2.1
    ·
      rw [decide_eq_true c27] at ha26
      refine cond_f ha26 rfl ?_
      refine wp_skip ?_
      refine then_n ?_
      refine wp_seq ?_
      refine wp_seq ?_
      refine wp_region_lit ?_
      refine wl_val ha26 rfl rfl rfl (op_fieldAddr (sz := 0) ha26 rfl Try.underlying69 rfl rfl ti2 rfl) ?_
      intro a28 ha28; clear ha26 a26
      refine wl_val ha28 rfl rfl rfl (op_loadF (off := 2) ha28 rfl Try.underlying2 rfl rfl hb4.cells rfl) ?_
      intro a29 ha29; clear ha28 a28
      refine wl_val ha29 rfl rfl rfl (op_fieldAddr (sz := 0) ha29 rfl Try.underlying69 rfl rfl ti2 rfl) ?_
      intro a30 ha30; clear ha29 a29
      refine wl_val ha30 rfl rfl rfl (op_loadF (off := 2) ha30 rfl Try.underlying2 rfl rfl hb11.cells rfl) ?_
      intro a31 ha31; clear ha30 a30
      refine wl_val ha31 rfl rfl rfl ((op_neq ha31 rfl rfl rfl).to (congrArg Value.bool decide_not)) ?_
      intro a32 ha32; clear ha31 a31
      refine wpList_nil ?_
      refine then_n ?_
      by_cases c33 : a.2.2.1 = b.2.2.1
      ·
        rw [decide_eq_true c33] at ha32
        refine cond_f ha32 rfl ?_
        refine wp_skip ?_
        refine then_n ?_
        refine wp_seq ?_
        refine wp_seq ?_
        refine wp_region_lit ?_
        refine wl_val ha32 rfl rfl rfl (op_fieldAddr (sz := 0) ha32 rfl Try.underlying69 rfl rfl ti2 rfl) ?_
        intro a34 ha34; clear ha32 a32
        refine wl_val ha34 rfl rfl rfl (op_loadF (off := 3) ha34 rfl Try.underlying2 rfl rfl hb4.cells rfl) ?_
        intro a35 ha35; clear ha34 a34
        refine wl_val ha35 rfl rfl rfl (op_fieldAddr (sz := 0) ha35 rfl Try.underlying69 rfl rfl ti2 rfl) ?_
        intro a36 ha36; clear ha35 a35
        refine wl_val ha36 rfl rfl rfl (op_loadF (off := 3) ha36 rfl Try.underlying2 rfl rfl hb11.cells rfl) ?_
        intro a37 ha37; clear ha36 a36
        refine wl_val ha37 rfl rfl rfl ((op_neq ha37 rfl rfl rfl).to (congrArg Value.bool decide_not)) ?_
        intro a38 ha38; clear ha37 a37
        refine wpList_nil ?_
        refine then_n ?_
        by_cases c39 : a.2.2.2.1 = b.2.2.2.1
        ·
          rw [decide_eq_true c39] at ha38
          refine cond_f ha38 rfl ?_
          refine wp_skip ?_
          refine then_n ?_
          refine wp_seq ?_
          refine wp_seq ?_
          refine wp_region_lit ?_
          refine wl_val ha38 rfl rfl rfl (op_fieldAddr (sz := 0) ha38 rfl Try.underlying69 rfl rfl ti2 rfl) ?_
          intro a40 ha40; clear ha38 a38
          refine wl_val ha40 rfl rfl rfl (op_loadF (off := 4) ha40 rfl Try.underlying2 rfl rfl hb4.cells rfl) ?_
          intro a41 ha41; clear ha40 a40
          refine wl_val ha41 rfl rfl rfl (op_fieldAddr (sz := 0) ha41 rfl Try.underlying69 rfl rfl ti2 rfl) ?_
          intro a42 ha42; clear ha41 a41
          refine wl_val ha42 rfl rfl rfl (op_loadF (off := 4) ha42 rfl Try.underlying2 rfl rfl hb11.cells rfl) ?_
          intro a43 ha43; clear ha42 a42
          refine wl_val ha43 rfl rfl rfl ((op_neq ha43 rfl rfl rfl).to (congrArg Value.bool decide_not)) ?_
          intro a44 ha44; clear ha43 a43
          refine wpList_nil ?_
          refine then_n ?_
          by_cases c45 : a.2.2.2.2 = b.2.2.2.2
          ·
            rw [decide_eq_true c45] at ha44
            refine cond_f ha44 rfl ?_
            refine wp_skip ?_
            refine then_n ?_
            refine wp_seq ?_
            refine wp_region_lit ?_
            refine wl_val ha44 rfl rfl rfl (op_assign ha44 rfl rfl) ?_
            intro a46 ha46; clear ha44 a44
            refine wpList_nil ?_
            refine then_n ?_
            refine wp_ret ?_
            refine ret1 ha46 rfl rfl ?_
            clear ha46 a46
            exact ret_mk hx14 (congrArg Value.bool (by simp [Prod.ext_iff, c21, c27, c33, c39, c45]))
          ·
            rw [decide_eq_false c45] at ha44
            refine cond_t ha44 rfl ?_
            refine wp_seq ?_
            refine wp_region_lit ?_
            refine wl_val ha44 rfl rfl rfl (op_assign ha44 rfl rfl) ?_
            intro a47 ha47; clear ha44 a44
            refine wpList_nil ?_
            refine then_n ?_
            refine wp_ret ?_
            refine then_r ?_
            refine ret1 ha47 rfl rfl ?_
            clear ha47 a47
            exact ret_mk hx14 (congrArg Value.bool (by simp [Prod.ext_iff, c21, c27, c33, c39, c45]))
        ·
          rw [decide_eq_false c39] at ha38
          refine cond_t ha38 rfl ?_
          refine wp_seq ?_
          refine wp_region_lit ?_
          refine wl_val ha38 rfl rfl rfl (op_assign ha38 rfl rfl) ?_
          intro a48 ha48; clear ha38 a38
          refine wpList_nil ?_
          refine then_n ?_
          refine wp_ret ?_
          refine then_r ?_
          refine ret1 ha48 rfl rfl ?_
          clear ha48 a48
          exact ret_mk hx14 (congrArg Value.bool (by simp [Prod.ext_iff, c21, c27, c33, c39]))
      ·
        rw [decide_eq_false c33] at ha32
        refine cond_t ha32 rfl ?_
        refine wp_seq ?_
        refine wp_region_lit ?_
        refine wl_val ha32 rfl rfl rfl (op_assign ha32 rfl rfl) ?_
        intro a49 ha49; clear ha32 a32
        refine wpList_nil ?_
        refine then_n ?_
        refine wp_ret ?_
        refine then_r ?_
        refine ret1 ha49 rfl rfl ?_
        clear ha49 a49
        exact ret_mk hx14 (congrArg Value.bool (by simp [Prod.ext_iff, c21, c27, c33]))
    ·
      rw [decide_eq_false c27] at ha26
      refine cond_t ha26 rfl ?_
      refine wp_seq ?_
      refine wp_region_lit ?_
      refine wl_val ha26 rfl rfl rfl (op_assign ha26 rfl rfl) ?_
      intro a50 ha50; clear ha26 a26
      refine wpList_nil ?_
      refine then_n ?_
      refine wp_ret ?_
      refine then_r ?_
      refine ret1 ha50 rfl rfl ?_
      clear ha50 a50
      exact ret_mk hx14 (congrArg Value.bool (by simp [Prod.ext_iff, c21, c27]))
  ·
    rw [decide_eq_false c21] at ha20
    refine cond_t ha20 rfl ?_
    refine wp_seq ?_
    refine wp_region_lit ?_
    refine wl_val ha20 rfl rfl rfl (op_assign ha20 rfl rfl) ?_
    intro a51 ha51; clear ha20 a20
    refine wpList_nil ?_
    refine then_n ?_
    refine wp_ret ?_
    refine then_r ?_
    refine ret1 ha51 rfl rfl ?_
    clear ha51 a51
    exact ret_mk hx14 (congrArg Value.bool (by simp [Prod.ext_iff, c21]))

theorem c_laws_eqBinS (w0 : World) (v_a : Value) (a : List (Str × Int × Int × Int × Int)) {S_a : Nat → Prop} (v_b : Value) (b : List (Str × Int × Int × Int × Int)) {S_b : Nat → Prop} (h_a : Rds shBin S_a w0 v_a a) (h_b : Rds shBin S_b w0 v_b b) :
    Calls Try.prog 26 #[v_a, v_b] w0 (Ret w0 (fun v _ => v = .bool (eqL a b))) := by
  refine enter (N := 27) Try.func26 rfl rfl rfl ?_
  intro a0 ha0
  have hx0 := Ext.rfl' w0
  have hl_a := h_a.length_le
  have hl_b := h_b.length_le
  refine wp_seq ?_
  refine wp_region_lit ?_
  refine wl_val ha0 rfl rfl rfl (op_assign ha0 rfl rfl) ?_
  intro a1 ha1; clear ha0 a0
  refine wpList_nil ?_
  refine then_n ?_
  refine wp_seq ?_
  refine wp_seq ?_
  refine wp_region_lit ?_
  refine wl_val ha1 rfl rfl rfl (op_move ha1 rfl rfl) ?_
  intro a2 ha2; clear ha1 a1
  refine wl_val ha2 rfl rfl rfl (op_len_sl ha2 rfl Try.underlying30 rfl h_a) ?_
  intro a3 ha3; clear ha2 a2
  refine wl_val ha3 rfl rfl rfl (op_move ha3 rfl rfl) ?_
  intro a4 ha4; clear ha3 a3
  refine wl_val ha4 rfl rfl rfl (op_len_sl ha4 rfl Try.underlying30 rfl h_b) ?_
  intro a5 ha5; clear ha4 a4
  refine wl_val ha5 rfl rfl rfl ((op_neq ha5 rfl rfl rfl).to (congrArg Value.bool decide_not)) ?_
  intro a6 ha6; clear ha5 a5
  refine wpList_nil ?_
  refine then_n ?_
  by_cases c7 : ((a.length : Nat) : Int) = ((b.length : Nat) : Int)
  ·
    rw [decide_eq_true c7] at ha6
    refine cond_f ha6 rfl ?_
    refine wp_skip ?_
    refine then_n ?_
    refine wp_seq ?_
    refine wp_seq ?_
    refine wp_region_lit ?_
    refine wl_val ha6 rfl rfl rfl (op_assign ha6 rfl rfl) ?_
    intro a8 ha8; clear ha6 a6
    refine wpList_nil ?_
    refine then_n ?_
    refine wp_block ?_
    refine loop_inv (X := Nat) (fun (i : Nat) fr wl => Sl 27 fr [(0, v_a), (1, v_b), (5, .int .i64 ((i : Nat) : Int))] ∧ Ext w0 wl ∧ w0.heap.size ≤ wl.heap.size ∧ (i ≤ a.length) ∧ (a.length = b.length) ∧ (eqL (a.drop i) (b.drop i) = eqL a b)) (fun (i : Nat) => a.length - i) (0) ?_ ?_
    ·
      exact ⟨(Sl.cons_ ha8 rfl rfl (Sl.cons_ ha8 rfl rfl (Sl.cons_ ha8 rfl (int_eq (by omega)) (Sl.nil_ ha8)))), hx0, (by omega), (by omega), (by omega), (by simp)⟩
    ·
      clear ha8 a8
      rintro i a11 w9 ⟨ha11, hx10, hzl12, hi, hl, hF⟩
      have hzhx10 := hx10.size
      refine wp_seq ?_
      refine wp_seq ?_
      refine wp_region_lit ?_
      refine wl_val ha11 rfl rfl rfl (op_move ha11 rfl rfl) ?_
      intro a13 ha13; clear ha11 a11
      refine wl_val ha13 rfl rfl rfl (op_move ha13 rfl rfl) ?_
      intro a14 ha14; clear ha13 a13
      refine wl_val ha14 rfl rfl rfl (op_len_sl ha14 rfl Try.underlying30 rfl h_a) ?_
      intro a15 ha15; clear ha14 a14
      refine wl_val ha15 rfl rfl rfl (op_lss ha15 rfl rfl rfl) ?_
      intro a16 ha16; clear ha15 a15
      refine wpList_nil ?_
      refine then_n ?_
      by_cases c17 : ((i : Nat) : Int) < ((a.length : Nat) : Int)
      ·
        rw [decide_eq_true c17] at ha16
        refine cond_t ha16 rfl ?_
        refine wp_skip ?_
        refine then_n ?_
        refine wp_seq ?_
        refine wp_block ?_
        refine wp_seq ?_
        refine dr_enter Ext follows_mixed ?_
        intro w18 he19
        have hx20 := hx10.trans' he19
        have hzhx20 := he19.size
        have hs21 : Ext w18 w18 := Ext.rfl' _
        refine dr_val (i := 0) ha16 rfl (by kernel_rfl) (by kernel_rfl) (by kernel_rfl) rfl rfl rfl hs21 (fun w' hw' => op_move ha16 rfl rfl) ?_
        intro a22 ha22; clear ha16 a16
        refine dr_val (i := 1) ha22 rfl (by kernel_rfl) (by kernel_rfl) (by kernel_rfl) rfl rfl rfl hs21 (fun w' hw' => op_move ha22 rfl rfl) ?_
        intro a23 ha23; clear ha22 a22
        obtain ⟨x24, hx24⟩ := get_ex (xs := a) (j := i) (by omega)
        obtain ⟨p25, c26, hi27, hc28, hr29, hs30⟩ := Rds.at_ h_a hx24
        obtain ⟨rfl, b31, b32, b33, b34, b35⟩ := inv_shBin hr29
        refine dr_val (i := 2) ha23 rfl (by kernel_rfl) (by kernel_rfl) (by kernel_rfl) rfl rfl rfl hs21 (fun w' hw' => op_indexAddr ha23 rfl Try.underlying30 ti69 rfl rfl (by omega) hi27) ?_
        intro a36 ha36; clear ha23 a23
        refine dr_val (i := 3) ha36 rfl (by kernel_rfl) (by kernel_rfl) (by kernel_rfl) rfl rfl rfl hs21 (fun w' hw' => op_loadS ha36 rfl Try.underlying69 ti69 rfl rfl (hc28.ext (hx20.trans' hw'))) ?_
        intro a37 ha37; clear ha36 a36
        refine dr_val (i := 4) ha37 rfl (by kernel_rfl) (by kernel_rfl) (by kernel_rfl) rfl rfl rfl hs21 (fun w' hw' => op_move ha37 rfl rfl) ?_
        intro a38 ha38; clear ha37 a37
        refine dr_val (i := 5) ha38 rfl (by kernel_rfl) (by kernel_rfl) (by kernel_rfl) rfl rfl rfl hs21 (fun w' hw' => op_move ha38 rfl rfl) ?_
        intro a39 ha39; clear ha38 a38
        obtain ⟨x40, hx40⟩ := get_ex (xs := b) (j := i) (by omega)
        obtain ⟨p41, c42, hi43, hc44, hr45, hs46⟩ := Rds.at_ h_b hx40
        obtain ⟨rfl, b47, b48, b49, b50, b51⟩ := inv_shBin hr45
        refine dr_val (i := 6) ha39 rfl (by kernel_rfl) (by kernel_rfl) (by kernel_rfl) rfl rfl rfl hs21 (fun w' hw' => op_indexAddr ha39 rfl Try.underlying30 ti69 rfl rfl (by omega) hi43) ?_
        intro a52 ha52; clear ha39 a39
        refine dr_val (i := 7) ha52 rfl (by kernel_rfl) (by kernel_rfl) (by kernel_rfl) rfl rfl rfl hs21 (fun w' hw' => op_loadS ha52 rfl Try.underlying69 ti69 rfl rfl (hc44.ext (hx20.trans' hw'))) ?_
        intro a53 ha53; clear ha52 a52
        refine dr_one (i := 8) (by kernel_rfl) ?_
        refine po_callR ha53 rfl rfl rfl rfl (op_call ha53 rfl cb53 rfl) (c_laws_eqBin _ x24 x40 ) ?_
        rintro v54 w55 he56 rfl a57 ha57; clear ha53 a53
        have hs58 := hs21.trans' he56
        have hx59 := hx20.trans' he56
        have hzhx59 := he56.size
        refine ⟨hs58, ?_⟩
        refine dr_val (i := 9) ha57 rfl (by kernel_rfl) (by kernel_rfl) (by kernel_rfl) rfl rfl rfl hs58 (fun w' hw' => op_not ha57 rfl rfl) ?_
        intro a60 ha60; clear ha57 a57
        refine dr_end (by kernel_rfl) ?_
        refine then_n ?_
        rcases Bool.eq_false_or_eq_true (decide (x24 = x40)) with c61 | c61
        ·
          rw [c61] at ha60
          refine cond_f ha60 rfl ?_
          refine wp_skip ?_
          refine block_n ?_
          refine then_n ?_
          refine wp_region_lit ?_
          refine wl_val ha60 rfl rfl rfl (op_move ha60 rfl rfl) ?_
          intro a62 ha62; clear ha60 a60
          refine wl_val ha62 rfl rfl rfl ((op_add ha62 rfl rfl rfl).int (IntWalk.i64_in _ (by omega))) ?_
          intro a63 ha63; clear ha62 a62
          refine wl_val ha63 rfl rfl rfl (op_assign ha63 rfl rfl) ?_
          intro a64 ha64; clear ha63 a63
          refine wpList_nil ?_
          refine round_end (x := i) ((i + 1)) ?_ ?_
          ·
            refine ⟨(Sl.cons_ ha64 rfl rfl (Sl.cons_ ha64 rfl rfl (Sl.cons_ ha64 rfl (int_eq (by omega)) (Sl.nil_ ha64)))), hx59, (by omega), (by omega), (by exact hl), (by rw [eqL_step hx24 hx40] at hF; simpa [c7, c17, c61] using hF)⟩
          · show (a.length - ((i + 1)) : Nat) < a.length - i; omega
        ·
          rw [c61] at ha60
          refine cond_t ha60 rfl ?_
          refine wp_seq ?_
          refine wp_region_lit ?_
          refine wl_val ha60 rfl rfl rfl (op_assign ha60 rfl rfl) ?_
          intro a65 ha65; clear ha60 a60
          refine wpList_nil ?_
          refine then_n ?_
          refine wp_ret ?_
          refine block_r ?_
          refine then_r ?_
          refine then_r ?_
          refine block_r ?_
          refine then_r ?_
          refine ret1 ha65 rfl rfl ?_
          clear ha65 a65
          rw [eqL_step hx24 hx40] at hF
          exact ret_mk hx59 (congrArg Value.bool (by first | (simp [← hF, c7, c17, c61]; done) | (simp [← hF, c7, c17, c61]; omega) | (rw [Bool.eq_iff_iff]; simp [← hF, c7, c17, c61]; done) | (rw [Bool.eq_iff_iff]; simp [← hF, c7, c17, c61]; omega)))
      ·
        rw [decide_eq_false c17] at ha16
        refine cond_f ha16 rfl ?_
        refine wp_exit ?_
        refine then_e ?_
        refine then_e ?_
        refine block_hit ?_
        refine then_n ?_
        refine wp_seq ?_
        refine wp_region_lit ?_
        refine wl_val ha16 rfl rfl rfl (op_assign ha16 rfl rfl) ?_
        intro a66 ha66; clear ha16 a16
        refine wpList_nil ?_
        refine then_n ?_
        refine wp_ret ?_
        refine ret1 ha66 rfl rfl ?_
        clear ha66 a66
        rw [drop_nil (by omega), drop_nil (by omega), eqL_nil] at hF
        exact ret_mk hx10 (congrArg Value.bool (by first | (simp [← hF, c7, c17]; done) | (simp [← hF, c7, c17]; omega) | (rw [Bool.eq_iff_iff]; simp [← hF, c7, c17]; done) | (rw [Bool.eq_iff_iff]; simp [← hF, c7, c17]; omega)))
  ·
    rw [decide_eq_false c7] at ha6
    refine cond_t ha6 rfl ?_
    refine wp_seq ?_
    refine wp_region_lit ?_
    refine wl_val ha6 rfl rfl rfl (op_assign ha6 rfl rfl) ?_
    intro a67 ha67; clear ha6 a6
    refine wpList_nil ?_
    refine then_n ?_
    refine wp_ret ?_
    refine then_r ?_
    refine ret1 ha67 rfl rfl ?_
    clear ha67 a67
    
    exact ret_mk hx0 (congrArg Value.bool (by rw [eqL_len (by omega)]))

theorem c_laws_eqPromise (w0 : World) (a : Str × Int × Int) (b : Str × Int × Int)  :
    Calls Try.prog 54 #[.agg #[St a.1, .int .i64 a.2.1, .int .i64 a.2.2], .agg #[St b.1, .int .i64 b.2.1, .int .i64 b.2.2]] w0 (Ret w0 (fun v _ => v = .bool (decide (a = b)))) := by
  refine enter (N := 20) Try.func54 rfl rfl rfl ?_
  intro a0 ha0
  have hx0 := Ext.rfl' w0
  refine wp_seq ?_
  refine wp_region_lit ?_
  refine wl_eff ha0 rfl rfl rfl (op_box' ha0 rfl rfl rfl) ?_
  rintro _ w2 ⟨rfl, he3, hb4, hz5⟩ a6 ha6; clear ha0 a0
  have hx7 := hx0.trans' he3
  have hzhx7 := he3.size
  refine wl_eff ha6 rfl rfl rfl (op_box' ha6 rfl rfl rfl) ?_
  rintro _ w9 ⟨rfl, he10, hb11, hz12⟩ a13 ha13; clear ha6 a6
  have hx14 := hx7.trans' he10
  have hzhx14 := he10.size
  replace hb4 := hb4.ext he10
  refine wl_val ha13 rfl rfl rfl (op_assign ha13 rfl rfl) ?_
  intro a15 ha15; clear ha13 a13
  refine wpList_nil ?_
  refine then_n ?_
  refine wp_seq ?_
  refine wp_seq ?_
  refine wp_region_lit ?_
  refine wl_val ha15 rfl rfl rfl (op_fieldAddr (sz := 0) ha15 rfl Try.underlying72 rfl rfl ti9 rfl) ?_
  intro a16 ha16; clear ha15 a15
  refine wl_val ha16 rfl rfl rfl (op_loadF (off := 0) ha16 rfl Try.underlying9 rfl rfl hb4.cells rfl) ?_
  intro a17 ha17; clear ha16 a16
  refine wl_val ha17 rfl rfl rfl (op_fieldAddr (sz := 0) ha17 rfl Try.underlying72 rfl rfl ti9 rfl) ?_
  intro a18 ha18; clear ha17 a17
  refine wl_val ha18 rfl rfl rfl (op_loadF (off := 0) ha18 rfl Try.underlying9 rfl rfl hb11.cells rfl) ?_
  intro a19 ha19; clear ha18 a18
  refine wl_val ha19 rfl rfl rfl ((op_sneq ha19 rfl rfl rfl).to (congrArg Value.bool decide_not)) ?_
  intro a20 ha20; clear ha19 a19
  refine wpList_nil ?_
  refine then_n ?_
  by_cases c21 : a.1 = b.1
  ·
    rw [decide_eq_true c21] at ha20
    refine cond_f ha20 rfl ?_
    refine wp_skip ?_
    refine then_n ?_
    refine wp_seq ?_
    refine wp_seq ?_
    refine wp_region_lit ?_
    refine wl_val ha20 rfl rfl rfl (op_fieldAddr (sz := 0) ha20 rfl Try.underlying72 rfl rfl ti2 rfl) ?_
    intro a22 ha22; clear ha20 a20
    refine wl_val ha22 rfl rfl rfl (op_loadF (off := 1) ha22 rfl Try.underlying2 rfl rfl hb4.cells rfl) ?_
    intro a23 ha23; clear ha22 a22
    refine wl_val ha23 rfl rfl rfl (op_fieldAddr (sz := 0) ha23 rfl Try.underlying72 rfl rfl ti2 rfl) ?_
    intro a24 ha24; clear ha23 a23
    refine wl_val ha24 rfl rfl rfl (op_loadF (off := 1) ha24 rfl Try.underlying2 rfl rfl hb11.cells rfl) ?_
    intro a25 ha25; clear ha24 a24
    refine wl_val ha25 rfl rfl rfl ((op_neq ha25 rfl rfl rfl).to (congrArg Value.bool decide_not)) ?_
    intro a26 ha26; clear ha25 a25
    refine wpList_nil ?_
    refine then_n ?_
    by_cases c27 : a.2.1 = b.2.1
    ·
      rw [decide_eq_true c27] at ha26
      refine cond_f ha26 rfl ?_
      refine wp_skip ?_
      refine then_n ?_
      refine wp_seq ?_
      refine wp_seq ?_
      refine wp_region_lit ?_
      refine wl_val ha26 rfl rfl rfl (op_fieldAddr (sz := 0) ha26 rfl Try.underlying72 rfl rfl ti2 rfl) ?_
      intro a28 ha28; clear ha26 a26
      refine wl_val ha28 rfl rfl rfl (op_loadF (off := 2) ha28 rfl Try.underlying2 rfl rfl hb4.cells rfl) ?_
      intro a29 ha29; clear ha28 a28
      refine wl_val ha29 rfl rfl rfl (op_fieldAddr (sz := 0) ha29 rfl Try.underlying72 rfl rfl ti2 rfl) ?_
      intro a30 ha30; clear ha29 a29
      refine wl_val ha30 rfl rfl rfl (op_loadF (off := 2) ha30 rfl Try.underlying2 rfl rfl hb11.cells rfl) ?_
      intro a31 ha31; clear ha30 a30
      refine wl_val ha31 rfl rfl rfl ((op_neq ha31 rfl rfl rfl).to (congrArg Value.bool decide_not)) ?_
      intro a32 ha32; clear ha31 a31
      refine wpList_nil ?_
      refine then_n ?_
      by_cases c33 : a.2.2 = b.2.2
      ·
        rw [decide_eq_true c33] at ha32
        refine cond_f ha32 rfl ?_
        refine wp_skip ?_
        refine then_n ?_
        refine wp_seq ?_
        refine wp_region_lit ?_
        refine wl_val ha32 rfl rfl rfl (op_assign ha32 rfl rfl) ?_
        intro a34 ha34; clear ha32 a32
        refine wpList_nil ?_
        refine then_n ?_
        refine wp_ret ?_
        refine ret1 ha34 rfl rfl ?_
        clear ha34 a34
        exact ret_mk hx14 (congrArg Value.bool (by simp [Prod.ext_iff, c21, c27, c33]))
      ·
        rw [decide_eq_false c33] at ha32
        refine cond_t ha32 rfl ?_
        refine wp_seq ?_
        refine wp_region_lit ?_
        refine wl_val ha32 rfl rfl rfl (op_assign ha32 rfl rfl) ?_
        intro a35 ha35; clear ha32 a32
        refine wpList_nil ?_
        refine then_n ?_
        refine wp_ret ?_
        refine then_r ?_
        refine ret1 ha35 rfl rfl ?_
        clear ha35 a35
        exact ret_mk hx14 (congrArg Value.bool (by simp [Prod.ext_iff, c21, c27, c33]))
    ·
      rw [decide_eq_false c27] at ha26
      refine cond_t ha26 rfl ?_
      refine wp_seq ?_
      refine wp_region_lit ?_
      refine wl_val ha26 rfl rfl rfl (op_assign ha26 rfl rfl) ?_
      intro a36 ha36; clear ha26 a26
      refine wpList_nil ?_
      refine then_n ?_
      refine wp_ret ?_
      refine then_r ?_
      refine ret1 ha36 rfl rfl ?_
      clear ha36 a36
      exact ret_mk hx14 (congrArg Value.bool (by simp [Prod.ext_iff, c21, c27]))
  ·
    rw [decide_eq_false c21] at ha20
    refine cond_t ha20 rfl ?_
    refine wp_seq ?_
    refine wp_region_lit ?_
    refine wl_val ha20 rfl rfl rfl (op_assign ha20 rfl rfl) ?_
    intro a37 ha37; clear ha20 a20
    refine wpList_nil ?_
    refine then_n ?_
    refine wp_ret ?_
    refine then_r ?_
    refine ret1 ha37 rfl rfl ?_
    clear ha37 a37
    exact ret_mk hx14 (congrArg Value.bool (by simp [Prod.ext_iff, c21]))

theorem c_laws_eqPromiseS (w0 : World) (v_a : Value) (a : List (Str × Int × Int)) {S_a : Nat → Prop} (v_b : Value) (b : List (Str × Int × Int)) {S_b : Nat → Prop} (h_a : Rds shProm S_a w0 v_a a) (h_b : Rds shProm S_b w0 v_b b) :
    Calls Try.prog 27 #[v_a, v_b] w0 (Ret w0 (fun v _ => v = .bool (eqL a b))) := by
  refine enter (N := 27) Try.func27 rfl rfl rfl ?_
  intro a0 ha0
  have hx0 := Ext.rfl' w0
  have hl_a := h_a.length_le
  have hl_b := h_b.length_le
  refine wp_seq ?_
  refine wp_region_lit ?_
  refine wl_val ha0 rfl rfl rfl (op_assign ha0 rfl rfl) ?_
  intro a1 ha1; clear ha0 a0
  refine wpList_nil ?_
  refine then_n ?_
  refine wp_seq ?_
  refine wp_seq ?_
  refine wp_region_lit ?_
  refine wl_val ha1 rfl rfl rfl (op_move ha1 rfl rfl) ?_
  intro a2 ha2; clear ha1 a1
  refine wl_val ha2 rfl rfl rfl (op_len_sl ha2 rfl Try.underlying31 rfl h_a) ?_
  intro a3 ha3; clear ha2 a2
  refine wl_val ha3 rfl rfl rfl (op_move ha3 rfl rfl) ?_
  intro a4 ha4; clear ha3 a3
  refine wl_val ha4 rfl rfl rfl (op_len_sl ha4 rfl Try.underlying31 rfl h_b) ?_
  intro a5 ha5; clear ha4 a4
  refine wl_val ha5 rfl rfl rfl ((op_neq ha5 rfl rfl rfl).to (congrArg Value.bool decide_not)) ?_
  intro a6 ha6; clear ha5 a5
  refine wpList_nil ?_
  refine then_n ?_
  by_cases c7 : ((a.length : Nat) : Int) = ((b.length : Nat) : Int)
  ·
    rw [decide_eq_true c7] at ha6
    refine cond_f ha6 rfl ?_
    refine wp_skip ?_
    refine then_n ?_
    refine wp_seq ?_
    refine wp_seq ?_
    refine wp_region_lit ?_
    refine wl_val ha6 rfl rfl rfl (op_assign ha6 rfl rfl) ?_
    intro a8 ha8; clear ha6 a6
    refine wpList_nil ?_
    refine then_n ?_
    refine wp_block ?_
    refine loop_inv (X := Nat) (fun (i : Nat) fr wl => Sl 27 fr [(0, v_a), (1, v_b), (5, .int .i64 ((i : Nat) : Int))] ∧ Ext w0 wl ∧ w0.heap.size ≤ wl.heap.size ∧ (i ≤ a.length) ∧ (a.length = b.length) ∧ (eqL (a.drop i) (b.drop i) = eqL a b)) (fun (i : Nat) => a.length - i) (0) ?_ ?_
    ·
      exact ⟨(Sl.cons_ ha8 rfl rfl (Sl.cons_ ha8 rfl rfl (Sl.cons_ ha8 rfl (int_eq (by omega)) (Sl.nil_ ha8)))), hx0, (by omega), (by omega), (by omega), (by simp)⟩
    ·
      clear ha8 a8
      rintro i a11 w9 ⟨ha11, hx10, hzl12, hi, hl, hF⟩
      have hzhx10 := hx10.size
      refine wp_seq ?_
      refine wp_seq ?_
      refine wp_region_lit ?_
      refine wl_val ha11 rfl rfl rfl (op_move ha11 rfl rfl) ?_
      intro a13 ha13; clear ha11 a11
      refine wl_val ha13 rfl rfl rfl (op_move ha13 rfl rfl) ?_
      intro a14 ha14; clear ha13 a13
      refine wl_val ha14 rfl rfl rfl (op_len_sl ha14 rfl Try.underlying31 rfl h_a) ?_
      intro a15 ha15; clear ha14 a14
      refine wl_val ha15 rfl rfl rfl (op_lss ha15 rfl rfl rfl) ?_
      intro a16 ha16; clear ha15 a15
      refine wpList_nil ?_
      refine then_n ?_
      by_cases c17 : ((i : Nat) : Int) < ((a.length : Nat) : Int)
      ·
        rw [decide_eq_true c17] at ha16
        refine cond_t ha16 rfl ?_
        refine wp_skip ?_
        refine then_n ?_
        refine wp_seq ?_
        refine wp_block ?_
        refine wp_seq ?_
        refine dr_enter Ext follows_mixed ?_
        intro w18 he19
        have hx20 := hx10.trans' he19
        have hzhx20 := he19.size
        have hs21 : Ext w18 w18 := Ext.rfl' _
        refine dr_val (i := 0) ha16 rfl (by kernel_rfl) (by kernel_rfl) (by kernel_rfl) rfl rfl rfl hs21 (fun w' hw' => op_move ha16 rfl rfl) ?_
        intro a22 ha22; clear ha16 a16
        refine dr_val (i := 1) ha22 rfl (by kernel_rfl) (by kernel_rfl) (by kernel_rfl) rfl rfl rfl hs21 (fun w' hw' => op_move ha22 rfl rfl) ?_
        intro a23 ha23; clear ha22 a22
        obtain ⟨x24, hx24⟩ := get_ex (xs := a) (j := i) (by omega)
        obtain ⟨p25, c26, hi27, hc28, hr29, hs30⟩ := Rds.at_ h_a hx24
        obtain ⟨rfl, b31, b32, b33⟩ := inv_shProm hr29
        refine dr_val (i := 2) ha23 rfl (by kernel_rfl) (by kernel_rfl) (by kernel_rfl) rfl rfl rfl hs21 (fun w' hw' => op_indexAddr ha23 rfl Try.underlying31 ti72 rfl rfl (by omega) hi27) ?_
        intro a34 ha34; clear ha23 a23
        refine dr_val (i := 3) ha34 rfl (by kernel_rfl) (by kernel_rfl) (by kernel_rfl) rfl rfl rfl hs21 (fun w' hw' => op_loadS ha34 rfl Try.underlying72 ti72 rfl rfl (hc28.ext (hx20.trans' hw'))) ?_
        intro a35 ha35; clear ha34 a34
        refine dr_val (i := 4) ha35 rfl (by kernel_rfl) (by kernel_rfl) (by kernel_rfl) rfl rfl rfl hs21 (fun w' hw' => op_move ha35 rfl rfl) ?_
        intro a36 ha36; clear ha35 a35
        refine dr_val (i := 5) ha36 rfl (by kernel_rfl) (by kernel_rfl) (by kernel_rfl) rfl rfl rfl hs21 (fun w' hw' => op_move ha36 rfl rfl) ?_
        intro a37 ha37; clear ha36 a36
        obtain ⟨x38, hx38⟩ := get_ex (xs := b) (j := i) (by omega)
        obtain ⟨p39, c40, hi41, hc42, hr43, hs44⟩ := Rds.at_ h_b hx38
        obtain ⟨rfl, b45, b46, b47⟩ := inv_shProm hr43
        refine dr_val (i := 6) ha37 rfl (by kernel_rfl) (by kernel_rfl) (by kernel_rfl) rfl rfl rfl hs21 (fun w' hw' => op_indexAddr ha37 rfl Try.underlying31 ti72 rfl rfl (by omega) hi41) ?_
        intro a48 ha48; clear ha37 a37
        refine dr_val (i := 7) ha48 rfl (by kernel_rfl) (by kernel_rfl) (by kernel_rfl) rfl rfl rfl hs21 (fun w' hw' => op_loadS ha48 rfl Try.underlying72 ti72 rfl rfl (hc42.ext (hx20.trans' hw'))) ?_
        intro a49 ha49; clear ha48 a48
        refine dr_one (i := 8) (by kernel_rfl) ?_
        refine po_callR ha49 rfl rfl rfl rfl (op_call ha49 rfl cb54 rfl) (c_laws_eqPromise _ x24 x38 ) ?_
        rintro v50 w51 he52 rfl a53 ha53; clear ha49 a49
        have hs54 := hs21.trans' he52
        have hx55 := hx20.trans' he52
        have hzhx55 := he52.size
        refine ⟨hs54, ?_⟩
        refine dr_val (i := 9) ha53 rfl (by kernel_rfl) (by kernel_rfl) (by kernel_rfl) rfl rfl rfl hs54 (fun w' hw' => op_not ha53 rfl rfl) ?_
        intro a56 ha56; clear ha53 a53
        refine dr_end (by kernel_rfl) ?_
        refine then_n ?_
        rcases Bool.eq_false_or_eq_true (decide (x24 = x38)) with c57 | c57
        ·
          rw [c57] at ha56
          refine cond_f ha56 rfl ?_
          refine wp_skip ?_
          refine block_n ?_
          refine then_n ?_
          refine wp_region_lit ?_
          refine wl_val ha56 rfl rfl rfl (op_move ha56 rfl rfl) ?_
          intro a58 ha58; clear ha56 a56
          refine wl_val ha58 rfl rfl rfl ((op_add ha58 rfl rfl rfl).int (IntWalk.i64_in _ (by omega))) ?_
          intro a59 ha59; clear ha58 a58
          refine wl_val ha59 rfl rfl rfl (op_assign ha59 rfl rfl) ?_
          intro a60 ha60; clear ha59 a59
          refine wpList_nil ?_
          refine round_end (x := i) ((i + 1)) ?_ ?_
          ·
            refine ⟨(Sl.cons_ ha60 rfl rfl (Sl.cons_ ha60 rfl rfl (Sl.cons_ ha60 rfl (int_eq (by omega)) (Sl.nil_ ha60)))), hx55, (by omega), (by omega), (by exact hl), (by rw [eqL_step hx24 hx38] at hF; simpa [c7, c17, c57] using hF)⟩
          · show (a.length - ((i + 1)) : Nat) < a.length - i; omega
        ·
          rw [c57] at ha56
          refine cond_t ha56 rfl ?_
          refine wp_seq ?_
          refine wp_region_lit ?_
          refine wl_val ha56 rfl rfl rfl (op_assign ha56 rfl rfl) ?_
          intro a61 ha61; clear ha56 a56
          refine wpList_nil ?_
          refine then_n ?_
          refine wp_ret ?_
          refine block_r ?_
          refine then_r ?_
          refine then_r ?_
          refine block_r ?_
          refine then_r ?_
          refine ret1 ha61 rfl rfl ?_
          clear ha61 a61
          rw [eqL_step hx24 hx38] at hF
          exact ret_mk hx55 (congrArg Value.bool (by first | (simp [← hF, c7, c17, c57]; done) | (simp [← hF, c7, c17, c57]; omega) | (rw [Bool.eq_iff_iff]; simp [← hF, c7, c17, c57]; done) | (rw [Bool.eq_iff_iff]; simp [← hF, c7, c17, c57]; omega)))
      ·
        rw [decide_eq_false c17] at ha16
        refine cond_f ha16 rfl ?_
        refine wp_exit ?_
        refine then_e ?_
        refine then_e ?_
        refine block_hit ?_
        refine then_n ?_
        refine wp_seq ?_
        refine wp_region_lit ?_
        refine wl_val ha16 rfl rfl rfl (op_assign ha16 rfl rfl) ?_
        intro a62 ha62; clear ha16 a16
        refine wpList_nil ?_
        refine then_n ?_
        refine wp_ret ?_
        refine ret1 ha62 rfl rfl ?_
        clear ha62 a62
        rw [drop_nil (by omega), drop_nil (by omega), eqL_nil] at hF
        exact ret_mk hx10 (congrArg Value.bool (by first | (simp [← hF, c7, c17]; done) | (simp [← hF, c7, c17]; omega) | (rw [Bool.eq_iff_iff]; simp [← hF, c7, c17]; done) | (rw [Bool.eq_iff_iff]; simp [← hF, c7, c17]; omega)))
  ·
    rw [decide_eq_false c7] at ha6
    refine cond_t ha6 rfl ?_
    refine wp_seq ?_
    refine wp_region_lit ?_
    refine wl_val ha6 rfl rfl rfl (op_assign ha6 rfl rfl) ?_
    intro a63 ha63; clear ha6 a6
    refine wpList_nil ?_
    refine then_n ?_
    refine wp_ret ?_
    refine then_r ?_
    refine ret1 ha63 rfl rfl ?_
    clear ha63 a63
    
    exact ret_mk hx0 (congrArg Value.bool (by rw [eqL_len (by omega)]))

theorem c_laws_eqEntry (w0 : World) (a : Int × Int × Str × Int) (b : Int × Int × Str × Int)  :
    Calls Try.prog 55 #[.agg #[.int .i64 a.1, .int .i64 a.2.1, St a.2.2.1, .int .i64 a.2.2.2], .agg #[.int .i64 b.1, .int .i64 b.2.1, St b.2.2.1, .int .i64 b.2.2.2]] w0 (Ret w0 (fun v _ => v = .bool (decide (a = b)))) := by
  refine enter (N := 25) Try.func55 rfl rfl rfl ?_
  intro a0 ha0
  have hx0 := Ext.rfl' w0
  refine wp_seq ?_
  refine wp_region_lit ?_
  refine wl_eff ha0 rfl rfl rfl (op_box' ha0 rfl rfl rfl) ?_
  rintro _ w2 ⟨rfl, he3, hb4, hz5⟩ a6 ha6; clear ha0 a0
  have hx7 := hx0.trans' he3
  have hzhx7 := he3.size
  refine wl_eff ha6 rfl rfl rfl (op_box' ha6 rfl rfl rfl) ?_
  rintro _ w9 ⟨rfl, he10, hb11, hz12⟩ a13 ha13; clear ha6 a6
  have hx14 := hx7.trans' he10
  have hzhx14 := he10.size
  replace hb4 := hb4.ext he10
  refine wl_val ha13 rfl rfl rfl (op_assign ha13 rfl rfl) ?_
  intro a15 ha15; clear ha13 a13
  refine wpList_nil ?_
  refine then_n ?_
  refine wp_seq ?_
  refine wp_seq ?_
  refine wp_region_lit ?_
  refine wl_val ha15 rfl rfl rfl (op_fieldAddr (sz := 0) ha15 rfl Try.underlying74 rfl rfl ti2 rfl) ?_
  intro a16 ha16; clear ha15 a15
  refine wl_val ha16 rfl rfl rfl (op_loadF (off := 0) ha16 rfl Try.underlying2 rfl rfl hb4.cells rfl) ?_
  intro a17 ha17; clear ha16 a16
  refine wl_val ha17 rfl rfl rfl (op_fieldAddr (sz := 0) ha17 rfl Try.underlying74 rfl rfl ti2 rfl) ?_
  intro a18 ha18; clear ha17 a17
  refine wl_val ha18 rfl rfl rfl (op_loadF (off := 0) ha18 rfl Try.underlying2 rfl rfl hb11.cells rfl) ?_
  intro a19 ha19; clear ha18 a18
  refine wl_val ha19 rfl rfl rfl ((op_neq ha19 rfl rfl rfl).to (congrArg Value.bool decide_not)) ?_
  intro a20 ha20; clear ha19 a19
  refine wpList_nil ?_
  refine then_n ?_
  by_cases c21 : a.1 = b.1
  ·
    rw [decide_eq_true c21] at ha20
    refine cond_f ha20 rfl ?_
    refine wp_skip ?_
    refine then_n ?_
    refine wp_seq ?_
    refine wp_seq ?_
    refine wp_region_lit ?_
    refine wl_val ha20 rfl rfl rfl (op_fieldAddr (sz := 0) ha20 rfl Try.underlying74 rfl rfl ti2 rfl) ?_
    intro a22 ha22; clear ha20 a20
    refine wl_val ha22 rfl rfl rfl (op_loadF (off := 1) ha22 rfl Try.underlying2 rfl rfl hb4.cells rfl) ?_
    intro a23 ha23; clear ha22 a22
    refine wl_val ha23 rfl rfl rfl (op_fieldAddr (sz := 0) ha23 rfl Try.underlying74 rfl rfl ti2 rfl) ?_
    intro a24 ha24; clear ha23 a23
    refine wl_val ha24 rfl rfl rfl (op_loadF (off := 1) ha24 rfl Try.underlying2 rfl rfl hb11.cells rfl) ?_
    intro a25 ha25; clear ha24 a24
    refine wl_val ha25 rfl rfl rfl ((op_neq ha25 rfl rfl rfl).to (congrArg Value.bool decide_not)) ?_
    intro a26 ha26; clear ha25 a25
    refine wpList_nil ?_
    refine then_n ?_
    by_cases c27 : a.2.1 = b.2.1
    ·
      rw [decide_eq_true c27] at ha26
      refine cond_f ha26 rfl ?_
      refine wp_skip ?_
      refine then_n ?_
      refine wp_seq ?_
      refine wp_seq ?_
      refine wp_region_lit ?_
      refine wl_val ha26 rfl rfl rfl (op_fieldAddr (sz := 0) ha26 rfl Try.underlying74 rfl rfl ti9 rfl) ?_
      intro a28 ha28; clear ha26 a26
      refine wl_val ha28 rfl rfl rfl (op_loadF (off := 2) ha28 rfl Try.underlying9 rfl rfl hb4.cells rfl) ?_
      intro a29 ha29; clear ha28 a28
      refine wl_val ha29 rfl rfl rfl (op_fieldAddr (sz := 0) ha29 rfl Try.underlying74 rfl rfl ti9 rfl) ?_
      intro a30 ha30; clear ha29 a29
      refine wl_val ha30 rfl rfl rfl (op_loadF (off := 2) ha30 rfl Try.underlying9 rfl rfl hb11.cells rfl) ?_
      intro a31 ha31; clear ha30 a30
      refine wl_val ha31 rfl rfl rfl ((op_sneq ha31 rfl rfl rfl).to (congrArg Value.bool decide_not)) ?_
      intro a32 ha32; clear ha31 a31
      refine wpList_nil ?_
      refine then_n ?_
      by_cases c33 : a.2.2.1 = b.2.2.1
      ·
        rw [decide_eq_true c33] at ha32
        refine cond_f ha32 rfl ?_
        refine wp_skip ?_
        refine then_n ?_
        refine wp_seq ?_
        refine wp_seq ?_
        refine wp_region_lit ?_
        refine wl_val ha32 rfl rfl rfl (op_fieldAddr (sz := 0) ha32 rfl Try.underlying74 rfl rfl ti2 rfl) ?_
        intro a34 ha34; clear ha32 a32
        refine wl_val ha34 rfl rfl rfl (op_loadF (off := 3) ha34 rfl Try.underlying2 rfl rfl hb4.cells rfl) ?_
        intro a35 ha35; clear ha34 a34
        refine wl_val ha35 rfl rfl rfl (op_fieldAddr (sz := 0) ha35 rfl Try.underlying74 rfl rfl ti2 rfl) ?_
        intro a36 ha36; clear ha35 a35
        refine wl_val ha36 rfl rfl rfl (op_loadF (off := 3) ha36 rfl Try.underlying2 rfl rfl hb11.cells rfl) ?_
        intro a37 ha37; clear ha36 a36
        refine wl_val ha37 rfl rfl rfl ((op_neq ha37 rfl rfl rfl).to (congrArg Value.bool decide_not)) ?_
        intro a38 ha38; clear ha37 a37
        refine wpList_nil ?_
        refine then_n ?_
        by_cases c39 : a.2.2.2 = b.2.2.2
        ·
          rw [decide_eq_true c39] at ha38
          refine cond_f ha38 rfl ?_
          refine wp_skip ?_
          refine then_n ?_
          refine wp_seq ?_
          refine wp_region_lit ?_
          refine wl_val ha38 rfl rfl rfl (op_assign ha38 rfl rfl) ?_
          intro a40 ha40; clear ha38 a38
          refine wpList_nil ?_
          refine then_n ?_
          refine wp_ret ?_
          refine ret1 ha40 rfl rfl ?_
          clear ha40 a40
          exact ret_mk hx14 (congrArg Value.bool (by simp [Prod.ext_iff, c21, c27, c33, c39]))
        ·
          rw [decide_eq_false c39] at ha38
          refine cond_t ha38 rfl ?_
          refine wp_seq ?_
          refine wp_region_lit ?_
          refine wl_val ha38 rfl rfl rfl (op_assign ha38 rfl rfl) ?_
          intro a41 ha41; clear ha38 a38
          refine wpList_nil ?_
          refine then_n ?_
          refine wp_ret ?_
          refine then_r ?_
          refine ret1 ha41 rfl rfl ?_
          clear ha41 a41
          exact ret_mk hx14 (congrArg Value.bool (by simp [Prod.ext_iff, c21, c27, c33, c39]))
      ·
        rw [decide_eq_false c33] at ha32
        refine cond_t ha32 rfl ?_
        refine wp_seq ?_
        refine wp_region_lit ?_
        refine wl_val ha32 rfl rfl rfl (op_assign ha32 rfl rfl) ?_
        intro a42 ha42; clear ha32 a32
        refine wpList_nil ?_
        refine then_n ?_
        refine wp_ret ?_
        refine then_r ?_
        refine ret1 ha42 rfl rfl ?_
        clear ha42 a42
        exact ret_mk hx14 (congrArg Value.bool (by simp [Prod.ext_iff, c21, c27, c33]))
    ·
      rw [decide_eq_false c27] at ha26
      refine cond_t ha26 rfl ?_
      refine wp_seq ?_
      refine wp_region_lit ?_
      refine wl_val ha26 rfl rfl rfl (op_assign ha26 rfl rfl) ?_
      intro a43 ha43; clear ha26 a26
      refine wpList_nil ?_
      refine then_n ?_
      refine wp_ret ?_
      refine then_r ?_
      refine ret1 ha43 rfl rfl ?_
      clear ha43 a43
      exact ret_mk hx14 (congrArg Value.bool (by simp [Prod.ext_iff, c21, c27]))
  ·
    rw [decide_eq_false c21] at ha20
    refine cond_t ha20 rfl ?_
    refine wp_seq ?_
    refine wp_region_lit ?_
    refine wl_val ha20 rfl rfl rfl (op_assign ha20 rfl rfl) ?_
    intro a44 ha44; clear ha20 a20
    refine wpList_nil ?_
    refine then_n ?_
    refine wp_ret ?_
    refine then_r ?_
    refine ret1 ha44 rfl rfl ?_
    clear ha44 a44
    exact ret_mk hx14 (congrArg Value.bool (by simp [Prod.ext_iff, c21]))

theorem c_laws_eqEntryS (w0 : World) (v_a : Value) (a : List (Int × Int × Str × Int)) {S_a : Nat → Prop} (v_b : Value) (b : List (Int × Int × Str × Int)) {S_b : Nat → Prop} (h_a : Rds shEnt S_a w0 v_a a) (h_b : Rds shEnt S_b w0 v_b b) :
    Calls Try.prog 28 #[v_a, v_b] w0 (Ret w0 (fun v _ => v = .bool (eqL a b))) := by
  refine enter (N := 27) Try.func28 rfl rfl rfl ?_
  intro a0 ha0
  have hx0 := Ext.rfl' w0
  have hl_a := h_a.length_le
  have hl_b := h_b.length_le
  refine wp_seq ?_
  refine wp_region_lit ?_
  refine wl_val ha0 rfl rfl rfl (op_assign ha0 rfl rfl) ?_
  intro a1 ha1; clear ha0 a0
  refine wpList_nil ?_
  refine then_n ?_
  refine wp_seq ?_
  refine wp_seq ?_
  refine wp_region_lit ?_
  refine wl_val ha1 rfl rfl rfl (op_move ha1 rfl rfl) ?_
  intro a2 ha2; clear ha1 a1
  refine wl_val ha2 rfl rfl rfl (op_len_sl ha2 rfl Try.underlying32 rfl h_a) ?_
  intro a3 ha3; clear ha2 a2
  refine wl_val ha3 rfl rfl rfl (op_move ha3 rfl rfl) ?_
  intro a4 ha4; clear ha3 a3
  refine wl_val ha4 rfl rfl rfl (op_len_sl ha4 rfl Try.underlying32 rfl h_b) ?_
  intro a5 ha5; clear ha4 a4
  refine wl_val ha5 rfl rfl rfl ((op_neq ha5 rfl rfl rfl).to (congrArg Value.bool decide_not)) ?_
  intro a6 ha6; clear ha5 a5
  refine wpList_nil ?_
  refine then_n ?_
  by_cases c7 : ((a.length : Nat) : Int) = ((b.length : Nat) : Int)
  ·
    rw [decide_eq_true c7] at ha6
    refine cond_f ha6 rfl ?_
    refine wp_skip ?_
    refine then_n ?_
    refine wp_seq ?_
    refine wp_seq ?_
    refine wp_region_lit ?_
    refine wl_val ha6 rfl rfl rfl (op_assign ha6 rfl rfl) ?_
    intro a8 ha8; clear ha6 a6
    refine wpList_nil ?_
    refine then_n ?_
    refine wp_block ?_
    refine loop_inv (X := Nat) (fun (i : Nat) fr wl => Sl 27 fr [(0, v_a), (1, v_b), (5, .int .i64 ((i : Nat) : Int))] ∧ Ext w0 wl ∧ w0.heap.size ≤ wl.heap.size ∧ (i ≤ a.length) ∧ (a.length = b.length) ∧ (eqL (a.drop i) (b.drop i) = eqL a b)) (fun (i : Nat) => a.length - i) (0) ?_ ?_
    ·
      exact ⟨(Sl.cons_ ha8 rfl rfl (Sl.cons_ ha8 rfl rfl (Sl.cons_ ha8 rfl (int_eq (by omega)) (Sl.nil_ ha8)))), hx0, (by omega), (by omega), (by omega), (by simp)⟩
    ·
      clear ha8 a8
      rintro i a11 w9 ⟨ha11, hx10, hzl12, hi, hl, hF⟩
      have hzhx10 := hx10.size
      refine wp_seq ?_
      refine wp_seq ?_
      refine wp_region_lit ?_
      refine wl_val ha11 rfl rfl rfl (op_move ha11 rfl rfl) ?_
      intro a13 ha13; clear ha11 a11
      refine wl_val ha13 rfl rfl rfl (op_move ha13 rfl rfl) ?_
      intro a14 ha14; clear ha13 a13
      refine wl_val ha14 rfl rfl rfl (op_len_sl ha14 rfl Try.underlying32 rfl h_a) ?_
      intro a15 ha15; clear ha14 a14
      refine wl_val ha15 rfl rfl rfl (op_lss ha15 rfl rfl rfl) ?_
      intro a16 ha16; clear ha15 a15
      refine wpList_nil ?_
      refine then_n ?_
      by_cases c17 : ((i : Nat) : Int) < ((a.length : Nat) : Int)
      ·
        rw [decide_eq_true c17] at ha16
        refine cond_t ha16 rfl ?_
        refine wp_skip ?_
        refine then_n ?_
        refine wp_seq ?_
        refine wp_block ?_
        refine wp_seq ?_
        refine dr_enter Ext follows_mixed ?_
        intro w18 he19
        have hx20 := hx10.trans' he19
        have hzhx20 := he19.size
        have hs21 : Ext w18 w18 := Ext.rfl' _
        refine dr_val (i := 0) ha16 rfl (by kernel_rfl) (by kernel_rfl) (by kernel_rfl) rfl rfl rfl hs21 (fun w' hw' => op_move ha16 rfl rfl) ?_
        intro a22 ha22; clear ha16 a16
        refine dr_val (i := 1) ha22 rfl (by kernel_rfl) (by kernel_rfl) (by kernel_rfl) rfl rfl rfl hs21 (fun w' hw' => op_move ha22 rfl rfl) ?_
        intro a23 ha23; clear ha22 a22
        obtain ⟨x24, hx24⟩ := get_ex (xs := a) (j := i) (by omega)
        obtain ⟨p25, c26, hi27, hc28, hr29, hs30⟩ := Rds.at_ h_a hx24
        obtain ⟨rfl, b31, b32, b33, b34⟩ := inv_shEnt hr29
        refine dr_val (i := 2) ha23 rfl (by kernel_rfl) (by kernel_rfl) (by kernel_rfl) rfl rfl rfl hs21 (fun w' hw' => op_indexAddr ha23 rfl Try.underlying32 ti74 rfl rfl (by omega) hi27) ?_
        intro a35 ha35; clear ha23 a23
        refine dr_val (i := 3) ha35 rfl (by kernel_rfl) (by kernel_rfl) (by kernel_rfl) rfl rfl rfl hs21 (fun w' hw' => op_loadS ha35 rfl Try.underlying74 ti74 rfl rfl (hc28.ext (hx20.trans' hw'))) ?_
        intro a36 ha36; clear ha35 a35
        refine dr_val (i := 4) ha36 rfl (by kernel_rfl) (by kernel_rfl) (by kernel_rfl) rfl rfl rfl hs21 (fun w' hw' => op_move ha36 rfl rfl) ?_
        intro a37 ha37; clear ha36 a36
        refine dr_val (i := 5) ha37 rfl (by kernel_rfl) (by kernel_rfl) (by kernel_rfl) rfl rfl rfl hs21 (fun w' hw' => op_move ha37 rfl rfl) ?_
        intro a38 ha38; clear ha37 a37
        obtain ⟨x39, hx39⟩ := get_ex (xs := b) (j := i) (by omega)
        obtain ⟨p40, c41, hi42, hc43, hr44, hs45⟩ := Rds.at_ h_b hx39
        obtain ⟨rfl, b46, b47, b48, b49⟩ := inv_shEnt hr44
        refine dr_val (i := 6) ha38 rfl (by kernel_rfl) (by kernel_rfl) (by kernel_rfl) rfl rfl rfl hs21 (fun w' hw' => op_indexAddr ha38 rfl Try.underlying32 ti74 rfl rfl (by omega) hi42) ?_
        intro a50 ha50; clear ha38 a38
        refine dr_val (i := 7) ha50 rfl (by kernel_rfl) (by kernel_rfl) (by kernel_rfl) rfl rfl rfl hs21 (fun w' hw' => op_loadS ha50 rfl Try.underlying74 ti74 rfl rfl (hc43.ext (hx20.trans' hw'))) ?_
        intro a51 ha51; clear ha50 a50
        refine dr_one (i := 8) (by kernel_rfl) ?_
        refine po_callR ha51 rfl rfl rfl rfl (op_call ha51 rfl cb55 rfl) (c_laws_eqEntry _ x24 x39 ) ?_
        rintro v52 w53 he54 rfl a55 ha55; clear ha51 a51
        have hs56 := hs21.trans' he54
        have hx57 := hx20.trans' he54
        have hzhx57 := he54.size
        refine ⟨hs56, ?_⟩
        refine dr_val (i := 9) ha55 rfl (by kernel_rfl) (by kernel_rfl) (by kernel_rfl) rfl rfl rfl hs56 (fun w' hw' => op_not ha55 rfl rfl) ?_
        intro a58 ha58; clear ha55 a55
        refine dr_end (by kernel_rfl) ?_
        refine then_n ?_
        rcases Bool.eq_false_or_eq_true (decide (x24 = x39)) with c59 | c59
        ·
          rw [c59] at ha58
          refine cond_f ha58 rfl ?_
          refine wp_skip ?_
          refine block_n ?_
          refine then_n ?_
          refine wp_region_lit ?_
          refine wl_val ha58 rfl rfl rfl (op_move ha58 rfl rfl) ?_
          intro a60 ha60; clear ha58 a58
          refine wl_val ha60 rfl rfl rfl ((op_add ha60 rfl rfl rfl).int (IntWalk.i64_in _ (by omega))) ?_
          intro a61 ha61; clear ha60 a60
          refine wl_val ha61 rfl rfl rfl (op_assign ha61 rfl rfl) ?_
          intro a62 ha62; clear ha61 a61
          refine wpList_nil ?_
          refine round_end (x := i) ((i + 1)) ?_ ?_
          ·
            refine ⟨(Sl.cons_ ha62 rfl rfl (Sl.cons_ ha62 rfl rfl (Sl.cons_ ha62 rfl (int_eq (by omega)) (Sl.nil_ ha62)))), hx57, (by omega), (by omega), (by exact hl), (by rw [eqL_step hx24 hx39] at hF; simpa [c7, c17, c59] using hF)⟩
          · show (a.length - ((i + 1)) : Nat) < a.length - i; omega
        ·
          rw [c59] at ha58
          refine cond_t ha58 rfl ?_
          refine wp_seq ?_
          refine wp_region_lit ?_
          refine wl_val ha58 rfl rfl rfl (op_assign ha58 rfl rfl) ?_
          intro a63 ha63; clear ha58 a58
          refine wpList_nil ?_
          refine then_n ?_
          refine wp_ret ?_
          refine block_r ?_
          refine then_r ?_
          refine then_r ?_
          refine block_r ?_
          refine then_r ?_
          refine ret1 ha63 rfl rfl ?_
          clear ha63 a63
          rw [eqL_step hx24 hx39] at hF
          exact ret_mk hx57 (congrArg Value.bool (by first | (simp [← hF, c7, c17, c59]; done) | (simp [← hF, c7, c17, c59]; omega) | (rw [Bool.eq_iff_iff]; simp [← hF, c7, c17, c59]; done) | (rw [Bool.eq_iff_iff]; simp [← hF, c7, c17, c59]; omega)))
      ·
        rw [decide_eq_false c17] at ha16
        refine cond_f ha16 rfl ?_
        refine wp_exit ?_
        refine then_e ?_
        refine then_e ?_
        refine block_hit ?_
        refine then_n ?_
        refine wp_seq ?_
        refine wp_region_lit ?_
        refine wl_val ha16 rfl rfl rfl (op_assign ha16 rfl rfl) ?_
        intro a64 ha64; clear ha16 a16
        refine wpList_nil ?_
        refine then_n ?_
        refine wp_ret ?_
        refine ret1 ha64 rfl rfl ?_
        clear ha64 a64
        rw [drop_nil (by omega), drop_nil (by omega), eqL_nil] at hF
        exact ret_mk hx10 (congrArg Value.bool (by first | (simp [← hF, c7, c17]; done) | (simp [← hF, c7, c17]; omega) | (rw [Bool.eq_iff_iff]; simp [← hF, c7, c17]; done) | (rw [Bool.eq_iff_iff]; simp [← hF, c7, c17]; omega)))
  ·
    rw [decide_eq_false c7] at ha6
    refine cond_t ha6 rfl ?_
    refine wp_seq ?_
    refine wp_region_lit ?_
    refine wl_val ha6 rfl rfl rfl (op_assign ha6 rfl rfl) ?_
    intro a65 ha65; clear ha6 a6
    refine wpList_nil ?_
    refine then_n ?_
    refine wp_ret ?_
    refine then_r ?_
    refine ret1 ha65 rfl rfl ?_
    clear ha65 a65
    
    exact ret_mk hx0 (congrArg Value.bool (by rw [eqL_len (by omega)]))

theorem c_laws_szDesk (w0 : World) (v_a0 : Value) (v_a1 : Value) (v_a2 : Value) (a : List (Str × Int × Int × Int × Int) × List (Str × Int × Int) × List (Int × Int × Str × Int)) {S_a0 : Nat → Prop} {S_a1 : Nat → Prop} {S_a2 : Nat → Prop} (left : Int) (h_a0 : Rds shBin S_a0 w0 v_a0 a.1) (h_a1 : Rds shProm S_a1 w0 v_a1 a.2.1) (h_a2 : Rds shEnt S_a2 w0 v_a2 a.2.2) (g0 : left ≤ 1048576) (g1 : 0 ≤ left) :
    Calls Try.prog 7 #[.agg #[v_a0, v_a1, v_a2], .int .i64 left] w0 (Ret w0 (fun v _ => v = .int .i64 (szR left (costDesk a)))) := by
  refine enter (N := 24) Try.func7 rfl rfl rfl ?_
  intro a0 ha0
  have hx0 := Ext.rfl' w0
  have hl_a0 := h_a0.length_le
  have hl_a1 := h_a1.length_le
  have hl_a2 := h_a2.length_le
  refine wp_seq ?_
  refine wp_region_lit ?_
  refine wl_eff ha0 rfl rfl rfl (op_box' ha0 rfl rfl rfl) ?_
  rintro _ w2 ⟨rfl, he3, hb4, hz5⟩ a6 ha6; clear ha0 a0
  have hx7 := hx0.trans' he3
  have hzhx7 := he3.size
  refine wl_val ha6 rfl rfl rfl (op_assign ha6 rfl rfl) ?_
  intro a8 ha8; clear ha6 a6
  refine wpList_nil ?_
  refine then_n ?_
  refine wp_seq ?_
  refine wp_region_lit ?_
  refine wl_val ha8 rfl rfl rfl (op_fieldAddr (sz := 0) ha8 rfl Try.underlying27 rfl rfl ti23 rfl) ?_
  intro a9 ha9; clear ha8 a8
  refine wl_val ha9 rfl rfl rfl (op_loadF (off := 0) ha9 rfl Try.underlying23 rfl rfl hb4.cells rfl) ?_
  intro a10 ha10; clear ha9 a9
  refine wl_val ha10 rfl rfl rfl (op_move ha10 rfl rfl) ?_
  intro a11 ha11; clear ha10 a10
  refine wl_callR ha11 rfl rfl rfl (op_call ha11 rfl cb14 rfl) (c_laws_szBinS _ v_a0 a.1 left (h_a0.ext pos_shBin hx7) (by first | assumption | omega | (simp; omega) | (simp [mkN_length]; omega)) (by first | assumption | omega | (simp; omega) | (simp [mkN_length]; omega))) ?_
  rintro v12 w13 he14 rfl a15 ha15; clear ha11 a11
  have hx16 := hx7.trans' he14
  have hzhx16 := he14.size
  replace hb4 := hb4.ext he14
  refine wl_val ha15 rfl rfl rfl (op_assign ha15 rfl rfl) ?_
  intro a17 ha17; clear ha15 a15
  refine wpList_nil ?_
  refine then_n ?_
  refine wp_seq ?_
  refine wp_seq ?_
  refine wp_region_lit ?_
  refine wl_val ha17 rfl rfl rfl (op_move ha17 rfl rfl) ?_
  intro a18 ha18; clear ha17 a17
  refine wl_val ha18 rfl rfl rfl (op_lss ha18 rfl rfl rfl) ?_
  intro a19 ha19; clear ha18 a18
  refine wpList_nil ?_
  refine then_n ?_
  by_cases c20 : (szR left (costL costBin a.1) : Int) < (0 : Int)
  ·
    rw [decide_eq_true c20] at ha19
    refine cond_t ha19 rfl ?_
    refine wp_seq ?_
    refine wp_region_lit ?_
    refine wl_val ha19 rfl rfl rfl (op_assign ha19 rfl rfl) ?_
    intro a21 ha21; clear ha19 a19
    refine wpList_nil ?_
    refine then_n ?_
    refine wp_ret ?_
    refine then_r ?_
    refine ret1 ha21 rfl rfl ?_
    clear ha21 a21
    exact ret_mk hx16 (int_eq (by unfold costDesk; first | (rw [szR_neg (by assumption)]; done) | (rw [szR_add (by assumption), szR_neg (by assumption)]; done) | (rw [szR_add (by assumption), szR_add (by assumption)]; done) | (rw [szR_add (by assumption), szR_add (by assumption)]; exact (szR_m1 (by assumption)).symm)))
  ·
    rw [decide_eq_false c20] at ha19
    have hzc20 := szR_ok c20
    refine cond_f ha19 rfl ?_
    refine wp_skip ?_
    refine then_n ?_
    refine wp_seq ?_
    refine wp_region_lit ?_
    refine wl_val ha19 rfl rfl rfl (op_fieldAddr (sz := 0) ha19 rfl Try.underlying27 rfl rfl ti24 rfl) ?_
    intro a22 ha22; clear ha19 a19
    refine wl_val ha22 rfl rfl rfl (op_loadF (off := 1) ha22 rfl Try.underlying24 rfl rfl hb4.cells rfl) ?_
    intro a23 ha23; clear ha22 a22
    refine wl_val ha23 rfl rfl rfl (op_move ha23 rfl rfl) ?_
    intro a24 ha24; clear ha23 a23
    refine wl_callR ha24 rfl rfl rfl (op_call ha24 rfl cb15 rfl) (c_laws_szPromiseS _ v_a1 a.2.1 (szR left (costL costBin a.1) : Int) (h_a1.ext pos_shProm hx16) (by first | assumption | omega | (simp; omega) | (simp [mkN_length]; omega)) (by first | assumption | omega | (simp; omega) | (simp [mkN_length]; omega))) ?_
    rintro v25 w26 he27 rfl a28 ha28; clear ha24 a24
    have hx29 := hx16.trans' he27
    have hzhx29 := he27.size
    replace hb4 := hb4.ext he27
    refine wl_val ha28 rfl rfl rfl (op_assign ha28 rfl rfl) ?_
    intro a30 ha30; clear ha28 a28
    refine wpList_nil ?_
    refine then_n ?_
    refine wp_seq ?_
    refine wp_seq ?_
    refine wp_region_lit ?_
    refine wl_val ha30 rfl rfl rfl (op_move ha30 rfl rfl) ?_
    intro a31 ha31; clear ha30 a30
    refine wl_val ha31 rfl rfl rfl (op_lss ha31 rfl rfl rfl) ?_
    intro a32 ha32; clear ha31 a31
    refine wpList_nil ?_
    refine then_n ?_
    by_cases c33 : (szR (szR left (costL costBin a.1) : Int) (costL costProm a.2.1) : Int) < (0 : Int)
    ·
      rw [decide_eq_true c33] at ha32
      refine cond_t ha32 rfl ?_
      refine wp_seq ?_
      refine wp_region_lit ?_
      refine wl_val ha32 rfl rfl rfl (op_assign ha32 rfl rfl) ?_
      intro a34 ha34; clear ha32 a32
      refine wpList_nil ?_
      refine then_n ?_
      refine wp_ret ?_
      refine then_r ?_
      refine ret1 ha34 rfl rfl ?_
      clear ha34 a34
      exact ret_mk hx29 (int_eq (by unfold costDesk; first | (rw [szR_neg (by assumption)]; done) | (rw [szR_add (by assumption), szR_neg (by assumption)]; done) | (rw [szR_add (by assumption), szR_add (by assumption)]; done) | (rw [szR_add (by assumption), szR_add (by assumption)]; exact (szR_m1 (by assumption)).symm)))
    ·
      rw [decide_eq_false c33] at ha32
      have hzc33 := szR_ok c33
      refine cond_f ha32 rfl ?_
      refine wp_skip ?_
      refine then_n ?_
      refine wp_seq ?_
      refine wp_region_lit ?_
      refine wl_val ha32 rfl rfl rfl (op_fieldAddr (sz := 0) ha32 rfl Try.underlying27 rfl rfl ti25 rfl) ?_
      intro a35 ha35; clear ha32 a32
      refine wl_val ha35 rfl rfl rfl (op_loadF (off := 2) ha35 rfl Try.underlying25 rfl rfl hb4.cells rfl) ?_
      intro a36 ha36; clear ha35 a35
      refine wl_val ha36 rfl rfl rfl (op_move ha36 rfl rfl) ?_
      intro a37 ha37; clear ha36 a36
      refine wl_callR ha37 rfl rfl rfl (op_call ha37 rfl cb16 rfl) (c_laws_szEntryS _ v_a2 a.2.2 (szR (szR left (costL costBin a.1) : Int) (costL costProm a.2.1) : Int) (h_a2.ext pos_shEnt hx29) (by first | assumption | omega | (simp; omega) | (simp [mkN_length]; omega)) (by first | assumption | omega | (simp; omega) | (simp [mkN_length]; omega))) ?_
      rintro v38 w39 he40 rfl a41 ha41; clear ha37 a37
      have hx42 := hx29.trans' he40
      have hzhx42 := he40.size
      replace hb4 := hb4.ext he40
      refine wl_val ha41 rfl rfl rfl (op_assign ha41 rfl rfl) ?_
      intro a43 ha43; clear ha41 a41
      refine wpList_nil ?_
      refine then_n ?_
      refine wp_seq ?_
      refine wp_seq ?_
      refine wp_region_lit ?_
      refine wl_val ha43 rfl rfl rfl (op_move ha43 rfl rfl) ?_
      intro a44 ha44; clear ha43 a43
      refine wl_val ha44 rfl rfl rfl (op_lss ha44 rfl rfl rfl) ?_
      intro a45 ha45; clear ha44 a44
      refine wpList_nil ?_
      refine then_n ?_
      by_cases c46 : (szR (szR (szR left (costL costBin a.1) : Int) (costL costProm a.2.1) : Int) (costL costEnt a.2.2) : Int) < (0 : Int)
      ·
        rw [decide_eq_true c46] at ha45
        refine cond_t ha45 rfl ?_
        refine wp_seq ?_
        refine wp_region_lit ?_
        refine wl_val ha45 rfl rfl rfl (op_assign ha45 rfl rfl) ?_
        intro a47 ha47; clear ha45 a45
        refine wpList_nil ?_
        refine then_n ?_
        refine wp_ret ?_
        refine then_r ?_
        refine ret1 ha47 rfl rfl ?_
        clear ha47 a47
        exact ret_mk hx42 (int_eq (by unfold costDesk; first | (rw [szR_neg (by assumption)]; done) | (rw [szR_add (by assumption), szR_neg (by assumption)]; done) | (rw [szR_add (by assumption), szR_add (by assumption)]; done) | (rw [szR_add (by assumption), szR_add (by assumption)]; exact (szR_m1 (by assumption)).symm)))
      ·
        rw [decide_eq_false c46] at ha45
        have hzc46 := szR_ok c46
        refine cond_f ha45 rfl ?_
        refine wp_skip ?_
        refine then_n ?_
        refine wp_seq ?_
        refine wp_region_lit ?_
        refine wl_val ha45 rfl rfl rfl (op_move ha45 rfl rfl) ?_
        intro a48 ha48; clear ha45 a45
        refine wl_val ha48 rfl rfl rfl (op_assign ha48 rfl rfl) ?_
        intro a49 ha49; clear ha48 a48
        refine wpList_nil ?_
        refine then_n ?_
        refine wp_ret ?_
        refine ret1 ha49 rfl rfl ?_
        clear ha49 a49
        exact ret_mk hx42 (int_eq (by unfold costDesk; first | (rw [szR_neg (by assumption)]; done) | (rw [szR_add (by assumption), szR_neg (by assumption)]; done) | (rw [szR_add (by assumption), szR_add (by assumption)]; done) | (rw [szR_add (by assumption), szR_add (by assumption)]; exact (szR_m1 (by assumption)).symm)))

theorem c_laws_toDesk (w0 : World) (v_a0 : Value) (v_a1 : Value) (v_a2 : Value) (a : List (Str × Int × Int × Int × Int) × List (Str × Int × Int) × List (Int × Int × Str × Int)) {S_a0 : Nat → Prop} {S_a1 : Nat → Prop} {S_a2 : Nat → Prop} (h_a0 : Rds shBin S_a0 w0 v_a0 a.1) (h_a1 : Rds shProm S_a1 w0 v_a1 a.2.1) (h_a2 : Rds shEnt S_a2 w0 v_a2 a.2.2) (g0 : a.1.length ≤ 1048576) (g1 : a.2.1.length ≤ 1048576) (g2 : a.2.2.length ≤ 1048576) :
    Calls Try.prog 9 #[.agg #[v_a0, v_a1, v_a2]] w0 (Ret w0 (fun v w1 => ∃ r0_0 r0_1 r0_2, v = .agg #[r0_0, r0_1, r0_2] ∧ Own shBin 69 w0.heap.size w0.heap.size w1.heap.size w1 r0_0 ((a).1) ∧ Own shProm 72 w0.heap.size w0.heap.size w1.heap.size w1 r0_1 ((a).2.1) ∧ Own shEnt 74 w0.heap.size w0.heap.size w1.heap.size w1 r0_2 ((a).2.2))) := by
  refine enter (N := 17) Try.func9 rfl rfl rfl ?_
  intro a0 ha0
  have hx0 := Ext.rfl' w0
  have hl_a0 := h_a0.length_le
  have hl_a1 := h_a1.length_le
  have hl_a2 := h_a2.length_le
  refine wp_seq ?_
  refine wp_region_lit ?_
  refine wl_eff ha0 rfl rfl rfl (op_box' ha0 rfl rfl rfl) ?_
  rintro _ w2 ⟨rfl, he3, hb4, hz5⟩ a6 ha6; clear ha0 a0
  have hx7 := hx0.trans' he3
  have hzhx7 := he3.size
  refine wl_eff ha6 rfl rfl rfl (op_alloc' rfl ti34 rfl) ?_
  rintro _ w9 ⟨rfl, he10, hb11, hz12⟩ a13 ha13; clear ha6 a6
  have hx14 := hx7.trans' he10
  have hzhx14 := he10.size
  replace hb4 := hb4.ext he10
  refine wpList_nil ?_
  refine then_n ?_
  refine wp_seq ?_
  refine wp_region_lit ?_
  refine wl_eff ha13 rfl rfl rfl (op_alloc' rfl ti34 rfl) ?_
  rintro _ w16 ⟨rfl, he17, hb18, hz19⟩ a20 ha20; clear ha13 a13
  have hx21 := hx14.trans' he17
  have hzhx21 := he17.size
  replace hb4 := hb4.ext he17
  replace hb11 := hb11.ext he17
  refine wpList_nil ?_
  refine then_n ?_
  refine wp_seq ?_
  refine wp_region_lit ?_
  refine wl_val ha20 rfl rfl rfl (op_fieldAddr (sz := 0) ha20 rfl Try.underlying27 rfl rfl ti23 rfl) ?_
  intro a22 ha22; clear ha20 a20
  refine wl_val ha22 rfl rfl rfl (op_loadF (off := 0) ha22 rfl Try.underlying23 rfl rfl hb4.cells rfl) ?_
  intro a23 ha23; clear ha22 a22
  refine wl_callR ha23 rfl rfl rfl (op_call ha23 rfl cb20 rfl) (c_laws_toBinS _ v_a0 a.1 (h_a0.ext pos_shBin hx21) (by first | assumption | omega | (simp; omega) | (simp [mkN_length]; omega))) ?_
  rintro v24 w25 he26 ho27 a28 ha28; clear ha23 a23
  have hx29 := hx21.trans' he26
  have hzhx29 := he26.size
  replace hb4 := hb4.ext he26
  replace hb11 := hb11.ext he26
  replace hb18 := hb18.ext he26
  refine wl_val ha28 rfl rfl rfl (op_fieldAddr (sz := 0) ha28 rfl Try.underlying34 rfl rfl ti30 rfl) ?_
  intro a30 ha30; clear ha28 a28
  refine wl_effS ha30 rfl rfl (op_store' (off := 0) ha30 rfl ti30 rfl rfl hb18 ho27.cells1 rfl (by intro u hu; have hu : u ∈ ([v24] : List Value) := hu; simp only [List.mem_cons, List.mem_nil_iff, or_false] at hu; rcases hu with rfl <;> first | rfl | exact ho27.one) (Nat.le_of_ble_eq_true rfl)) ?_
  rintro w31 ⟨hb33, hst32, hz34⟩
  have hx35 := hx29.stp hst32 (by intro q hq; cases hq; exact (by omega))
  have hzhx35 := hst32.size
  replace hb4 := hb4.stp hst32 (by intro q hq; cases hq; omega)
  replace hb11 := hb11.stp hst32 (by intro q hq; cases hq; omega)
  replace ho27 : Own shBin 69 w16.heap.size w16.heap.size w25.heap.size w31 v24 ((a.1)) := by first | exact ho27.stp hst32 (by intro q hq; cases hq; omega) | exact ho27.stpF flat_shBin hst32 (by intro q hq; cases hq; exact ho27.ne_box (by assumption) rfl)
  clear hb18
  refine wpList_nil ?_
  refine then_n ?_
  refine wp_seq ?_
  refine wp_region_lit ?_
  refine wl_val ha30 rfl rfl rfl (op_fieldAddr (sz := 0) ha30 rfl Try.underlying27 rfl rfl ti24 rfl) ?_
  intro a36 ha36; clear ha30 a30
  refine wl_val ha36 rfl rfl rfl (op_loadF (off := 1) ha36 rfl Try.underlying24 rfl rfl hb4.cells rfl) ?_
  intro a37 ha37; clear ha36 a36
  refine wl_callR ha37 rfl rfl rfl (op_call ha37 rfl cb21 rfl) (c_laws_toPromiseS _ v_a1 a.2.1 (h_a1.ext pos_shProm hx35) (by first | assumption | omega | (simp; omega) | (simp [mkN_length]; omega))) ?_
  rintro v38 w39 he40 ho41 a42 ha42; clear ha37 a37
  have hx43 := hx35.trans' he40
  have hzhx43 := he40.size
  replace hb4 := hb4.ext he40
  replace hb11 := hb11.ext he40
  replace ho27 := ho27.ext he40
  replace hb33 := hb33.ext he40
  refine wl_val ha42 rfl rfl rfl (op_fieldAddr (sz := 0) ha42 rfl Try.underlying34 rfl rfl ti31 rfl) ?_
  intro a44 ha44; clear ha42 a42
  refine wl_effS ha44 rfl rfl (op_store' (off := 1) ha44 rfl ti31 rfl rfl hb33 ho41.cells1 rfl (by intro u hu; have hu : u ∈ ([v38] : List Value) := hu; simp only [List.mem_cons, List.mem_nil_iff, or_false] at hu; rcases hu with rfl <;> first | rfl | exact ho41.one) (Nat.le_of_ble_eq_true rfl)) ?_
  rintro w45 ⟨hb47, hst46, hz48⟩
  have hx49 := hx43.stp hst46 (by intro q hq; cases hq; exact (by omega))
  have hzhx49 := hst46.size
  replace hb4 := hb4.stp hst46 (by intro q hq; cases hq; omega)
  replace hb11 := hb11.stp hst46 (by intro q hq; cases hq; omega)
  replace ho27 : Own shBin 69 w16.heap.size w16.heap.size w25.heap.size w45 v24 ((a.1)) := by first | exact ho27.stp hst46 (by intro q hq; cases hq; omega) | exact ho27.stpF flat_shBin hst46 (by intro q hq; cases hq; exact ho27.ne_box (by assumption) rfl)
  replace ho41 : Own shProm 72 w31.heap.size w31.heap.size w39.heap.size w45 v38 ((a.2.1)) := by first | exact ho41.stp hst46 (by intro q hq; cases hq; omega) | exact ho41.stpF flat_shProm hst46 (by intro q hq; cases hq; exact ho41.ne_box (by assumption) rfl)
  clear hb33
  refine wpList_nil ?_
  refine then_n ?_
  refine wp_seq ?_
  refine wp_region_lit ?_
  refine wl_val ha44 rfl rfl rfl (op_fieldAddr (sz := 0) ha44 rfl Try.underlying27 rfl rfl ti25 rfl) ?_
  intro a50 ha50; clear ha44 a44
  refine wl_val ha50 rfl rfl rfl (op_loadF (off := 2) ha50 rfl Try.underlying25 rfl rfl hb4.cells rfl) ?_
  intro a51 ha51; clear ha50 a50
  refine wl_callR ha51 rfl rfl rfl (op_call ha51 rfl cb22 rfl) (c_laws_toEntryS _ v_a2 a.2.2 (h_a2.ext pos_shEnt hx49) (by first | assumption | omega | (simp; omega) | (simp [mkN_length]; omega))) ?_
  rintro v52 w53 he54 ho55 a56 ha56; clear ha51 a51
  have hx57 := hx49.trans' he54
  have hzhx57 := he54.size
  replace hb4 := hb4.ext he54
  replace hb11 := hb11.ext he54
  replace ho27 := ho27.ext he54
  replace ho41 := ho41.ext he54
  replace hb47 := hb47.ext he54
  refine wl_val ha56 rfl rfl rfl (op_fieldAddr (sz := 0) ha56 rfl Try.underlying34 rfl rfl ti32 rfl) ?_
  intro a58 ha58; clear ha56 a56
  refine wl_effS ha58 rfl rfl (op_store' (off := 2) ha58 rfl ti32 rfl rfl hb47 ho55.cells1 rfl (by intro u hu; have hu : u ∈ ([v52] : List Value) := hu; simp only [List.mem_cons, List.mem_nil_iff, or_false] at hu; rcases hu with rfl <;> first | rfl | exact ho55.one) (Nat.le_of_ble_eq_true rfl)) ?_
  rintro w59 ⟨hb61, hst60, hz62⟩
  have hx63 := hx57.stp hst60 (by intro q hq; cases hq; exact (by omega))
  have hzhx63 := hst60.size
  replace hb4 := hb4.stp hst60 (by intro q hq; cases hq; omega)
  replace hb11 := hb11.stp hst60 (by intro q hq; cases hq; omega)
  replace ho27 : Own shBin 69 w16.heap.size w16.heap.size w25.heap.size w59 v24 ((a.1)) := by first | exact ho27.stp hst60 (by intro q hq; cases hq; omega) | exact ho27.stpF flat_shBin hst60 (by intro q hq; cases hq; exact ho27.ne_box (by assumption) rfl)
  replace ho41 : Own shProm 72 w31.heap.size w31.heap.size w39.heap.size w59 v38 ((a.2.1)) := by first | exact ho41.stp hst60 (by intro q hq; cases hq; omega) | exact ho41.stpF flat_shProm hst60 (by intro q hq; cases hq; exact ho41.ne_box (by assumption) rfl)
  replace ho55 : Own shEnt 74 w45.heap.size w45.heap.size w53.heap.size w59 v52 ((a.2.2)) := by first | exact ho55.stp hst60 (by intro q hq; cases hq; omega) | exact ho55.stpF flat_shEnt hst60 (by intro q hq; cases hq; exact ho55.ne_box (by assumption) rfl)
  clear hb47
  refine wpList_nil ?_
  refine then_n ?_
  refine wp_seq ?_
  refine wp_region_lit ?_
  refine wl_val ha58 rfl rfl rfl (op_loadS ha58 rfl Try.underlying34 ti34 rfl rfl hb61.cells) ?_
  intro a64 ha64; clear ha58 a58
  refine wl_effS ha64 rfl rfl (op_storeAll' ha64 rfl ti34 rfl rfl hb11 rfl rfl (by intro u hu; have hu : u ∈ ([v24, v38, v52] : List Value) := hu; simp only [List.mem_cons, List.mem_nil_iff, or_false] at hu; rcases hu with rfl | rfl | rfl <;> first | rfl | exact ho27.one | exact ho41.one | exact ho55.one) rfl) ?_
  rintro w65 ⟨hb67, hst66, hz68⟩
  have hx69 := hx63.stp hst66 (by intro q hq; cases hq; exact (by omega))
  have hzhx69 := hst66.size
  replace hb4 := hb4.stp hst66 (by intro q hq; cases hq; omega)
  replace ho27 : Own shBin 69 w16.heap.size w16.heap.size w25.heap.size w65 v24 ((a.1)) := by first | exact ho27.stp hst66 (by intro q hq; cases hq; omega) | exact ho27.stpF flat_shBin hst66 (by intro q hq; cases hq; exact ho27.ne_box (by assumption) rfl)
  replace ho41 : Own shProm 72 w31.heap.size w31.heap.size w39.heap.size w65 v38 ((a.2.1)) := by first | exact ho41.stp hst66 (by intro q hq; cases hq; omega) | exact ho41.stpF flat_shProm hst66 (by intro q hq; cases hq; exact ho41.ne_box (by assumption) rfl)
  replace ho55 : Own shEnt 74 w45.heap.size w45.heap.size w53.heap.size w65 v52 ((a.2.2)) := by first | exact ho55.stp hst66 (by intro q hq; cases hq; omega) | exact ho55.stpF flat_shEnt hst66 (by intro q hq; cases hq; exact ho55.ne_box (by assumption) rfl)
  replace hb61 := hb61.stp hst66 (by intro q hq; cases hq; omega)
  clear hb11
  refine wpList_nil ?_
  refine then_n ?_
  refine wp_ret ?_
  refine retc ha64 rfl rfl Try.underlying34 ti34 rfl hb67.cells ?_
  clear ha64 a64
  refine ret_mk hx69 ⟨v24, v38, v52, (by rfl), ?_, ?_, ?_⟩
  ·
    refine (ho27.fin (by omega) (by omega) (by omega)).cast ?_
    rfl
  ·
    refine (ho41.fin (by omega) (by omega) (by omega)).cast ?_
    rfl
  ·
    refine (ho55.fin (by omega) (by omega) (by omega)).cast ?_
    rfl

theorem c_laws_eqDesk (w0 : World) (v_a0 : Value) (v_a1 : Value) (v_a2 : Value) (a : List (Str × Int × Int × Int × Int) × List (Str × Int × Int) × List (Int × Int × Str × Int)) {S_a0 : Nat → Prop} {S_a1 : Nat → Prop} {S_a2 : Nat → Prop} (v_b0 : Value) (v_b1 : Value) (v_b2 : Value) (b : List (Str × Int × Int × Int × Int) × List (Str × Int × Int) × List (Int × Int × Str × Int)) {S_b0 : Nat → Prop} {S_b1 : Nat → Prop} {S_b2 : Nat → Prop} (h_a0 : Rds shBin S_a0 w0 v_a0 a.1) (h_a1 : Rds shProm S_a1 w0 v_a1 a.2.1) (h_a2 : Rds shEnt S_a2 w0 v_a2 a.2.2) (h_b0 : Rds shBin S_b0 w0 v_b0 b.1) (h_b1 : Rds shProm S_b1 w0 v_b1 b.2.1) (h_b2 : Rds shEnt S_b2 w0 v_b2 b.2.2) :
    Calls Try.prog 11 #[.agg #[v_a0, v_a1, v_a2], .agg #[v_b0, v_b1, v_b2]] w0 (Ret w0 (fun v _ => v = .bool (decide (a = b)))) := by
  refine enter (N := 23) Try.func11 rfl rfl rfl ?_
  intro a0 ha0
  have hx0 := Ext.rfl' w0
  have hl_a0 := h_a0.length_le
  have hl_a1 := h_a1.length_le
  have hl_a2 := h_a2.length_le
  have hl_b0 := h_b0.length_le
  have hl_b1 := h_b1.length_le
  have hl_b2 := h_b2.length_le
  refine wp_seq ?_
  refine wp_region_lit ?_
  refine wl_eff ha0 rfl rfl rfl (op_box' ha0 rfl rfl rfl) ?_
  rintro _ w2 ⟨rfl, he3, hb4, hz5⟩ a6 ha6; clear ha0 a0
  have hx7 := hx0.trans' he3
  have hzhx7 := he3.size
  refine wl_eff ha6 rfl rfl rfl (op_box' ha6 rfl rfl rfl) ?_
  rintro _ w9 ⟨rfl, he10, hb11, hz12⟩ a13 ha13; clear ha6 a6
  have hx14 := hx7.trans' he10
  have hzhx14 := he10.size
  replace hb4 := hb4.ext he10
  refine wl_val ha13 rfl rfl rfl (op_assign ha13 rfl rfl) ?_
  intro a15 ha15; clear ha13 a13
  refine wpList_nil ?_
  refine then_n ?_
  refine wp_seq ?_
  refine wp_seq ?_
  refine wp_region_lit ?_
  refine wl_val ha15 rfl rfl rfl (op_fieldAddr (sz := 0) ha15 rfl Try.underlying34 rfl rfl ti30 rfl) ?_
  intro a16 ha16; clear ha15 a15
  refine wl_val ha16 rfl rfl rfl (op_loadF (off := 0) ha16 rfl Try.underlying30 rfl rfl hb4.cells rfl) ?_
  intro a17 ha17; clear ha16 a16
  refine wl_val ha17 rfl rfl rfl (op_fieldAddr (sz := 0) ha17 rfl Try.underlying34 rfl rfl ti30 rfl) ?_
  intro a18 ha18; clear ha17 a17
  refine wl_val ha18 rfl rfl rfl (op_loadF (off := 0) ha18 rfl Try.underlying30 rfl rfl hb11.cells rfl) ?_
  intro a19 ha19; clear ha18 a18
  refine wl_callR ha19 rfl rfl rfl (op_call ha19 rfl cb26 rfl) (c_laws_eqBinS _ v_a0 a.1 v_b0 b.1 (h_a0.ext pos_shBin hx14) (h_b0.ext pos_shBin hx14)) ?_
  rintro v20 w21 he22 rfl a23 ha23; clear ha19 a19
  have hx24 := hx14.trans' he22
  have hzhx24 := he22.size
  replace hb4 := hb4.ext he22
  replace hb11 := hb11.ext he22
  refine wl_val ha23 rfl rfl rfl (op_not ha23 rfl rfl) ?_
  intro a25 ha25; clear ha23 a23
  refine wpList_nil ?_
  refine then_n ?_
  rcases Bool.eq_false_or_eq_true (eqL a.1 b.1) with c26 | c26
  ·
    rw [c26] at ha25
    refine cond_f ha25 rfl ?_
    refine wp_skip ?_
    refine then_n ?_
    refine wp_seq ?_
    refine wp_seq ?_
    refine wp_region_lit ?_
    refine wl_val ha25 rfl rfl rfl (op_fieldAddr (sz := 0) ha25 rfl Try.underlying34 rfl rfl ti31 rfl) ?_
    intro a27 ha27; clear ha25 a25
    refine wl_val ha27 rfl rfl rfl (op_loadF (off := 1) ha27 rfl Try.underlying31 rfl rfl hb4.cells rfl) ?_
    intro a28 ha28; clear ha27 a27
    refine wl_val ha28 rfl rfl rfl (op_fieldAddr (sz := 0) ha28 rfl Try.underlying34 rfl rfl ti31 rfl) ?_
    intro a29 ha29; clear ha28 a28
    refine wl_val ha29 rfl rfl rfl (op_loadF (off := 1) ha29 rfl Try.underlying31 rfl rfl hb11.cells rfl) ?_
    intro a30 ha30; clear ha29 a29
    refine wl_callR ha30 rfl rfl rfl (op_call ha30 rfl cb27 rfl) (c_laws_eqPromiseS _ v_a1 a.2.1 v_b1 b.2.1 (h_a1.ext pos_shProm hx24) (h_b1.ext pos_shProm hx24)) ?_
    rintro v31 w32 he33 rfl a34 ha34; clear ha30 a30
    have hx35 := hx24.trans' he33
    have hzhx35 := he33.size
    replace hb4 := hb4.ext he33
    replace hb11 := hb11.ext he33
    refine wl_val ha34 rfl rfl rfl (op_not ha34 rfl rfl) ?_
    intro a36 ha36; clear ha34 a34
    refine wpList_nil ?_
    refine then_n ?_
    rcases Bool.eq_false_or_eq_true (eqL a.2.1 b.2.1) with c37 | c37
    ·
      rw [c37] at ha36
      refine cond_f ha36 rfl ?_
      refine wp_skip ?_
      refine then_n ?_
      refine wp_seq ?_
      refine wp_seq ?_
      refine wp_region_lit ?_
      refine wl_val ha36 rfl rfl rfl (op_fieldAddr (sz := 0) ha36 rfl Try.underlying34 rfl rfl ti32 rfl) ?_
      intro a38 ha38; clear ha36 a36
      refine wl_val ha38 rfl rfl rfl (op_loadF (off := 2) ha38 rfl Try.underlying32 rfl rfl hb4.cells rfl) ?_
      intro a39 ha39; clear ha38 a38
      refine wl_val ha39 rfl rfl rfl (op_fieldAddr (sz := 0) ha39 rfl Try.underlying34 rfl rfl ti32 rfl) ?_
      intro a40 ha40; clear ha39 a39
      refine wl_val ha40 rfl rfl rfl (op_loadF (off := 2) ha40 rfl Try.underlying32 rfl rfl hb11.cells rfl) ?_
      intro a41 ha41; clear ha40 a40
      refine wl_callR ha41 rfl rfl rfl (op_call ha41 rfl cb28 rfl) (c_laws_eqEntryS _ v_a2 a.2.2 v_b2 b.2.2 (h_a2.ext pos_shEnt hx35) (h_b2.ext pos_shEnt hx35)) ?_
      rintro v42 w43 he44 rfl a45 ha45; clear ha41 a41
      have hx46 := hx35.trans' he44
      have hzhx46 := he44.size
      replace hb4 := hb4.ext he44
      replace hb11 := hb11.ext he44
      refine wl_val ha45 rfl rfl rfl (op_not ha45 rfl rfl) ?_
      intro a47 ha47; clear ha45 a45
      refine wpList_nil ?_
      refine then_n ?_
      rcases Bool.eq_false_or_eq_true (eqL a.2.2 b.2.2) with c48 | c48
      ·
        rw [c48] at ha47
        refine cond_f ha47 rfl ?_
        refine wp_skip ?_
        refine then_n ?_
        refine wp_seq ?_
        refine wp_region_lit ?_
        refine wl_val ha47 rfl rfl rfl (op_assign ha47 rfl rfl) ?_
        intro a49 ha49; clear ha47 a47
        refine wpList_nil ?_
        refine then_n ?_
        refine wp_ret ?_
        refine ret1 ha49 rfl rfl ?_
        clear ha49 a49
        exact ret_mk hx46 (congrArg Value.bool (by first | (simp [eqL, Prod.ext_iff, c26, c37, c48]; done) | (simp [eqL, Prod.ext_iff, c26, c37, c48]; omega) | (simp_all [eqL, Prod.ext_iff]; done) | (simp_all [eqL, Prod.ext_iff]; omega)))
      ·
        rw [c48] at ha47
        refine cond_t ha47 rfl ?_
        refine wp_seq ?_
        refine wp_region_lit ?_
        refine wl_val ha47 rfl rfl rfl (op_assign ha47 rfl rfl) ?_
        intro a50 ha50; clear ha47 a47
        refine wpList_nil ?_
        refine then_n ?_
        refine wp_ret ?_
        refine then_r ?_
        refine ret1 ha50 rfl rfl ?_
        clear ha50 a50
        exact ret_mk hx46 (congrArg Value.bool (by first | (simp [eqL, Prod.ext_iff, c26, c37, c48]; done) | (simp [eqL, Prod.ext_iff, c26, c37, c48]; omega) | (simp_all [eqL, Prod.ext_iff]; done) | (simp_all [eqL, Prod.ext_iff]; omega)))
    ·
      rw [c37] at ha36
      refine cond_t ha36 rfl ?_
      refine wp_seq ?_
      refine wp_region_lit ?_
      refine wl_val ha36 rfl rfl rfl (op_assign ha36 rfl rfl) ?_
      intro a51 ha51; clear ha36 a36
      refine wpList_nil ?_
      refine then_n ?_
      refine wp_ret ?_
      refine then_r ?_
      refine ret1 ha51 rfl rfl ?_
      clear ha51 a51
      exact ret_mk hx35 (congrArg Value.bool (by first | (simp [eqL, Prod.ext_iff, c26, c37]; done) | (simp [eqL, Prod.ext_iff, c26, c37]; omega) | (simp_all [eqL, Prod.ext_iff]; done) | (simp_all [eqL, Prod.ext_iff]; omega)))
  ·
    rw [c26] at ha25
    refine cond_t ha25 rfl ?_
    refine wp_seq ?_
    refine wp_region_lit ?_
    refine wl_val ha25 rfl rfl rfl (op_assign ha25 rfl rfl) ?_
    intro a52 ha52; clear ha25 a25
    refine wpList_nil ?_
    refine then_n ?_
    refine wp_ret ?_
    refine then_r ?_
    refine ret1 ha52 rfl rfl ?_
    clear ha52 a52
    exact ret_mk hx24 (congrArg Value.bool (by first | (simp [eqL, Prod.ext_iff, c26]; done) | (simp [eqL, Prod.ext_iff, c26]; omega) | (simp_all [eqL, Prod.ext_iff]; done) | (simp_all [eqL, Prod.ext_iff]; omega)))


end Go.Proofs.Ythbehhhblchhhaa
