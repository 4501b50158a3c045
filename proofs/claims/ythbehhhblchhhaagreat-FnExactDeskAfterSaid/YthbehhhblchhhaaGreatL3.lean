/- The helpers of the laws that mark desks. -/
import Derived.Test.YthbehhhblchhhaaGreatX1
import Derived.Test.YthbehhhblchhhaaGreatL2
namespace Go.Proofs.YthbehhhblchhhaaGreat
open Go Go.RowKit
set_option maxHeartbeats 16000000

def costEnt (x : Int × Int × Str × Int) : Nat := x.2.2.1.length
def mkEnt (k : Int) : Int × Int × Str × Int := (k, k + 1, mkT (k + 1 + 1), k + 1 + 1 + 1)
def okEnt (x : Int × Int × Str × Int) (k : Int) : Bool := decide (x = mkEnt k)
theorem okEnt_mk (k : Int) : okEnt (mkEnt k) k = true := by simp [okEnt]

def costBin (x : Str × Int × Int × Int × Int) : Nat := x.1.length
def mkBin (k : Int) : Str × Int × Int × Int × Int := (mkT k, k + 1, k + 1 + 1, k + 1 + 1 + 1, k + 1 + 1 + 1 + 1)
def okBin (x : Str × Int × Int × Int × Int) (k : Int) : Bool := decide (x = mkBin k)
theorem okBin_mk (k : Int) : okBin (mkBin k) k = true := by simp [okBin]

def costProm (x : Str × Int × Int) : Nat := x.1.length
def mkProm (k : Int) : Str × Int × Int := (mkT k, k + 1, k + 1 + 1)
def okProm (x : Str × Int × Int) (k : Int) : Bool := decide (x = mkProm k)
theorem okProm_mk (k : Int) : okProm (mkProm k) k = true := by simp [okProm]

instance decPE : DecidableEq (List (Str × Int × Int) × List (Int × Int × Str × Int)) := instDecidableEqProd
instance decDesk : DecidableEq (List (Str × Int × Int × Int × Int) × List (Str × Int × Int) × List (Int × Int × Str × Int)) := instDecidableEqProd

theorem heldG_val {α : Type} {ok : α → Int → Bool} {st : Int} : ∀ {xs : List α} {k : Int}, 0 ≤ st → 0 ≤ k → heldG ok st xs k < 0 ∨ heldG ok st xs k = k + st * (xs.length : Nat)
  | [], k, _, _ => .inr (by simp [heldG])
  | x :: xs, k, h0, h1 => by
    rw [heldG]; split
    · have := heldG_val (ok := ok) (st := st) (xs := xs) (k := k + st) h0 (by omega)
      rcases this with h | h
      · exact .inl h
      · right; rw [h, List.length_cons]; rw [show ((xs.length + 1 : Nat) : Int) = (xs.length : Nat) + 1 by omega, Int.mul_add]; omega
    · exact .inl (by omega)
def kkDk (d : Dsk) (k : Int) : Int := k + 5 * (d.1.length : Nat) + 3 * (d.2.1.length : Nat) + 4 * (d.2.2.length : Nat)
def mkDk (d : Dsk) (k : Int) : Dsk := (mkN mkBin 5 d.1.length k, mkN mkProm 3 d.2.1.length (k + 5 * (d.1.length : Nat)), mkN mkEnt 4 d.2.2.length (k + 5 * (d.1.length : Nat) + 3 * (d.2.1.length : Nat)))
def heldDk (d : Dsk) (k : Int) : Int := if heldG okBin 5 d.1 k < 0 then -1 else if heldG okProm 3 d.2.1 (heldG okBin 5 d.1 k) < 0 then -1 else if heldG okEnt 4 d.2.2 (heldG okProm 3 d.2.1 (heldG okBin 5 d.1 k)) < 0 then -1 else heldG okEnt 4 d.2.2 (heldG okProm 3 d.2.1 (heldG okBin 5 d.1 k))
theorem mkDk_1 {d : Dsk} {k : Int} : (mkDk d k).1.length = d.1.length := mkN_length ..
theorem mkDk_2 {d : Dsk} {k : Int} : (mkDk d k).2.1.length = d.2.1.length := mkN_length ..
theorem mkDk_3 {d : Dsk} {k : Int} : (mkDk d k).2.2.length = d.2.2.length := mkN_length ..
theorem kkDk_nn {d : Dsk} {k : Int} (h : 0 ≤ k) : ¬ kkDk d k < 0 := by unfold kkDk; omega
theorem held_mkDk {d : Dsk} {k : Int} (h : 0 ≤ k) : heldDk (mkDk d k) k = kkDk d k := by
  unfold heldDk mkDk kkDk
  simp only [held_mkN okBin_mk, held_mkN okProm_mk, held_mkN okEnt_mk]
  rw [if_neg (by omega), if_neg (by omega), if_neg (by omega)]

theorem c_laws_eqBin (w0 : World) (a : Str × Int × Int × Int × Int) (b : Str × Int × Int × Int × Int)  :
    Calls Tryz.prog 72 #[.agg #[St a.1, .int .i64 a.2.1, .int .i64 a.2.2.1, .int .i64 a.2.2.2.1, .int .i64 a.2.2.2.2], .agg #[St b.1, .int .i64 b.2.1, .int .i64 b.2.2.1, .int .i64 b.2.2.2.1, .int .i64 b.2.2.2.2]] w0 (Ret w0 (fun v _ => v = .bool (decide (a = b)))) := by
 refine enter (N := 30) Tryz.func72 rfl rfl rfl ?_
 intro A H
 have hx0 := Ext.rfl' w0
 revert A; refine go ?_; intro A H
 refine we H (op_box' H rfl rfl rfl) ?_
 clear H A; rintro _ w2 ⟨rfl, he3, hb4, hz5⟩ A H
 obtain ⟨hx7, _⟩ := nx hx0 he3
 refine we H (op_box' H rfl rfl rfl) ?_
 clear H A; rintro _ w9 ⟨rfl, he10, hb11, hz12⟩ A H
 obtain ⟨hx14, _⟩ := nx hx7 he10
 replace hb4 := hb4.ext he10
 revert A; refine go ?_; intro A H
 refine fl 0 H U65 ti9 U9 hb4.cells ?_
 clear H A; intro A H
 refine fl 0 H U65 ti9 U9 hb11.cells ?_
 clear H A; intro A H
 refine wv H ((op_sneq H rfl rfl rfl).to (congrArg Value.bool decide_not)) ?_
 clear H A; refine go ?_; intro A H
 by_cases c21 : a.1 = b.1
 rw [decide_eq_true c21] at H
 revert A; refine go ?_; intro A H
 refine fl 1 H U65 ti2 U2 hb4.cells ?_
 clear H A; intro A H
 refine fl 1 H U65 ti2 U2 hb11.cells ?_
 clear H A; refine go ?_; intro A H
 by_cases c27 : a.2.1 = b.2.1
 rw [decide_eq_true c27] at H
 revert A; refine go ?_; intro A H
 refine fl 2 H U65 ti2 U2 hb4.cells ?_
 clear H A; intro A H
 refine fl 2 H U65 ti2 U2 hb11.cells ?_
 clear H A; refine go ?_; intro A H
 by_cases c33 : a.2.2.1 = b.2.2.1
 rw [decide_eq_true c33] at H
 revert A; refine go ?_; intro A H
 refine fl 3 H U65 ti2 U2 hb4.cells ?_
 clear H A; intro A H
 refine fl 3 H U65 ti2 U2 hb11.cells ?_
 clear H A; refine go ?_; intro A H
 by_cases c39 : a.2.2.2.1 = b.2.2.2.1
 rw [decide_eq_true c39] at H
 revert A; refine go ?_; intro A H
 refine fl 4 H U65 ti2 U2 hb4.cells ?_
 clear H A; intro A H
 refine fl 4 H U65 ti2 U2 hb11.cells ?_
 clear H A; refine go ?_; intro A H
 by_cases c45 : a.2.2.2.2 = b.2.2.2.2
 rw [decide_eq_true c45] at H
 revert A; refine go ?_; intro A H
 refine ret1 H rfl rfl ?_
 clear H A
 exact ret_mk hx14 (congrArg Value.bool (by simp [Prod.ext_iff, c21, c27, c33, c39, c45]))
 rw [decide_eq_false c45] at H
 revert A; refine go ?_; intro A H
 refine ret1 H rfl rfl ?_
 clear H A
 exact ret_mk hx14 (congrArg Value.bool (by simp [Prod.ext_iff, c21, c27, c33, c39, c45]))
 rw [decide_eq_false c39] at H
 revert A; refine go ?_; intro A H
 refine ret1 H rfl rfl ?_
 clear H A
 exact ret_mk hx14 (congrArg Value.bool (by simp [Prod.ext_iff, c21, c27, c33, c39]))
 rw [decide_eq_false c33] at H
 revert A; refine go ?_; intro A H
 refine ret1 H rfl rfl ?_
 clear H A
 exact ret_mk hx14 (congrArg Value.bool (by simp [Prod.ext_iff, c21, c27, c33]))
 rw [decide_eq_false c27] at H
 revert A; refine go ?_; intro A H
 refine ret1 H rfl rfl ?_
 clear H A
 exact ret_mk hx14 (congrArg Value.bool (by simp [Prod.ext_iff, c21, c27]))
 rw [decide_eq_false c21] at H
 revert A; refine go ?_; intro A H
 refine ret1 H rfl rfl ?_
 clear H A
 exact ret_mk hx14 (congrArg Value.bool (by simp [Prod.ext_iff, c21]))



theorem c_laws_eqBinS (w0 : World) (v_a : Value) (a : List (Str × Int × Int × Int × Int)) {S_a : Nat → Prop} (v_b : Value) (b : List (Str × Int × Int × Int × Int)) {S_b : Nat → Prop} (h_a : Rds shBin S_a w0 v_a a) (h_b : Rds shBin S_b w0 v_b b) :
    Calls Tryz.prog 41 #[v_a, v_b] w0 (Ret w0 (fun v _ => v = .bool (eqL a b))) := by
 refine enter (N := 27) Tryz.func41 rfl rfl rfl ?_
 intro A H
 have hx0 := Ext.rfl' w0
 have hl_a := h_a.length_le
 have hl_b := h_b.length_le
 revert A; refine go ?_; intro A H
 refine wv H (ln H U30 h_a) ?_
 clear H A; intro A H
 refine wv H (op_move H rfl rfl) ?_
 clear H A; intro A H
 refine wv H (ln H U30 h_b) ?_
 clear H A; refine go ?_; intro A H
 by_cases c7 : ((a.length : Nat) : Int) = ((b.length : Nat) : Int)
 rw [decide_eq_true c7] at H
 revert A; refine go ?_; intro A H
 refine loop_inv (X := Nat) (fun i fr wl => Sl 27 fr [(0, v_a), (1, v_b), (5, .int .i64 ((i : Nat) : Int))] ∧ Ext w0 wl ∧ w0.heap.size ≤ wl.heap.size ∧ (i ≤ a.length) ∧ (a.length = b.length) ∧ (eqL (a.drop i) (b.drop i) = eqL a b)) (fun i => a.length - i) (0) ?_ ?_
 exact ⟨(sl H), hx0, (by omega), (by omega), (by omega), (by simp)⟩
 clear H A
 rintro i A w9 ⟨H, hx10, hzl12, hi, hl, hF⟩
 have hzhx10 := hx10.size
 revert A; refine go ?_; intro A H
 refine wv H (ln H U30 h_a) ?_
 clear H A; refine go ?_; intro A H
 by_cases c17 : ((i : Nat) : Int) < ((a.length : Nat) : Int)
 rw [decide_eq_true c17] at H
 revert A; refine go ?_; intro A H
 refine dre Ext follows_mixed ?_
 intro w18 he19 hs21
 obtain ⟨hx20, _⟩ := nx hx10 he19
 revert A; refine dgo [0, 1] hs21 ?_; intro A H
 obtain ⟨x24, hx24⟩ := get_ex (xs := a) (j := i) (by omega)
 obtain ⟨p25, hi27, hc28, b31, b32, b33, b34, b35, hs30⟩ := at_shBin h_a hx24
 refine dw 2 H rfl hs21 (ix H U30 ti65 hi27) ?_
 clear H A; intro A H
 refine dv 3 H rfl hs21 (fun w' hw' => ls H U65 ti65 (hc28.ext (hx20.trans' hw'))) ?_
 clear H A; refine dgo [4, 5] hs21 ?_; intro A H
 obtain ⟨x40, hx40⟩ := get_ex (xs := b) (j := i) (by omega)
 obtain ⟨p41, hi43, hc44, b47, b48, b49, b50, b51, hs46⟩ := at_shBin h_b hx40
 refine dw 6 H rfl hs21 (ix H U30 ti65 hi43) ?_
 clear H A; intro A H
 refine dv 7 H rfl hs21 (fun w' hw' => ls H U65 ti65 (hc44.ext (hx20.trans' hw'))) ?_
 clear H A; intro A H
 refine dr_one (i := 8) (by kernel_rfl) ?_
 refine pc H cb72 rfl (c_laws_eqBin _ x24 x40 ) ?_
 clear H A; rintro v54 w55 he56 rfl A H
 have hs58 := hs21.trans' he56
 obtain ⟨hx59, _⟩ := nx hx20 he56
 refine ⟨hs58, ?_⟩
 refine dw 9 H rfl hs58 (op_not H rfl rfl) ?_
 clear H A; intro A H
 refine dr_end (by kernel_rfl) ?_
 refine then_n ?_
 rcases Bool.eq_false_or_eq_true (decide (x24 = x40)) with c61 | c61
 rw [c61] at H
 revert A; refine go ?_; intro A H
 refine wv H ((op_add H rfl rfl rfl).int (IntWalk.i64_in _ (by omega))) ?_
 clear H A; refine go ?_; intro A H
 refine ⟨((i + 1)), ?_, ?_⟩
 refine ⟨(sl H), hx59, (by omega), (by omega), (by exact hl), (by rw [eqL_step hx24 hx40] at hF; simpa [c7, c17, c61] using hF)⟩
 show (a.length - ((i + 1)) : Nat) < a.length - i; omega
 rw [c61] at H
 revert A; refine go ?_; intro A H
 refine ret1 H rfl rfl ?_
 clear H A
 rw [eqL_step hx24 hx40] at hF
 exact ret_mk hx59 (congrArg Value.bool (by simp [← hF, c61]))
 rw [decide_eq_false c17] at H
 revert A; refine go ?_; intro A H
 refine ret1 H rfl rfl ?_
 clear H A
 rw [drop_nil (by omega), drop_nil (by omega), eqL_nil] at hF
 exact ret_mk hx10 (congrArg Value.bool (by simp [← hF]))
 rw [decide_eq_false c7] at H
 revert A; refine go ?_; intro A H
 refine ret1 H rfl rfl ?_
 clear H A
 exact ret_mk hx0 (congrArg Value.bool (by rw [eqL_len (by omega)]))



theorem c_laws_eqPromise (w0 : World) (a : Str × Int × Int) (b : Str × Int × Int)  :
    Calls Tryz.prog 73 #[.agg #[St a.1, .int .i64 a.2.1, .int .i64 a.2.2], .agg #[St b.1, .int .i64 b.2.1, .int .i64 b.2.2]] w0 (Ret w0 (fun v _ => v = .bool (decide (a = b)))) := by
 refine enter (N := 20) Tryz.func73 rfl rfl rfl ?_
 intro A H
 have hx0 := Ext.rfl' w0
 revert A; refine go ?_; intro A H
 refine we H (op_box' H rfl rfl rfl) ?_
 clear H A; rintro _ w2 ⟨rfl, he3, hb4, hz5⟩ A H
 obtain ⟨hx7, _⟩ := nx hx0 he3
 refine we H (op_box' H rfl rfl rfl) ?_
 clear H A; rintro _ w9 ⟨rfl, he10, hb11, hz12⟩ A H
 obtain ⟨hx14, _⟩ := nx hx7 he10
 replace hb4 := hb4.ext he10
 revert A; refine go ?_; intro A H
 refine fl 0 H U67 ti9 U9 hb4.cells ?_
 clear H A; intro A H
 refine fl 0 H U67 ti9 U9 hb11.cells ?_
 clear H A; intro A H
 refine wv H ((op_sneq H rfl rfl rfl).to (congrArg Value.bool decide_not)) ?_
 clear H A; refine go ?_; intro A H
 by_cases c21 : a.1 = b.1
 rw [decide_eq_true c21] at H
 revert A; refine go ?_; intro A H
 refine fl 1 H U67 ti2 U2 hb4.cells ?_
 clear H A; intro A H
 refine fl 1 H U67 ti2 U2 hb11.cells ?_
 clear H A; refine go ?_; intro A H
 by_cases c27 : a.2.1 = b.2.1
 rw [decide_eq_true c27] at H
 revert A; refine go ?_; intro A H
 refine fl 2 H U67 ti2 U2 hb4.cells ?_
 clear H A; intro A H
 refine fl 2 H U67 ti2 U2 hb11.cells ?_
 clear H A; refine go ?_; intro A H
 by_cases c33 : a.2.2 = b.2.2
 rw [decide_eq_true c33] at H
 revert A; refine go ?_; intro A H
 refine ret1 H rfl rfl ?_
 clear H A
 exact ret_mk hx14 (congrArg Value.bool (by simp [Prod.ext_iff, c21, c27, c33]))
 rw [decide_eq_false c33] at H
 revert A; refine go ?_; intro A H
 refine ret1 H rfl rfl ?_
 clear H A
 exact ret_mk hx14 (congrArg Value.bool (by simp [Prod.ext_iff, c21, c27, c33]))
 rw [decide_eq_false c27] at H
 revert A; refine go ?_; intro A H
 refine ret1 H rfl rfl ?_
 clear H A
 exact ret_mk hx14 (congrArg Value.bool (by simp [Prod.ext_iff, c21, c27]))
 rw [decide_eq_false c21] at H
 revert A; refine go ?_; intro A H
 refine ret1 H rfl rfl ?_
 clear H A
 exact ret_mk hx14 (congrArg Value.bool (by simp [Prod.ext_iff, c21]))



theorem c_laws_eqPromiseS (w0 : World) (v_a : Value) (a : List (Str × Int × Int)) {S_a : Nat → Prop} (v_b : Value) (b : List (Str × Int × Int)) {S_b : Nat → Prop} (h_a : Rds shProm S_a w0 v_a a) (h_b : Rds shProm S_b w0 v_b b) :
    Calls Tryz.prog 42 #[v_a, v_b] w0 (Ret w0 (fun v _ => v = .bool (eqL a b))) := by
 refine enter (N := 27) Tryz.func42 rfl rfl rfl ?_
 intro A H
 have hx0 := Ext.rfl' w0
 have hl_a := h_a.length_le
 have hl_b := h_b.length_le
 revert A; refine go ?_; intro A H
 refine wv H (ln H U31 h_a) ?_
 clear H A; intro A H
 refine wv H (op_move H rfl rfl) ?_
 clear H A; intro A H
 refine wv H (ln H U31 h_b) ?_
 clear H A; refine go ?_; intro A H
 by_cases c7 : ((a.length : Nat) : Int) = ((b.length : Nat) : Int)
 rw [decide_eq_true c7] at H
 revert A; refine go ?_; intro A H
 refine loop_inv (X := Nat) (fun i fr wl => Sl 27 fr [(0, v_a), (1, v_b), (5, .int .i64 ((i : Nat) : Int))] ∧ Ext w0 wl ∧ w0.heap.size ≤ wl.heap.size ∧ (i ≤ a.length) ∧ (a.length = b.length) ∧ (eqL (a.drop i) (b.drop i) = eqL a b)) (fun i => a.length - i) (0) ?_ ?_
 exact ⟨(sl H), hx0, (by omega), (by omega), (by omega), (by simp)⟩
 clear H A
 rintro i A w9 ⟨H, hx10, hzl12, hi, hl, hF⟩
 have hzhx10 := hx10.size
 revert A; refine go ?_; intro A H
 refine wv H (ln H U31 h_a) ?_
 clear H A; refine go ?_; intro A H
 by_cases c17 : ((i : Nat) : Int) < ((a.length : Nat) : Int)
 rw [decide_eq_true c17] at H
 revert A; refine go ?_; intro A H
 refine dre Ext follows_mixed ?_
 intro w18 he19 hs21
 obtain ⟨hx20, _⟩ := nx hx10 he19
 revert A; refine dgo [0, 1] hs21 ?_; intro A H
 obtain ⟨x24, hx24⟩ := get_ex (xs := a) (j := i) (by omega)
 obtain ⟨p25, hi27, hc28, b31, b32, b33, hs30⟩ := at_shProm h_a hx24
 refine dw 2 H rfl hs21 (ix H U31 ti67 hi27) ?_
 clear H A; intro A H
 refine dv 3 H rfl hs21 (fun w' hw' => ls H U67 ti67 (hc28.ext (hx20.trans' hw'))) ?_
 clear H A; refine dgo [4, 5] hs21 ?_; intro A H
 obtain ⟨x38, hx38⟩ := get_ex (xs := b) (j := i) (by omega)
 obtain ⟨p39, hi41, hc42, b45, b46, b47, hs44⟩ := at_shProm h_b hx38
 refine dw 6 H rfl hs21 (ix H U31 ti67 hi41) ?_
 clear H A; intro A H
 refine dv 7 H rfl hs21 (fun w' hw' => ls H U67 ti67 (hc42.ext (hx20.trans' hw'))) ?_
 clear H A; intro A H
 refine dr_one (i := 8) (by kernel_rfl) ?_
 refine pc H cb73 rfl (c_laws_eqPromise _ x24 x38 ) ?_
 clear H A; rintro v50 w51 he52 rfl A H
 have hs54 := hs21.trans' he52
 obtain ⟨hx55, _⟩ := nx hx20 he52
 refine ⟨hs54, ?_⟩
 refine dw 9 H rfl hs54 (op_not H rfl rfl) ?_
 clear H A; intro A H
 refine dr_end (by kernel_rfl) ?_
 refine then_n ?_
 rcases Bool.eq_false_or_eq_true (decide (x24 = x38)) with c57 | c57
 rw [c57] at H
 revert A; refine go ?_; intro A H
 refine wv H ((op_add H rfl rfl rfl).int (IntWalk.i64_in _ (by omega))) ?_
 clear H A; refine go ?_; intro A H
 refine ⟨((i + 1)), ?_, ?_⟩
 refine ⟨(sl H), hx55, (by omega), (by omega), (by exact hl), (by rw [eqL_step hx24 hx38] at hF; simpa [c7, c17, c57] using hF)⟩
 show (a.length - ((i + 1)) : Nat) < a.length - i; omega
 rw [c57] at H
 revert A; refine go ?_; intro A H
 refine ret1 H rfl rfl ?_
 clear H A
 rw [eqL_step hx24 hx38] at hF
 exact ret_mk hx55 (congrArg Value.bool (by simp [← hF, c57]))
 rw [decide_eq_false c17] at H
 revert A; refine go ?_; intro A H
 refine ret1 H rfl rfl ?_
 clear H A
 rw [drop_nil (by omega), drop_nil (by omega), eqL_nil] at hF
 exact ret_mk hx10 (congrArg Value.bool (by simp [← hF]))
 rw [decide_eq_false c7] at H
 revert A; refine go ?_; intro A H
 refine ret1 H rfl rfl ?_
 clear H A
 exact ret_mk hx0 (congrArg Value.bool (by rw [eqL_len (by omega)]))



theorem c_laws_eqEntry (w0 : World) (a : Int × Int × Str × Int) (b : Int × Int × Str × Int)  :
    Calls Tryz.prog 74 #[.agg #[.int .i64 a.1, .int .i64 a.2.1, St a.2.2.1, .int .i64 a.2.2.2], .agg #[.int .i64 b.1, .int .i64 b.2.1, St b.2.2.1, .int .i64 b.2.2.2]] w0 (Ret w0 (fun v _ => v = .bool (decide (a = b)))) := by
 refine enter (N := 25) Tryz.func74 rfl rfl rfl ?_
 intro A H
 have hx0 := Ext.rfl' w0
 revert A; refine go ?_; intro A H
 refine we H (op_box' H rfl rfl rfl) ?_
 clear H A; rintro _ w2 ⟨rfl, he3, hb4, hz5⟩ A H
 obtain ⟨hx7, _⟩ := nx hx0 he3
 refine we H (op_box' H rfl rfl rfl) ?_
 clear H A; rintro _ w9 ⟨rfl, he10, hb11, hz12⟩ A H
 obtain ⟨hx14, _⟩ := nx hx7 he10
 replace hb4 := hb4.ext he10
 revert A; refine go ?_; intro A H
 refine fl 0 H U69 ti2 U2 hb4.cells ?_
 clear H A; intro A H
 refine fl 0 H U69 ti2 U2 hb11.cells ?_
 clear H A; refine go ?_; intro A H
 by_cases c21 : a.1 = b.1
 rw [decide_eq_true c21] at H
 revert A; refine go ?_; intro A H
 refine fl 1 H U69 ti2 U2 hb4.cells ?_
 clear H A; intro A H
 refine fl 1 H U69 ti2 U2 hb11.cells ?_
 clear H A; refine go ?_; intro A H
 by_cases c27 : a.2.1 = b.2.1
 rw [decide_eq_true c27] at H
 revert A; refine go ?_; intro A H
 refine fl 2 H U69 ti9 U9 hb4.cells ?_
 clear H A; intro A H
 refine fl 2 H U69 ti9 U9 hb11.cells ?_
 clear H A; intro A H
 refine wv H ((op_sneq H rfl rfl rfl).to (congrArg Value.bool decide_not)) ?_
 clear H A; refine go ?_; intro A H
 by_cases c33 : a.2.2.1 = b.2.2.1
 rw [decide_eq_true c33] at H
 revert A; refine go ?_; intro A H
 refine fl 3 H U69 ti2 U2 hb4.cells ?_
 clear H A; intro A H
 refine fl 3 H U69 ti2 U2 hb11.cells ?_
 clear H A; refine go ?_; intro A H
 by_cases c39 : a.2.2.2 = b.2.2.2
 rw [decide_eq_true c39] at H
 revert A; refine go ?_; intro A H
 refine ret1 H rfl rfl ?_
 clear H A
 exact ret_mk hx14 (congrArg Value.bool (by simp [Prod.ext_iff, c21, c27, c33, c39]))
 rw [decide_eq_false c39] at H
 revert A; refine go ?_; intro A H
 refine ret1 H rfl rfl ?_
 clear H A
 exact ret_mk hx14 (congrArg Value.bool (by simp [Prod.ext_iff, c21, c27, c33, c39]))
 rw [decide_eq_false c33] at H
 revert A; refine go ?_; intro A H
 refine ret1 H rfl rfl ?_
 clear H A
 exact ret_mk hx14 (congrArg Value.bool (by simp [Prod.ext_iff, c21, c27, c33]))
 rw [decide_eq_false c27] at H
 revert A; refine go ?_; intro A H
 refine ret1 H rfl rfl ?_
 clear H A
 exact ret_mk hx14 (congrArg Value.bool (by simp [Prod.ext_iff, c21, c27]))
 rw [decide_eq_false c21] at H
 revert A; refine go ?_; intro A H
 refine ret1 H rfl rfl ?_
 clear H A
 exact ret_mk hx14 (congrArg Value.bool (by simp [Prod.ext_iff, c21]))



theorem c_laws_eqEntryS (w0 : World) (v_a : Value) (a : List (Int × Int × Str × Int)) {S_a : Nat → Prop} (v_b : Value) (b : List (Int × Int × Str × Int)) {S_b : Nat → Prop} (h_a : Rds shEnt S_a w0 v_a a) (h_b : Rds shEnt S_b w0 v_b b) :
    Calls Tryz.prog 43 #[v_a, v_b] w0 (Ret w0 (fun v _ => v = .bool (eqL a b))) := by
 refine enter (N := 27) Tryz.func43 rfl rfl rfl ?_
 intro A H
 have hx0 := Ext.rfl' w0
 have hl_a := h_a.length_le
 have hl_b := h_b.length_le
 revert A; refine go ?_; intro A H
 refine wv H (ln H U32 h_a) ?_
 clear H A; intro A H
 refine wv H (op_move H rfl rfl) ?_
 clear H A; intro A H
 refine wv H (ln H U32 h_b) ?_
 clear H A; refine go ?_; intro A H
 by_cases c7 : ((a.length : Nat) : Int) = ((b.length : Nat) : Int)
 rw [decide_eq_true c7] at H
 revert A; refine go ?_; intro A H
 refine loop_inv (X := Nat) (fun i fr wl => Sl 27 fr [(0, v_a), (1, v_b), (5, .int .i64 ((i : Nat) : Int))] ∧ Ext w0 wl ∧ w0.heap.size ≤ wl.heap.size ∧ (i ≤ a.length) ∧ (a.length = b.length) ∧ (eqL (a.drop i) (b.drop i) = eqL a b)) (fun i => a.length - i) (0) ?_ ?_
 exact ⟨(sl H), hx0, (by omega), (by omega), (by omega), (by simp)⟩
 clear H A
 rintro i A w9 ⟨H, hx10, hzl12, hi, hl, hF⟩
 have hzhx10 := hx10.size
 revert A; refine go ?_; intro A H
 refine wv H (ln H U32 h_a) ?_
 clear H A; refine go ?_; intro A H
 by_cases c17 : ((i : Nat) : Int) < ((a.length : Nat) : Int)
 rw [decide_eq_true c17] at H
 revert A; refine go ?_; intro A H
 refine dre Ext follows_mixed ?_
 intro w18 he19 hs21
 obtain ⟨hx20, _⟩ := nx hx10 he19
 revert A; refine dgo [0, 1] hs21 ?_; intro A H
 obtain ⟨x24, hx24⟩ := get_ex (xs := a) (j := i) (by omega)
 obtain ⟨p25, hi27, hc28, b31, b32, b33, b34, hs30⟩ := at_shEnt h_a hx24
 refine dw 2 H rfl hs21 (ix H U32 ti69 hi27) ?_
 clear H A; intro A H
 refine dv 3 H rfl hs21 (fun w' hw' => ls H U69 ti69 (hc28.ext (hx20.trans' hw'))) ?_
 clear H A; refine dgo [4, 5] hs21 ?_; intro A H
 obtain ⟨x39, hx39⟩ := get_ex (xs := b) (j := i) (by omega)
 obtain ⟨p40, hi42, hc43, b46, b47, b48, b49, hs45⟩ := at_shEnt h_b hx39
 refine dw 6 H rfl hs21 (ix H U32 ti69 hi42) ?_
 clear H A; intro A H
 refine dv 7 H rfl hs21 (fun w' hw' => ls H U69 ti69 (hc43.ext (hx20.trans' hw'))) ?_
 clear H A; intro A H
 refine dr_one (i := 8) (by kernel_rfl) ?_
 refine pc H cb74 rfl (c_laws_eqEntry _ x24 x39 ) ?_
 clear H A; rintro v52 w53 he54 rfl A H
 have hs56 := hs21.trans' he54
 obtain ⟨hx57, _⟩ := nx hx20 he54
 refine ⟨hs56, ?_⟩
 refine dw 9 H rfl hs56 (op_not H rfl rfl) ?_
 clear H A; intro A H
 refine dr_end (by kernel_rfl) ?_
 refine then_n ?_
 rcases Bool.eq_false_or_eq_true (decide (x24 = x39)) with c59 | c59
 rw [c59] at H
 revert A; refine go ?_; intro A H
 refine wv H ((op_add H rfl rfl rfl).int (IntWalk.i64_in _ (by omega))) ?_
 clear H A; refine go ?_; intro A H
 refine ⟨((i + 1)), ?_, ?_⟩
 refine ⟨(sl H), hx57, (by omega), (by omega), (by exact hl), (by rw [eqL_step hx24 hx39] at hF; simpa [c7, c17, c59] using hF)⟩
 show (a.length - ((i + 1)) : Nat) < a.length - i; omega
 rw [c59] at H
 revert A; refine go ?_; intro A H
 refine ret1 H rfl rfl ?_
 clear H A
 rw [eqL_step hx24 hx39] at hF
 exact ret_mk hx57 (congrArg Value.bool (by simp [← hF, c59]))
 rw [decide_eq_false c17] at H
 revert A; refine go ?_; intro A H
 refine ret1 H rfl rfl ?_
 clear H A
 rw [drop_nil (by omega), drop_nil (by omega), eqL_nil] at hF
 exact ret_mk hx10 (congrArg Value.bool (by simp [← hF]))
 rw [decide_eq_false c7] at H
 revert A; refine go ?_; intro A H
 refine ret1 H rfl rfl ?_
 clear H A
 exact ret_mk hx0 (congrArg Value.bool (by rw [eqL_len (by omega)]))



theorem c_laws_eqDesk (w0 : World) (v_a0 : Value) (v_a1 : Value) (v_a2 : Value) (a : List (Str × Int × Int × Int × Int) × List (Str × Int × Int) × List (Int × Int × Str × Int)) {S_a0 : Nat → Prop} {S_a1 : Nat → Prop} {S_a2 : Nat → Prop} (v_b0 : Value) (v_b1 : Value) (v_b2 : Value) (b : List (Str × Int × Int × Int × Int) × List (Str × Int × Int) × List (Int × Int × Str × Int)) {S_b0 : Nat → Prop} {S_b1 : Nat → Prop} {S_b2 : Nat → Prop} (h_a0 : Rds shBin S_a0 w0 v_a0 a.1) (h_a1 : Rds shProm S_a1 w0 v_a1 a.2.1) (h_a2 : Rds shEnt S_a2 w0 v_a2 a.2.2) (h_b0 : Rds shBin S_b0 w0 v_b0 b.1) (h_b1 : Rds shProm S_b1 w0 v_b1 b.2.1) (h_b2 : Rds shEnt S_b2 w0 v_b2 b.2.2) :
    Calls Tryz.prog 17 #[.agg #[v_a0, v_a1, v_a2], .agg #[v_b0, v_b1, v_b2]] w0 (Ret w0 (fun v _ => v = .bool (decide (a = b)))) := by
 refine enter (N := 23) Tryz.func17 rfl rfl rfl ?_
 intro A H
 have hx0 := Ext.rfl' w0
 have hl_a0 := h_a0.length_le
 have hl_a1 := h_a1.length_le
 have hl_a2 := h_a2.length_le
 have hl_b0 := h_b0.length_le
 have hl_b1 := h_b1.length_le
 have hl_b2 := h_b2.length_le
 revert A; refine go ?_; intro A H
 refine we H (op_box' H rfl rfl rfl) ?_
 clear H A; rintro _ w2 ⟨rfl, he3, hb4, hz5⟩ A H
 obtain ⟨hx7, _⟩ := nx hx0 he3
 refine we H (op_box' H rfl rfl rfl) ?_
 clear H A; rintro _ w9 ⟨rfl, he10, hb11, hz12⟩ A H
 obtain ⟨hx14, _⟩ := nx hx7 he10
 replace hb4 := hb4.ext he10
 revert A; refine go ?_; intro A H
 refine fl 0 H U34 ti30 U30 hb4.cells ?_
 clear H A; intro A H
 refine fl 0 H U34 ti30 U30 hb11.cells ?_
 clear H A; intro A H
 refine wc H cb41 (c_laws_eqBinS _ v_a0 a.1 v_b0 b.1 (h_a0.ext pos_shBin hx14) (h_b0.ext pos_shBin hx14)) ?_
 clear H A; rintro v20 w21 he22 rfl A H
 obtain ⟨hx24, _⟩ := nx hx14 he22
 replace hb4 := hb4.ext he22
 replace hb11 := hb11.ext he22
 revert A; refine go ?_; intro A H
 rcases Bool.eq_false_or_eq_true (eqL a.1 b.1) with c26 | c26
 rw [c26] at H
 revert A; refine go ?_; intro A H
 refine fl 1 H U34 ti31 U31 hb4.cells ?_
 clear H A; intro A H
 refine fl 1 H U34 ti31 U31 hb11.cells ?_
 clear H A; intro A H
 refine wc H cb42 (c_laws_eqPromiseS _ v_a1 a.2.1 v_b1 b.2.1 (h_a1.ext pos_shProm hx24) (h_b1.ext pos_shProm hx24)) ?_
 clear H A; rintro v31 w32 he33 rfl A H
 obtain ⟨hx35, _⟩ := nx hx24 he33
 replace hb4 := hb4.ext he33
 replace hb11 := hb11.ext he33
 revert A; refine go ?_; intro A H
 rcases Bool.eq_false_or_eq_true (eqL a.2.1 b.2.1) with c37 | c37
 rw [c37] at H
 revert A; refine go ?_; intro A H
 refine fl 2 H U34 ti32 U32 hb4.cells ?_
 clear H A; intro A H
 refine fl 2 H U34 ti32 U32 hb11.cells ?_
 clear H A; intro A H
 refine wc H cb43 (c_laws_eqEntryS _ v_a2 a.2.2 v_b2 b.2.2 (h_a2.ext pos_shEnt hx35) (h_b2.ext pos_shEnt hx35)) ?_
 clear H A; rintro v42 w43 he44 rfl A H
 obtain ⟨hx46, _⟩ := nx hx35 he44
 replace hb4 := hb4.ext he44
 replace hb11 := hb11.ext he44
 revert A; refine go ?_; intro A H
 rcases Bool.eq_false_or_eq_true (eqL a.2.2 b.2.2) with c48 | c48
 rw [c48] at H
 revert A; refine go ?_; intro A H
 refine ret1 H rfl rfl ?_
 clear H A
 exact ret_mk hx46 (congrArg Value.bool (by simp_all [eqL, Prod.ext_iff]))
 rw [c48] at H
 revert A; refine go ?_; intro A H
 refine ret1 H rfl rfl ?_
 clear H A
 exact ret_mk hx46 (congrArg Value.bool (by simp_all [eqL, Prod.ext_iff]))
 rw [c37] at H
 revert A; refine go ?_; intro A H
 refine ret1 H rfl rfl ?_
 clear H A
 exact ret_mk hx35 (congrArg Value.bool (by simp_all [eqL, Prod.ext_iff]))
 rw [c26] at H
 revert A; refine go ?_; intro A H
 refine ret1 H rfl rfl ?_
 clear H A
 exact ret_mk hx24 (congrArg Value.bool (by simp_all [eqL, Prod.ext_iff]))



theorem c_laws_markBinS (w0 : World) (v_a : Value) (a : List (Str × Int × Int × Int × Int)) {lo_a le_a hi_a : Nat} (k : Int) (h_a : Own shBin 65 lo_a le_a hi_a w0 v_a a) (g0 : 0 ≤ k) (g1 : k ≤ 4611686018427387904) (g2 : a.length ≤ 4611686018427) :
    Calls Tryz.prog 44 #[v_a, .int .i64 k] w0 (RetS w0 v_a.ownBlock (fun v w1 => v = .int .i64 (k + 5 * (a.length : Nat)) ∧ Own shBin 65 lo_a le_a hi_a w1 v_a (mkN mkBin 5 a.length k))) := by
 refine enter (N := 49) Tryz.func44 rfl rfl rfl ?_
 intro A H
 have hx0 := Stp.rfl' w0 v_a.ownBlock
 have hl_a := (h_a.rds pos_shBin).length_le
 revert A; refine go ?_; intro A H
 refine loop_inv (X := Nat × Int × (List (Str × Int × Int × Int × Int))) (fun ⟨i, q, acc⟩ fr wl => Sl 49 fr [(0, v_a), (1, .int .i64 q), (5, .int .i64 ((i : Nat) : Int))] ∧ Stp w0 wl v_a.ownBlock ∧ Own shBin 65 lo_a le_a hi_a wl v_a acc ∧ w0.heap.size ≤ wl.heap.size ∧ (i ≤ a.length) ∧ (q = k + 5 * (i : Int)) ∧ (acc = mkN mkBin 5 i k ++ a.drop i) ∧ (acc.length = a.length)) (fun ⟨i, q, acc⟩ => a.length - i) (0, k, a) ?_ ?_
 exact ⟨(sl H), hx0, h_a, (by omega), (by omega), (by simp), (by simp [mkN]), (by rfl)⟩
 clear H A
 rintro ⟨i, q, acc⟩ A w3 ⟨H, hx4, hf5, hzl7, hi, hq, hF, hl⟩
 have hzhx4 := hx4.size
 revert A; refine go ?_; intro A H
 refine wv H (ln H U30 (hf5.rds pos_shBin)) ?_
 clear H A; refine go ?_; intro A H
 by_cases c12 : ((i : Nat) : Int) < ((acc.length : Nat) : Int)
 rw [decide_eq_true c12] at H
 revert A; refine go ?_; intro A H
 refine wc H cb59 (c_laws_markText _ q gd) ?_
 clear H A; rintro v16 w17 he18 rfl A H
 obtain ⟨hx20, _⟩ := nxe hx4 he18
 replace hf5 := hf5.ext he18
 obtain ⟨x21, hx21⟩ := get_ex (xs := acc) (j := i) (by omega)
 obtain ⟨p22, hi24, hc25, b28, b29, b30, b31, b32, _, _⟩ := at_shBin (hf5.rds pos_shBin) hx21
 refine wv H (ix H U30 ti65 hi24) ?_
 clear H A; intro A H
 refine wv H (fa H U65 ti9) ?_
 clear H A; intro A H
 refine ws H (op_setCells (s := shBin) (off := 0) (ds := [St ((mkT q))]) (S' := fun _ => False) H rfl ti9 rfl rfl rfl rfl (by simp [Value.oneCell']) hf5 hi24 (by omega) (Nat.le_of_ble_eq_true rfl) hc25 rfl (mk_shBin (((mkT q), x21.2.1, x21.2.2.1, x21.2.2.2.1, x21.2.2.2.2)) (by exact Nat.le_trans (mkT_len (by omega)) (by omega)) (by assumption) (by assumption) (by assumption) (by assumption)) (fun _ h => h.elim)) ?_
 rintro w35 ⟨ho37, hst36, hz38⟩
 have hx39 := hx20.trans' hst36
 have hzhx39 := hst36.size
 clear hf5
 have hlsho37 : ((acc.set i (((mkT q), x21.2.1, x21.2.2.1, x21.2.2.2.1, x21.2.2.2.2)))).length = acc.length := List.length_set
 revert A; refine go ?_; intro A H
 refine wv H ((op_add H rfl rfl rfl).int (IntWalk.i64_in _ (by omega))) ?_
 clear H A; refine go ?_; intro A H
 obtain ⟨x46, hx46⟩ := get_ex (xs := (acc.set i (((mkT q), x21.2.1, x21.2.2.1, x21.2.2.2.1, x21.2.2.2.2)))) (j := i) (by omega)
 obtain ⟨p47, hi49, hc50, b53, b54, b55, b56, b57, _, _⟩ := at_shBin (ho37.rds pos_shBin) hx46
 refine wv H (ix H U30 ti65 hi49) ?_
 clear H A; intro A H
 refine wv H (fa H U65 ti2) ?_
 clear H A; intro A H
 refine ws H (op_setCells (s := shBin) (off := 1) (ds := [.int .i64 (q + (1 : Int))]) (S' := fun _ => False) H rfl ti2 rfl rfl rfl rfl (by simp [Value.oneCell']) ho37 hi49 (by omega) (Nat.le_of_ble_eq_true rfl) hc50 rfl (mk_shBin ((x46.1, (q + (1 : Int)), x46.2.2.1, x46.2.2.2.1, x46.2.2.2.2)) (by assumption) (by dsimp only; omega) (by assumption) (by assumption) (by assumption)) (fun _ h => h.elim)) ?_
 rintro w60 ⟨ho62, hst61, hz63⟩
 have hx64 := hx39.trans' hst61
 have hzhx64 := hst61.size
 clear ho37
 have hlsho62 : ((((acc.set i (((mkT q), x21.2.1, x21.2.2.1, x21.2.2.2.1, x21.2.2.2.2)))).set i ((x46.1, (q + (1 : Int)), x46.2.2.1, x46.2.2.2.1, x46.2.2.2.2)))).length = ((acc.set i (((mkT q), x21.2.1, x21.2.2.1, x21.2.2.2.1, x21.2.2.2.2)))).length := List.length_set
 revert A; refine go ?_; intro A H
 refine wv H ((op_add H rfl rfl rfl).int (IntWalk.i64_in _ (by omega))) ?_
 clear H A; refine go ?_; intro A H
 obtain ⟨x71, hx71⟩ := get_ex (xs := (((acc.set i (((mkT q), x21.2.1, x21.2.2.1, x21.2.2.2.1, x21.2.2.2.2)))).set i ((x46.1, (q + (1 : Int)), x46.2.2.1, x46.2.2.2.1, x46.2.2.2.2)))) (j := i) (by omega)
 obtain ⟨p72, hi74, hc75, b78, b79, b80, b81, b82, _, _⟩ := at_shBin (ho62.rds pos_shBin) hx71
 refine wv H (ix H U30 ti65 hi74) ?_
 clear H A; intro A H
 refine wv H (fa H U65 ti2) ?_
 clear H A; intro A H
 refine ws H (op_setCells (s := shBin) (off := 2) (ds := [.int .i64 ((q + (1 : Int)) + (1 : Int))]) (S' := fun _ => False) H rfl ti2 rfl rfl rfl rfl (by simp [Value.oneCell']) ho62 hi74 (by omega) (Nat.le_of_ble_eq_true rfl) hc75 rfl (mk_shBin ((x71.1, x71.2.1, ((q + (1 : Int)) + (1 : Int)), x71.2.2.2.1, x71.2.2.2.2)) (by assumption) (by assumption) (by dsimp only; omega) (by assumption) (by assumption)) (fun _ h => h.elim)) ?_
 rintro w85 ⟨ho87, hst86, hz88⟩
 have hx89 := hx64.trans' hst86
 have hzhx89 := hst86.size
 clear ho62
 have hlsho87 : ((((((acc.set i (((mkT q), x21.2.1, x21.2.2.1, x21.2.2.2.1, x21.2.2.2.2)))).set i ((x46.1, (q + (1 : Int)), x46.2.2.1, x46.2.2.2.1, x46.2.2.2.2)))).set i ((x71.1, x71.2.1, ((q + (1 : Int)) + (1 : Int)), x71.2.2.2.1, x71.2.2.2.2)))).length = ((((acc.set i (((mkT q), x21.2.1, x21.2.2.1, x21.2.2.2.1, x21.2.2.2.2)))).set i ((x46.1, (q + (1 : Int)), x46.2.2.1, x46.2.2.2.1, x46.2.2.2.2)))).length := List.length_set
 revert A; refine go ?_; intro A H
 refine wv H ((op_add H rfl rfl rfl).int (IntWalk.i64_in _ (by omega))) ?_
 clear H A; refine go ?_; intro A H
 obtain ⟨x96, hx96⟩ := get_ex (xs := (((((acc.set i (((mkT q), x21.2.1, x21.2.2.1, x21.2.2.2.1, x21.2.2.2.2)))).set i ((x46.1, (q + (1 : Int)), x46.2.2.1, x46.2.2.2.1, x46.2.2.2.2)))).set i ((x71.1, x71.2.1, ((q + (1 : Int)) + (1 : Int)), x71.2.2.2.1, x71.2.2.2.2)))) (j := i) (by omega)
 obtain ⟨p97, hi99, hc100, b103, b104, b105, b106, b107, _, _⟩ := at_shBin (ho87.rds pos_shBin) hx96
 refine wv H (ix H U30 ti65 hi99) ?_
 clear H A; intro A H
 refine wv H (fa H U65 ti2) ?_
 clear H A; intro A H
 refine ws H (op_setCells (s := shBin) (off := 3) (ds := [.int .i64 (((q + (1 : Int)) + (1 : Int)) + (1 : Int))]) (S' := fun _ => False) H rfl ti2 rfl rfl rfl rfl (by simp [Value.oneCell']) ho87 hi99 (by omega) (Nat.le_of_ble_eq_true rfl) hc100 rfl (mk_shBin ((x96.1, x96.2.1, x96.2.2.1, (((q + (1 : Int)) + (1 : Int)) + (1 : Int)), x96.2.2.2.2)) (by assumption) (by assumption) (by assumption) (by dsimp only; omega) (by assumption)) (fun _ h => h.elim)) ?_
 rintro w110 ⟨ho112, hst111, hz113⟩
 have hx114 := hx89.trans' hst111
 have hzhx114 := hst111.size
 clear ho87
 have hlsho112 : ((((((((acc.set i (((mkT q), x21.2.1, x21.2.2.1, x21.2.2.2.1, x21.2.2.2.2)))).set i ((x46.1, (q + (1 : Int)), x46.2.2.1, x46.2.2.2.1, x46.2.2.2.2)))).set i ((x71.1, x71.2.1, ((q + (1 : Int)) + (1 : Int)), x71.2.2.2.1, x71.2.2.2.2)))).set i ((x96.1, x96.2.1, x96.2.2.1, (((q + (1 : Int)) + (1 : Int)) + (1 : Int)), x96.2.2.2.2)))).length = ((((((acc.set i (((mkT q), x21.2.1, x21.2.2.1, x21.2.2.2.1, x21.2.2.2.2)))).set i ((x46.1, (q + (1 : Int)), x46.2.2.1, x46.2.2.2.1, x46.2.2.2.2)))).set i ((x71.1, x71.2.1, ((q + (1 : Int)) + (1 : Int)), x71.2.2.2.1, x71.2.2.2.2)))).length := List.length_set
 revert A; refine go ?_; intro A H
 refine wv H ((op_add H rfl rfl rfl).int (IntWalk.i64_in _ (by omega))) ?_
 clear H A; refine go ?_; intro A H
 obtain ⟨x121, hx121⟩ := get_ex (xs := (((((((acc.set i (((mkT q), x21.2.1, x21.2.2.1, x21.2.2.2.1, x21.2.2.2.2)))).set i ((x46.1, (q + (1 : Int)), x46.2.2.1, x46.2.2.2.1, x46.2.2.2.2)))).set i ((x71.1, x71.2.1, ((q + (1 : Int)) + (1 : Int)), x71.2.2.2.1, x71.2.2.2.2)))).set i ((x96.1, x96.2.1, x96.2.2.1, (((q + (1 : Int)) + (1 : Int)) + (1 : Int)), x96.2.2.2.2)))) (j := i) (by omega)
 obtain ⟨p122, hi124, hc125, b128, b129, b130, b131, b132, _, _⟩ := at_shBin (ho112.rds pos_shBin) hx121
 refine wv H (ix H U30 ti65 hi124) ?_
 clear H A; intro A H
 refine wv H (fa H U65 ti2) ?_
 clear H A; intro A H
 refine ws H (op_setCells (s := shBin) (off := 4) (ds := [.int .i64 ((((q + (1 : Int)) + (1 : Int)) + (1 : Int)) + (1 : Int))]) (S' := fun _ => False) H rfl ti2 rfl rfl rfl rfl (by simp [Value.oneCell']) ho112 hi124 (by omega) (Nat.le_of_ble_eq_true rfl) hc125 rfl (mk_shBin ((x121.1, x121.2.1, x121.2.2.1, x121.2.2.2.1, ((((q + (1 : Int)) + (1 : Int)) + (1 : Int)) + (1 : Int)))) (by assumption) (by assumption) (by assumption) (by assumption) (by dsimp only; omega)) (fun _ h => h.elim)) ?_
 rintro w135 ⟨ho137, hst136, hz138⟩
 have hx139 := hx114.trans' hst136
 have hzhx139 := hst136.size
 clear ho112
 have hlsho137 : ((((((((((acc.set i (((mkT q), x21.2.1, x21.2.2.1, x21.2.2.2.1, x21.2.2.2.2)))).set i ((x46.1, (q + (1 : Int)), x46.2.2.1, x46.2.2.2.1, x46.2.2.2.2)))).set i ((x71.1, x71.2.1, ((q + (1 : Int)) + (1 : Int)), x71.2.2.2.1, x71.2.2.2.2)))).set i ((x96.1, x96.2.1, x96.2.2.1, (((q + (1 : Int)) + (1 : Int)) + (1 : Int)), x96.2.2.2.2)))).set i ((x121.1, x121.2.1, x121.2.2.1, x121.2.2.2.1, ((((q + (1 : Int)) + (1 : Int)) + (1 : Int)) + (1 : Int)))))).length = ((((((((acc.set i (((mkT q), x21.2.1, x21.2.2.1, x21.2.2.2.1, x21.2.2.2.2)))).set i ((x46.1, (q + (1 : Int)), x46.2.2.1, x46.2.2.2.1, x46.2.2.2.2)))).set i ((x71.1, x71.2.1, ((q + (1 : Int)) + (1 : Int)), x71.2.2.2.1, x71.2.2.2.2)))).set i ((x96.1, x96.2.1, x96.2.2.1, (((q + (1 : Int)) + (1 : Int)) + (1 : Int)), x96.2.2.2.2)))).length := List.length_set
 revert A; refine go ?_; intro A H
 refine wv H ((op_add H rfl rfl rfl).int (IntWalk.i64_in _ (by omega))) ?_
 clear H A; refine go ?_; intro A H
 refine wv H ((op_add H rfl rfl rfl).int (IntWalk.i64_in _ (by omega))) ?_
 clear H A; refine go ?_; intro A H
 refine ⟨((i + 1), (((((q + (1 : Int)) + (1 : Int)) + (1 : Int)) + (1 : Int)) + (1 : Int)), (((((((((acc.set i (((mkT q), x21.2.1, x21.2.2.1, x21.2.2.2.1, x21.2.2.2.2)))).set i ((x46.1, (q + (1 : Int)), x46.2.2.1, x46.2.2.2.1, x46.2.2.2.2)))).set i ((x71.1, x71.2.1, ((q + (1 : Int)) + (1 : Int)), x71.2.2.2.1, x71.2.2.2.2)))).set i ((x96.1, x96.2.1, x96.2.2.1, (((q + (1 : Int)) + (1 : Int)) + (1 : Int)), x96.2.2.2.2)))).set i ((x121.1, x121.2.1, x121.2.2.1, x121.2.2.2.1, ((((q + (1 : Int)) + (1 : Int)) + (1 : Int)) + (1 : Int)))))), ?_, ?_⟩
 refine ⟨(sl H), hx139, ho137, (by omega), (by omega), (by omega), (by have e5 := hset_self hx46 (by omega); subst e5; have e5 := hset_self hx71 (by omega); subst e5; have e5 := hset_self hx96 (by omega); subst e5; have e5 := hset_self hx121 (by omega); subst e5; simp only [List.set_set]; exact mkN_step hF (by omega) (by rfl) hq), (by simp only [List.length_set]; exact hl)⟩
 show (a.length - ((i + 1)) : Nat) < a.length - i; omega
 rw [decide_eq_false c12] at H
 revert A; refine go ?_; intro A H
 refine ret1 H rfl rfl ?_
 clear H A
 exact ret_mkS hx4 ⟨int_eq (by omega), hf5.cast (by rw [hF, drop_nil (by omega), List.append_nil]; congr 1; omega)⟩



theorem c_laws_markPromiseS (w0 : World) (v_a : Value) (a : List (Str × Int × Int)) {lo_a le_a hi_a : Nat} (k : Int) (h_a : Own shProm 67 lo_a le_a hi_a w0 v_a a) (g0 : 0 ≤ k) (g1 : k ≤ 4611686018427387904) (g2 : a.length ≤ 4611686018427) :
    Calls Tryz.prog 45 #[v_a, .int .i64 k] w0 (RetS w0 v_a.ownBlock (fun v w1 => v = .int .i64 (k + 3 * (a.length : Nat)) ∧ Own shProm 67 lo_a le_a hi_a w1 v_a (mkN mkProm 3 a.length k))) := by
 refine enter (N := 35) Tryz.func45 rfl rfl rfl ?_
 intro A H
 have hx0 := Stp.rfl' w0 v_a.ownBlock
 have hl_a := (h_a.rds pos_shProm).length_le
 revert A; refine go ?_; intro A H
 refine loop_inv (X := Nat × Int × (List (Str × Int × Int))) (fun ⟨i, q, acc⟩ fr wl => Sl 35 fr [(0, v_a), (1, .int .i64 q), (5, .int .i64 ((i : Nat) : Int))] ∧ Stp w0 wl v_a.ownBlock ∧ Own shProm 67 lo_a le_a hi_a wl v_a acc ∧ w0.heap.size ≤ wl.heap.size ∧ (i ≤ a.length) ∧ (q = k + 3 * (i : Int)) ∧ (acc = mkN mkProm 3 i k ++ a.drop i) ∧ (acc.length = a.length)) (fun ⟨i, q, acc⟩ => a.length - i) (0, k, a) ?_ ?_
 exact ⟨(sl H), hx0, h_a, (by omega), (by omega), (by simp), (by simp [mkN]), (by rfl)⟩
 clear H A
 rintro ⟨i, q, acc⟩ A w3 ⟨H, hx4, hf5, hzl7, hi, hq, hF, hl⟩
 have hzhx4 := hx4.size
 revert A; refine go ?_; intro A H
 refine wv H (ln H U31 (hf5.rds pos_shProm)) ?_
 clear H A; refine go ?_; intro A H
 by_cases c12 : ((i : Nat) : Int) < ((acc.length : Nat) : Int)
 rw [decide_eq_true c12] at H
 revert A; refine go ?_; intro A H
 refine wc H cb59 (c_laws_markText _ q gd) ?_
 clear H A; rintro v16 w17 he18 rfl A H
 obtain ⟨hx20, _⟩ := nxe hx4 he18
 replace hf5 := hf5.ext he18
 obtain ⟨x21, hx21⟩ := get_ex (xs := acc) (j := i) (by omega)
 obtain ⟨p22, hi24, hc25, b28, b29, b30, _, _⟩ := at_shProm (hf5.rds pos_shProm) hx21
 refine wv H (ix H U31 ti67 hi24) ?_
 clear H A; intro A H
 refine wv H (fa H U67 ti9) ?_
 clear H A; intro A H
 refine ws H (op_setCells (s := shProm) (off := 0) (ds := [St ((mkT q))]) (S' := fun _ => False) H rfl ti9 rfl rfl rfl rfl (by simp [Value.oneCell']) hf5 hi24 (by omega) (Nat.le_of_ble_eq_true rfl) hc25 rfl (mk_shProm (((mkT q), x21.2.1, x21.2.2)) (by exact Nat.le_trans (mkT_len (by omega)) (by omega)) (by assumption) (by assumption)) (fun _ h => h.elim)) ?_
 rintro w33 ⟨ho35, hst34, hz36⟩
 have hx37 := hx20.trans' hst34
 have hzhx37 := hst34.size
 clear hf5
 have hlsho35 : ((acc.set i (((mkT q), x21.2.1, x21.2.2)))).length = acc.length := List.length_set
 revert A; refine go ?_; intro A H
 refine wv H ((op_add H rfl rfl rfl).int (IntWalk.i64_in _ (by omega))) ?_
 clear H A; refine go ?_; intro A H
 obtain ⟨x44, hx44⟩ := get_ex (xs := (acc.set i (((mkT q), x21.2.1, x21.2.2)))) (j := i) (by omega)
 obtain ⟨p45, hi47, hc48, b51, b52, b53, _, _⟩ := at_shProm (ho35.rds pos_shProm) hx44
 refine wv H (ix H U31 ti67 hi47) ?_
 clear H A; intro A H
 refine wv H (fa H U67 ti2) ?_
 clear H A; intro A H
 refine ws H (op_setCells (s := shProm) (off := 1) (ds := [.int .i64 (q + (1 : Int))]) (S' := fun _ => False) H rfl ti2 rfl rfl rfl rfl (by simp [Value.oneCell']) ho35 hi47 (by omega) (Nat.le_of_ble_eq_true rfl) hc48 rfl (mk_shProm ((x44.1, (q + (1 : Int)), x44.2.2)) (by assumption) (by dsimp only; omega) (by assumption)) (fun _ h => h.elim)) ?_
 rintro w56 ⟨ho58, hst57, hz59⟩
 have hx60 := hx37.trans' hst57
 have hzhx60 := hst57.size
 clear ho35
 have hlsho58 : ((((acc.set i (((mkT q), x21.2.1, x21.2.2)))).set i ((x44.1, (q + (1 : Int)), x44.2.2)))).length = ((acc.set i (((mkT q), x21.2.1, x21.2.2)))).length := List.length_set
 revert A; refine go ?_; intro A H
 refine wv H ((op_add H rfl rfl rfl).int (IntWalk.i64_in _ (by omega))) ?_
 clear H A; refine go ?_; intro A H
 obtain ⟨x67, hx67⟩ := get_ex (xs := (((acc.set i (((mkT q), x21.2.1, x21.2.2)))).set i ((x44.1, (q + (1 : Int)), x44.2.2)))) (j := i) (by omega)
 obtain ⟨p68, hi70, hc71, b74, b75, b76, _, _⟩ := at_shProm (ho58.rds pos_shProm) hx67
 refine wv H (ix H U31 ti67 hi70) ?_
 clear H A; intro A H
 refine wv H (fa H U67 ti2) ?_
 clear H A; intro A H
 refine ws H (op_setCells (s := shProm) (off := 2) (ds := [.int .i64 ((q + (1 : Int)) + (1 : Int))]) (S' := fun _ => False) H rfl ti2 rfl rfl rfl rfl (by simp [Value.oneCell']) ho58 hi70 (by omega) (Nat.le_of_ble_eq_true rfl) hc71 rfl (mk_shProm ((x67.1, x67.2.1, ((q + (1 : Int)) + (1 : Int)))) (by assumption) (by assumption) (by dsimp only; omega)) (fun _ h => h.elim)) ?_
 rintro w79 ⟨ho81, hst80, hz82⟩
 have hx83 := hx60.trans' hst80
 have hzhx83 := hst80.size
 clear ho58
 have hlsho81 : ((((((acc.set i (((mkT q), x21.2.1, x21.2.2)))).set i ((x44.1, (q + (1 : Int)), x44.2.2)))).set i ((x67.1, x67.2.1, ((q + (1 : Int)) + (1 : Int)))))).length = ((((acc.set i (((mkT q), x21.2.1, x21.2.2)))).set i ((x44.1, (q + (1 : Int)), x44.2.2)))).length := List.length_set
 revert A; refine go ?_; intro A H
 refine wv H ((op_add H rfl rfl rfl).int (IntWalk.i64_in _ (by omega))) ?_
 clear H A; refine go ?_; intro A H
 refine wv H ((op_add H rfl rfl rfl).int (IntWalk.i64_in _ (by omega))) ?_
 clear H A; refine go ?_; intro A H
 refine ⟨((i + 1), (((q + (1 : Int)) + (1 : Int)) + (1 : Int)), (((((acc.set i (((mkT q), x21.2.1, x21.2.2)))).set i ((x44.1, (q + (1 : Int)), x44.2.2)))).set i ((x67.1, x67.2.1, ((q + (1 : Int)) + (1 : Int)))))), ?_, ?_⟩
 refine ⟨(sl H), hx83, ho81, (by omega), (by omega), (by omega), (by have e5 := hset_self hx44 (by omega); subst e5; have e5 := hset_self hx67 (by omega); subst e5; simp only [List.set_set]; exact mkN_step hF (by omega) (by rfl) hq), (by simp only [List.length_set]; exact hl)⟩
 show (a.length - ((i + 1)) : Nat) < a.length - i; omega
 rw [decide_eq_false c12] at H
 revert A; refine go ?_; intro A H
 refine ret1 H rfl rfl ?_
 clear H A
 exact ret_mkS hx4 ⟨int_eq (by omega), hf5.cast (by rw [hF, drop_nil (by omega), List.append_nil]; congr 1; omega)⟩



theorem c_laws_markEntryS (w0 : World) (v_a : Value) (a : List (Int × Int × Str × Int)) {lo_a le_a hi_a : Nat} (k : Int) (h_a : Own shEnt 69 lo_a le_a hi_a w0 v_a a) (g0 : 0 ≤ k) (g1 : k ≤ 4611686018427387904) (g2 : a.length ≤ 4611686018427) :
    Calls Tryz.prog 46 #[v_a, .int .i64 k] w0 (RetS w0 v_a.ownBlock (fun v w1 => v = .int .i64 (k + 4 * (a.length : Nat)) ∧ Own shEnt 69 lo_a le_a hi_a w1 v_a (mkN mkEnt 4 a.length k))) := by
 refine enter (N := 42) Tryz.func46 rfl rfl rfl ?_
 intro A H
 have hx0 := Stp.rfl' w0 v_a.ownBlock
 have hl_a := (h_a.rds pos_shEnt).length_le
 revert A; refine go ?_; intro A H
 refine loop_inv (X := Nat × Int × (List (Int × Int × Str × Int))) (fun ⟨i, q, acc⟩ fr wl => Sl 42 fr [(0, v_a), (1, .int .i64 q), (5, .int .i64 ((i : Nat) : Int))] ∧ Stp w0 wl v_a.ownBlock ∧ Own shEnt 69 lo_a le_a hi_a wl v_a acc ∧ w0.heap.size ≤ wl.heap.size ∧ (i ≤ a.length) ∧ (q = k + 4 * (i : Int)) ∧ (acc = mkN mkEnt 4 i k ++ a.drop i) ∧ (acc.length = a.length)) (fun ⟨i, q, acc⟩ => a.length - i) (0, k, a) ?_ ?_
 exact ⟨(sl H), hx0, h_a, (by omega), (by omega), (by simp), (by simp [mkN]), (by rfl)⟩
 clear H A
 rintro ⟨i, q, acc⟩ A w3 ⟨H, hx4, hf5, hzl7, hi, hq, hF, hl⟩
 have hzhx4 := hx4.size
 revert A; refine go ?_; intro A H
 refine wv H (ln H U32 (hf5.rds pos_shEnt)) ?_
 clear H A; refine go ?_; intro A H
 by_cases c12 : ((i : Nat) : Int) < ((acc.length : Nat) : Int)
 rw [decide_eq_true c12] at H
 revert A; refine go ?_; intro A H
 obtain ⟨x16, hx16⟩ := get_ex (xs := acc) (j := i) (by omega)
 obtain ⟨p17, hi19, hc20, b23, b24, b25, b26, _, _⟩ := at_shEnt (hf5.rds pos_shEnt) hx16
 refine wv H (ix H U32 ti69 hi19) ?_
 clear H A; intro A H
 refine wv H (fa H U69 ti2) ?_
 clear H A; intro A H
 refine ws H (op_setCells (s := shEnt) (off := 0) (ds := [.int .i64 q]) (S' := fun _ => False) H rfl ti2 rfl rfl rfl rfl (by simp [Value.oneCell']) hf5 hi19 (by omega) (Nat.le_of_ble_eq_true rfl) hc20 rfl (mk_shEnt ((q, x16.2.1, x16.2.2.1, x16.2.2.2)) (by omega) (by assumption) (by assumption) (by assumption)) (fun _ h => h.elim)) ?_
 rintro w29 ⟨ho31, hst30, hz32⟩
 have hx33 := hx4.trans' hst30
 have hzhx33 := hst30.size
 clear hf5
 have hlsho31 : ((acc.set i ((q, x16.2.1, x16.2.2.1, x16.2.2.2)))).length = acc.length := List.length_set
 revert A; refine go ?_; intro A H
 refine wv H ((op_add H rfl rfl rfl).int (IntWalk.i64_in _ (by omega))) ?_
 clear H A; refine go ?_; intro A H
 obtain ⟨x40, hx40⟩ := get_ex (xs := (acc.set i ((q, x16.2.1, x16.2.2.1, x16.2.2.2)))) (j := i) (by omega)
 obtain ⟨p41, hi43, hc44, b47, b48, b49, b50, _, _⟩ := at_shEnt (ho31.rds pos_shEnt) hx40
 refine wv H (ix H U32 ti69 hi43) ?_
 clear H A; intro A H
 refine wv H (fa H U69 ti2) ?_
 clear H A; intro A H
 refine ws H (op_setCells (s := shEnt) (off := 1) (ds := [.int .i64 (q + (1 : Int))]) (S' := fun _ => False) H rfl ti2 rfl rfl rfl rfl (by simp [Value.oneCell']) ho31 hi43 (by omega) (Nat.le_of_ble_eq_true rfl) hc44 rfl (mk_shEnt ((x40.1, (q + (1 : Int)), x40.2.2.1, x40.2.2.2)) (by assumption) (by dsimp only; omega) (by assumption) (by assumption)) (fun _ h => h.elim)) ?_
 rintro w53 ⟨ho55, hst54, hz56⟩
 have hx57 := hx33.trans' hst54
 have hzhx57 := hst54.size
 clear ho31
 have hlsho55 : ((((acc.set i ((q, x16.2.1, x16.2.2.1, x16.2.2.2)))).set i ((x40.1, (q + (1 : Int)), x40.2.2.1, x40.2.2.2)))).length = ((acc.set i ((q, x16.2.1, x16.2.2.1, x16.2.2.2)))).length := List.length_set
 revert A; refine go ?_; intro A H
 refine wv H ((op_add H rfl rfl rfl).int (IntWalk.i64_in _ (by omega))) ?_
 clear H A; refine go ?_; intro A H
 refine wc H cb59 (c_laws_markText _ ((q + (1 : Int)) + (1 : Int)) gd) ?_
 clear H A; rintro v64 w65 he66 rfl A H
 obtain ⟨hx68, _⟩ := nxe hx57 he66
 replace ho55 := ho55.ext he66
 obtain ⟨x69, hx69⟩ := get_ex (xs := (((acc.set i ((q, x16.2.1, x16.2.2.1, x16.2.2.2)))).set i ((x40.1, (q + (1 : Int)), x40.2.2.1, x40.2.2.2)))) (j := i) (by omega)
 obtain ⟨p70, hi72, hc73, b76, b77, b78, b79, _, _⟩ := at_shEnt (ho55.rds pos_shEnt) hx69
 refine wv H (ix H U32 ti69 hi72) ?_
 clear H A; intro A H
 refine wv H (fa H U69 ti9) ?_
 clear H A; intro A H
 refine ws H (op_setCells (s := shEnt) (off := 2) (ds := [St ((mkT ((q + (1 : Int)) + (1 : Int))))]) (S' := fun _ => False) H rfl ti9 rfl rfl rfl rfl (by simp [Value.oneCell']) ho55 hi72 (by omega) (Nat.le_of_ble_eq_true rfl) hc73 rfl (mk_shEnt ((x69.1, x69.2.1, (mkT ((q + (1 : Int)) + (1 : Int))), x69.2.2.2)) (by assumption) (by assumption) (by exact Nat.le_trans (mkT_len (by omega)) (by omega)) (by assumption)) (fun _ h => h.elim)) ?_
 rintro w82 ⟨ho84, hst83, hz85⟩
 have hx86 := hx68.trans' hst83
 have hzhx86 := hst83.size
 clear ho55
 have hlsho84 : ((((((acc.set i ((q, x16.2.1, x16.2.2.1, x16.2.2.2)))).set i ((x40.1, (q + (1 : Int)), x40.2.2.1, x40.2.2.2)))).set i ((x69.1, x69.2.1, (mkT ((q + (1 : Int)) + (1 : Int))), x69.2.2.2)))).length = ((((acc.set i ((q, x16.2.1, x16.2.2.1, x16.2.2.2)))).set i ((x40.1, (q + (1 : Int)), x40.2.2.1, x40.2.2.2)))).length := List.length_set
 revert A; refine go ?_; intro A H
 refine wv H ((op_add H rfl rfl rfl).int (IntWalk.i64_in _ (by omega))) ?_
 clear H A; refine go ?_; intro A H
 obtain ⟨x93, hx93⟩ := get_ex (xs := (((((acc.set i ((q, x16.2.1, x16.2.2.1, x16.2.2.2)))).set i ((x40.1, (q + (1 : Int)), x40.2.2.1, x40.2.2.2)))).set i ((x69.1, x69.2.1, (mkT ((q + (1 : Int)) + (1 : Int))), x69.2.2.2)))) (j := i) (by omega)
 obtain ⟨p94, hi96, hc97, b100, b101, b102, b103, _, _⟩ := at_shEnt (ho84.rds pos_shEnt) hx93
 refine wv H (ix H U32 ti69 hi96) ?_
 clear H A; intro A H
 refine wv H (fa H U69 ti2) ?_
 clear H A; intro A H
 refine ws H (op_setCells (s := shEnt) (off := 3) (ds := [.int .i64 (((q + (1 : Int)) + (1 : Int)) + (1 : Int))]) (S' := fun _ => False) H rfl ti2 rfl rfl rfl rfl (by simp [Value.oneCell']) ho84 hi96 (by omega) (Nat.le_of_ble_eq_true rfl) hc97 rfl (mk_shEnt ((x93.1, x93.2.1, x93.2.2.1, (((q + (1 : Int)) + (1 : Int)) + (1 : Int)))) (by assumption) (by assumption) (by assumption) (by dsimp only; omega)) (fun _ h => h.elim)) ?_
 rintro w106 ⟨ho108, hst107, hz109⟩
 have hx110 := hx86.trans' hst107
 have hzhx110 := hst107.size
 clear ho84
 have hlsho108 : ((((((((acc.set i ((q, x16.2.1, x16.2.2.1, x16.2.2.2)))).set i ((x40.1, (q + (1 : Int)), x40.2.2.1, x40.2.2.2)))).set i ((x69.1, x69.2.1, (mkT ((q + (1 : Int)) + (1 : Int))), x69.2.2.2)))).set i ((x93.1, x93.2.1, x93.2.2.1, (((q + (1 : Int)) + (1 : Int)) + (1 : Int)))))).length = ((((((acc.set i ((q, x16.2.1, x16.2.2.1, x16.2.2.2)))).set i ((x40.1, (q + (1 : Int)), x40.2.2.1, x40.2.2.2)))).set i ((x69.1, x69.2.1, (mkT ((q + (1 : Int)) + (1 : Int))), x69.2.2.2)))).length := List.length_set
 revert A; refine go ?_; intro A H
 refine wv H ((op_add H rfl rfl rfl).int (IntWalk.i64_in _ (by omega))) ?_
 clear H A; refine go ?_; intro A H
 refine wv H ((op_add H rfl rfl rfl).int (IntWalk.i64_in _ (by omega))) ?_
 clear H A; refine go ?_; intro A H
 refine ⟨((i + 1), ((((q + (1 : Int)) + (1 : Int)) + (1 : Int)) + (1 : Int)), (((((((acc.set i ((q, x16.2.1, x16.2.2.1, x16.2.2.2)))).set i ((x40.1, (q + (1 : Int)), x40.2.2.1, x40.2.2.2)))).set i ((x69.1, x69.2.1, (mkT ((q + (1 : Int)) + (1 : Int))), x69.2.2.2)))).set i ((x93.1, x93.2.1, x93.2.2.1, (((q + (1 : Int)) + (1 : Int)) + (1 : Int)))))), ?_, ?_⟩
 refine ⟨(sl H), hx110, ho108, (by omega), (by omega), (by omega), (by have e5 := hset_self hx40 (by omega); subst e5; have e5 := hset_self hx69 (by omega); subst e5; have e5 := hset_self hx93 (by omega); subst e5; simp only [List.set_set]; exact mkN_step hF (by omega) (by rfl) hq), (by simp only [List.length_set]; exact hl)⟩
 show (a.length - ((i + 1)) : Nat) < a.length - i; omega
 rw [decide_eq_false c12] at H
 revert A; refine go ?_; intro A H
 refine ret1 H rfl rfl ?_
 clear H A
 exact ret_mkS hx4 ⟨int_eq (by omega), hf5.cast (by rw [hF, drop_nil (by omega), List.append_nil]; congr 1; omega)⟩



theorem c_laws_markDesk (w0 : World) (v_a0 : Value) (aq0 : List (Str × Int × Int × Int × Int)) (v_a1 : Value) (aq1 : List (Str × Int × Int)) (v_a2 : Value) (aq2 : List (Int × Int × Str × Int)) {lo_a hi_a : Nat} (k : Int) (h_a0 : Own shBin 65 lo_a lo_a hi_a w0 v_a0 aq0) (h_a1 : Own shProm 67 lo_a lo_a hi_a w0 v_a1 aq1) (h_a2 : Own shEnt 69 lo_a lo_a hi_a w0 v_a2 aq2) (_k_a : hi_a ≤ w0.heap.size) (g0 : 0 ≤ k) (g1 : k ≤ 1048576) (g2 : ((aq0, aq1, aq2) : List (Str × Int × Int × Int × Int) × List (Str × Int × Int) × List (Int × Int × Str × Int)).1.length ≤ 1048576) (g3 : ((aq0, aq1, aq2) : List (Str × Int × Int × Int × Int) × List (Str × Int × Int) × List (Int × Int × Str × Int)).2.1.length ≤ 1048576) (g4 : ((aq0, aq1, aq2) : List (Str × Int × Int × Int × Int) × List (Str × Int × Int) × List (Int × Int × Str × Int)).2.2.length ≤ 1048576) :
    Calls Tryz.prog 18 #[.agg #[v_a0, v_a1, v_a2], .int .i64 k] w0 (RetI w0 lo_a hi_a (fun v w1 => v = .int .i64 (kkDk ((aq0, aq1, aq2) : List (Str × Int × Int × Int × Int) × List (Str × Int × Int) × List (Int × Int × Str × Int)) k) ∧ Own shBin 65 lo_a lo_a hi_a w1 v_a0 (mkN mkBin 5 ((aq0, aq1, aq2) : List (Str × Int × Int × Int × Int) × List (Str × Int × Int) × List (Int × Int × Str × Int)).1.length k) ∧ Own shProm 67 lo_a lo_a hi_a w1 v_a1 (mkN mkProm 3 ((aq0, aq1, aq2) : List (Str × Int × Int × Int × Int) × List (Str × Int × Int) × List (Int × Int × Str × Int)).2.1.length (k + 5 * (((aq0, aq1, aq2) : List (Str × Int × Int × Int × Int) × List (Str × Int × Int) × List (Int × Int × Str × Int)).1.length : Nat))) ∧ Own shEnt 69 lo_a lo_a hi_a w1 v_a2 (mkN mkEnt 4 ((aq0, aq1, aq2) : List (Str × Int × Int × Int × Int) × List (Str × Int × Int) × List (Int × Int × Str × Int)).2.2.length (k + 5 * (((aq0, aq1, aq2) : List (Str × Int × Int × Int × Int) × List (Str × Int × Int) × List (Int × Int × Str × Int)).1.length : Nat) + 3 * (((aq0, aq1, aq2) : List (Str × Int × Int × Int × Int) × List (Str × Int × Int) × List (Int × Int × Str × Int)).2.1.length : Nat))))) := by
 refine enter (N := 18) Tryz.func18 rfl rfl rfl ?_
 intro A H
 have hx0 := StpI.rfl' w0 lo_a hi_a
 have hl_a0 := (h_a0.rds pos_shBin).length_le
 have hl_a1 := (h_a1.rds pos_shProm).length_le
 have hl_a2 := (h_a2.rds pos_shEnt).length_le
 revert A; refine go ?_; intro A H
 refine we H (op_box' H rfl rfl rfl) ?_
 clear H A; rintro _ w2 ⟨rfl, he3, hb4, hz5⟩ A H
 have hx7 := hx0.trans' (StpI.of_ext he3 _ _)
 have hzhx7 := he3.size
 replace h_a0 := h_a0.ext he3
 replace h_a1 := h_a1.ext he3
 replace h_a2 := h_a2.ext he3
 revert A; refine go ?_; intro A H
 refine fl 0 H U34 ti30 U30 hb4.cells ?_
 clear H A; intro A H
 refine wv H (op_move H rfl rfl) ?_
 clear H A; intro A H
 refine wl_callS H rfl rfl rfl (op_call H rfl cb44 rfl) (c_laws_markBinS _ v_a0 aq0 k h_a0 (by assumption) (by omega) (by dsimp only at *; omega)) ?_
 clear H A; rintro v12 w13 he14 ⟨rfl, ho15⟩ A H
 have hx17 := hx7.trans' (StpI.of_stp he14 (by intro q hq; have hq0 := h_a0.lt q hq; omega))
 have hzhx17 := he14.size
 replace h_a1 := oo h_a1 flat_shProm h_a0 he14
 replace h_a2 := oo h_a2 flat_shEnt h_a0 he14
 replace hb4 := bo hb4 h_a0 he14
 clear h_a0
 revert A; refine go ?_; intro A H
 refine fl 1 H U34 ti31 U31 hb4.cells ?_
 clear H A; intro A H
 refine wv H (op_move H rfl rfl) ?_
 clear H A; intro A H
 refine wl_callS H rfl rfl rfl (op_call H rfl cb45 rfl) (c_laws_markPromiseS _ v_a1 aq1 (k + 5 * (aq0.length : Nat) : Int) h_a1 (by omega) (by dsimp only at *; omega) (by dsimp only at *; omega)) ?_
 clear H A; rintro v22 w23 he24 ⟨rfl, ho25⟩ A H
 have hx27 := hx17.trans' (StpI.of_stp he24 (by intro q hq; have hq0 := h_a1.lt q hq; omega))
 have hzhx27 := he24.size
 replace h_a2 := oo h_a2 flat_shEnt h_a1 he24
 replace hb4 := bo hb4 h_a1 he24
 replace ho15 := oo ho15 flat_shBin h_a1 he24
 clear h_a1
 revert A; refine go ?_; intro A H
 refine fl 2 H U34 ti32 U32 hb4.cells ?_
 clear H A; intro A H
 refine wv H (op_move H rfl rfl) ?_
 clear H A; intro A H
 refine wl_callS H rfl rfl rfl (op_call H rfl cb46 rfl) (c_laws_markEntryS _ v_a2 aq2 (((k + 5 * (aq0.length : Nat) : Int)) + 3 * (aq1.length : Nat) : Int) h_a2 (by omega) (by dsimp only at *; omega) (by dsimp only at *; omega)) ?_
 clear H A; rintro v32 w33 he34 ⟨rfl, ho35⟩ A H
 have hx37 := hx27.trans' (StpI.of_stp he34 (by intro q hq; have hq0 := h_a2.lt q hq; omega))
 have hzhx37 := he34.size
 replace hb4 := bo hb4 h_a2 he34
 replace ho15 := oo ho15 flat_shBin h_a2 he34
 replace ho25 := oo ho25 flat_shProm h_a2 he34
 clear h_a2
 revert A; refine go ?_; intro A H
 refine ret1 H rfl rfl ?_
 clear H A
 exact ret_mkI hx37 ⟨int_eq (by rfl), (fi ho15).cast (by rfl), (fi ho25).cast (by rfl), (fi ho35).cast (by rfl)⟩



theorem c_laws_heldBinS (w0 : World) (v_a : Value) (a : List (Str × Int × Int × Int × Int)) {S_a : Nat → Prop} (k : Int) (h_a : Rds shBin S_a w0 v_a a) (g0 : 0 ≤ k) (g1 : k ≤ 4611686018427387904) (g2 : a.length ≤ 4611686018427) :
    Calls Tryz.prog 47 #[v_a, .int .i64 k] w0 (Ret w0 (fun v _ => v = .int .i64 (heldG okBin 5 a k))) := by
 refine enter (N := 59) Tryz.func47 rfl rfl rfl ?_
 intro A H
 have hx0 := Ext.rfl' w0
 have hl_a := h_a.length_le
 revert A; refine go ?_; intro A H
 refine loop_inv (X := Nat × Int) (fun ⟨i, q⟩ fr wl => Sl 59 fr [(0, v_a), (1, .int .i64 q), (5, .int .i64 ((i : Nat) : Int))] ∧ Ext w0 wl ∧ w0.heap.size ≤ wl.heap.size ∧ (i ≤ a.length) ∧ (q = k + 5 * (i : Int)) ∧ (heldG okBin 5 (a.drop i) q = heldG okBin 5 a k)) (fun ⟨i, q⟩ => a.length - i) (0, k) ?_ ?_
 exact ⟨(sl H), hx0, (by omega), (by omega), (by simp), (by rfl)⟩
 clear H A
 rintro ⟨i, q⟩ A w3 ⟨H, hx4, hzl6, hi, hq, hF⟩
 have hzhx4 := hx4.size
 revert A; refine go ?_; intro A H
 refine wv H (ln H U30 h_a) ?_
 clear H A; refine go ?_; intro A H
 by_cases c11 : ((i : Nat) : Int) < ((a.length : Nat) : Int)
 rw [decide_eq_true c11] at H
 revert A; refine go ?_; intro A H
 refine dre Ext follows_mixed ?_
 intro w12 he13 hs15
 obtain ⟨hx14, _⟩ := nx hx4 he13
 revert A; refine dgo [0, 1] hs15 ?_; intro A H
 obtain ⟨x18, hx18⟩ := get_ex (xs := a) (j := i) (by omega)
 obtain ⟨p19, hi21, hc22, b25, b26, b27, b28, b29, hs24⟩ := at_shBin h_a hx18
 refine dw 2 H rfl hs15 (ix H U30 ti65 hi21) ?_
 clear H A; intro A H
 refine dw 3 H rfl hs15 (fa H U65 ti9) ?_
 clear H A; intro A H
 refine dv 4 H rfl hs15 (fun w' hw' => lf 0 H U9 (hc22.ext (hx14.trans' hw'))) ?_
 clear H A; intro A H
 refine dw 5 H rfl hs15 (op_move H rfl rfl) ?_
 clear H A; intro A H
 refine dr_one (i := 6) (by kernel_rfl) ?_
 refine pc H cb59 rfl (c_laws_markText _ q gd) ?_
 clear H A; rintro v34 w35 he36 rfl A H
 have hs38 := hs15.trans' he36
 obtain ⟨hx39, _⟩ := nx hx14 he36
 refine ⟨hs38, ?_⟩
 refine dv 7 H rfl hs38 (fun w' hw' => (op_sneq H rfl rfl rfl).to (congrArg Value.bool decide_not)) ?_
 clear H A; intro A H
 refine dr_end (by kernel_rfl) ?_
 refine then_n ?_
 by_cases c41 : x18.1 = (mkT q)
 rw [decide_eq_true c41] at H
 revert A; refine go ?_; intro A H
 refine wv H ((op_add H rfl rfl rfl).int (IntWalk.i64_in _ (by omega))) ?_
 clear H A; refine go ?_; intro A H
 refine wv H (ix H U30 ti65 hi21) ?_
 clear H A; intro A H
 refine wv H (fa H U65 ti2) ?_
 clear H A; intro A H
 refine wv H (lf 1 H U2 (hc22.ext hx39)) ?_
 clear H A; refine go ?_; intro A H
 by_cases c52 : x18.2.1 = (q + (1 : Int))
 rw [decide_eq_true c52] at H
 revert A; refine go ?_; intro A H
 refine wv H ((op_add H rfl rfl rfl).int (IntWalk.i64_in _ (by omega))) ?_
 clear H A; refine go ?_; intro A H
 refine wv H (ix H U30 ti65 hi21) ?_
 clear H A; intro A H
 refine wv H (fa H U65 ti2) ?_
 clear H A; intro A H
 refine wv H (lf 2 H U2 (hc22.ext hx39)) ?_
 clear H A; refine go ?_; intro A H
 by_cases c63 : x18.2.2.1 = ((q + (1 : Int)) + (1 : Int))
 rw [decide_eq_true c63] at H
 revert A; refine go ?_; intro A H
 refine wv H ((op_add H rfl rfl rfl).int (IntWalk.i64_in _ (by omega))) ?_
 clear H A; refine go ?_; intro A H
 refine wv H (ix H U30 ti65 hi21) ?_
 clear H A; intro A H
 refine wv H (fa H U65 ti2) ?_
 clear H A; intro A H
 refine wv H (lf 3 H U2 (hc22.ext hx39)) ?_
 clear H A; refine go ?_; intro A H
 by_cases c74 : x18.2.2.2.1 = (((q + (1 : Int)) + (1 : Int)) + (1 : Int))
 rw [decide_eq_true c74] at H
 revert A; refine go ?_; intro A H
 refine wv H ((op_add H rfl rfl rfl).int (IntWalk.i64_in _ (by omega))) ?_
 clear H A; refine go ?_; intro A H
 refine wv H (ix H U30 ti65 hi21) ?_
 clear H A; intro A H
 refine wv H (fa H U65 ti2) ?_
 clear H A; intro A H
 refine wv H (lf 4 H U2 (hc22.ext hx39)) ?_
 clear H A; refine go ?_; intro A H
 by_cases c85 : x18.2.2.2.2 = ((((q + (1 : Int)) + (1 : Int)) + (1 : Int)) + (1 : Int))
 rw [decide_eq_true c85] at H
 revert A; refine go ?_; intro A H
 refine wv H ((op_add H rfl rfl rfl).int (IntWalk.i64_in _ (by omega))) ?_
 clear H A; refine go ?_; intro A H
 refine wv H ((op_add H rfl rfl rfl).int (IntWalk.i64_in _ (by omega))) ?_
 clear H A; refine go ?_; intro A H
 refine ⟨((i + 1), (((((q + (1 : Int)) + (1 : Int)) + (1 : Int)) + (1 : Int)) + (1 : Int))), ?_, ?_⟩
 refine ⟨(sl H), hx39, (by omega), (by omega), (by omega), (by rw [drop_cons hx18] at hF; simp only [heldG] at hF; rw [if_pos (by simp [okBin, mkBin, Prod.ext_iff, c41, c52, c63, c74, c85] <;> omega)] at hF; rw [← hF] <;> (congr 1 <;> omega))⟩
 show (a.length - ((i + 1)) : Nat) < a.length - i; omega
 rw [decide_eq_false c85] at H
 revert A; refine go ?_; intro A H
 refine ret1 H rfl rfl ?_
 clear H A
 rw [drop_cons hx18] at hF
 simp only [heldG] at hF
 rw [if_neg (by simp [okBin, mkBin, Prod.ext_iff, c41, c52, c63, c74, c85])] at hF
 exact ret_mk hx39 (int_eq (by exact hF))
 rw [decide_eq_false c74] at H
 revert A; refine go ?_; intro A H
 refine ret1 H rfl rfl ?_
 clear H A
 rw [drop_cons hx18] at hF
 simp only [heldG] at hF
 rw [if_neg (by simp [okBin, mkBin, Prod.ext_iff, c41, c52, c63, c74])] at hF
 exact ret_mk hx39 (int_eq (by exact hF))
 rw [decide_eq_false c63] at H
 revert A; refine go ?_; intro A H
 refine ret1 H rfl rfl ?_
 clear H A
 rw [drop_cons hx18] at hF
 simp only [heldG] at hF
 rw [if_neg (by simp [okBin, mkBin, Prod.ext_iff, c41, c52, c63])] at hF
 exact ret_mk hx39 (int_eq (by exact hF))
 rw [decide_eq_false c52] at H
 revert A; refine go ?_; intro A H
 refine ret1 H rfl rfl ?_
 clear H A
 rw [drop_cons hx18] at hF
 simp only [heldG] at hF
 rw [if_neg (by simp [okBin, mkBin, Prod.ext_iff, c41, c52])] at hF
 exact ret_mk hx39 (int_eq (by exact hF))
 rw [decide_eq_false c41] at H
 revert A; refine go ?_; intro A H
 refine ret1 H rfl rfl ?_
 clear H A
 rw [drop_cons hx18] at hF
 simp only [heldG] at hF
 rw [if_neg (by simp [okBin, mkBin, Prod.ext_iff, c41])] at hF
 exact ret_mk hx39 (int_eq (by exact hF))
 rw [decide_eq_false c11] at H
 revert A; refine go ?_; intro A H
 refine ret1 H rfl rfl ?_
 clear H A
 rw [drop_nil (by omega)] at hF
 simp only [heldG] at hF
 exact ret_mk hx4 (int_eq (by exact hF))



theorem c_laws_heldPromiseS (w0 : World) (v_a : Value) (a : List (Str × Int × Int)) {S_a : Nat → Prop} (k : Int) (h_a : Rds shProm S_a w0 v_a a) (g0 : 0 ≤ k) (g1 : k ≤ 4611686018427387904) (g2 : a.length ≤ 4611686018427) :
    Calls Tryz.prog 48 #[v_a, .int .i64 k] w0 (Ret w0 (fun v _ => v = .int .i64 (heldG okProm 3 a k))) := by
 refine enter (N := 41) Tryz.func48 rfl rfl rfl ?_
 intro A H
 have hx0 := Ext.rfl' w0
 have hl_a := h_a.length_le
 revert A; refine go ?_; intro A H
 refine loop_inv (X := Nat × Int) (fun ⟨i, q⟩ fr wl => Sl 41 fr [(0, v_a), (1, .int .i64 q), (5, .int .i64 ((i : Nat) : Int))] ∧ Ext w0 wl ∧ w0.heap.size ≤ wl.heap.size ∧ (i ≤ a.length) ∧ (q = k + 3 * (i : Int)) ∧ (heldG okProm 3 (a.drop i) q = heldG okProm 3 a k)) (fun ⟨i, q⟩ => a.length - i) (0, k) ?_ ?_
 exact ⟨(sl H), hx0, (by omega), (by omega), (by simp), (by rfl)⟩
 clear H A
 rintro ⟨i, q⟩ A w3 ⟨H, hx4, hzl6, hi, hq, hF⟩
 have hzhx4 := hx4.size
 revert A; refine go ?_; intro A H
 refine wv H (ln H U31 h_a) ?_
 clear H A; refine go ?_; intro A H
 by_cases c11 : ((i : Nat) : Int) < ((a.length : Nat) : Int)
 rw [decide_eq_true c11] at H
 revert A; refine go ?_; intro A H
 refine dre Ext follows_mixed ?_
 intro w12 he13 hs15
 obtain ⟨hx14, _⟩ := nx hx4 he13
 revert A; refine dgo [0, 1] hs15 ?_; intro A H
 obtain ⟨x18, hx18⟩ := get_ex (xs := a) (j := i) (by omega)
 obtain ⟨p19, hi21, hc22, b25, b26, b27, hs24⟩ := at_shProm h_a hx18
 refine dw 2 H rfl hs15 (ix H U31 ti67 hi21) ?_
 clear H A; intro A H
 refine dw 3 H rfl hs15 (fa H U67 ti9) ?_
 clear H A; intro A H
 refine dv 4 H rfl hs15 (fun w' hw' => lf 0 H U9 (hc22.ext (hx14.trans' hw'))) ?_
 clear H A; intro A H
 refine dw 5 H rfl hs15 (op_move H rfl rfl) ?_
 clear H A; intro A H
 refine dr_one (i := 6) (by kernel_rfl) ?_
 refine pc H cb59 rfl (c_laws_markText _ q gd) ?_
 clear H A; rintro v32 w33 he34 rfl A H
 have hs36 := hs15.trans' he34
 obtain ⟨hx37, _⟩ := nx hx14 he34
 refine ⟨hs36, ?_⟩
 refine dv 7 H rfl hs36 (fun w' hw' => (op_sneq H rfl rfl rfl).to (congrArg Value.bool decide_not)) ?_
 clear H A; intro A H
 refine dr_end (by kernel_rfl) ?_
 refine then_n ?_
 by_cases c39 : x18.1 = (mkT q)
 rw [decide_eq_true c39] at H
 revert A; refine go ?_; intro A H
 refine wv H ((op_add H rfl rfl rfl).int (IntWalk.i64_in _ (by omega))) ?_
 clear H A; refine go ?_; intro A H
 refine wv H (ix H U31 ti67 hi21) ?_
 clear H A; intro A H
 refine wv H (fa H U67 ti2) ?_
 clear H A; intro A H
 refine wv H (lf 1 H U2 (hc22.ext hx37)) ?_
 clear H A; refine go ?_; intro A H
 by_cases c50 : x18.2.1 = (q + (1 : Int))
 rw [decide_eq_true c50] at H
 revert A; refine go ?_; intro A H
 refine wv H ((op_add H rfl rfl rfl).int (IntWalk.i64_in _ (by omega))) ?_
 clear H A; refine go ?_; intro A H
 refine wv H (ix H U31 ti67 hi21) ?_
 clear H A; intro A H
 refine wv H (fa H U67 ti2) ?_
 clear H A; intro A H
 refine wv H (lf 2 H U2 (hc22.ext hx37)) ?_
 clear H A; refine go ?_; intro A H
 by_cases c61 : x18.2.2 = ((q + (1 : Int)) + (1 : Int))
 rw [decide_eq_true c61] at H
 revert A; refine go ?_; intro A H
 refine wv H ((op_add H rfl rfl rfl).int (IntWalk.i64_in _ (by omega))) ?_
 clear H A; refine go ?_; intro A H
 refine wv H ((op_add H rfl rfl rfl).int (IntWalk.i64_in _ (by omega))) ?_
 clear H A; refine go ?_; intro A H
 refine ⟨((i + 1), (((q + (1 : Int)) + (1 : Int)) + (1 : Int))), ?_, ?_⟩
 refine ⟨(sl H), hx37, (by omega), (by omega), (by omega), (by rw [drop_cons hx18] at hF; simp only [heldG] at hF; rw [if_pos (by simp [okProm, mkProm, Prod.ext_iff, c39, c50, c61] <;> omega)] at hF; rw [← hF] <;> (congr 1 <;> omega))⟩
 show (a.length - ((i + 1)) : Nat) < a.length - i; omega
 rw [decide_eq_false c61] at H
 revert A; refine go ?_; intro A H
 refine ret1 H rfl rfl ?_
 clear H A
 rw [drop_cons hx18] at hF
 simp only [heldG] at hF
 rw [if_neg (by simp [okProm, mkProm, Prod.ext_iff, c39, c50, c61])] at hF
 exact ret_mk hx37 (int_eq (by exact hF))
 rw [decide_eq_false c50] at H
 revert A; refine go ?_; intro A H
 refine ret1 H rfl rfl ?_
 clear H A
 rw [drop_cons hx18] at hF
 simp only [heldG] at hF
 rw [if_neg (by simp [okProm, mkProm, Prod.ext_iff, c39, c50])] at hF
 exact ret_mk hx37 (int_eq (by exact hF))
 rw [decide_eq_false c39] at H
 revert A; refine go ?_; intro A H
 refine ret1 H rfl rfl ?_
 clear H A
 rw [drop_cons hx18] at hF
 simp only [heldG] at hF
 rw [if_neg (by simp [okProm, mkProm, Prod.ext_iff, c39])] at hF
 exact ret_mk hx37 (int_eq (by exact hF))
 rw [decide_eq_false c11] at H
 revert A; refine go ?_; intro A H
 refine ret1 H rfl rfl ?_
 clear H A
 rw [drop_nil (by omega)] at hF
 simp only [heldG] at hF
 exact ret_mk hx4 (int_eq (by exact hF))



theorem c_laws_heldEntryS (w0 : World) (v_a : Value) (a : List (Int × Int × Str × Int)) {S_a : Nat → Prop} (k : Int) (h_a : Rds shEnt S_a w0 v_a a) (g0 : 0 ≤ k) (g1 : k ≤ 4611686018427387904) (g2 : a.length ≤ 4611686018427) :
    Calls Tryz.prog 49 #[v_a, .int .i64 k] w0 (Ret w0 (fun v _ => v = .int .i64 (heldG okEnt 4 a k))) := by
 refine enter (N := 50) Tryz.func49 rfl rfl rfl ?_
 intro A H
 have hx0 := Ext.rfl' w0
 have hl_a := h_a.length_le
 revert A; refine go ?_; intro A H
 refine loop_inv (X := Nat × Int) (fun ⟨i, q⟩ fr wl => Sl 50 fr [(0, v_a), (1, .int .i64 q), (5, .int .i64 ((i : Nat) : Int))] ∧ Ext w0 wl ∧ w0.heap.size ≤ wl.heap.size ∧ (i ≤ a.length) ∧ (q = k + 4 * (i : Int)) ∧ (heldG okEnt 4 (a.drop i) q = heldG okEnt 4 a k)) (fun ⟨i, q⟩ => a.length - i) (0, k) ?_ ?_
 exact ⟨(sl H), hx0, (by omega), (by omega), (by simp), (by rfl)⟩
 clear H A
 rintro ⟨i, q⟩ A w3 ⟨H, hx4, hzl6, hi, hq, hF⟩
 have hzhx4 := hx4.size
 revert A; refine go ?_; intro A H
 refine wv H (ln H U32 h_a) ?_
 clear H A; refine go ?_; intro A H
 by_cases c11 : ((i : Nat) : Int) < ((a.length : Nat) : Int)
 rw [decide_eq_true c11] at H
 revert A; refine go ?_; intro A H
 obtain ⟨x14, hx14⟩ := get_ex (xs := a) (j := i) (by omega)
 obtain ⟨p15, hi17, hc18, b21, b22, b23, b24, hs20⟩ := at_shEnt h_a hx14
 refine wv H (ix H U32 ti69 hi17) ?_
 clear H A; intro A H
 refine wv H (fa H U69 ti2) ?_
 clear H A; intro A H
 refine wv H (lf 0 H U2 (hc18.ext hx4)) ?_
 clear H A; refine go ?_; intro A H
 by_cases c30 : x14.1 = q
 rw [decide_eq_true c30] at H
 revert A; refine go ?_; intro A H
 refine wv H ((op_add H rfl rfl rfl).int (IntWalk.i64_in _ (by omega))) ?_
 clear H A; refine go ?_; intro A H
 refine wv H (ix H U32 ti69 hi17) ?_
 clear H A; intro A H
 refine wv H (fa H U69 ti2) ?_
 clear H A; intro A H
 refine wv H (lf 1 H U2 (hc18.ext hx4)) ?_
 clear H A; refine go ?_; intro A H
 by_cases c41 : x14.2.1 = (q + (1 : Int))
 rw [decide_eq_true c41] at H
 revert A; refine go ?_; intro A H
 refine wv H ((op_add H rfl rfl rfl).int (IntWalk.i64_in _ (by omega))) ?_
 clear H A; refine go ?_; intro A H
 refine dre Ext follows_mixed ?_
 intro w45 he46 hs48
 obtain ⟨hx47, _⟩ := nx hx4 he46
 revert A; refine dgo [0, 1] hs48 ?_; intro A H
 refine dw 2 H rfl hs48 (ix H U32 ti69 hi17) ?_
 clear H A; intro A H
 refine dw 3 H rfl hs48 (fa H U69 ti9) ?_
 clear H A; intro A H
 refine dv 4 H rfl hs48 (fun w' hw' => lf 2 H U9 (hc18.ext (hx47.trans' hw'))) ?_
 clear H A; intro A H
 refine dw 5 H rfl hs48 (op_move H rfl rfl) ?_
 clear H A; intro A H
 refine dr_one (i := 6) (by kernel_rfl) ?_
 refine pc H cb59 rfl (c_laws_markText _ ((q + (1 : Int)) + (1 : Int)) gd) ?_
 clear H A; rintro v55 w56 he57 rfl A H
 have hs59 := hs48.trans' he57
 obtain ⟨hx60, _⟩ := nx hx47 he57
 refine ⟨hs59, ?_⟩
 refine dv 7 H rfl hs59 (fun w' hw' => (op_sneq H rfl rfl rfl).to (congrArg Value.bool decide_not)) ?_
 clear H A; intro A H
 refine dr_end (by kernel_rfl) ?_
 refine then_n ?_
 by_cases c62 : x14.2.2.1 = (mkT ((q + (1 : Int)) + (1 : Int)))
 rw [decide_eq_true c62] at H
 revert A; refine go ?_; intro A H
 refine wv H ((op_add H rfl rfl rfl).int (IntWalk.i64_in _ (by omega))) ?_
 clear H A; refine go ?_; intro A H
 refine wv H (ix H U32 ti69 hi17) ?_
 clear H A; intro A H
 refine wv H (fa H U69 ti2) ?_
 clear H A; intro A H
 refine wv H (lf 3 H U2 (hc18.ext hx60)) ?_
 clear H A; refine go ?_; intro A H
 by_cases c73 : x14.2.2.2 = (((q + (1 : Int)) + (1 : Int)) + (1 : Int))
 rw [decide_eq_true c73] at H
 revert A; refine go ?_; intro A H
 refine wv H ((op_add H rfl rfl rfl).int (IntWalk.i64_in _ (by omega))) ?_
 clear H A; refine go ?_; intro A H
 refine wv H ((op_add H rfl rfl rfl).int (IntWalk.i64_in _ (by omega))) ?_
 clear H A; refine go ?_; intro A H
 refine ⟨((i + 1), ((((q + (1 : Int)) + (1 : Int)) + (1 : Int)) + (1 : Int))), ?_, ?_⟩
 refine ⟨(sl H), hx60, (by omega), (by omega), (by omega), (by rw [drop_cons hx14] at hF; simp only [heldG] at hF; rw [if_pos (by simp [okEnt, mkEnt, Prod.ext_iff, c30, c41, c62, c73] <;> omega)] at hF; rw [← hF] <;> (congr 1 <;> omega))⟩
 show (a.length - ((i + 1)) : Nat) < a.length - i; omega
 rw [decide_eq_false c73] at H
 revert A; refine go ?_; intro A H
 refine ret1 H rfl rfl ?_
 clear H A
 rw [drop_cons hx14] at hF
 simp only [heldG] at hF
 rw [if_neg (by simp [okEnt, mkEnt, Prod.ext_iff, c30, c41, c62, c73])] at hF
 exact ret_mk hx60 (int_eq (by exact hF))
 rw [decide_eq_false c62] at H
 revert A; refine go ?_; intro A H
 refine ret1 H rfl rfl ?_
 clear H A
 rw [drop_cons hx14] at hF
 simp only [heldG] at hF
 rw [if_neg (by simp [okEnt, mkEnt, Prod.ext_iff, c30, c41, c62])] at hF
 exact ret_mk hx60 (int_eq (by exact hF))
 rw [decide_eq_false c41] at H
 revert A; refine go ?_; intro A H
 refine ret1 H rfl rfl ?_
 clear H A
 rw [drop_cons hx14] at hF
 simp only [heldG] at hF
 rw [if_neg (by simp [okEnt, mkEnt, Prod.ext_iff, c30, c41])] at hF
 exact ret_mk hx4 (int_eq (by exact hF))
 rw [decide_eq_false c30] at H
 revert A; refine go ?_; intro A H
 refine ret1 H rfl rfl ?_
 clear H A
 rw [drop_cons hx14] at hF
 simp only [heldG] at hF
 rw [if_neg (by simp [okEnt, mkEnt, Prod.ext_iff, c30])] at hF
 exact ret_mk hx4 (int_eq (by exact hF))
 rw [decide_eq_false c11] at H
 revert A; refine go ?_; intro A H
 refine ret1 H rfl rfl ?_
 clear H A
 rw [drop_nil (by omega)] at hF
 simp only [heldG] at hF
 exact ret_mk hx4 (int_eq (by exact hF))



theorem c_laws_heldDesk (w0 : World) (v_a0 : Value) (v_a1 : Value) (v_a2 : Value) (a : List (Str × Int × Int × Int × Int) × List (Str × Int × Int) × List (Int × Int × Str × Int)) {S_a0 : Nat → Prop} {S_a1 : Nat → Prop} {S_a2 : Nat → Prop} (k : Int) (h_a0 : Rds shBin S_a0 w0 v_a0 a.1) (h_a1 : Rds shProm S_a1 w0 v_a1 a.2.1) (h_a2 : Rds shEnt S_a2 w0 v_a2 a.2.2) (g0 : 0 ≤ k) (g1 : k ≤ 1048576) (g2 : a.1.length ≤ 1048576) (g3 : a.2.1.length ≤ 1048576) (g4 : a.2.2.length ≤ 1048576) :
    Calls Tryz.prog 19 #[.agg #[v_a0, v_a1, v_a2], .int .i64 k] w0 (Ret w0 (fun v _ => v = .int .i64 (heldDk a k))) := by
 refine enter (N := 24) Tryz.func19 rfl rfl rfl ?_
 intro A H
 have hx0 := Ext.rfl' w0
 have hl_a0 := h_a0.length_le
 have hl_a1 := h_a1.length_le
 have hl_a2 := h_a2.length_le
 have hv1 := heldG_val (ok := okBin) (st := 5) (xs := a.1) (k := k) (by omega) g0
 revert A; refine go ?_; intro A H
 refine we H (op_box' H rfl rfl rfl) ?_
 clear H A; rintro _ w2 ⟨rfl, he3, hb4, hz5⟩ A H
 obtain ⟨hx7, _⟩ := nx hx0 he3
 revert A; refine go ?_; intro A H
 refine fl 0 H U34 ti30 U30 hb4.cells ?_
 clear H A; intro A H
 refine wv H (op_move H rfl rfl) ?_
 clear H A; intro A H
 refine wc H cb47 (c_laws_heldBinS _ v_a0 a.1 k (h_a0.ext pos_shBin hx7) (by assumption) (by omega) (by omega)) ?_
 clear H A; rintro v12 w13 he14 rfl A H
 obtain ⟨hx16, _⟩ := nx hx7 he14
 replace hb4 := hb4.ext he14
 revert A; refine go ?_; intro A H
 by_cases c20 : (heldG okBin 5 a.1 k : Int) < (0 : Int)
 rw [decide_eq_true c20] at H
 revert A; refine go ?_; intro A H
 refine ret1 H rfl rfl ?_
 clear H A
 exact ret_mk hx16 (int_eq (by unfold heldDk; rw [if_pos c20]))
 rw [decide_eq_false c20] at H
 have hv2c20 := heldG_val (ok := okProm) (st := 3) (xs := a.2.1) (k := heldG okBin 5 a.1 k) (by omega) (by omega)
 revert A; refine go ?_; intro A H
 refine fl 1 H U34 ti31 U31 hb4.cells ?_
 clear H A; intro A H
 refine wv H (op_move H rfl rfl) ?_
 clear H A; intro A H
 refine wc H cb48 (c_laws_heldPromiseS _ v_a1 a.2.1 (heldG okBin 5 a.1 k : Int) (h_a1.ext pos_shProm hx16) (by omega) (by omega) (by omega)) ?_
 clear H A; rintro v25 w26 he27 rfl A H
 obtain ⟨hx29, _⟩ := nx hx16 he27
 replace hb4 := hb4.ext he27
 revert A; refine go ?_; intro A H
 by_cases c33 : (heldG okProm 3 a.2.1 (heldG okBin 5 a.1 k : Int) : Int) < (0 : Int)
 rw [decide_eq_true c33] at H
 revert A; refine go ?_; intro A H
 refine ret1 H rfl rfl ?_
 clear H A
 exact ret_mk hx29 (int_eq (by unfold heldDk; rw [if_neg c20, if_pos c33]))
 rw [decide_eq_false c33] at H
 revert A; refine go ?_; intro A H
 refine fl 2 H U34 ti32 U32 hb4.cells ?_
 clear H A; intro A H
 refine wv H (op_move H rfl rfl) ?_
 clear H A; intro A H
 refine wc H cb49 (c_laws_heldEntryS _ v_a2 a.2.2 (heldG okProm 3 a.2.1 (heldG okBin 5 a.1 k : Int) : Int) (h_a2.ext pos_shEnt hx29) (by omega) (by omega) (by omega)) ?_
 clear H A; rintro v38 w39 he40 rfl A H
 obtain ⟨hx42, _⟩ := nx hx29 he40
 replace hb4 := hb4.ext he40
 revert A; refine go ?_; intro A H
 by_cases c46 : (heldG okEnt 4 a.2.2 (heldG okProm 3 a.2.1 (heldG okBin 5 a.1 k : Int) : Int) : Int) < (0 : Int)
 rw [decide_eq_true c46] at H
 revert A; refine go ?_; intro A H
 refine ret1 H rfl rfl ?_
 clear H A
 exact ret_mk hx42 (int_eq (by unfold heldDk; rw [if_neg c20, if_neg c33, if_pos c46]))
 rw [decide_eq_false c46] at H
 revert A; refine go ?_; intro A H
 refine ret1 H rfl rfl ?_
 clear H A
 exact ret_mk hx42 (int_eq (by unfold heldDk; rw [if_neg c20, if_neg c33, if_neg c46]))




end Go.Proofs.YthbehhhblchhhaaGreat
