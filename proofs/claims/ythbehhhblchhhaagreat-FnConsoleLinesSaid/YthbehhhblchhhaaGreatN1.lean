/- Numbers: fractions rounded, measures, joined texts. -/
import Derived.Test.YthbehhhblchhhaaGreatD1
namespace Go.Proofs.YthbehhhblchhhaaGreat
open Go Go.RowKit
set_option maxHeartbeats 16000000

theorem num_neg {n : Int} (h : n < 0) : decS n = 45 :: decS (0 - n) := by
  rw [decS_nn (n := 0 - n) (by omega)]; (conv => lhs; unfold decS); rw [if_pos h]
theorem tm_bd (a : Int) {b : Int} (h : 0 < b) : -b < a.tmod b ∧ a.tmod b < b ∧ a.tmod b + b * a.tdiv b = a := by
  refine ⟨?_, Int.tmod_lt_of_pos a h, Int.tmod_add_mul_tdiv a b⟩
  have h1 := Int.tmod_lt_of_pos (-a) h
  rw [Int.neg_tmod] at h1; omega
theorem floor_t {a b q : Int} (h : 0 < b) (hq : q = if a.tmod b < 0 then a.tdiv b - 1 else a.tdiv b) : q = a / b := by
  obtain ⟨h1, h2, h3⟩ := tm_bd a h
  split at hq
  · subst hq
    exact ((Int.ediv_emod_unique (r := a.tmod b + b) h).2 ⟨by rw [Int.mul_sub]; omega, by omega, by omega⟩).1.symm
  · subst hq
    exact ((Int.ediv_emod_unique (r := a.tmod b) h).2 ⟨by omega, by omega, by omega⟩).1.symm
def ceI (a b : Int) : Int := (a + b - 1) / b
theorem ceI_neg {a b : Int} (h : 0 < b) : 0 - (0 - a) / b = ceI a b := by
  unfold ceI
  have h1 := Int.emod_add_mul_ediv (0 - a) b
  have h2 := Int.emod_nonneg (0 - a) (b := b) (by omega)
  have h3 := Int.emod_lt_of_pos (0 - a) h
  exact ((Int.ediv_emod_unique (a := a + b - 1) (q := 0 - (0 - a) / b) (r := b - 1 - (0 - a) % b) h).2 ⟨by rw [Int.mul_sub]; omega, by omega, by omega⟩).1.symm
theorem ceI_bd {a b : Int} (ha : 0 ≤ a) (ha2 : a ≤ 300000) (hb : 1 ≤ b) (hb2 : b ≤ 100000) : 0 ≤ ceI a b ∧ ceI a b ≤ 400000 ∧ 0 ≤ ceI a b * b ∧ ceI a b * b ≤ 400000 ∧ b * ceI a b = ceI a b * b := by
  have h1 := Int.emod_add_mul_ediv (a + b - 1) b
  have h2 := Int.emod_nonneg (a + b - 1) (b := b) (by omega)
  have h3 := Int.emod_lt_of_pos (a + b - 1) (b := b) (by omega)
  have h4 : 0 ≤ ceI a b := Int.ediv_nonneg (by omega) (by omega)
  have h5 : b * ceI a b = ceI a b * b := Int.mul_comm _ _
  have h6 : ceI a b ≤ b * ceI a b := by
    have := Int.mul_le_mul_of_nonneg_right hb h4; omega
  change _ + b * ceI a b = _ at h1
  have h7 : 0 ≤ b * ceI a b := Int.mul_nonneg (by omega) h4
  omega
/-- The nearest number to a fraction. -/
def neI (a b : Int) : Int := (2 * a + b) / (2 * b)
theorem tdiv_bd (a : Int) {b : Int} (hb : 0 < b) : (0 ≤ a → 0 ≤ a.tdiv b ∧ a.tdiv b ≤ a) ∧ (a ≤ 0 → a ≤ a.tdiv b ∧ a.tdiv b ≤ 0) := by
  have key : ∀ c : Int, 0 ≤ c → 0 ≤ c.tdiv b ∧ c.tdiv b ≤ c := fun c hc => ⟨Int.tdiv_nonneg hc (by omega), by rw [Int.tdiv_eq_ediv_of_nonneg hc]; exact Int.ediv_le_self _ hc⟩
  refine ⟨key a, fun h => ?_⟩
  have := key (-a) (by omega)
  rw [Int.neg_tdiv] at this; omega
theorem ediv_bd (a : Int) {b : Int} (hb : 0 < b) : (0 ≤ a → 0 ≤ a / b ∧ a / b ≤ a) ∧ (a ≤ 0 → a - 1 ≤ a / b ∧ a / b ≤ 0) := by
  have h1 := tdiv_bd a hb
  have h2 := floor_t (a := a) hb rfl
  have h3 : 0 ≤ a → 0 ≤ a.tmod b := fun h => Int.tmod_nonneg _ h
  split at h2 <;> omega
def meS (n : Int) : Str := if n < 0 then 45 :: (decS ((0 - n) / 10) ++ [46] ++ decS ((0 - n) % 10)) else decS (n / 10) ++ [46] ++ decS (n % 10)
theorem meS_neg {n : Int} (h : n < 0) : meS n = 45 :: meS (0 - n) := by
  unfold meS; rw [if_pos h, if_neg (by omega)]
theorem meS_len {n : Int} (h : 0 ≤ n ∧ n ≤ 1000000000000) : (meS n).length ≤ 50 := by
  have h1 := decS_len (n := n / 10) (by omega); have h2 := decS_len (n := n % 10) (by omega)
  unfold meS; rw [if_neg (by omega)]; simp; omega
def isV (n : Int) : Bool := decide (-1000000000000 ≤ n) && decide (n ≤ 1000000000000)
theorem isV_bd {n : Int} (h : isV n = true) : -1000000000000 ≤ n ∧ n ≤ 1000000000000 := by unfold isV at h; simpa using h
def joinG (b : Str) : Nat → List Str → Str
  | _, [] => []
  | i, w :: ws => (if 0 < i then b else []) ++ (w ++ joinG b (i + 1) ws)

theorem c_impl_floorDiv (w0 : World) (a : Int) (b : Int) (g0 : 0 < b ∧ b ≤ 4000000000000000000) (g1 : -4000000000000000000 ≤ a ∧ a ≤ 4000000000000000000) :
    Calls Tryz.prog 124 #[.int .i64 a, .int .i64 b] w0 (Ret w0 (fun v _ => v = .int .i64 (a / b))) := by
 refine enter (N := 16) Tryz.func124 rfl rfl rfl ?_
 intro A H
 have hx0 := Ext.rfl' w0
 revert A; refine go ?_; intro A H
 refine wv H ((op_quo H rfl rfl rfl (by omega)).int (IntWalk.i64_in _ (by have h8 := tdiv_bd a (b := b) (by omega); omega))) ?_
 clear H A; refine go ?_; intro A H
 refine wv H (op_rem H rfl rfl rfl (by omega)) ?_
 clear H A; refine go ?_; intro A H
 by_cases c10 : (Int.tmod a b) < (0 : Int)
 rw [decide_eq_true c10] at H
 revert A; refine go ?_; intro A H
 refine wv H ((op_sub H rfl rfl rfl).int (IntWalk.i64_in _ (by have h8 := tdiv_bd a (b := b) (by omega); omega))) ?_
 clear H A; refine go ?_; intro A H
 refine ret1 H rfl rfl ?_
 clear H A
 exact ret_mk hx0 (int_eq (by exact floor_t (by omega) (by first | rw [if_pos (by omega)] | rw [if_neg (by omega)])))
 rw [decide_eq_false c10] at H
 revert A; refine go ?_; intro A H
 refine ret1 H rfl rfl ?_
 clear H A
 exact ret_mk hx0 (int_eq (by exact floor_t (by omega) (by first | rw [if_pos (by omega)] | rw [if_neg (by omega)])))



theorem c_spec_l01Floor (w0 : World) (a : Int) (b : Int) (g0 : 0 < b ∧ b ≤ 4000000000000000000) (g1 : -4000000000000000000 ≤ a ∧ a ≤ 4000000000000000000) :
    Calls Tryz.prog 160 #[.int .i64 a, .int .i64 b] w0 (Ret w0 (fun v _ => v = .int .i64 (a / b))) := by
 refine enter (N := 22) Tryz.func160 rfl rfl rfl ?_
 intro A H
 have hx0 := Ext.rfl' w0
 revert A; refine go ?_; intro A H
 by_cases c4 : b < (0 : Int)
 rw [decide_eq_true c4] at H
 revert A; refine go ?_; intro A H
 refine wv H ((op_neg H rfl rfl).int (IntWalk.i64_in _ (by omega))) ?_
 clear H A; intro A H
 refine wv H (op_move H rfl rfl) ?_
 clear H A; intro A H
 refine wv H ((op_neg H rfl rfl).int (IntWalk.i64_in _ (by omega))) ?_
 clear H A; refine go ?_; intro A H
 refine wv H ((op_quo H rfl rfl rfl (by omega)).int (IntWalk.i64_in _ (by omega))) ?_
 clear H A; refine go ?_; intro A H
 refine wv H (op_rem H rfl rfl rfl (by omega)) ?_
 clear H A; refine go ?_; intro A H
 by_cases c19 : (Int.tmod (0 - a) (0 - b)) < (0 : Int)
 rw [decide_eq_true c19] at H
 revert A; refine go ?_; intro A H
 refine wv H ((op_sub H rfl rfl rfl).int (IntWalk.i64_in _ (by omega))) ?_
 clear H A; refine go ?_; intro A H
 refine ret1 H rfl rfl ?_
 clear H A
 exact ret_mk hx0 (int_eq (by exfalso; omega))
 rw [decide_eq_false c19] at H
 revert A; refine go ?_; intro A H
 refine ret1 H rfl rfl ?_
 clear H A
 exact ret_mk hx0 (int_eq (by exfalso; omega))
 rw [decide_eq_false c4] at H
 revert A; refine go ?_; intro A H
 refine wv H ((op_quo H rfl rfl rfl (by omega)).int (IntWalk.i64_in _ (by have h8 := tdiv_bd a (b := b) (by omega); omega))) ?_
 clear H A; refine go ?_; intro A H
 refine wv H (op_rem H rfl rfl rfl (by omega)) ?_
 clear H A; refine go ?_; intro A H
 by_cases c35 : (Int.tmod a b) < (0 : Int)
 rw [decide_eq_true c35] at H
 revert A; refine go ?_; intro A H
 refine wv H ((op_sub H rfl rfl rfl).int (IntWalk.i64_in _ (by have h8 := tdiv_bd a (b := b) (by omega); omega))) ?_
 clear H A; refine go ?_; intro A H
 refine ret1 H rfl rfl ?_
 clear H A
 exact ret_mk hx0 (int_eq (by exact floor_t (by omega) (by first | rw [if_pos (by omega)] | rw [if_neg (by omega)])))
 rw [decide_eq_false c35] at H
 revert A; refine go ?_; intro A H
 refine ret1 H rfl rfl ?_
 clear H A
 exact ret_mk hx0 (int_eq (by exact floor_t (by omega) (by first | rw [if_pos (by omega)] | rw [if_neg (by omega)])))



theorem c_impl_nearest (w0 : World) (a : Int) (b : Int) (g0 : 0 < b ∧ b ≤ 1000000000000000000) (g1 : -1000000000000000000 ≤ a ∧ a ≤ 1000000000000000000) :
    Calls Tryz.prog 107 #[.int .i64 a, .int .i64 b] w0 (Ret w0 (fun v _ => v = .int .i64 (neI a b))) := by
 refine enter (N := 12) Tryz.func107 rfl rfl rfl ?_
 intro A H
 have hx0 := Ext.rfl' w0
 revert A; refine go ?_; intro A H
 refine wv H ((op_mul H rfl rfl rfl).int (IntWalk.i64_in _ (by omega))) ?_
 clear H A; intro A H
 refine wv H (op_move H rfl rfl) ?_
 clear H A; intro A H
 refine wv H ((op_add H rfl rfl rfl).int (IntWalk.i64_in _ (by omega))) ?_
 clear H A; intro A H
 refine wv H (op_move H rfl rfl) ?_
 clear H A; intro A H
 refine wv H ((op_mul H rfl rfl rfl).int (IntWalk.i64_in _ (by omega))) ?_
 clear H A; intro A H
 refine wc H cb124 (c_impl_floorDiv _ (((2 : Int) * a) + b) ((2 : Int) * b) (by omega) (by omega)) ?_
 clear H A; rintro v8 w9 he10 rfl A H
 obtain ⟨hx12, _⟩ := nx hx0 he10
 revert A; refine go ?_; intro A H
 refine ret1 H rfl rfl ?_
 clear H A
 exact ret_mk hx12 (int_eq (by rfl))



theorem c_spec_l01Nearest (w0 : World) (a : Int) (b : Int) (g0 : 0 < b ∧ b ≤ 1000000000000000000) (g1 : -1000000000000000000 ≤ a ∧ a ≤ 1000000000000000000) :
    Calls Tryz.prog 140 #[.int .i64 a, .int .i64 b] w0 (Ret w0 (fun v _ => v = .int .i64 (neI a b))) := by
 refine enter (N := 12) Tryz.func140 rfl rfl rfl ?_
 intro A H
 have hx0 := Ext.rfl' w0
 revert A; refine go ?_; intro A H
 refine wv H ((op_mul H rfl rfl rfl).int (IntWalk.i64_in _ (by omega))) ?_
 clear H A; intro A H
 refine wv H (op_move H rfl rfl) ?_
 clear H A; intro A H
 refine wv H ((op_add H rfl rfl rfl).int (IntWalk.i64_in _ (by omega))) ?_
 clear H A; intro A H
 refine wv H (op_move H rfl rfl) ?_
 clear H A; intro A H
 refine wv H ((op_mul H rfl rfl rfl).int (IntWalk.i64_in _ (by omega))) ?_
 clear H A; intro A H
 refine wc H cb160 (c_spec_l01Floor _ (((2 : Int) * a) + b) ((2 : Int) * b) (by omega) (by omega)) ?_
 clear H A; rintro v8 w9 he10 rfl A H
 obtain ⟨hx12, _⟩ := nx hx0 he10
 revert A; refine go ?_; intro A H
 refine ret1 H rfl rfl ?_
 clear H A
 exact ret_mk hx12 (int_eq (by rfl))



theorem c_impl_ceilDiv (w0 : World) (a : Int) (b : Int) (g0 : 0 < b ∧ b ≤ 1000000) (g1 : 0 ≤ a ∧ a ≤ 1000000) :
    Calls Tryz.prog 142 #[.int .i64 a, .int .i64 b] w0 (Ret w0 (fun v _ => v = .int .i64 (ceI a b))) := by
 refine enter (N := 11) Tryz.func142 rfl rfl rfl ?_
 intro A H
 have hx0 := Ext.rfl' w0
 revert A; refine go ?_; intro A H
 refine wv H ((op_add H rfl rfl rfl).int (IntWalk.i64_in _ (by omega))) ?_
 clear H A; intro A H
 refine wv H ((op_sub H rfl rfl rfl).int (IntWalk.i64_in _ (by omega))) ?_
 clear H A; intro A H
 refine wv H (op_move H rfl rfl) ?_
 clear H A; intro A H
 refine wv H ((op_quo H rfl rfl rfl (by omega)).int (IntWalk.i64_quo _ _ (by omega))) ?_
 clear H A; refine go ?_; intro A H
 refine ret1 H rfl rfl ?_
 clear H A
 exact ret_mk hx0 (int_eq (by rfl))



theorem c_spec_l01Ceil (w0 : World) (a : Int) (b : Int) (g0 : 0 < b ∧ b ≤ 1000000) (g1 : 0 ≤ a ∧ a ≤ 1000000) :
    Calls Tryz.prog 162 #[.int .i64 a, .int .i64 b] w0 (Ret w0 (fun v _ => v = .int .i64 (ceI a b))) := by
 refine enter (N := 10) Tryz.func162 rfl rfl rfl ?_
 intro A H
 have hx0 := Ext.rfl' w0
 revert A; refine go ?_; intro A H
 refine wv H ((op_neg H rfl rfl).int (IntWalk.i64_in _ (by omega))) ?_
 clear H A; intro A H
 refine wv H (op_move H rfl rfl) ?_
 clear H A; intro A H
 refine wc H cb160 (c_spec_l01Floor _ (0 - a) b (by omega) (by omega)) ?_
 clear H A; rintro v5 w6 he7 rfl A H
 obtain ⟨hx9, _⟩ := nx hx0 he7
 refine wv H ((op_neg H rfl rfl).int (IntWalk.i64_in _ (by have h8 := ediv_bd (0 - a) (b := b) (by omega); omega))) ?_
 clear H A; refine go ?_; intro A H
 refine ret1 H rfl rfl ?_
 clear H A
 exact ret_mk hx9 (int_eq (by exact ceI_neg (by omega)))



theorem c_impl_isValue (w0 : World) (n : Int)  :
    Calls Tryz.prog 125 #[.int .i64 n] w0 (Ret w0 (fun v _ => v = .bool (isV n))) := by
 refine enter (N := 5) Tryz.func125 rfl rfl rfl ?_
 intro A H
 have hx0 := Ext.rfl' w0
 revert A; refine go ?_; intro A H
 refine wc H cb81 (c_impl_within _ n (-1000000000000 : Int) (1000000000000 : Int) ) ?_
 clear H A; rintro v3 w4 he5 rfl A H
 obtain ⟨hx7, _⟩ := nx hx0 he5
 revert A; refine go ?_; intro A H
 refine ret1 H rfl rfl ?_
 clear H A
 exact ret_mk hx7 (congrArg Value.bool (by rfl))



theorem c_spec_l01Is (w0 : World) (n : Int)  :
    Calls Tryz.prog 153 #[.int .i64 n] w0 (Ret w0 (fun v _ => v = .bool (isV n))) := by
 refine enter (N := 5) Tryz.func153 rfl rfl rfl ?_
 intro A H
 have hx0 := Ext.rfl' w0
 revert A; refine go ?_; intro A H
 refine wc H cb87 (c_spec_l01In _ n (-1000000000000 : Int) (1000000000000 : Int) ) ?_
 clear H A; rintro v3 w4 he5 rfl A H
 obtain ⟨hx7, _⟩ := nx hx0 he5
 revert A; refine go ?_; intro A H
 refine ret1 H rfl rfl ?_
 clear H A
 exact ret_mk hx7 (congrArg Value.bool (by rfl))



theorem c_impl_decimal_ind : ∀ (kk : Nat) (w0 : World) (n : Int) (_g0 : -9223372036854775807 ≤ n) (_g1 : n ≤ 9223372036854775807) (_hk : (if n < 0 then 1 else 0) < kk), Calls Tryz.prog 61 #[.int .i64 n] w0 (Ret w0 (fun v _ => v = St (decS n))) := by
 intro kk
 induction kk with
 | zero => intro w0 n g0 g1 hk; exact absurd hk (by omega)
 | succ kk ih =>
 intro w0 n g0 g1 hk
 refine enter (N := 23) Tryz.func61 rfl rfl rfl ?_
 intro A H
 have hx0 := Ext.rfl' w0
 revert A; refine go ?_; intro A H
 by_cases c4 : n < (0 : Int)
 rw [decide_eq_true c4] at H
 revert A; refine go ?_; intro A H
 refine wv H ((op_neg H rfl rfl).int (IntWalk.i64_in _ (by omega))) ?_
 clear H A; intro A H
 refine wc H cb61 (ih _ (0 - n) gd gd (by rw [if_neg (by omega)]; rw [if_pos (by omega)] at hk; omega)) ?_
 clear H A; rintro v7 w8 he9 rfl A H
 obtain ⟨hx11, _⟩ := nx hx0 he9
 refine wv H (op_sadd H rfl rfl rfl (by have h1 := decS_len (n := 0 - n) (by omega); rw [List.length_singleton]; omega)) ?_
 clear H A; refine go ?_; intro A H
 refine ret1 H rfl rfl ?_
 clear H A
 exact ret_mk hx11 (congrArg St (by (conv => rhs; unfold decS); rw [if_pos (by omega), decS_nn (by omega)]; rfl))
 rw [decide_eq_false c4] at H
 revert A; refine go ?_; intro A H
 refine loop_inv (X := Int × Str) (fun ⟨m, t⟩ fr wl => Sl 23 fr [(0, .int .i64 m), (3, St t)] ∧ Ext w0 wl ∧ w0.heap.size ≤ wl.heap.size ∧ (0 ≤ m) ∧ (m ≤ 9223372036854775807) ∧ (digs m.toNat ++ t = decS n) ∧ (0 ≤ n)) (fun ⟨m, t⟩ => m.toNat) (n, ([] : Str)) ?_ ?_
 exact ⟨(sl H), hx0, (by omega), (by omega), (by omega), (by rw [decS_nn (by omega)]; simp), (by omega)⟩
 clear H A
 rintro ⟨m, t⟩ A w15 ⟨H, hx16, hzl18, hm0, hm1, hF, hn⟩
 have hzhx16 := hx16.size
 revert A; refine go ?_; intro A H
 refine wv H ((op_rem H rfl rfl rfl (by omega)).int (Int.tmod_eq_emod_of_nonneg (by omega))) ?_
 clear H A; intro A H
 refine wv H ((op_add H rfl rfl rfl).int (IntWalk.i64_in _ (by omega))) ?_
 clear H A; intro A H
 refine wv H ((op_conv_int H rfl U2 U5 rfl).int (IntWalk.u8_in _ (by omega))) ?_
 clear H A; intro A H
 refine we H (op_buildSlice (s := shU8) (xs := [UInt8.ofNat ((48 + (m.toNat % 10)))]) (cs := [.int .u8 ((48 : Int) + (m % (10 : Int)))]) (vs := [(0, .int .u8 ((48 : Int) + (m % (10 : Int))))]) (S := fun _ => False) (le := w15.heap.size) H rfl pos_shU8 U22 ti5 rfl rfl (by decide) (by kernel_rfl) (Els.single (mk_shU8i ((48 + (m.toNat % 10))) (by omega) (by omega))) (fun _ h => h.elim)) ?_
 clear H A; rintro v23 w24 ⟨ho25, he26, hob27⟩ A H
 obtain ⟨hx29, _⟩ := nx hx16 he26
 refine wv H (op_conv_str H rfl U22 U5 U9 rfl (ho25.rds pos_shU8)) ?_
 clear H A; intro A H
 refine wv H (op_move H rfl rfl) ?_
 clear H A; intro A H
 refine wv H (op_sadd H rfl rfl rfl (by have h1 := digs_len19 (n := n.toNat) (by omega); rw [← decS_nn hn, ← hF, List.length_append] at h1; have h2 := digs_pos m.toNat; simp; omega)) ?_
 clear H A; refine go ?_; intro A H
 refine wv H ((op_quo H rfl rfl rfl (by omega)).int (IntWalk.i64_quo _ _ (by omega))) ?_
 clear H A; refine go ?_; intro A H
 by_cases c39 : (m / (10 : Int)) = (0 : Int)
 rw [decide_eq_true c39] at H
 revert A; refine go ?_; intro A H
 refine ret1 H rfl rfl ?_
 clear H A
 exact ret_mk hx29 (congrArg St (by rw [← hF, digs_lt (by omega)]))
 rw [decide_eq_false c39] at H
 revert A; refine go ?_; intro A H
 refine ⟨((m / (10 : Int)), ([UInt8.ofNat ((48 + (m.toNat % 10)))]) ++ t), ?_, ?_⟩
 refine ⟨(sl H), hx29, (by omega), (by omega), (by omega), (by rw [digs_ge (by omega)] at hF; rw [← hF]; have e : (m / 10).toNat = m.toNat / 10 := (by omega); rw [e]; simp), (by omega)⟩
 show (((m / (10 : Int))).toNat : Nat) < m.toNat; omega

theorem c_impl_decimal (w0 : World) (n : Int) (g0 : -9223372036854775807 ≤ n) (g1 : n ≤ 9223372036854775807) : Calls Tryz.prog 61 #[.int .i64 n] w0 (Ret w0 (fun v _ => v = St (decS n))) := c_impl_decimal_ind ((if n < 0 then 1 else 0) + 1) w0 n g0 g1 (by omega)

theorem c_spec_l01Number (w0 : World) (n : Int) (g0 : -9223372036854775807 ≤ n) (g1 : n ≤ 9223372036854775807) :
    Calls Tryz.prog 141 #[.int .i64 n] w0 (Ret w0 (fun v _ => v = St (decS n))) := by
 refine enter (N := 11) Tryz.func141 rfl rfl rfl ?_
 intro A H
 have hx0 := Ext.rfl' w0
 revert A; refine go ?_; intro A H
 by_cases c4 : n < (0 : Int)
 rw [decide_eq_true c4] at H
 revert A; refine go ?_; intro A H
 refine wv H ((op_neg H rfl rfl).int (IntWalk.i64_in _ (by omega))) ?_
 clear H A; intro A H
 refine wc H cb67 (c_spec_l01Dec _ (0 - n) gd gd) ?_
 clear H A; rintro v7 w8 he9 rfl A H
 obtain ⟨hx11, _⟩ := nx hx0 he9
 refine wv H (op_sadd H rfl rfl rfl (by have h1 := decS_len (n := 0 - n) (by omega); rw [List.length_singleton]; omega)) ?_
 clear H A; refine go ?_; intro A H
 refine ret1 H rfl rfl ?_
 clear H A
 exact ret_mk hx11 (congrArg St (by rw [num_neg (n := n) (by omega)]; rfl))
 rw [decide_eq_false c4] at H
 revert A; refine go ?_; intro A H
 refine wc H cb67 (c_spec_l01Dec _ n gd gd) ?_
 clear H A; rintro v15 w16 he17 rfl A H
 obtain ⟨hx19, _⟩ := nx hx0 he17
 revert A; refine go ?_; intro A H
 refine ret1 H rfl rfl ?_
 clear H A
 exact ret_mk hx19 (congrArg St (by rfl))



theorem c_impl_measure (w0 : World) (n : Int) (g0 : -1000000000000 ≤ n ∧ n ≤ 1000000000000) :
    Calls Tryz.prog 126 #[.int .i64 n] w0 (Ret w0 (fun v _ => v = St (meS n))) := by
 refine enter (N := 18) Tryz.func126 rfl rfl rfl ?_
 intro A H
 have hx0 := Ext.rfl' w0
 revert A; refine go ?_; intro A H
 by_cases c5 : n < (0 : Int)
 rw [decide_eq_true c5] at H
 revert A; refine go ?_; intro A H
 refine wv H ((op_neg H rfl rfl).int (IntWalk.i64_in _ (by omega))) ?_
 clear H A; refine go ?_; intro A H
 refine wv H ((op_quo H rfl rfl rfl (by omega)).int (IntWalk.i64_quo _ _ (by omega))) ?_
 clear H A; intro A H
 refine wc H cb61 (c_impl_decimal _ ((0 - n) / (10 : Int)) (by omega) (by omega)) ?_
 clear H A; rintro v13 w14 he15 rfl A H
 obtain ⟨hx17, _⟩ := nx hx0 he15
 refine wv H (op_sadd H rfl rfl rfl (by have h1 := decS_len (n := (0 - n) / 10) (by omega); have h2 := decS_len (n := (0 - n) % 10) (by omega); simp only [List.length_cons, List.length_nil]; omega)) ?_
 clear H A; intro A H
 refine wv H (op_sadd H rfl rfl rfl (by have h1 := decS_len (n := (0 - n) / 10) (by omega); have h2 := decS_len (n := (0 - n) % 10) (by omega); simp only [List.length_append, List.length_cons, List.length_nil]; omega)) ?_
 clear H A; intro A H
 refine wv H (op_move H rfl rfl) ?_
 clear H A; intro A H
 refine wv H ((op_rem H rfl rfl rfl (by omega)).int (Int.tmod_eq_emod_of_nonneg (by omega))) ?_
 clear H A; intro A H
 refine wc H cb61 (c_impl_decimal _ ((0 - n) % (10 : Int)) (by omega) (by omega)) ?_
 clear H A; rintro v22 w23 he24 rfl A H
 obtain ⟨hx26, _⟩ := nx hx17 he24
 refine wv H (op_sadd H rfl rfl rfl (by have h1 := decS_len (n := (0 - n) / 10) (by omega); have h2 := decS_len (n := (0 - n) % 10) (by omega); simp only [List.length_append, List.length_cons, List.length_nil]; omega)) ?_
 clear H A; refine go ?_; intro A H
 refine ret1 H rfl rfl ?_
 clear H A
 exact ret_mk hx26 (congrArg St (by unfold meS; (rw [if_pos (by omega)]; simp; done)))
 rw [decide_eq_false c5] at H
 revert A; refine go ?_; intro A H
 refine wv H ((op_quo H rfl rfl rfl (by omega)).int (IntWalk.i64_quo _ _ (by omega))) ?_
 clear H A; intro A H
 refine wc H cb61 (c_impl_decimal _ (n / (10 : Int)) (by omega) (by omega)) ?_
 clear H A; rintro v32 w33 he34 rfl A H
 obtain ⟨hx36, _⟩ := nx hx0 he34
 refine wv H (op_sadd H rfl rfl rfl (by have h1 := decS_len (n := n / 10) (by omega); have h2 := decS_len (n := n % 10) (by omega); simp only [List.length_nil]; omega)) ?_
 clear H A; intro A H
 refine wv H (op_sadd H rfl rfl rfl (by have h1 := decS_len (n := n / 10) (by omega); have h2 := decS_len (n := n % 10) (by omega); simp only [List.length_append, List.length_cons, List.length_nil]; omega)) ?_
 clear H A; intro A H
 refine wv H (op_move H rfl rfl) ?_
 clear H A; intro A H
 refine wv H ((op_rem H rfl rfl rfl (by omega)).int (Int.tmod_eq_emod_of_nonneg (by omega))) ?_
 clear H A; intro A H
 refine wc H cb61 (c_impl_decimal _ (n % (10 : Int)) (by omega) (by omega)) ?_
 clear H A; rintro v41 w42 he43 rfl A H
 obtain ⟨hx45, _⟩ := nx hx36 he43
 refine wv H (op_sadd H rfl rfl rfl (by have h1 := decS_len (n := n / 10) (by omega); have h2 := decS_len (n := n % 10) (by omega); simp only [List.length_append, List.length_cons, List.length_nil]; omega)) ?_
 clear H A; refine go ?_; intro A H
 refine ret1 H rfl rfl ?_
 clear H A
 exact ret_mk hx45 (congrArg St (by unfold meS; (rw [if_neg (by omega)]; simp; done)))



theorem c_spec_l01Measure_ind : ∀ (kk : Nat) (w0 : World) (n : Int) (_g0 : -1000000000000 ≤ n ∧ n ≤ 1000000000000) (_hk : (if n < 0 then 1 else 0) < kk), Calls Tryz.prog 154 #[.int .i64 n] w0 (Ret w0 (fun v _ => v = St (meS n))) := by
 intro kk
 induction kk with
 | zero => intro w0 n g0 hk; exact absurd hk (by omega)
 | succ kk ih =>
 intro w0 n g0 hk
 refine enter (N := 17) Tryz.func154 rfl rfl rfl ?_
 intro A H
 have hx0 := Ext.rfl' w0
 revert A; refine go ?_; intro A H
 by_cases c4 : n < (0 : Int)
 rw [decide_eq_true c4] at H
 revert A; refine go ?_; intro A H
 refine wv H ((op_neg H rfl rfl).int (IntWalk.i64_in _ (by omega))) ?_
 clear H A; intro A H
 refine wc H cb154 (ih _ (0 - n) (by omega) (by rw [if_neg (by omega)]; rw [if_pos (by omega)] at hk; omega)) ?_
 clear H A; rintro v7 w8 he9 rfl A H
 obtain ⟨hx11, _⟩ := nx hx0 he9
 refine wv H (op_sadd H rfl rfl rfl (by have h3 := meS_len (n := 0 - n) (by omega); simp only [List.length_cons, List.length_nil]; omega)) ?_
 clear H A; refine go ?_; intro A H
 refine ret1 H rfl rfl ?_
 clear H A
 exact ret_mk hx11 (congrArg St (by exact (meS_neg (by omega)).symm))
 rw [decide_eq_false c4] at H
 revert A; refine go ?_; intro A H
 refine wv H ((op_quo H rfl rfl rfl (by omega)).int (IntWalk.i64_quo _ _ (by omega))) ?_
 clear H A; intro A H
 refine wc H cb67 (c_spec_l01Dec _ (n / (10 : Int)) (by omega) (by omega)) ?_
 clear H A; rintro v16 w17 he18 rfl A H
 obtain ⟨hx20, _⟩ := nx hx0 he18
 refine wv H (op_sadd H rfl rfl rfl (by have h1 := decS_len (n := n / 10) (by omega); have h2 := decS_len (n := n % 10) (by omega); simp only [List.length_cons, List.length_nil]; omega)) ?_
 clear H A; intro A H
 refine wv H (op_move H rfl rfl) ?_
 clear H A; intro A H
 refine wv H ((op_rem H rfl rfl rfl (by omega)).int (Int.tmod_eq_emod_of_nonneg (by omega))) ?_
 clear H A; intro A H
 refine wc H cb67 (c_spec_l01Dec _ (n % (10 : Int)) (by omega) (by omega)) ?_
 clear H A; rintro v24 w25 he26 rfl A H
 obtain ⟨hx28, _⟩ := nx hx20 he26
 refine wv H (op_sadd H rfl rfl rfl (by have h1 := decS_len (n := n / 10) (by omega); have h2 := decS_len (n := n % 10) (by omega); simp only [List.length_append, List.length_cons, List.length_nil]; omega)) ?_
 clear H A; refine go ?_; intro A H
 refine ret1 H rfl rfl ?_
 clear H A
 exact ret_mk hx28 (congrArg St (by unfold meS; (rw [if_neg (by omega)]; done)))

theorem c_spec_l01Measure (w0 : World) (n : Int) (g0 : -1000000000000 ≤ n ∧ n ≤ 1000000000000) : Calls Tryz.prog 154 #[.int .i64 n] w0 (Ret w0 (fun v _ => v = St (meS n))) := c_spec_l01Measure_ind ((if n < 0 then 1 else 0) + 1) w0 n g0 (by omega)

theorem c_impl_MeasureText (w0 : World) (n : Int)  :
    Calls Tryz.prog 108 #[.int .i64 n] w0 (Ret w0 (fun v _ => v = .tuple #[St (if isV n then meS n else []), .int .i64 (if isV n then 0 else 2)])) := by
 refine enter (N := 9) Tryz.func108 rfl rfl rfl ?_
 intro A H
 have hx0 := Ext.rfl' w0
 revert A; refine go ?_; intro A H
 refine wc H cb125 (c_impl_isValue _ n ) ?_
 clear H A; rintro v4 w5 he6 rfl A H
 obtain ⟨hx8, _⟩ := nx hx0 he6
 revert A; refine go ?_; intro A H
 rcases Bool.eq_false_or_eq_true (isV n) with c10 | c10
 rw [c10] at H
 have hvc10 := isV_bd c10
 revert A; refine go ?_; intro A H
 refine wc H cb126 (c_impl_measure _ n (by omega)) ?_
 clear H A; rintro v12 w13 he14 rfl A H
 obtain ⟨hx16, _⟩ := nx hx8 he14
 revert A; refine go ?_; intro A H
 refine ret2 H rfl rfl rfl ?_
 clear H A
 exact ret_mk hx16 (tup2_eq (congrArg St (by simp [c10])) (int_eq (by simp [c10])))
 rw [c10] at H
 revert A; refine go ?_; intro A H
 refine ret2 H rfl rfl rfl ?_
 clear H A
 exact ret_mk hx8 (tup2_eq (congrArg St (by simp [c10])) (int_eq (by simp [c10])))



theorem c_spec_MeasureText (w0 : World) (n : Int)  :
    Calls Tryz.prog 134 #[.int .i64 n] w0 (Ret w0 (fun v _ => v = .tuple #[St (if isV n then meS n else []), .int .i64 (if isV n then 0 else 2)])) := by
 refine enter (N := 9) Tryz.func134 rfl rfl rfl ?_
 intro A H
 have hx0 := Ext.rfl' w0
 revert A; refine go ?_; intro A H
 refine wc H cb153 (c_spec_l01Is _ n ) ?_
 clear H A; rintro v4 w5 he6 rfl A H
 obtain ⟨hx8, _⟩ := nx hx0 he6
 revert A; refine go ?_; intro A H
 rcases Bool.eq_false_or_eq_true (isV n) with c10 | c10
 rw [c10] at H
 have hvc10 := isV_bd c10
 revert A; refine go ?_; intro A H
 refine wc H cb154 (c_spec_l01Measure _ n (by omega)) ?_
 clear H A; rintro v12 w13 he14 rfl A H
 obtain ⟨hx16, _⟩ := nx hx8 he14
 revert A; refine go ?_; intro A H
 refine ret2 H rfl rfl rfl ?_
 clear H A
 exact ret_mk hx16 (tup2_eq (congrArg St (by simp [c10])) (int_eq (by simp [c10])))
 rw [c10] at H
 revert A; refine go ?_; intro A H
 refine ret2 H rfl rfl rfl ?_
 clear H A
 exact ret_mk hx8 (tup2_eq (congrArg St (by simp [c10])) (int_eq (by simp [c10])))



theorem c_impl_joinWith (w0 : World) (v_list : Value) (list : List Str) {S_list : Nat → Prop} (between : Str) (h_list : Rds shStr S_list w0 v_list list) (g0 : (joinG between 0 list).length ≤ 1048576) :
    Calls Tryz.prog 118 #[v_list, St between] w0 (Ret w0 (fun v _ => v = St (joinG between 0 list))) := by
 refine enter (N := 25) Tryz.func118 rfl rfl rfl ?_
 intro A H
 have hx0 := Ext.rfl' w0
 have hl_list := h_list.length_le
 revert A; refine go ?_; intro A H
 refine wv H (ln H U25 h_list) ?_
 clear H A; refine go ?_; intro A H
 refine loop_inv (X := Nat × Str) (fun ⟨i, o⟩ fr wl => Sl 25 fr [(1, St between), (5, St o), (8, v_list), (9, .int .i64 ((list.length : Nat) : Int)), (10, .int .i64 ((i : Nat) : Int))] ∧ Ext w0 wl ∧ w0.heap.size ≤ wl.heap.size ∧ (i ≤ list.length) ∧ (o ++ joinG between i (list.drop i) = joinG between 0 list)) (fun ⟨i, o⟩ => list.length - i) (0, ([] : Str)) ?_ ?_
 exact ⟨(sl H), hx0, (by omega), (by omega), (by rfl)⟩
 clear H A
 rintro ⟨i, o⟩ A w6 ⟨H, hx7, hzl9, hi, hF⟩
 have hzhx7 := hx7.size
 revert A; refine go ?_; intro A H
 by_cases c11 : ((i : Nat) : Int) < ((list.length : Nat) : Int)
 rw [decide_eq_true c11] at H
 revert A; refine go ?_; intro A H
 obtain ⟨x13, hx13⟩ := get_ex (xs := list) (j := i) (by omega)
 obtain ⟨p14, hi16, hc17, b20, hs19⟩ := at_shStr h_list hx13
 refine wv H (ix H U25 ti9 hi16) ?_
 clear H A; intro A H
 refine wv H (lh H U9 (hc17.ext hx7)) ?_
 clear H A; refine go ?_; intro A H
 by_cases c27 : (0 : Int) < ((i : Nat) : Int)
 rw [decide_eq_true c27] at H
 revert A; refine go ?_; intro A H
 refine wv H (op_sadd H rfl rfl rfl (by have h9 := congrArg List.length hF; rw [drop_cons hx13, joinG] at h9; simp only [List.length_append] at h9 ⊢; split at h9 <;> (omega))) ?_
 clear H A; refine go ?_; intro A H
 refine wv H (op_sadd H rfl rfl rfl (by have h9 := congrArg List.length hF; rw [drop_cons hx13, joinG] at h9; simp only [List.length_append] at h9 ⊢; split at h9 <;> (omega))) ?_
 clear H A; refine go ?_; intro A H
 refine wv H ((op_add H rfl rfl rfl).int (IntWalk.i64_in _ (by omega))) ?_
 clear H A; refine go ?_; intro A H
 refine ⟨((i + 1), (o ++ between) ++ x13), ?_, ?_⟩
 refine ⟨(sl H), hx7, (by omega), (by omega), (by rw [drop_cons hx13, joinG] at hF; (rw [if_pos (by omega)] at hF; rw [← hF]; simp; done))⟩
 show (list.length - ((i + 1)) : Nat) < list.length - i; omega
 rw [decide_eq_false c27] at H
 revert A; refine go ?_; intro A H
 refine wv H (op_sadd H rfl rfl rfl (by have h9 := congrArg List.length hF; rw [drop_cons hx13, joinG] at h9; simp only [List.length_append] at h9 ⊢; split at h9 <;> (omega))) ?_
 clear H A; refine go ?_; intro A H
 refine wv H ((op_add H rfl rfl rfl).int (IntWalk.i64_in _ (by omega))) ?_
 clear H A; refine go ?_; intro A H
 refine ⟨((i + 1), o ++ x13), ?_, ?_⟩
 refine ⟨(sl H), hx7, (by omega), (by omega), (by rw [drop_cons hx13, joinG] at hF; (rw [if_neg (by omega)] at hF; rw [← hF]; simp; done))⟩
 show (list.length - ((i + 1)) : Nat) < list.length - i; omega
 rw [decide_eq_false c11] at H
 revert A; refine go ?_; intro A H
 refine ret1 H rfl rfl ?_
 clear H A
 exact ret_mk hx7 (congrArg St (by rw [drop_nil (by omega), joinG, List.append_nil] at hF; exact hF))



theorem c_spec_l01Words (w0 : World) (v_words : Value) (words : List Str) {S_words : Nat → Prop} (bt : Str) (h_words : Rds shStr S_words w0 v_words words) (g0 : (joinG bt 0 words).length ≤ 1048576) :
    Calls Tryz.prog 152 #[v_words, St bt] w0 (Ret w0 (fun v _ => v = St (joinG bt 0 words))) := by
 refine enter (N := 25) Tryz.func152 rfl rfl rfl ?_
 intro A H
 have hx0 := Ext.rfl' w0
 have hl_words := h_words.length_le
 revert A; refine go ?_; intro A H
 refine loop_inv (X := Nat × Str) (fun ⟨i, o⟩ fr wl => Sl 25 fr [(0, v_words), (1, St bt), (5, St o), (6, .int .i64 ((i : Nat) : Int))] ∧ Ext w0 wl ∧ w0.heap.size ≤ wl.heap.size ∧ (i ≤ words.length) ∧ (o ++ joinG bt i (words.drop i) = joinG bt 0 words)) (fun ⟨i, o⟩ => words.length - i) (0, ([] : Str)) ?_ ?_
 exact ⟨(sl H), hx0, (by omega), (by omega), (by rfl)⟩
 clear H A
 rintro ⟨i, o⟩ A w4 ⟨H, hx5, hzl7, hi, hF⟩
 have hzhx5 := hx5.size
 revert A; refine go ?_; intro A H
 refine wv H (ln H U25 h_words) ?_
 clear H A; refine go ?_; intro A H
 by_cases c12 : ((i : Nat) : Int) < ((words.length : Nat) : Int)
 rw [decide_eq_true c12] at H
 revert A; refine go ?_; intro A H
 by_cases c15 : (0 : Int) < ((i : Nat) : Int)
 rw [decide_eq_true c15] at H
 revert A; refine go ?_; intro A H
 obtain ⟨x18, hx18⟩ := get_ex (xs := words) (j := i) (by omega)
 obtain ⟨p19, hi21, hc22, b25, hs24⟩ := at_shStr h_words hx18
 refine wv H (op_sadd H rfl rfl rfl (by have h9 := congrArg List.length hF; rw [drop_cons hx18, joinG] at h9; simp only [List.length_append] at h9 ⊢; split at h9 <;> (omega))) ?_
 clear H A; refine go ?_; intro A H
 refine wv H (ix H U25 ti9 hi21) ?_
 clear H A; intro A H
 refine wv H (lh H U9 (hc22.ext hx5)) ?_
 clear H A; intro A H
 refine wv H (op_sadd H rfl rfl rfl (by have h9 := congrArg List.length hF; rw [drop_cons hx18, joinG] at h9; simp only [List.length_append] at h9 ⊢; split at h9 <;> (omega))) ?_
 clear H A; refine go ?_; intro A H
 refine wv H ((op_add H rfl rfl rfl).int (IntWalk.i64_in _ (by omega))) ?_
 clear H A; refine go ?_; intro A H
 refine ⟨((i + 1), (o ++ bt) ++ x18), ?_, ?_⟩
 refine ⟨(sl H), hx5, (by omega), (by omega), (by rw [drop_cons hx18, joinG] at hF; (rw [if_pos (by omega)] at hF; rw [← hF]; simp; done))⟩
 show (words.length - ((i + 1)) : Nat) < words.length - i; omega
 rw [decide_eq_false c15] at H
 revert A; refine go ?_; intro A H
 obtain ⟨x41, hx41⟩ := get_ex (xs := words) (j := i) (by omega)
 obtain ⟨p42, hi44, hc45, b48, hs47⟩ := at_shStr h_words hx41
 refine wv H (ix H U25 ti9 hi44) ?_
 clear H A; intro A H
 refine wv H (lh H U9 (hc45.ext hx5)) ?_
 clear H A; intro A H
 refine wv H (op_sadd H rfl rfl rfl (by have h9 := congrArg List.length hF; rw [drop_cons hx41, joinG] at h9; simp only [List.length_append] at h9 ⊢; split at h9 <;> (omega))) ?_
 clear H A; refine go ?_; intro A H
 refine wv H ((op_add H rfl rfl rfl).int (IntWalk.i64_in _ (by omega))) ?_
 clear H A; refine go ?_; intro A H
 refine ⟨((i + 1), o ++ x41), ?_, ?_⟩
 refine ⟨(sl H), hx5, (by omega), (by omega), (by rw [drop_cons hx41, joinG] at hF; (rw [if_neg (by omega)] at hF; rw [← hF]; simp; done))⟩
 show (words.length - ((i + 1)) : Nat) < words.length - i; omega
 rw [decide_eq_false c12] at H
 revert A; refine go ?_; intro A H
 refine ret1 H rfl rfl ?_
 clear H A
 exact ret_mk hx5 (congrArg St (by rw [drop_nil (by omega), joinG, List.append_nil] at hF; exact hF))




end Go.Proofs.YthbehhhblchhhaaGreat
