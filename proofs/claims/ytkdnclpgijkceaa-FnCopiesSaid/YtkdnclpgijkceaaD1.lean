/- Decimal texts. -/
import Derived.Test.YtkdnclpgijkceaaShapes
namespace Go.Proofs.Ytkdnclpgijkceaa
open Go Go.RowKit

/-- The digits of a number. -/
def digs (n : Nat) : Str := if h : n < 10 then [UInt8.ofNat (48 + n % 10)] else digs (n / 10) ++ [UInt8.ofNat (48 + n % 10)]
termination_by n
decreasing_by omega
def decS (n : Int) : Str := if n < 0 then 45 :: digs (0 - n).toNat else digs n.toNat
theorem digs_lt {n : Nat} (h : n < 10) : digs n = [UInt8.ofNat (48 + n % 10)] := by rw [digs, dif_pos h]
theorem digs_ge {n : Nat} (h : ¬ n < 10) : digs n = digs (n / 10) ++ [UInt8.ofNat (48 + n % 10)] := by rw [digs, dif_neg h]
theorem digs_len : ∀ (k n : Nat), n < 10 ^ (k + 1) → (digs n).length ≤ k + 1 := by
  intro k
  induction k with
  | zero => intro n h; rw [digs_lt (by simpa using h)]; simp
  | succ k ih =>
    intro n h
    by_cases h10 : n < 10
    · rw [digs_lt h10]; simp
    · rw [digs_ge h10, List.length_append]
      have := ih (n / 10) (by rw [Nat.pow_succ] at h; omega)
      simp; omega
theorem digs_pos (n : Nat) : 1 ≤ (digs n).length := by
  by_cases h : n < 10
  · rw [digs_lt h]; simp
  · rw [digs_ge h]; simp
theorem digs_len19 {n : Nat} (h : n ≤ 9223372036854775807) : (digs n).length ≤ 19 := digs_len 18 n (by omega)
theorem decS_len {n : Int} (h : -9223372036854775808 ≤ n ∧ n ≤ 9223372036854775807) : (decS n).length ≤ 20 := by
  unfold decS
  split
  · by_cases e : n = -9223372036854775808
    · subst e
      have := digs_len 18 9223372036854775808 (by omega)
      simp only [List.length_cons]
      have e2 : (0 - (-9223372036854775808 : Int)).toNat = 9223372036854775808 := by decide
      rw [e2]; omega
    · have := digs_len19 (n := (0 - n).toNat) (by omega); rw [List.length_cons]; omega
  · have := digs_len19 (n := n.toNat) (by omega); omega
theorem decS_nn {n : Int} (h : 0 ≤ n) : decS n = digs n.toNat := by unfold decS; rw [if_neg (by omega)]
theorem decS_lt {n : Int} (h0 : 0 ≤ n) (h : n < 10) : decS n = [UInt8.ofNat (48 + n.toNat)] := by
  rw [decS_nn h0, digs_lt (by omega)]; congr 3; omega
theorem decS_ge {n : Int} (h0 : 0 ≤ n) (h : ¬ n < 10) : decS n = decS (n / 10) ++ [UInt8.ofNat (48 + n.toNat % 10)] := by
  rw [decS_nn h0, decS_nn (by omega), digs_ge (by omega)]
  have : (n / 10).toNat = n.toNat / 10 := by omega
  rw [this]

theorem c_spec_l01Dec_ind : ∀ (kk : Nat) (w0 : World) (n : Int) (g0 : 0 ≤ n) (g1 : n ≤ 9223372036854775807) (_hk : n.toNat < kk), Calls Try.prog 73 #[.int .i64 n] w0 (Ret w0 (fun v _ => v = St (decS n))) := by
 intro kk
 induction kk with
 | zero => intro w0 n g0 g1 hk; exact absurd hk (by omega)
 | succ kk ih =>
 intro w0 n g0 g1 hk
 refine enter (N := 20) Try.func73 rfl rfl rfl ?_
 intro a0 ha0
 have hx0 := Ext.rfl' w0
 refine wp_seq ?_
 refine wp_region_lit ?_
 refine wl_val ha0 rfl rfl rfl (op_assign ha0 rfl rfl) ?_
 intro a1 ha1; clear ha0 a0
 refine wpList_nil ?_
 refine then_n ?_
 refine wp_seq ?_
 refine wp_seq ?_
 refine wp_region_lit ?_
 refine wl_val ha1 rfl rfl rfl (op_move ha1 rfl rfl) ?_
 intro a2 ha2; clear ha1 a1
 refine wl_val ha2 rfl rfl rfl (op_lss ha2 rfl rfl rfl) ?_
 intro a3 ha3; clear ha2 a2
 refine wpList_nil ?_
 refine then_n ?_
 by_cases c4 : n < (10 : Int)
 ·
  rw [decide_eq_true c4] at ha3
  refine cond_t ha3 rfl ?_
  refine wp_seq ?_
  refine wp_region_lit ?_
  refine wl_val ha3 rfl rfl rfl (op_move ha3 rfl rfl) ?_
  intro a5 ha5; clear ha3 a3
  refine wl_val ha5 rfl rfl rfl ((op_add ha5 rfl rfl rfl).int (IntWalk.i64_in _ (by omega))) ?_
  intro a6 ha6; clear ha5 a5
  refine wl_val ha6 rfl rfl rfl ((op_conv_int ha6 rfl Try.underlying2 Try.underlying5 rfl).int (IntWalk.u8_in _ (by omega))) ?_
  intro a7 ha7; clear ha6 a6
  refine wl_eff ha7 rfl rfl rfl (op_buildSlice (s := shU8) (xs := [UInt8.ofNat ((48 + n.toNat))]) (cs := [.int .u8 ((48 : Int) + n)]) (vs := [(0, .int .u8 ((48 : Int) + n))]) (S := fun _ => False) (le := w0.heap.size) ha7 rfl pos_shU8 Try.underlying51 ti5 rfl rfl (by decide) (by kernel_rfl) (Els.single (mk_shU8i ((48 + n.toNat)) (by omega) (by omega))) (fun _ h => h.elim)) ?_
  rintro v8 w9 ⟨ho10, he11, hob12⟩ a13 ha13; clear ha7 a7
  have hx14 := hx0.trans' he11
  have hzhx14 := he11.size
  refine wl_val ha13 rfl rfl rfl (op_conv_str ha13 rfl Try.underlying51 Try.underlying5 Try.underlying9 rfl (ho10.rds pos_shU8)) ?_
  intro a15 ha15; clear ha13 a13
  refine wl_val ha15 rfl rfl rfl (op_assign ha15 rfl rfl) ?_
  intro a16 ha16; clear ha15 a15
  refine wpList_nil ?_
  refine then_n ?_
  refine wp_ret ?_
  refine then_r ?_
  refine ret1 ha16 rfl rfl ?_
  clear ha16 a16
  exact ret_mk hx14 (congrArg St (by rw [decS_lt (n := n) (by omega) (by omega)]))
 ·
  rw [decide_eq_false c4] at ha3
  refine cond_f ha3 rfl ?_
  refine wp_skip ?_
  refine then_n ?_
  refine wp_seq ?_
  refine dr_enter Ext follows_mixed ?_
  intro w17 he18
  have hx19 := hx0.trans' he18
  have hzhx19 := he18.size
  have hs20 : Ext w17 w17 := Ext.rfl' _
  refine dr_val (i := 0) ha3 rfl (by kernel_rfl) (by kernel_rfl) (by kernel_rfl) rfl rfl rfl hs20 (fun w' hw' => op_move ha3 rfl rfl) ?_
  intro a21 ha21; clear ha3 a3
  refine dr_val (i := 1) ha21 rfl (by kernel_rfl) (by kernel_rfl) (by kernel_rfl) rfl rfl rfl hs20 (fun w' hw' => (op_quo ha21 rfl rfl rfl (by omega)).int (IntWalk.i64_quo _ _ (by omega))) ?_
  intro a22 ha22; clear ha21 a21
  refine dr_val (i := 3) ha22 rfl (by kernel_rfl) (by kernel_rfl) (by kernel_rfl) rfl rfl rfl hs20 (fun w' hw' => op_move ha22 rfl rfl) ?_
  intro a23 ha23; clear ha22 a22
  refine dr_val (i := 4) ha23 rfl (by kernel_rfl) (by kernel_rfl) (by kernel_rfl) rfl rfl rfl hs20 (fun w' hw' => (op_rem ha23 rfl rfl rfl (by omega)).int (Int.tmod_eq_emod_of_nonneg (by omega))) ?_
  intro a24 ha24; clear ha23 a23
  refine dr_val (i := 5) ha24 rfl (by kernel_rfl) (by kernel_rfl) (by kernel_rfl) rfl rfl rfl hs20 (fun w' hw' => (op_add ha24 rfl rfl rfl).int (IntWalk.i64_in _ (by omega))) ?_
  intro a25 ha25; clear ha24 a24
  refine dr_val (i := 6) ha25 rfl (by kernel_rfl) (by kernel_rfl) (by kernel_rfl) rfl rfl rfl hs20 (fun w' hw' => (op_conv_int ha25 rfl Try.underlying2 Try.underlying5 rfl).int (IntWalk.u8_in _ (by omega))) ?_
  intro a26 ha26; clear ha25 a25
  refine dr_two (i := 2) (j := 7) (by kernel_rfl) ?_ ?_
  ·
   refine po_callR ha26 rfl rfl rfl rfl (op_call ha26 rfl cb73 rfl) (ih _ (n / (10 : Int)) (by first | assumption | omega | (simp; omega) | (simp [mkN_length]; omega)) (by first | assumption | omega | (simp; omega) | (simp [mkN_length]; omega)) (by omega)) ?_
   rintro v27 w28 he29 rfl a30 ha30; clear ha26 a26
   have hs31 := hs20.trans' he29
   have hx32 := hx19.trans' he29
   have hzhx32 := he29.size
   refine ⟨hs31, ?_⟩
   refine dr_one (i := 7) (by kernel_rfl) ?_
   refine po_eff ha30 rfl rfl rfl rfl (op_buildSlice (s := shU8) (xs := [UInt8.ofNat ((48 + (n.toNat % 10)))]) (cs := [.int .u8 ((48 : Int) + (n % (10 : Int)))]) (vs := [(0, .int .u8 ((48 : Int) + (n % (10 : Int))))]) (S := fun _ => False) (le := w28.heap.size) ha30 rfl pos_shU8 Try.underlying51 ti5 rfl rfl (by decide) (by kernel_rfl) (Els.single (mk_shU8i ((48 + (n.toNat % 10))) (by omega) (by omega))) (fun _ h => h.elim)) ?_
   rintro v33 w34 ⟨ho35, he36, hob37⟩ a38 ha38; clear ha30 a30
   have hs39 := hs31.trans' he36
   have hx40 := hx32.trans' he36
   have hzhx40 := he36.size
   refine ⟨hs39, ?_⟩
   refine dr_one (i := 8) (by kernel_rfl) ?_
   refine po_to ha38 rfl rfl rfl rfl (op_conv_str ha38 rfl Try.underlying51 Try.underlying5 Try.underlying9 rfl (ho35.rds pos_shU8)) ?_
   intro a41 ha41; clear ha38 a38
   refine ⟨hs39, ?_⟩
   refine dr_val (i := 9) ha41 rfl (by kernel_rfl) (by kernel_rfl) (by kernel_rfl) rfl rfl rfl hs39 (fun w' hw' => op_sadd ha41 rfl rfl rfl (by (have h1 := decS_len (n := n / 10) (by omega)); simp; omega)) ?_
   intro a42 ha42; clear ha41 a41
   refine dr_val (i := 10) ha42 rfl (by kernel_rfl) (by kernel_rfl) (by kernel_rfl) rfl rfl rfl hs39 (fun w' hw' => op_assign ha42 rfl rfl) ?_
   intro a43 ha43; clear ha42 a42
   refine dr_end (by kernel_rfl) ?_
   refine then_n ?_
   refine wp_ret ?_
   refine ret1 ha43 rfl rfl ?_
   clear ha43 a43
   exact ret_mk hx40 (congrArg St (by rw [decS_ge (n := n) (by omega) (by omega)]))
  ·
   refine po_eff ha26 rfl rfl rfl rfl (op_buildSlice (s := shU8) (xs := [UInt8.ofNat ((48 + (n.toNat % 10)))]) (cs := [.int .u8 ((48 : Int) + (n % (10 : Int)))]) (vs := [(0, .int .u8 ((48 : Int) + (n % (10 : Int))))]) (S := fun _ => False) (le := w17.heap.size) ha26 rfl pos_shU8 Try.underlying51 ti5 rfl rfl (by decide) (by kernel_rfl) (Els.single (mk_shU8i ((48 + (n.toNat % 10))) (by omega) (by omega))) (fun _ h => h.elim)) ?_
   rintro v44 w45 ⟨ho46, he47, hob48⟩ a49 ha49; clear ha26 a26
   have hs50 := hs20.trans' he47
   have hx51 := hx19.trans' he47
   have hzhx51 := he47.size
   refine ⟨hs50, ?_⟩
   refine dr_two (i := 2) (j := 8) (by kernel_rfl) ?_ ?_
   ·
    refine po_callR ha49 rfl rfl rfl rfl (op_call ha49 rfl cb73 rfl) (ih _ (n / (10 : Int)) (by first | assumption | omega | (simp; omega) | (simp [mkN_length]; omega)) (by first | assumption | omega | (simp; omega) | (simp [mkN_length]; omega)) (by omega)) ?_
    rintro v52 w53 he54 rfl a55 ha55; clear ha49 a49
    have hs56 := hs50.trans' he54
    have hx57 := hx51.trans' he54
    have hzhx57 := he54.size
    replace ho46 := ho46.ext he54
    refine ⟨hs56, ?_⟩
    refine dr_one (i := 8) (by kernel_rfl) ?_
    refine po_to ha55 rfl rfl rfl rfl (op_conv_str ha55 rfl Try.underlying51 Try.underlying5 Try.underlying9 rfl (ho46.rds pos_shU8)) ?_
    intro a58 ha58; clear ha55 a55
    refine ⟨hs56, ?_⟩
    refine dr_val (i := 9) ha58 rfl (by kernel_rfl) (by kernel_rfl) (by kernel_rfl) rfl rfl rfl hs56 (fun w' hw' => op_sadd ha58 rfl rfl rfl (by (have h1 := decS_len (n := n / 10) (by omega)); simp; omega)) ?_
    intro a59 ha59; clear ha58 a58
    refine dr_val (i := 10) ha59 rfl (by kernel_rfl) (by kernel_rfl) (by kernel_rfl) rfl rfl rfl hs56 (fun w' hw' => op_assign ha59 rfl rfl) ?_
    intro a60 ha60; clear ha59 a59
    refine dr_end (by kernel_rfl) ?_
    refine then_n ?_
    refine wp_ret ?_
    refine ret1 ha60 rfl rfl ?_
    clear ha60 a60
    exact ret_mk hx57 (congrArg St (by rw [decS_ge (n := n) (by omega) (by omega)]))
   ·
    refine po_to ha49 rfl rfl rfl rfl (op_conv_str ha49 rfl Try.underlying51 Try.underlying5 Try.underlying9 rfl (ho46.rds pos_shU8)) ?_
    intro a61 ha61; clear ha49 a49
    refine ⟨hs50, ?_⟩
    refine dr_one (i := 2) (by kernel_rfl) ?_
    refine po_callR ha61 rfl rfl rfl rfl (op_call ha61 rfl cb73 rfl) (ih _ (n / (10 : Int)) (by first | assumption | omega | (simp; omega) | (simp [mkN_length]; omega)) (by first | assumption | omega | (simp; omega) | (simp [mkN_length]; omega)) (by omega)) ?_
    rintro v62 w63 he64 rfl a65 ha65; clear ha61 a61
    have hs66 := hs50.trans' he64
    have hx67 := hx51.trans' he64
    have hzhx67 := he64.size
    replace ho46 := ho46.ext he64
    refine ⟨hs66, ?_⟩
    refine dr_val (i := 9) ha65 rfl (by kernel_rfl) (by kernel_rfl) (by kernel_rfl) rfl rfl rfl hs66 (fun w' hw' => op_sadd ha65 rfl rfl rfl (by (have h1 := decS_len (n := n / 10) (by omega)); simp; omega)) ?_
    intro a68 ha68; clear ha65 a65
    refine dr_val (i := 10) ha68 rfl (by kernel_rfl) (by kernel_rfl) (by kernel_rfl) rfl rfl rfl hs66 (fun w' hw' => op_assign ha68 rfl rfl) ?_
    intro a69 ha69; clear ha68 a68
    refine dr_end (by kernel_rfl) ?_
    refine then_n ?_
    refine wp_ret ?_
    refine ret1 ha69 rfl rfl ?_
    clear ha69 a69
    exact ret_mk hx67 (congrArg St (by rw [decS_ge (n := n) (by omega) (by omega)]))
theorem c_spec_l01Dec (w0 : World) (n : Int) (g0 : 0 ≤ n) (g1 : n ≤ 9223372036854775807) : Calls Try.prog 73 #[.int .i64 n] w0 (Ret w0 (fun v _ => v = St (decS n))) := c_spec_l01Dec_ind (n.toNat + 1) w0 n g0 g1 (by omega)

theorem c_impl_decimal_ind : ∀ (kk : Nat) (w0 : World) (n : Int) (g0 : -9223372036854775807 ≤ n) (g1 : n ≤ 9223372036854775807) (_hk : (if n < 0 then 1 else 0) < kk), Calls Try.prog 74 #[.int .i64 n] w0 (Ret w0 (fun v _ => v = St (decS n))) := by
 intro kk
 induction kk with
 | zero => intro w0 n g0 g1 hk; exact absurd hk (by omega)
 | succ kk ih =>
 intro w0 n g0 g1 hk
 refine enter (N := 23) Try.func74 rfl rfl rfl ?_
 intro a0 ha0
 have hx0 := Ext.rfl' w0
 refine wp_seq ?_
 refine wp_region_lit ?_
 refine wl_val ha0 rfl rfl rfl (op_assign ha0 rfl rfl) ?_
 intro a1 ha1; clear ha0 a0
 refine wpList_nil ?_
 refine then_n ?_
 refine wp_seq ?_
 refine wp_seq ?_
 refine wp_region_lit ?_
 refine wl_val ha1 rfl rfl rfl (op_move ha1 rfl rfl) ?_
 intro a2 ha2; clear ha1 a1
 refine wl_val ha2 rfl rfl rfl (op_lss ha2 rfl rfl rfl) ?_
 intro a3 ha3; clear ha2 a2
 refine wpList_nil ?_
 refine then_n ?_
 by_cases c4 : n < (0 : Int)
 ·
  rw [decide_eq_true c4] at ha3
  refine cond_t ha3 rfl ?_
  refine wp_seq ?_
  refine wp_region_lit ?_
  refine wl_val ha3 rfl rfl rfl (op_move ha3 rfl rfl) ?_
  intro a5 ha5; clear ha3 a3
  refine wl_val ha5 rfl rfl rfl ((op_neg ha5 rfl rfl).int (IntWalk.i64_in _ (by omega))) ?_
  intro a6 ha6; clear ha5 a5
  refine wl_callR ha6 rfl rfl rfl (op_call ha6 rfl cb74 rfl) (ih _ (0 - n) (by first | assumption | omega | (simp; omega) | (simp [mkN_length]; omega)) (by first | assumption | omega | (simp; omega) | (simp [mkN_length]; omega)) (by rw [if_neg (by omega)]; rw [if_pos (by omega)] at hk; omega)) ?_
  rintro v7 w8 he9 rfl a10 ha10; clear ha6 a6
  have hx11 := hx0.trans' he9
  have hzhx11 := he9.size
  refine wl_val ha10 rfl rfl rfl (op_sadd ha10 rfl rfl rfl (by have h1 := decS_len (n := 0 - n) (by omega); rw [List.length_singleton]; omega)) ?_
  intro a12 ha12; clear ha10 a10
  refine wl_val ha12 rfl rfl rfl (op_assign ha12 rfl rfl) ?_
  intro a13 ha13; clear ha12 a12
  refine wpList_nil ?_
  refine then_n ?_
  refine wp_ret ?_
  refine then_r ?_
  refine ret1 ha13 rfl rfl ?_
  clear ha13 a13
  exact ret_mk hx11 (congrArg St (by (conv => rhs; unfold decS); rw [if_pos (by omega), decS_nn (by omega)]; rfl))
 ·
  rw [decide_eq_false c4] at ha3
  refine cond_f ha3 rfl ?_
  refine wp_skip ?_
  refine then_n ?_
  refine wp_seq ?_
  refine wp_region_lit ?_
  refine wl_val ha3 rfl rfl rfl (op_assign ha3 rfl rfl) ?_
  intro a14 ha14; clear ha3 a3
  refine wpList_nil ?_
  refine then_n ?_
  refine wp_block ?_
  refine loop_inv (X := Int × Str) (fun (⟨m, t⟩ : Int × Str) fr wl => Sl 23 fr [(0, .int .i64 m), (3, St t)] ∧ Ext w0 wl ∧ w0.heap.size ≤ wl.heap.size ∧ (0 ≤ m) ∧ (m ≤ 9223372036854775807) ∧ (digs m.toNat ++ t = decS n) ∧ (0 ≤ n)) (fun (⟨m, t⟩ : Int × Str) => m.toNat) (n, ([] : Str)) ?_ ?_
  ·
   exact ⟨(Sl.cons_ ha14 rfl (int_eq (by omega)) (Sl.cons_ ha14 rfl rfl (Sl.nil_ ha14))), hx0, (by omega), (by omega), (by omega), (by rw [decS_nn (by omega)]; simp), (by omega)⟩
  ·
   clear ha14 a14
   rintro ⟨m, t⟩ a17 w15 ⟨ha17, hx16, hzl18, hm0, hm1, hF, hn⟩
   have hzhx16 := hx16.size
   refine wp_block ?_
   refine wp_seq ?_
   refine wp_region_lit ?_
   refine wl_val ha17 rfl rfl rfl (op_move ha17 rfl rfl) ?_
   intro a19 ha19; clear ha17 a17
   refine wl_val ha19 rfl rfl rfl ((op_rem ha19 rfl rfl rfl (by omega)).int (Int.tmod_eq_emod_of_nonneg (by omega))) ?_
   intro a20 ha20; clear ha19 a19
   refine wl_val ha20 rfl rfl rfl ((op_add ha20 rfl rfl rfl).int (IntWalk.i64_in _ (by omega))) ?_
   intro a21 ha21; clear ha20 a20
   refine wl_val ha21 rfl rfl rfl ((op_conv_int ha21 rfl Try.underlying2 Try.underlying5 rfl).int (IntWalk.u8_in _ (by omega))) ?_
   intro a22 ha22; clear ha21 a21
   refine wl_eff ha22 rfl rfl rfl (op_buildSlice (s := shU8) (xs := [UInt8.ofNat ((48 + (m.toNat % 10)))]) (cs := [.int .u8 ((48 : Int) + (m % (10 : Int)))]) (vs := [(0, .int .u8 ((48 : Int) + (m % (10 : Int))))]) (S := fun _ => False) (le := w15.heap.size) ha22 rfl pos_shU8 Try.underlying51 ti5 rfl rfl (by decide) (by kernel_rfl) (Els.single (mk_shU8i ((48 + (m.toNat % 10))) (by omega) (by omega))) (fun _ h => h.elim)) ?_
   rintro v23 w24 ⟨ho25, he26, hob27⟩ a28 ha28; clear ha22 a22
   have hx29 := hx16.trans' he26
   have hzhx29 := he26.size
   refine wl_val ha28 rfl rfl rfl (op_conv_str ha28 rfl Try.underlying51 Try.underlying5 Try.underlying9 rfl (ho25.rds pos_shU8)) ?_
   intro a30 ha30; clear ha28 a28
   refine wl_val ha30 rfl rfl rfl (op_move ha30 rfl rfl) ?_
   intro a31 ha31; clear ha30 a30
   refine wl_val ha31 rfl rfl rfl (op_sadd ha31 rfl rfl rfl (by have h1 := digs_len19 (n := n.toNat) (by omega); rw [← decS_nn hn, ← hF, List.length_append] at h1; have h2 := digs_pos m.toNat; simp; omega)) ?_
   intro a32 ha32; clear ha31 a31
   refine wl_val ha32 rfl rfl rfl (op_assign ha32 rfl rfl) ?_
   intro a33 ha33; clear ha32 a32
   refine wpList_nil ?_
   refine then_n ?_
   refine wp_seq ?_
   refine wp_region_lit ?_
   refine wl_val ha33 rfl rfl rfl (op_move ha33 rfl rfl) ?_
   intro a34 ha34; clear ha33 a33
   refine wl_val ha34 rfl rfl rfl ((op_quo ha34 rfl rfl rfl (by omega)).int (IntWalk.i64_quo _ _ (by omega))) ?_
   intro a35 ha35; clear ha34 a34
   refine wl_val ha35 rfl rfl rfl (op_assign ha35 rfl rfl) ?_
   intro a36 ha36; clear ha35 a35
   refine wpList_nil ?_
   refine then_n ?_
   refine wp_seq ?_
   refine wp_region_lit ?_
   refine wl_val ha36 rfl rfl rfl (op_move ha36 rfl rfl) ?_
   intro a37 ha37; clear ha36 a36
   refine wl_val ha37 rfl rfl rfl (op_eql ha37 rfl rfl rfl) ?_
   intro a38 ha38; clear ha37 a37
   refine wpList_nil ?_
   refine then_n ?_
   by_cases c39 : (m / (10 : Int)) = (0 : Int)
   ·
    rw [decide_eq_true c39] at ha38
    refine cond_t ha38 rfl ?_
    refine wp_seq ?_
    refine wp_region_lit ?_
    refine wl_val ha38 rfl rfl rfl (op_move ha38 rfl rfl) ?_
    intro a40 ha40; clear ha38 a38
    refine wl_val ha40 rfl rfl rfl (op_assign ha40 rfl rfl) ?_
    intro a41 ha41; clear ha40 a40
    refine wpList_nil ?_
    refine then_n ?_
    refine wp_ret ?_
    refine block_r ?_
    refine then_r ?_
    refine block_r ?_
    refine ret1 ha41 rfl rfl ?_
    clear ha41 a41
    exact ret_mk hx29 (congrArg St (by rw [← hF, digs_lt (by omega)]))
   ·
    rw [decide_eq_false c39] at ha38
    refine cond_f ha38 rfl ?_
    refine wp_skip ?_
    refine block_n ?_
    refine round_end (x := (m, t)) ((m / (10 : Int)), ([UInt8.ofNat ((48 + (m.toNat % 10)))]) ++ t) ?_ ?_
    ·
     refine ⟨(Sl.cons_ ha38 rfl (int_eq (by omega)) (Sl.cons_ ha38 rfl rfl (Sl.nil_ ha38))), hx29, (by omega), (by omega), (by omega), (by rw [digs_ge (by omega)] at hF; rw [← hF]; have e : (m / 10).toNat = m.toNat / 10 := (by omega); rw [e]; simp), (by omega)⟩
    ·show (((m / (10 : Int))).toNat : Nat) < m.toNat; omega
theorem c_impl_decimal (w0 : World) (n : Int) (g0 : -9223372036854775807 ≤ n) (g1 : n ≤ 9223372036854775807) : Calls Try.prog 74 #[.int .i64 n] w0 (Ret w0 (fun v _ => v = St (decS n))) := c_impl_decimal_ind ((if n < 0 then 1 else 0) + 1) w0 n g0 g1 (by omega)


end Go.Proofs.Ytkdnclpgijkceaa
