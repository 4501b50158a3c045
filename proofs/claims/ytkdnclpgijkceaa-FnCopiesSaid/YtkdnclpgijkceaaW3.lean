/- Lines and files. -/
import Derived.Test.YtkdnclpgijkceaaW2
import Derived.Test.YtkdnclpgijkceaaD1
namespace Go.Proofs.Ytkdnclpgijkceaa
open Go Go.RowKit

def chkGo : Int → Str → Int
  | c, [] => c
  | c, b :: s => chkGo ((c * 33 + b.toNat) % 997) s
theorem chkGo_bd : ∀ (s : Str) (c : Int), 0 ≤ c → c ≤ 9999 → 0 ≤ chkGo c s ∧ chkGo c s ≤ 9999
  | [], c, h, k => ⟨h, k⟩
  | b :: s, c, h, k => chkGo_bd s _ (by omega) (by omega)
/-- The line of a record. -/
def lineS (r : Int × Str) : Str := decS r.1 ++ [58] ++ r.2 ++ [35] ++ decS (chkGo r.1 r.2) ++ [10]
theorem recB_bd {r : Int × Str} (h : recB r = true) : 0 ≤ r.1 ∧ r.1 ≤ 9999 ∧ r.2.length ≤ 20 := by
  unfold recB at h; simp at h; omega
theorem lineS_len {r : Int × Str} (h : recB r = true) : (lineS r).length ≤ 70 := by
  obtain ⟨h1, h2, h3⟩ := recB_bd h
  have hc := chkGo_bd r.2 r.1 h1 h2
  have d1 := decS_len (n := r.1) (by omega)
  have d2 := decS_len (n := chkGo r.1 r.2) (by omega)
  unfold lineS
  simp only [List.length_append, List.length_cons, List.length_nil]
  omega
def fileS : List (Int × Str) → Str
  | [] => []
  | r :: rs => lineS r ++ fileS rs
theorem riseB_all : ∀ (xs : List (Int × Str)) (p : Option Int), riseB p xs = true → ∀ r ∈ xs, recB r = true
  | [], _, _, r, h => by simp at h
  | x :: xs, p, h, r, hr => by
    simp only [riseB, Bool.and_eq_true] at h
    rcases List.mem_cons.1 hr with rfl | hr
    · exact h.1.1
    · exact riseB_all xs _ h.2 r hr
theorem areB_all {xs : List (Int × Str)} (h : areB xs = true) : ∀ r ∈ xs, recB r = true := by
  unfold areB at h; simp only [Bool.and_eq_true] at h; exact riseB_all _ _ h.2
theorem areB_len {xs : List (Int × Str)} (h : areB xs = true) : xs.length ≤ 30 := by
  unfold areB at h; simp only [Bool.and_eq_true, decide_eq_true_eq] at h; exact h.1

theorem c_impl_recordLine (w0 : World) (r : Int × Str) (g0 : 0 ≤ r.1) (g1 : r.1 ≤ 9999) (g2 : r.2.length ≤ 20) :
  Calls Try.prog 68 #[.agg #[.int .i64 r.1, St r.2]] w0 (Ret w0 (fun v _ => v = St (lineS r))) := by
 refine enter (N := 35) Try.func68 rfl rfl rfl ?_
 intro a0 ha0
 have hx0 := Ext.rfl' w0
 refine wp_seq ?_
 refine wp_region_lit ?_
 refine wl_eff ha0 rfl rfl rfl (op_box' ha0 rfl rfl rfl) ?_
 rintro _ w2 ⟨rfl, he3, hb4, hz5⟩ a6 ha6; clear ha0 a0
 have hx7 := hx0.trans' he3
 have hzhx7 := he3.size
 refine wl_val ha6 rfl rfl rfl (op_assign ha6 rfl rfl) ?_
 intro a8 ha8; clear ha6 a6
 refine wpList_nil ?_
 refine then_n ?_
 refine wp_seq ?_
 refine wp_region_lit ?_
 refine wl_val ha8 rfl rfl rfl (op_fieldAddr (sz := 0) ha8 rfl Try.underlying36 rfl rfl ti2 rfl) ?_
 intro a9 ha9; clear ha8 a8
 refine wl_val ha9 rfl rfl rfl (op_loadF (off := 0) ha9 rfl Try.underlying2 rfl rfl hb4.cells rfl) ?_
 intro a10 ha10; clear ha9 a9
 refine wl_val ha10 rfl rfl rfl (op_assign ha10 rfl rfl) ?_
 intro a11 ha11; clear ha10 a10
 refine wpList_nil ?_
 refine then_n ?_
 refine wp_seq ?_
 refine wp_seq ?_
 refine wp_region_lit ?_
 refine wl_val ha11 rfl rfl rfl (op_assign ha11 rfl rfl) ?_
 intro a12 ha12; clear ha11 a11
 refine wpList_nil ?_
 refine then_n ?_
 refine wp_block ?_
 refine loop_inv (X := Nat × Int) (fun (⟨i, c⟩ : Nat × Int) fr wl => Sl 35 fr [(1, .pointer (some (⟨w0.heap.size, 0, none⟩ : Addr))), (3, .int .i64 c), (4, .int .i64 ((i : Nat) : Int))] ∧ Ext w0 wl ∧ Box wl w0.heap.size 36 [.int .i64 r.1, St r.2] ∧ w2.heap.size ≤ wl.heap.size ∧ (i ≤ r.2.length) ∧ (0 ≤ c) ∧ (c ≤ 9999) ∧ (chkGo c (r.2.drop i) = chkGo r.1 r.2)) (fun (⟨i, c⟩ : Nat × Int) => r.2.length - i) (0, r.1) ?_ ?_
 ·
  exact ⟨(Sl.cons_ ha12 rfl rfl (Sl.cons_ ha12 rfl (int_eq (by omega)) (Sl.cons_ ha12 rfl (int_eq (by omega)) (Sl.nil_ ha12)))), hx7, hb4, (by omega), (by omega), (by omega), (by omega), (by rfl)⟩
 ·
  clear ha12 a12
  rintro ⟨i, c⟩ a16 w13 ⟨ha16, hx14, hf15, hzl17, hi, hc0, hc1, hF⟩
  have hzhx14 := hx14.size
  refine wp_seq ?_
  refine wp_seq ?_
  refine wp_region_lit ?_
  refine wl_val ha16 rfl rfl rfl (op_move ha16 rfl rfl) ?_
  intro a18 ha18; clear ha16 a16
  refine wl_val ha18 rfl rfl rfl (op_fieldAddr (sz := 0) ha18 rfl Try.underlying36 rfl rfl ti9 rfl) ?_
  intro a19 ha19; clear ha18 a18
  refine wl_val ha19 rfl rfl rfl (op_loadF (off := 1) ha19 rfl Try.underlying9 rfl rfl hf15.cells rfl) ?_
  intro a20 ha20; clear ha19 a19
  refine wl_val ha20 rfl rfl rfl (op_len_str ha20 rfl Try.underlying9 rfl) ?_
  intro a21 ha21; clear ha20 a20
  refine wl_val ha21 rfl rfl rfl (op_lss ha21 rfl rfl rfl) ?_
  intro a22 ha22; clear ha21 a21
  refine wpList_nil ?_
  refine then_n ?_
  by_cases c23 : ((i : Nat) : Int) < ((r.2.length : Nat) : Int)
  ·
   rw [decide_eq_true c23] at ha22
   refine cond_t ha22 rfl ?_
   refine wp_skip ?_
   refine then_n ?_
   refine wp_seq ?_
   refine wp_block ?_
   refine wp_region_lit ?_
   refine wl_val ha22 rfl rfl rfl (op_move ha22 rfl rfl) ?_
   intro a24 ha24; clear ha22 a22
   refine wl_val ha24 rfl rfl rfl ((op_mul ha24 rfl rfl rfl).int (IntWalk.i64_in _ (by omega))) ?_
   intro a25 ha25; clear ha24 a24
   refine wl_val ha25 rfl rfl rfl (op_fieldAddr (sz := 0) ha25 rfl Try.underlying36 rfl rfl ti9 rfl) ?_
   intro a26 ha26; clear ha25 a25
   refine wl_val ha26 rfl rfl rfl (op_loadF (off := 1) ha26 rfl Try.underlying9 rfl rfl hf15.cells rfl) ?_
   intro a27 ha27; clear ha26 a26
   refine wl_val ha27 rfl rfl rfl (op_move ha27 rfl rfl) ?_
   intro a28 ha28; clear ha27 a27
   obtain ⟨b29, hb29⟩ := get_ex (xs := r.2) (j := i) (by omega)
   have b29_lt := b29.toNat_lt
   refine wl_val ha28 rfl rfl rfl (op_index_str ha28 rfl Try.underlying9 rfl rfl (by omega) hb29) ?_
   intro a30 ha30; clear ha28 a28
   refine wl_val ha30 rfl rfl rfl ((op_conv_int ha30 rfl Try.underlying5 Try.underlying2 rfl).int (IntWalk.i64_in _ (by omega))) ?_
   intro a31 ha31; clear ha30 a30
   refine wl_val ha31 rfl rfl rfl ((op_add ha31 rfl rfl rfl).int (IntWalk.i64_in _ (by omega))) ?_
   intro a32 ha32; clear ha31 a31
   refine wl_val ha32 rfl rfl rfl ((op_rem ha32 rfl rfl rfl (by omega)).int (Int.tmod_eq_emod_of_nonneg (by omega))) ?_
   intro a33 ha33; clear ha32 a32
   refine wl_val ha33 rfl rfl rfl (op_assign ha33 rfl rfl) ?_
   intro a34 ha34; clear ha33 a33
   refine wpList_nil ?_
   refine block_n ?_
   refine then_n ?_
   refine wp_region_lit ?_
   refine wl_val ha34 rfl rfl rfl (op_move ha34 rfl rfl) ?_
   intro a35 ha35; clear ha34 a34
   refine wl_val ha35 rfl rfl rfl ((op_add ha35 rfl rfl rfl).int (IntWalk.i64_in _ (by omega))) ?_
   intro a36 ha36; clear ha35 a35
   refine wl_val ha36 rfl rfl rfl (op_assign ha36 rfl rfl) ?_
   intro a37 ha37; clear ha36 a36
   refine wpList_nil ?_
   refine round_end (x := (i, c)) ((i + 1), (((c * (33 : Int)) + (b29.toNat : Int)) % (997 : Int))) ?_ ?_
   ·
    refine ⟨(Sl.cons_ ha37 rfl rfl (Sl.cons_ ha37 rfl (int_eq (by omega)) (Sl.cons_ ha37 rfl (int_eq (by omega)) (Sl.nil_ ha37)))), hx14, hf15, (by omega), (by omega), (by omega), (by omega), (by rw [drop_cons hb29, chkGo] at hF; exact hF)⟩
   ·show (r.2.length - ((i + 1)) : Nat) < r.2.length - i; omega
  ·
   rw [decide_eq_false c23] at ha22
   refine cond_f ha22 rfl ?_
   refine wp_exit ?_
   refine then_e ?_
   refine then_e ?_
   refine block_hit ?_
   refine then_n ?_
   refine wp_seq ?_
   refine dr_enter Ext follows_mixed ?_
   intro w38 he39
   have hx40 := hx14.trans' he39
   have hzhx40 := he39.size
   replace hf15 := hf15.ext he39
   have hs41 : Ext w38 w38 := Ext.rfl' _
   refine dr_val (i := 0) ha22 rfl (by kernel_rfl) (by kernel_rfl) (by kernel_rfl) rfl rfl rfl hs41 (fun w' hw' => op_fieldAddr (sz := 0) ha22 rfl Try.underlying36 rfl rfl ti2 rfl) ?_
   intro a42 ha42; clear ha22 a22
   refine dr_val (i := 1) ha42 rfl (by kernel_rfl) (by kernel_rfl) (by kernel_rfl) rfl rfl rfl hs41 (fun w' hw' => op_loadF (off := 0) ha42 rfl Try.underlying2 rfl rfl (hf15.ext hw').cells rfl) ?_
   intro a43 ha43; clear ha42 a42
   refine dr_val (i := 4) ha43 rfl (by kernel_rfl) (by kernel_rfl) (by kernel_rfl) rfl rfl rfl hs41 (fun w' hw' => op_fieldAddr (sz := 0) ha43 rfl Try.underlying36 rfl rfl ti9 rfl) ?_
   intro a44 ha44; clear ha43 a43
   refine dr_val (i := 5) ha44 rfl (by kernel_rfl) (by kernel_rfl) (by kernel_rfl) rfl rfl rfl hs41 (fun w' hw' => op_loadF (off := 1) ha44 rfl Try.underlying9 rfl rfl (hf15.ext hw').cells rfl) ?_
   intro a45 ha45; clear ha44 a44
   refine dr_val (i := 8) ha45 rfl (by kernel_rfl) (by kernel_rfl) (by kernel_rfl) rfl rfl rfl hs41 (fun w' hw' => op_move ha45 rfl rfl) ?_
   intro a46 ha46; clear ha45 a45
   refine dr_one (i := 2) (by kernel_rfl) ?_
   refine po_callR ha46 rfl rfl rfl rfl (op_call ha46 rfl cb74 rfl) (c_impl_decimal _ r.1 (by first | assumption | omega | (simp; omega) | (simp [mkN_length]; omega)) (by first | assumption | omega | (simp; omega) | (simp [mkN_length]; omega))) ?_
   rintro v47 w48 he49 rfl a50 ha50; clear ha46 a46
   have hs51 := hs41.trans' he49
   have hx52 := hx40.trans' he49
   have hzhx52 := he49.size
   refine ⟨hs51, ?_⟩
   refine dr_val (i := 3) ha50 rfl (by kernel_rfl) (by kernel_rfl) (by kernel_rfl) rfl rfl rfl hs51 (fun w' hw' => op_sadd ha50 rfl rfl rfl (by (have h1 := decS_len (n := r.1) (by omega)); (have h2 := decS_len (n := c) (by omega)); simp only [List.length_append, List.length_cons, List.length_nil]; omega)) ?_
   intro a53 ha53; clear ha50 a50
   refine dr_val (i := 6) ha53 rfl (by kernel_rfl) (by kernel_rfl) (by kernel_rfl) rfl rfl rfl hs51 (fun w' hw' => op_sadd ha53 rfl rfl rfl (by (have h1 := decS_len (n := r.1) (by omega)); (have h2 := decS_len (n := c) (by omega)); simp only [List.length_append, List.length_cons, List.length_nil]; omega)) ?_
   intro a54 ha54; clear ha53 a53
   refine dr_val (i := 7) ha54 rfl (by kernel_rfl) (by kernel_rfl) (by kernel_rfl) rfl rfl rfl hs51 (fun w' hw' => op_sadd ha54 rfl rfl rfl (by (have h1 := decS_len (n := r.1) (by omega)); (have h2 := decS_len (n := c) (by omega)); simp only [List.length_append, List.length_cons, List.length_nil]; omega)) ?_
   intro a55 ha55; clear ha54 a54
   refine dr_one (i := 9) (by kernel_rfl) ?_
   refine po_callR ha55 rfl rfl rfl rfl (op_call ha55 rfl cb74 rfl) (c_impl_decimal _ c (by first | assumption | omega | (simp; omega) | (simp [mkN_length]; omega)) (by first | assumption | omega | (simp; omega) | (simp [mkN_length]; omega))) ?_
   rintro v56 w57 he58 rfl a59 ha59; clear ha55 a55
   have hs60 := hs51.trans' he58
   have hx61 := hx52.trans' he58
   have hzhx61 := he58.size
   refine ⟨hs60, ?_⟩
   refine dr_val (i := 10) ha59 rfl (by kernel_rfl) (by kernel_rfl) (by kernel_rfl) rfl rfl rfl hs60 (fun w' hw' => op_sadd ha59 rfl rfl rfl (by (have h1 := decS_len (n := r.1) (by omega)); (have h2 := decS_len (n := c) (by omega)); simp only [List.length_append, List.length_cons, List.length_nil]; omega)) ?_
   intro a62 ha62; clear ha59 a59
   refine dr_val (i := 11) ha62 rfl (by kernel_rfl) (by kernel_rfl) (by kernel_rfl) rfl rfl rfl hs60 (fun w' hw' => op_sadd ha62 rfl rfl rfl (by (have h1 := decS_len (n := r.1) (by omega)); (have h2 := decS_len (n := c) (by omega)); simp only [List.length_append, List.length_cons, List.length_nil]; omega)) ?_
   intro a63 ha63; clear ha62 a62
   refine dr_val (i := 12) ha63 rfl (by kernel_rfl) (by kernel_rfl) (by kernel_rfl) rfl rfl rfl hs60 (fun w' hw' => op_assign ha63 rfl rfl) ?_
   intro a64 ha64; clear ha63 a63
   refine dr_end (by kernel_rfl) ?_
   replace hf15 := hf15.ext hs60
   refine then_n ?_
   refine wp_ret ?_
   refine ret1 ha64 rfl rfl ?_
   clear ha64 a64
   exact ret_mk hx61 (congrArg St (by rw [drop_nil (by omega), chkGo] at hF; unfold lineS; rw [hF]))

theorem c_spec_l32Line (w0 : World) (r : Int × Str) (g0 : 0 ≤ r.1) (g1 : r.1 ≤ 9999) (g2 : r.2.length ≤ 20) :
  Calls Try.prog 63 #[.agg #[.int .i64 r.1, St r.2]] w0 (Ret w0 (fun v _ => v = St (lineS r))) := by
 refine enter (N := 35) Try.func63 rfl rfl rfl ?_
 intro a0 ha0
 have hx0 := Ext.rfl' w0
 refine wp_seq ?_
 refine wp_region_lit ?_
 refine wl_eff ha0 rfl rfl rfl (op_box' ha0 rfl rfl rfl) ?_
 rintro _ w2 ⟨rfl, he3, hb4, hz5⟩ a6 ha6; clear ha0 a0
 have hx7 := hx0.trans' he3
 have hzhx7 := he3.size
 refine wl_val ha6 rfl rfl rfl (op_assign ha6 rfl rfl) ?_
 intro a8 ha8; clear ha6 a6
 refine wpList_nil ?_
 refine then_n ?_
 refine wp_seq ?_
 refine wp_region_lit ?_
 refine wl_val ha8 rfl rfl rfl (op_fieldAddr (sz := 0) ha8 rfl Try.underlying36 rfl rfl ti2 rfl) ?_
 intro a9 ha9; clear ha8 a8
 refine wl_val ha9 rfl rfl rfl (op_loadF (off := 0) ha9 rfl Try.underlying2 rfl rfl hb4.cells rfl) ?_
 intro a10 ha10; clear ha9 a9
 refine wl_val ha10 rfl rfl rfl (op_assign ha10 rfl rfl) ?_
 intro a11 ha11; clear ha10 a10
 refine wpList_nil ?_
 refine then_n ?_
 refine wp_seq ?_
 refine wp_seq ?_
 refine wp_region_lit ?_
 refine wl_val ha11 rfl rfl rfl (op_assign ha11 rfl rfl) ?_
 intro a12 ha12; clear ha11 a11
 refine wpList_nil ?_
 refine then_n ?_
 refine wp_block ?_
 refine loop_inv (X := Nat × Int) (fun (⟨i, c⟩ : Nat × Int) fr wl => Sl 35 fr [(1, .pointer (some (⟨w0.heap.size, 0, none⟩ : Addr))), (3, .int .i64 c), (4, .int .i64 ((i : Nat) : Int))] ∧ Ext w0 wl ∧ Box wl w0.heap.size 36 [.int .i64 r.1, St r.2] ∧ w2.heap.size ≤ wl.heap.size ∧ (i ≤ r.2.length) ∧ (0 ≤ c) ∧ (c ≤ 9999) ∧ (chkGo c (r.2.drop i) = chkGo r.1 r.2)) (fun (⟨i, c⟩ : Nat × Int) => r.2.length - i) (0, r.1) ?_ ?_
 ·
  exact ⟨(Sl.cons_ ha12 rfl rfl (Sl.cons_ ha12 rfl (int_eq (by omega)) (Sl.cons_ ha12 rfl (int_eq (by omega)) (Sl.nil_ ha12)))), hx7, hb4, (by omega), (by omega), (by omega), (by omega), (by rfl)⟩
 ·
  clear ha12 a12
  rintro ⟨i, c⟩ a16 w13 ⟨ha16, hx14, hf15, hzl17, hi, hc0, hc1, hF⟩
  have hzhx14 := hx14.size
  refine wp_seq ?_
  refine wp_seq ?_
  refine wp_region_lit ?_
  refine wl_val ha16 rfl rfl rfl (op_move ha16 rfl rfl) ?_
  intro a18 ha18; clear ha16 a16
  refine wl_val ha18 rfl rfl rfl (op_fieldAddr (sz := 0) ha18 rfl Try.underlying36 rfl rfl ti9 rfl) ?_
  intro a19 ha19; clear ha18 a18
  refine wl_val ha19 rfl rfl rfl (op_loadF (off := 1) ha19 rfl Try.underlying9 rfl rfl hf15.cells rfl) ?_
  intro a20 ha20; clear ha19 a19
  refine wl_val ha20 rfl rfl rfl (op_len_str ha20 rfl Try.underlying9 rfl) ?_
  intro a21 ha21; clear ha20 a20
  refine wl_val ha21 rfl rfl rfl (op_lss ha21 rfl rfl rfl) ?_
  intro a22 ha22; clear ha21 a21
  refine wpList_nil ?_
  refine then_n ?_
  by_cases c23 : ((i : Nat) : Int) < ((r.2.length : Nat) : Int)
  ·
   rw [decide_eq_true c23] at ha22
   refine cond_t ha22 rfl ?_
   refine wp_skip ?_
   refine then_n ?_
   refine wp_seq ?_
   refine wp_block ?_
   refine wp_region_lit ?_
   refine wl_val ha22 rfl rfl rfl (op_move ha22 rfl rfl) ?_
   intro a24 ha24; clear ha22 a22
   refine wl_val ha24 rfl rfl rfl ((op_mul ha24 rfl rfl rfl).int (IntWalk.i64_in _ (by omega))) ?_
   intro a25 ha25; clear ha24 a24
   refine wl_val ha25 rfl rfl rfl (op_fieldAddr (sz := 0) ha25 rfl Try.underlying36 rfl rfl ti9 rfl) ?_
   intro a26 ha26; clear ha25 a25
   refine wl_val ha26 rfl rfl rfl (op_loadF (off := 1) ha26 rfl Try.underlying9 rfl rfl hf15.cells rfl) ?_
   intro a27 ha27; clear ha26 a26
   refine wl_val ha27 rfl rfl rfl (op_move ha27 rfl rfl) ?_
   intro a28 ha28; clear ha27 a27
   obtain ⟨b29, hb29⟩ := get_ex (xs := r.2) (j := i) (by omega)
   have b29_lt := b29.toNat_lt
   refine wl_val ha28 rfl rfl rfl (op_index_str ha28 rfl Try.underlying9 rfl rfl (by omega) hb29) ?_
   intro a30 ha30; clear ha28 a28
   refine wl_val ha30 rfl rfl rfl ((op_conv_int ha30 rfl Try.underlying5 Try.underlying2 rfl).int (IntWalk.i64_in _ (by omega))) ?_
   intro a31 ha31; clear ha30 a30
   refine wl_val ha31 rfl rfl rfl ((op_add ha31 rfl rfl rfl).int (IntWalk.i64_in _ (by omega))) ?_
   intro a32 ha32; clear ha31 a31
   refine wl_val ha32 rfl rfl rfl ((op_rem ha32 rfl rfl rfl (by omega)).int (Int.tmod_eq_emod_of_nonneg (by omega))) ?_
   intro a33 ha33; clear ha32 a32
   refine wl_val ha33 rfl rfl rfl (op_assign ha33 rfl rfl) ?_
   intro a34 ha34; clear ha33 a33
   refine wpList_nil ?_
   refine block_n ?_
   refine then_n ?_
   refine wp_region_lit ?_
   refine wl_val ha34 rfl rfl rfl (op_move ha34 rfl rfl) ?_
   intro a35 ha35; clear ha34 a34
   refine wl_val ha35 rfl rfl rfl ((op_add ha35 rfl rfl rfl).int (IntWalk.i64_in _ (by omega))) ?_
   intro a36 ha36; clear ha35 a35
   refine wl_val ha36 rfl rfl rfl (op_assign ha36 rfl rfl) ?_
   intro a37 ha37; clear ha36 a36
   refine wpList_nil ?_
   refine round_end (x := (i, c)) ((i + 1), (((c * (33 : Int)) + (b29.toNat : Int)) % (997 : Int))) ?_ ?_
   ·
    refine ⟨(Sl.cons_ ha37 rfl rfl (Sl.cons_ ha37 rfl (int_eq (by omega)) (Sl.cons_ ha37 rfl (int_eq (by omega)) (Sl.nil_ ha37)))), hx14, hf15, (by omega), (by omega), (by omega), (by omega), (by rw [drop_cons hb29, chkGo] at hF; exact hF)⟩
   ·show (r.2.length - ((i + 1)) : Nat) < r.2.length - i; omega
  ·
   rw [decide_eq_false c23] at ha22
   refine cond_f ha22 rfl ?_
   refine wp_exit ?_
   refine then_e ?_
   refine then_e ?_
   refine block_hit ?_
   refine then_n ?_
   refine wp_seq ?_
   refine dr_enter Ext follows_mixed ?_
   intro w38 he39
   have hx40 := hx14.trans' he39
   have hzhx40 := he39.size
   replace hf15 := hf15.ext he39
   have hs41 : Ext w38 w38 := Ext.rfl' _
   refine dr_val (i := 0) ha22 rfl (by kernel_rfl) (by kernel_rfl) (by kernel_rfl) rfl rfl rfl hs41 (fun w' hw' => op_fieldAddr (sz := 0) ha22 rfl Try.underlying36 rfl rfl ti2 rfl) ?_
   intro a42 ha42; clear ha22 a22
   refine dr_val (i := 1) ha42 rfl (by kernel_rfl) (by kernel_rfl) (by kernel_rfl) rfl rfl rfl hs41 (fun w' hw' => op_loadF (off := 0) ha42 rfl Try.underlying2 rfl rfl (hf15.ext hw').cells rfl) ?_
   intro a43 ha43; clear ha42 a42
   refine dr_val (i := 4) ha43 rfl (by kernel_rfl) (by kernel_rfl) (by kernel_rfl) rfl rfl rfl hs41 (fun w' hw' => op_fieldAddr (sz := 0) ha43 rfl Try.underlying36 rfl rfl ti9 rfl) ?_
   intro a44 ha44; clear ha43 a43
   refine dr_val (i := 5) ha44 rfl (by kernel_rfl) (by kernel_rfl) (by kernel_rfl) rfl rfl rfl hs41 (fun w' hw' => op_loadF (off := 1) ha44 rfl Try.underlying9 rfl rfl (hf15.ext hw').cells rfl) ?_
   intro a45 ha45; clear ha44 a44
   refine dr_val (i := 8) ha45 rfl (by kernel_rfl) (by kernel_rfl) (by kernel_rfl) rfl rfl rfl hs41 (fun w' hw' => op_move ha45 rfl rfl) ?_
   intro a46 ha46; clear ha45 a45
   refine dr_one (i := 2) (by kernel_rfl) ?_
   refine po_callR ha46 rfl rfl rfl rfl (op_call ha46 rfl cb73 rfl) (c_spec_l01Dec _ r.1 (by first | assumption | omega | (simp; omega) | (simp [mkN_length]; omega)) (by first | assumption | omega | (simp; omega) | (simp [mkN_length]; omega))) ?_
   rintro v47 w48 he49 rfl a50 ha50; clear ha46 a46
   have hs51 := hs41.trans' he49
   have hx52 := hx40.trans' he49
   have hzhx52 := he49.size
   refine ⟨hs51, ?_⟩
   refine dr_val (i := 3) ha50 rfl (by kernel_rfl) (by kernel_rfl) (by kernel_rfl) rfl rfl rfl hs51 (fun w' hw' => op_sadd ha50 rfl rfl rfl (by (have h1 := decS_len (n := r.1) (by omega)); (have h2 := decS_len (n := c) (by omega)); simp only [List.length_append, List.length_cons, List.length_nil]; omega)) ?_
   intro a53 ha53; clear ha50 a50
   refine dr_val (i := 6) ha53 rfl (by kernel_rfl) (by kernel_rfl) (by kernel_rfl) rfl rfl rfl hs51 (fun w' hw' => op_sadd ha53 rfl rfl rfl (by (have h1 := decS_len (n := r.1) (by omega)); (have h2 := decS_len (n := c) (by omega)); simp only [List.length_append, List.length_cons, List.length_nil]; omega)) ?_
   intro a54 ha54; clear ha53 a53
   refine dr_val (i := 7) ha54 rfl (by kernel_rfl) (by kernel_rfl) (by kernel_rfl) rfl rfl rfl hs51 (fun w' hw' => op_sadd ha54 rfl rfl rfl (by (have h1 := decS_len (n := r.1) (by omega)); (have h2 := decS_len (n := c) (by omega)); simp only [List.length_append, List.length_cons, List.length_nil]; omega)) ?_
   intro a55 ha55; clear ha54 a54
   refine dr_one (i := 9) (by kernel_rfl) ?_
   refine po_callR ha55 rfl rfl rfl rfl (op_call ha55 rfl cb73 rfl) (c_spec_l01Dec _ c (by first | assumption | omega | (simp; omega) | (simp [mkN_length]; omega)) (by first | assumption | omega | (simp; omega) | (simp [mkN_length]; omega))) ?_
   rintro v56 w57 he58 rfl a59 ha59; clear ha55 a55
   have hs60 := hs51.trans' he58
   have hx61 := hx52.trans' he58
   have hzhx61 := he58.size
   refine ⟨hs60, ?_⟩
   refine dr_val (i := 10) ha59 rfl (by kernel_rfl) (by kernel_rfl) (by kernel_rfl) rfl rfl rfl hs60 (fun w' hw' => op_sadd ha59 rfl rfl rfl (by (have h1 := decS_len (n := r.1) (by omega)); (have h2 := decS_len (n := c) (by omega)); simp only [List.length_append, List.length_cons, List.length_nil]; omega)) ?_
   intro a62 ha62; clear ha59 a59
   refine dr_val (i := 11) ha62 rfl (by kernel_rfl) (by kernel_rfl) (by kernel_rfl) rfl rfl rfl hs60 (fun w' hw' => op_sadd ha62 rfl rfl rfl (by (have h1 := decS_len (n := r.1) (by omega)); (have h2 := decS_len (n := c) (by omega)); simp only [List.length_append, List.length_cons, List.length_nil]; omega)) ?_
   intro a63 ha63; clear ha62 a62
   refine dr_val (i := 12) ha63 rfl (by kernel_rfl) (by kernel_rfl) (by kernel_rfl) rfl rfl rfl hs60 (fun w' hw' => op_assign ha63 rfl rfl) ?_
   intro a64 ha64; clear ha63 a63
   refine dr_end (by kernel_rfl) ?_
   replace hf15 := hf15.ext hs60
   refine then_n ?_
   refine wp_ret ?_
   refine ret1 ha64 rfl rfl ?_
   clear ha64 a64
   exact ret_mk hx61 (congrArg St (by rw [drop_nil (by omega), chkGo] at hF; unfold lineS; rw [hF]))

theorem c_impl_fileText (w0 : World) (v_list : Value) (list : List (Int × Str)) {S_list : Nat → Prop} (h_list : Rds shRec S_list w0 v_list list) (g0 : ∀ r ∈ list, recB r = true) (g1 : list.length ≤ 30) :
  Calls Try.prog 52 #[v_list] w0 (Ret w0 (fun v _ => v = St (fileS list))) := by
 refine enter (N := 18) Try.func52 rfl rfl rfl ?_
 intro a0 ha0
 have hx0 := Ext.rfl' w0
 have hl_list := h_list.length_le
 refine wp_seq ?_
 refine wp_region_lit ?_
 refine wl_val ha0 rfl rfl rfl (op_assign ha0 rfl rfl) ?_
 intro a1 ha1; clear ha0 a0
 refine wpList_nil ?_
 refine then_n ?_
 refine wp_seq ?_
 refine wp_region_lit ?_
 refine wl_val ha1 rfl rfl rfl (op_assign ha1 rfl rfl) ?_
 intro a2 ha2; clear ha1 a1
 refine wpList_nil ?_
 refine then_n ?_
 refine wp_seq ?_
 refine wp_seq ?_
 refine wp_region_lit ?_
 refine wl_val ha2 rfl rfl rfl (op_move ha2 rfl rfl) ?_
 intro a3 ha3; clear ha2 a2
 refine wl_val ha3 rfl rfl rfl (op_len_sl ha3 rfl Try.underlying25 rfl h_list) ?_
 intro a4 ha4; clear ha3 a3
 refine wl_val ha4 rfl rfl rfl (op_move ha4 rfl rfl) ?_
 intro a5 ha5; clear ha4 a4
 refine wpList_nil ?_
 refine then_n ?_
 refine wp_block ?_
 refine loop_inv (X := Nat × Str) (fun (⟨i, t⟩ : Nat × Str) fr wl => Sl 18 fr [(3, St t), (6, v_list), (7, .int .i64 ((list.length : Nat) : Int)), (8, .int .i64 ((i : Nat) : Int))] ∧ Ext w0 wl ∧ w0.heap.size ≤ wl.heap.size ∧ (i ≤ list.length) ∧ (t.length ≤ 70 * i) ∧ (t ++ fileS (list.drop i) = fileS list)) (fun (⟨i, t⟩ : Nat × Str) => list.length - i) (0, ([] : Str)) ?_ ?_
 ·
  exact ⟨(Sl.cons_ ha5 rfl rfl (Sl.cons_ ha5 rfl rfl (Sl.cons_ ha5 rfl rfl (Sl.cons_ ha5 rfl (int_eq (by omega)) (Sl.nil_ ha5))))), hx0, (by omega), (by omega), (by simp), (by rfl)⟩
 ·
  clear ha5 a5
  rintro ⟨i, t⟩ a8 w6 ⟨ha8, hx7, hzl9, hi, ht, hF⟩
  have hzhx7 := hx7.size
  refine wp_seq ?_
  refine wp_region_lit ?_
  refine wl_val ha8 rfl rfl rfl (op_lss ha8 rfl rfl rfl) ?_
  intro a10 ha10; clear ha8 a8
  refine wpList_nil ?_
  refine then_n ?_
  refine wp_seq ?_
  by_cases c11 : ((i : Nat) : Int) < ((list.length : Nat) : Int)
  ·
   rw [decide_eq_true c11] at ha10
   refine cond_t ha10 rfl ?_
   refine wp_skip ?_
   refine then_n ?_
   refine wp_seq ?_
   refine wp_block ?_
   refine wp_seq ?_
   refine wp_region_lit ?_
   obtain ⟨x12, hx12⟩ := get_ex (xs := list) (j := i) (by omega)
   obtain ⟨p13, c14, hi15, hc16, hr17, hs18⟩ := Rds.at_ h_list hx12
   obtain ⟨rfl, b19, b20⟩ := inv_shRec hr17
   have hrx12 := g0 _ (List.mem_of_getElem? hx12)
   have hbx12 := recB_bd hrx12
   have hlx12 := lineS_len hrx12
   refine wl_val ha10 rfl rfl rfl (op_indexAddr ha10 rfl Try.underlying25 ti36 rfl rfl (by omega) hi15) ?_
   intro a21 ha21; clear ha10 a10
   refine wl_val ha21 rfl rfl rfl (op_loadS ha21 rfl Try.underlying36 ti36 rfl rfl (hc16.ext hx7)) ?_
   intro a22 ha22; clear ha21 a21
   refine wl_eff ha22 rfl rfl rfl (op_alloc' rfl ti36 rfl) ?_
   rintro _ w24 ⟨rfl, he25, hb26, hz27⟩ a28 ha28; clear ha22 a22
   have hx29 := hx7.trans' he25
   have hzhx29 := he25.size
   refine wl_effS ha28 rfl rfl (op_storeAll' ha28 rfl ti36 rfl rfl hb26 rfl rfl (by simp [Value.oneCell']) rfl) ?_
   rintro w30 ⟨hb32, hst31, hz33⟩
   have hx34 := hx29.stp hst31 (by intro q hq; cases hq; exact (by omega))
   have hzhx34 := hst31.size
   clear hb26
   refine wpList_nil ?_
   refine then_n ?_
   refine wp_region_lit ?_
   refine wl_val ha28 rfl rfl rfl (op_move ha28 rfl rfl) ?_
   intro a35 ha35; clear ha28 a28
   refine wl_val ha35 rfl rfl rfl (op_loadS ha35 rfl Try.underlying36 ti36 rfl rfl hb32.cells) ?_
   intro a36 ha36; clear ha35 a35
   refine wl_callR ha36 rfl rfl rfl (op_call ha36 rfl cb68 rfl) (c_impl_recordLine _ x12 (by first | assumption | omega | (simp; omega) | (simp [mkN_length]; omega)) (by first | assumption | omega | (simp; omega) | (simp [mkN_length]; omega)) (by first | assumption | omega | (simp; omega) | (simp [mkN_length]; omega))) ?_
   rintro v37 w38 he39 rfl a40 ha40; clear ha36 a36
   have hx41 := hx34.trans' he39
   have hzhx41 := he39.size
   replace hb32 := hb32.ext he39
   refine wl_val ha40 rfl rfl rfl (op_sadd ha40 rfl rfl rfl (by omega)) ?_
   intro a42 ha42; clear ha40 a40
   refine wl_val ha42 rfl rfl rfl (op_assign ha42 rfl rfl) ?_
   intro a43 ha43; clear ha42 a42
   refine wpList_nil ?_
   refine block_n ?_
   refine then_n ?_
   refine wp_region_lit ?_
   refine wl_val ha43 rfl rfl rfl ((op_add ha43 rfl rfl rfl).int (IntWalk.i64_in _ (by omega))) ?_
   intro a44 ha44; clear ha43 a43
   refine wl_val ha44 rfl rfl rfl (op_move ha44 rfl rfl) ?_
   intro a45 ha45; clear ha44 a44
   refine wpList_nil ?_
   refine round_end (x := (i, t)) ((i + 1), t ++ ((lineS x12))) ?_ ?_
   ·
    refine ⟨(Sl.cons_ ha45 rfl rfl (Sl.cons_ ha45 rfl rfl (Sl.cons_ ha45 rfl rfl (Sl.cons_ ha45 rfl (int_eq (by omega)) (Sl.nil_ ha45))))), hx41, (by omega), (by omega), (by simp only [List.length_append]; omega), (by rw [drop_cons hx12, fileS, ← List.append_assoc] at hF; exact hF)⟩
   ·show (list.length - ((i + 1)) : Nat) < list.length - i; omega
  ·
   rw [decide_eq_false c11] at ha10
   refine cond_f ha10 rfl ?_
   refine wp_exit ?_
   refine then_e ?_
   refine then_e ?_
   refine block_hit ?_
   refine then_n ?_
   refine wp_seq ?_
   refine wp_region_lit ?_
   refine wl_val ha10 rfl rfl rfl (op_move ha10 rfl rfl) ?_
   intro a46 ha46; clear ha10 a10
   refine wl_val ha46 rfl rfl rfl (op_assign ha46 rfl rfl) ?_
   intro a47 ha47; clear ha46 a46
   refine wpList_nil ?_
   refine then_n ?_
   refine wp_ret ?_
   refine ret1 ha47 rfl rfl ?_
   clear ha47 a47
   exact ret_mk hx7 (congrArg St (by rw [drop_nil (by omega), fileS, List.append_nil] at hF; exact hF))

theorem c_spec_l32File (w0 : World) (v_list : Value) (list : List (Int × Str)) {S_list : Nat → Prop} (h_list : Rds shRec S_list w0 v_list list) (g0 : ∀ r ∈ list, recB r = true) (g1 : list.length ≤ 30) :
  Calls Try.prog 51 #[v_list] w0 (Ret w0 (fun v _ => v = St (fileS list))) := by
 refine enter (N := 19) Try.func51 rfl rfl rfl ?_
 intro a0 ha0
 have hx0 := Ext.rfl' w0
 have hl_list := h_list.length_le
 refine wp_seq ?_
 refine wp_region_lit ?_
 refine wl_val ha0 rfl rfl rfl (op_assign ha0 rfl rfl) ?_
 intro a1 ha1; clear ha0 a0
 refine wpList_nil ?_
 refine then_n ?_
 refine wp_seq ?_
 refine wp_region_lit ?_
 refine wl_val ha1 rfl rfl rfl (op_assign ha1 rfl rfl) ?_
 intro a2 ha2; clear ha1 a1
 refine wpList_nil ?_
 refine then_n ?_
 refine wp_seq ?_
 refine wp_seq ?_
 refine wp_region_lit ?_
 refine wl_val ha2 rfl rfl rfl (op_assign ha2 rfl rfl) ?_
 intro a3 ha3; clear ha2 a2
 refine wpList_nil ?_
 refine then_n ?_
 refine wp_block ?_
 refine loop_inv (X := Nat × Str) (fun (⟨i, t⟩ : Nat × Str) fr wl => Sl 19 fr [(0, v_list), (3, St t), (4, .int .i64 ((i : Nat) : Int))] ∧ Ext w0 wl ∧ w0.heap.size ≤ wl.heap.size ∧ (i ≤ list.length) ∧ (t.length ≤ 70 * i) ∧ (t ++ fileS (list.drop i) = fileS list)) (fun (⟨i, t⟩ : Nat × Str) => list.length - i) (0, ([] : Str)) ?_ ?_
 ·
  exact ⟨(Sl.cons_ ha3 rfl rfl (Sl.cons_ ha3 rfl rfl (Sl.cons_ ha3 rfl (int_eq (by omega)) (Sl.nil_ ha3)))), hx0, (by omega), (by omega), (by simp), (by rfl)⟩
 ·
  clear ha3 a3
  rintro ⟨i, t⟩ a6 w4 ⟨ha6, hx5, hzl7, hi, ht, hF⟩
  have hzhx5 := hx5.size
  refine wp_seq ?_
  refine wp_seq ?_
  refine wp_region_lit ?_
  refine wl_val ha6 rfl rfl rfl (op_move ha6 rfl rfl) ?_
  intro a8 ha8; clear ha6 a6
  refine wl_val ha8 rfl rfl rfl (op_move ha8 rfl rfl) ?_
  intro a9 ha9; clear ha8 a8
  refine wl_val ha9 rfl rfl rfl (op_len_sl ha9 rfl Try.underlying25 rfl h_list) ?_
  intro a10 ha10; clear ha9 a9
  refine wl_val ha10 rfl rfl rfl (op_lss ha10 rfl rfl rfl) ?_
  intro a11 ha11; clear ha10 a10
  refine wpList_nil ?_
  refine then_n ?_
  by_cases c12 : ((i : Nat) : Int) < ((list.length : Nat) : Int)
  ·
   rw [decide_eq_true c12] at ha11
   refine cond_t ha11 rfl ?_
   refine wp_skip ?_
   refine then_n ?_
   refine wp_seq ?_
   refine wp_block ?_
   refine wp_region_lit ?_
   refine wl_val ha11 rfl rfl rfl (op_move ha11 rfl rfl) ?_
   intro a13 ha13; clear ha11 a11
   refine wl_val ha13 rfl rfl rfl (op_move ha13 rfl rfl) ?_
   intro a14 ha14; clear ha13 a13
   refine wl_val ha14 rfl rfl rfl (op_move ha14 rfl rfl) ?_
   intro a15 ha15; clear ha14 a14
   obtain ⟨x16, hx16⟩ := get_ex (xs := list) (j := i) (by omega)
   obtain ⟨p17, c18, hi19, hc20, hr21, hs22⟩ := Rds.at_ h_list hx16
   obtain ⟨rfl, b23, b24⟩ := inv_shRec hr21
   have hrx16 := g0 _ (List.mem_of_getElem? hx16)
   have hbx16 := recB_bd hrx16
   have hlx16 := lineS_len hrx16
   refine wl_val ha15 rfl rfl rfl (op_indexAddr ha15 rfl Try.underlying25 ti36 rfl rfl (by omega) hi19) ?_
   intro a25 ha25; clear ha15 a15
   refine wl_val ha25 rfl rfl rfl (op_loadS ha25 rfl Try.underlying36 ti36 rfl rfl (hc20.ext hx5)) ?_
   intro a26 ha26; clear ha25 a25
   refine wl_callR ha26 rfl rfl rfl (op_call ha26 rfl cb63 rfl) (c_spec_l32Line _ x16 (by first | assumption | omega | (simp; omega) | (simp [mkN_length]; omega)) (by first | assumption | omega | (simp; omega) | (simp [mkN_length]; omega)) (by first | assumption | omega | (simp; omega) | (simp [mkN_length]; omega))) ?_
   rintro v27 w28 he29 rfl a30 ha30; clear ha26 a26
   have hx31 := hx5.trans' he29
   have hzhx31 := he29.size
   refine wl_val ha30 rfl rfl rfl (op_sadd ha30 rfl rfl rfl (by omega)) ?_
   intro a32 ha32; clear ha30 a30
   refine wl_val ha32 rfl rfl rfl (op_assign ha32 rfl rfl) ?_
   intro a33 ha33; clear ha32 a32
   refine wpList_nil ?_
   refine block_n ?_
   refine then_n ?_
   refine wp_region_lit ?_
   refine wl_val ha33 rfl rfl rfl (op_move ha33 rfl rfl) ?_
   intro a34 ha34; clear ha33 a33
   refine wl_val ha34 rfl rfl rfl ((op_add ha34 rfl rfl rfl).int (IntWalk.i64_in _ (by omega))) ?_
   intro a35 ha35; clear ha34 a34
   refine wl_val ha35 rfl rfl rfl (op_assign ha35 rfl rfl) ?_
   intro a36 ha36; clear ha35 a35
   refine wpList_nil ?_
   refine round_end (x := (i, t)) ((i + 1), t ++ ((lineS x16))) ?_ ?_
   ·
    refine ⟨(Sl.cons_ ha36 rfl rfl (Sl.cons_ ha36 rfl rfl (Sl.cons_ ha36 rfl (int_eq (by omega)) (Sl.nil_ ha36)))), hx31, (by omega), (by omega), (by simp only [List.length_append]; omega), (by rw [drop_cons hx16, fileS, ← List.append_assoc] at hF; exact hF)⟩
   ·show (list.length - ((i + 1)) : Nat) < list.length - i; omega
  ·
   rw [decide_eq_false c12] at ha11
   refine cond_f ha11 rfl ?_
   refine wp_exit ?_
   refine then_e ?_
   refine then_e ?_
   refine block_hit ?_
   refine then_n ?_
   refine wp_seq ?_
   refine wp_region_lit ?_
   refine wl_val ha11 rfl rfl rfl (op_move ha11 rfl rfl) ?_
   intro a37 ha37; clear ha11 a11
   refine wl_val ha37 rfl rfl rfl (op_assign ha37 rfl rfl) ?_
   intro a38 ha38; clear ha37 a37
   refine wpList_nil ?_
   refine then_n ?_
   refine wp_ret ?_
   refine ret1 ha38 rfl rfl ?_
   clear ha38 a38
   exact ret_mk hx5 (congrArg St (by rw [drop_nil (by omega), fileS, List.append_nil] at hF; exact hF))

theorem c_impl_FileText (w0 : World) (v_list : Value) (list : List (Int × Str)) {S_list : Nat → Prop} (h_list : Rds shRec S_list w0 v_list list) (g0 : list.length ≤ 1048576) :
  Calls Try.prog 19 #[v_list] w0 (Ret w0 (fun v _ => v = .tuple #[St (if areB list then fileS list else []), .int .i64 (if areB list then 0 else 1)])) := by
 refine enter (N := 9) Try.func19 rfl rfl rfl ?_
 intro a0 ha0
 have hx0 := Ext.rfl' w0
 have hl_list := h_list.length_le
 refine wp_seq ?_
 refine wp_region_lit ?_
 refine wl_val ha0 rfl rfl rfl (op_assign ha0 rfl rfl) ?_
 intro a1 ha1; clear ha0 a0
 refine wl_val ha1 rfl rfl rfl (op_assign ha1 rfl rfl) ?_
 intro a2 ha2; clear ha1 a1
 refine wpList_nil ?_
 refine then_n ?_
 refine wp_seq ?_
 refine wp_seq ?_
 refine wp_region_lit ?_
 refine wl_val ha2 rfl rfl rfl (op_move ha2 rfl rfl) ?_
 intro a3 ha3; clear ha2 a2
 refine wl_callR ha3 rfl rfl rfl (op_call ha3 rfl cb16 rfl) (c_impl_AreRecords _ v_list list (h_list.ext pos_shRec hx0) (by first | assumption | omega | exact areB_all ‹_› | exact areB_len ‹_›)) ?_
 rintro v4 w5 he6 rfl a7 ha7; clear ha3 a3
 have hx8 := hx0.trans' he6
 have hzhx8 := he6.size
 refine wl_val ha7 rfl rfl rfl (op_not ha7 rfl rfl) ?_
 intro a9 ha9; clear ha7 a7
 refine wpList_nil ?_
 refine then_n ?_
 rcases Bool.eq_false_or_eq_true (areB list) with c10 | c10
 ·
  rw [c10] at ha9
  refine cond_f ha9 rfl ?_
  refine wp_skip ?_
  refine then_n ?_
  refine wp_seq ?_
  refine wp_region_lit ?_
  refine wl_val ha9 rfl rfl rfl (op_move ha9 rfl rfl) ?_
  intro a11 ha11; clear ha9 a9
  refine wl_callR ha11 rfl rfl rfl (op_call ha11 rfl cb52 rfl) (c_impl_fileText _ v_list list (h_list.ext pos_shRec hx8) (by first | assumption | omega | exact areB_all ‹_› | exact areB_len ‹_›) (by first | assumption | omega | exact areB_all ‹_› | exact areB_len ‹_›)) ?_
  rintro v12 w13 he14 rfl a15 ha15; clear ha11 a11
  have hx16 := hx8.trans' he14
  have hzhx16 := he14.size
  refine wl_val ha15 rfl rfl rfl (op_assign ha15 rfl rfl) ?_
  intro a17 ha17; clear ha15 a15
  refine wl_val ha17 rfl rfl rfl (op_assign ha17 rfl rfl) ?_
  intro a18 ha18; clear ha17 a17
  refine wpList_nil ?_
  refine then_n ?_
  refine wp_ret ?_
  refine ret2 ha18 rfl rfl rfl ?_
  clear ha18 a18
  exact ret_mk hx16 (tup2_eq (congrArg St (by simp [c10])) (int_eq (by simp [c10])))
 ·
  rw [c10] at ha9
  refine cond_t ha9 rfl ?_
  refine wp_seq ?_
  refine wp_region_lit ?_
  refine wl_val ha9 rfl rfl rfl (op_assign ha9 rfl rfl) ?_
  intro a19 ha19; clear ha9 a9
  refine wl_val ha19 rfl rfl rfl (op_assign ha19 rfl rfl) ?_
  intro a20 ha20; clear ha19 a19
  refine wpList_nil ?_
  refine then_n ?_
  refine wp_ret ?_
  refine then_r ?_
  refine ret2 ha20 rfl rfl rfl ?_
  clear ha20 a20
  exact ret_mk hx8 (tup2_eq (congrArg St (by simp [c10])) (int_eq (by simp [c10])))

theorem c_spec_FileText (w0 : World) (v_list : Value) (list : List (Int × Str)) {S_list : Nat → Prop} (h_list : Rds shRec S_list w0 v_list list) (g0 : list.length ≤ 1048576) :
  Calls Try.prog 18 #[v_list] w0 (Ret w0 (fun v _ => v = .tuple #[St (if areB list then fileS list else []), .int .i64 (if areB list then 0 else 1)])) := by
 refine enter (N := 9) Try.func18 rfl rfl rfl ?_
 intro a0 ha0
 have hx0 := Ext.rfl' w0
 have hl_list := h_list.length_le
 refine wp_seq ?_
 refine wp_region_lit ?_
 refine wl_val ha0 rfl rfl rfl (op_assign ha0 rfl rfl) ?_
 intro a1 ha1; clear ha0 a0
 refine wl_val ha1 rfl rfl rfl (op_assign ha1 rfl rfl) ?_
 intro a2 ha2; clear ha1 a1
 refine wpList_nil ?_
 refine then_n ?_
 refine wp_seq ?_
 refine wp_seq ?_
 refine wp_region_lit ?_
 refine wl_val ha2 rfl rfl rfl (op_move ha2 rfl rfl) ?_
 intro a3 ha3; clear ha2 a2
 refine wl_callR ha3 rfl rfl rfl (op_call ha3 rfl cb14 rfl) (c_spec_AreRecords _ v_list list (h_list.ext pos_shRec hx0) (by first | assumption | omega | exact areB_all ‹_› | exact areB_len ‹_›)) ?_
 rintro v4 w5 he6 rfl a7 ha7; clear ha3 a3
 have hx8 := hx0.trans' he6
 have hzhx8 := he6.size
 refine wl_val ha7 rfl rfl rfl (op_not ha7 rfl rfl) ?_
 intro a9 ha9; clear ha7 a7
 refine wpList_nil ?_
 refine then_n ?_
 rcases Bool.eq_false_or_eq_true (areB list) with c10 | c10
 ·
  rw [c10] at ha9
  refine cond_f ha9 rfl ?_
  refine wp_skip ?_
  refine then_n ?_
  refine wp_seq ?_
  refine wp_region_lit ?_
  refine wl_val ha9 rfl rfl rfl (op_move ha9 rfl rfl) ?_
  intro a11 ha11; clear ha9 a9
  refine wl_callR ha11 rfl rfl rfl (op_call ha11 rfl cb51 rfl) (c_spec_l32File _ v_list list (h_list.ext pos_shRec hx8) (by first | assumption | omega | exact areB_all ‹_› | exact areB_len ‹_›) (by first | assumption | omega | exact areB_all ‹_› | exact areB_len ‹_›)) ?_
  rintro v12 w13 he14 rfl a15 ha15; clear ha11 a11
  have hx16 := hx8.trans' he14
  have hzhx16 := he14.size
  refine wl_val ha15 rfl rfl rfl (op_assign ha15 rfl rfl) ?_
  intro a17 ha17; clear ha15 a15
  refine wl_val ha17 rfl rfl rfl (op_assign ha17 rfl rfl) ?_
  intro a18 ha18; clear ha17 a17
  refine wpList_nil ?_
  refine then_n ?_
  refine wp_ret ?_
  refine ret2 ha18 rfl rfl rfl ?_
  clear ha18 a18
  exact ret_mk hx16 (tup2_eq (congrArg St (by simp [c10])) (int_eq (by simp [c10])))
 ·
  rw [c10] at ha9
  refine cond_t ha9 rfl ?_
  refine wp_seq ?_
  refine wp_region_lit ?_
  refine wl_val ha9 rfl rfl rfl (op_assign ha9 rfl rfl) ?_
  intro a19 ha19; clear ha9 a9
  refine wl_val ha19 rfl rfl rfl (op_assign ha19 rfl rfl) ?_
  intro a20 ha20; clear ha19 a19
  refine wpList_nil ?_
  refine then_n ?_
  refine wp_ret ?_
  refine then_r ?_
  refine ret2 ha20 rfl rfl rfl ?_
  clear ha20 a20
  exact ret_mk hx8 (tup2_eq (congrArg St (by simp [c10])) (int_eq (by simp [c10])))


end Go.Proofs.Ytkdnclpgijkceaa
