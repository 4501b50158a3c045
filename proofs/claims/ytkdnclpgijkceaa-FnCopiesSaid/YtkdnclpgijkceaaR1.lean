/- Records out of pieces. -/
import Derived.Test.YtkdnclpgijkceaaV1
import Derived.Test.YtkdnclpgijkceaaW3
namespace Go.Proofs.Ytkdnclpgijkceaa
open Go Go.RowKit

/-- The first place of a byte, counted on from k; -1: none. -/
def fi (b : UInt8) : Str → Int → Int
  | [], _ => -1
  | c :: s, k => if c = b then k else fi b s (k + 1)
theorem fi_nil (b : UInt8) (k : Int) : fi b [] k = -1 := rfl
theorem fi_hit {b c : UInt8} {s : Str} {k : Int} (h : (c.toNat : Int) = (b.toNat : Int)) : fi b (c :: s) k = k := by
  have : c = b := by apply UInt8.toNat_inj.1; omega
  rw [fi, if_pos this]
theorem fi_miss {b c : UInt8} {s : Str} {k : Int} (h : ¬ (c.toNat : Int) = (b.toNat : Int)) : fi b (c :: s) k = fi b s (k + 1) := by
  have : ¬ c = b := fun q => h (by rw [q])
  rw [fi, if_neg this]
theorem fi_bd (b : UInt8) : ∀ (s : Str) (k : Int), 0 ≤ k → -1 ≤ fi b s k ∧ fi b s k < k + s.length
  | [], k, h => by rw [fi_nil]; simp; omega
  | c :: s, k, h => by
    have := fi_bd b s (k + 1) (by omega)
    rw [fi]; split
    · simp; omega
    · simp; omega
theorem fi_append {b : UInt8} : ∀ (s t : Str) (k : Int), (∀ c ∈ s, c ≠ b) → fi b (s ++ t) k = fi b t (k + s.length)
  | [], t, k, _ => by simp
  | c :: s, t, k, h => by
    rw [List.cons_append, fi, if_neg (h c (by simp)), fi_append s t _ (fun d hd => h d (by simp [hd]))]
    congr 1; simp; omega
/-- The record that a piece would be, read as the program does. -/
def rrC (p : Str) : Int := fi 58 p 0
def rrM (p : Str) : Int := fi 35 p 0
def rrN (p : Str) : Int × Bool := rdV (p.take (rrC p).toNat)
def rrT (p : Str) : Str := (p.take (rrM p).toNat).drop ((rrC p).toNat + 1)
def rrB (p : Str) : Bool := !decide (rrC p < 0) && !decide (rrM p < rrC p) && (rrN p).2 && recB ((rrN p).1, rrT p) && decide (lineS ((rrN p).1, rrT p) = p)
def rrR (p : Str) : Int × Str := if rrB p then ((rrN p).1, rrT p) else (0, [])
/-- The same, as the reference does. -/
def spN (p : Str) : Int × Bool := l01V (p.take (rrC p).toNat)
def spG (p : Str) : Bool := decide (0 ≤ rrC p) && decide (rrC p < rrM p)
def spR (p : Str) : Int × Str := if spG p then ((spN p).1, rrT p) else (0, [])
def spB (p : Str) : Bool := spG p && ((spN p).2 && recB ((spN p).1, rrT p) && decide (lineS ((spN p).1, rrT p) = p))
theorem rrB_def (p : Str) : rrB p = (!decide (rrC p < 0) && !decide (rrM p < rrC p) && (rrN p).2 && recB ((rrN p).1, rrT p) && decide (lineS ((rrN p).1, rrT p) = p)) := rfl
theorem rr_rec {p : Str} (h : rrB p = true) : recB (rrR p) = true ∧ lineS (rrR p) = p := by
  unfold rrR; rw [if_pos h]
  unfold rrB at h; simp only [Bool.and_eq_true, decide_eq_true_eq] at h
  exact ⟨h.1.2, h.2⟩
theorem sp_rec {p : Str} (h : spB p = true) : recB (spR p) = true ∧ lineS (spR p) = p := by
  unfold spB at h; simp only [Bool.and_eq_true, decide_eq_true_eq] at h
  unfold spR; rw [if_pos h.1]
  exact ⟨h.2.1.2, h.2.2⟩
theorem digs_dig : ∀ (k n : Nat), n ≤ k → ∀ c ∈ digs n, 48 ≤ c.toNat ∧ c.toNat ≤ 57 := by
  intro k
  induction k with
  | zero => intro n h c hc; rw [digs_lt (by omega)] at hc; simp only [List.mem_singleton] at hc; subst hc; rw [UInt8.toNat_ofNat']; omega
  | succ k ih =>
    intro n h c hc
    by_cases h10 : n < 10
    · rw [digs_lt h10] at hc; simp only [List.mem_singleton] at hc; subst hc; rw [UInt8.toNat_ofNat']; omega
    · rw [digs_ge h10] at hc
      rcases List.mem_append.1 hc with hc | hc
      · exact ih _ (by omega) c hc
      · simp only [List.mem_singleton] at hc; subst hc; rw [UInt8.toNat_ofNat']; omega
theorem valGo_append : ∀ (s t : Str) (n : Int), valGo n (s ++ t) = (valGo n s).bind fun m => valGo m t
  | [], t, n => by simp [valGo]
  | b :: s, t, n => by
    rw [List.cons_append, valGo, valGo]; split
    · rfl
    · exact valGo_append s t _
theorem valGo_digs : ∀ (k n : Nat), n ≤ k → valGo 0 (digs n) = some (n : Int) := by
  intro k
  induction k with
  | zero => intro n h; have : n = 0 := by omega
            subst this; rw [digs_lt (by omega)]; decide
  | succ k ih =>
    intro n h
    have hd : ((UInt8.ofNat (48 + n % 10)).toNat : Int) = 48 + ((n % 10 : Nat) : Int) := by rw [UInt8.toNat_ofNat']; omega
    by_cases h10 : n < 10
    · rw [digs_lt h10, valGo_ok (by rw [hd]; omega) (by rw [hd]; omega), valGo_nil, hd]; congr 1; omega
    · rw [digs_ge h10, valGo_append, ih _ (by omega)]
      simp only [Option.bind_some]
      rw [valGo_ok (by rw [hd]; omega) (by rw [hd]; omega), valGo_nil, hd]; congr 1; omega
theorem digs_head : ∀ (k n : Nat), n ≤ k → 0 < n → ∃ c s, digs n = c :: s ∧ 49 ≤ c.toNat := by
  intro k
  induction k with
  | zero => intro n h h0; omega
  | succ k ih =>
    intro n h h0
    by_cases h10 : n < 10
    · exact ⟨_, [], digs_lt h10, by rw [UInt8.toNat_ofNat']; omega⟩
    · obtain ⟨c, s, e, hc⟩ := ih (n / 10) (by omega) (by omega)
      exact ⟨c, s ++ [UInt8.ofNat (48 + n % 10)], by rw [digs_ge h10, e]; rfl, hc⟩
theorem digs_chI {n : Nat} (h : chI (digs n) 0 = some 48) : n = 0 := by
  rcases Nat.eq_zero_or_pos n with h0 | h0
  · exact h0
  · obtain ⟨c, s, e, hc⟩ := digs_head n n (Nat.le_refl _) h0
    rw [e, chI_eq (s := c :: s) (b := c) rfl] at h
    simp only [Option.some.injEq] at h
    omega
theorem rdV_digs {n : Nat} (h : n ≤ 9999) : rdV (digs n) = ((n : Int), true) := by
  have hl : (digs n).length ≤ 4 := digs_len 3 n (by omega)
  have hp := digs_pos n
  obtain ⟨b, hb⟩ := get_ex (xs := digs n) (j := 0) (by omega)
  have hbd := digs_dig n n (Nat.le_refl _) b (List.mem_of_getElem? hb)
  have hd : rdD (digs n) = digs n := rdD_f hb (by omega)
  rw [rdV_some hd ?_ (valGo_digs n n (Nat.le_refl _)), if_neg (by omega)]
  unfold rdBad
  intro hq
  rcases hq with hq | hq | ⟨hq, hq2⟩
  · omega
  · omega
  · have h0 := digs_chI hq
    subst h0
    rw [digs_lt (by omega)] at hq2
    simp at hq2
theorem l01V_digs {n : Nat} (h : n ≤ 9999) : l01V (digs n) = ((n : Int), true) := by
  have hl : (digs n).length ≤ 4 := digs_len 3 n (by omega)
  have hp := digs_pos n
  rw [l01V_some (valGo_digs n n (Nat.le_refl _)) (by omega) (by omega), decS_nn (by omega)]
  simp
theorem okB_ne {c : UInt8} (h : okB c = true) : c ≠ 35 ∧ c ≠ 58 := by
  rw [okB_iff] at h
  constructor
  · intro q; subst q; revert h; decide
  · intro q; subst q; revert h; decide
/-- The line of a record is read back. -/
theorem line_cut {r : Int × Str} (h : recB r = true) : ∃ n : Nat, r.1 = n ∧ n ≤ 9999 ∧ rrC (lineS r) = (digs n).length ∧ rrM (lineS r) = (digs n).length + 1 + r.2.length ∧ (lineS r).take (digs n).length = digs n ∧ rrT (lineS r) = r.2 := by
  obtain ⟨h1, h2, h3⟩ := recB_bd h
  have hall : ∀ c ∈ r.2, okB c = true := by
    unfold recB at h; simp only [Bool.and_eq_true, List.all_eq_true] at h; exact h.2
  refine ⟨r.1.toNat, by omega, by omega, ?_⟩
  have hdig := digs_dig r.1.toNat r.1.toNat (Nat.le_refl _)
  have e : lineS r = digs r.1.toNat ++ (58 :: (r.2 ++ (35 :: (decS (chkGo r.1 r.2) ++ [10])))) := by unfold lineS; rw [decS_nn h1]; simp
  have e58 : rrC (lineS r) = (digs r.1.toNat).length := by
    unfold rrC; rw [e, fi_append _ _ _ (fun c hc => by have := hdig c hc; intro q; subst q; revert this; decide), fi_hit rfl]; simp
  have e35 : rrM (lineS r) = (digs r.1.toNat).length + 1 + r.2.length := by
    unfold rrM; rw [e, fi_append _ _ _ (fun c hc => by have := hdig c hc; intro q; subst q; revert this; decide), fi_miss (by decide), fi_append _ _ _ (fun c hc => (okB_ne (hall c hc)).1), fi_hit rfl]; simp
  refine ⟨e58, e35, by rw [e, List.take_left'] ; rfl, ?_⟩
  unfold rrT
  rw [e58, e35, e]
  have a1 : ((digs r.1.toNat).length + 1 + r.2.length : Int).toNat = (digs r.1.toNat).length + (1 + r.2.length) := by omega
  have a2 : (((digs r.1.toNat).length : Nat) : Int).toNat + 1 = (digs r.1.toNat).length + 1 := by omega
  rw [a1, a2, List.take_append, List.take_of_length_le (by omega)]
  rw [← List.drop_drop, List.drop_left']
  · simp [List.take_add]
  · rfl
theorem rr_line {r : Int × Str} (h : recB r = true) : rrB (lineS r) = true ∧ rrR (lineS r) = r := by
  obtain ⟨n, e1, hn, e2, e3, e4, e5⟩ := line_cut h
  have eN : rrN (lineS r) = (r.1, true) := by unfold rrN; rw [e2, Int.toNat_natCast, e4, rdV_digs hn, e1]
  have eB : rrB (lineS r) = true := by
    unfold rrB; rw [eN, e5, e2, e3]; simp [h]; omega
  refine ⟨eB, ?_⟩
  unfold rrR; rw [if_pos eB, eN, e5]
theorem sp_line {r : Int × Str} (h : recB r = true) : spB (lineS r) = true ∧ spR (lineS r) = r := by
  obtain ⟨n, e1, hn, e2, e3, e4, e5⟩ := line_cut h
  have eN : spN (lineS r) = (r.1, true) := by unfold spN; rw [e2, Int.toNat_natCast, e4, l01V_digs hn, e1]
  have eG : spG (lineS r) = true := by unfold spG; rw [e2, e3]; simp; omega
  refine ⟨?_, ?_⟩
  · unfold spB; rw [eN, e5, eG]; simp [h]
  · unfold spR; rw [if_pos eG, eN, e5]
theorem sp_eq (p : Str) : spB p = rrB p := by
  rw [Bool.eq_iff_iff]
  constructor
  · intro h
    obtain ⟨h1, h2⟩ := sp_rec h
    have := (rr_line h1).1; rwa [h2] at this
  · intro h
    obtain ⟨h1, h2⟩ := rr_rec h
    have := (sp_line h1).1; rwa [h2] at this
theorem spR_eq {p : Str} (h : rrB p = true) : spR p = rrR p := by
  obtain ⟨h1, h2⟩ := rr_rec h
  have := (sp_line h1).2; rwa [h2] at this
theorem rrR_bd (p : Str) : 0 ≤ (rrR p).1 ∧ (rrR p).1 ≤ 9999 ∧ (rrR p).2.length ≤ 20 := by
  by_cases h : rrB p = true
  · exact recB_bd (rr_rec h).1
  · unfold rrR; rw [if_neg h]; simp
theorem spR_bd (p : Str) : 0 ≤ (spR p).1 ∧ (spR p).1 ≤ 10000000000000 ∧ (spR p).2.length ≤ p.length := by
  unfold spR; split
  · refine ⟨(l01V_bd _).1, (l01V_bd _).2, ?_⟩
    unfold rrT; simp; omega
  · simp

theorem c_impl_readRecord (w0 : World) (piece : Str) (g0 : piece.length ≤ 1048576) :
  Calls Try.prog 72 #[St piece] w0 (Ret w0 (fun v _ => v = .tuple #[.agg #[.int .i64 ((rrR piece)).1, St (((rrR piece)).2)], .bool (rrB piece)])) := by
 refine enter (N := 71) Try.func72 rfl rfl rfl ?_
 intro a0 ha0
 have hx0 := Ext.rfl' w0
 refine wp_seq ?_
 refine wp_region_lit ?_
 refine wl_eff ha0 rfl rfl rfl (op_alloc' rfl ti36 rfl) ?_
 rintro _ w2 ⟨rfl, he3, hb4, hz5⟩ a6 ha6; clear ha0 a0
 have hx7 := hx0.trans' he3
 have hzhx7 := he3.size
 refine wl_val ha6 rfl rfl rfl (op_assign ha6 rfl rfl) ?_
 intro a8 ha8; clear ha6 a6
 refine wpList_nil ?_
 refine then_n ?_
 refine wp_seq ?_
 refine wp_region_lit ?_
 refine wl_val ha8 rfl rfl rfl (op_assign ha8 rfl rfl) ?_
 intro a9 ha9; clear ha8 a8
 refine wl_val ha9 rfl rfl rfl (op_assign ha9 rfl rfl) ?_
 intro a10 ha10; clear ha9 a9
 refine wpList_nil ?_
 refine then_n ?_
 refine wp_seq ?_
 refine wp_seq ?_
 refine wp_region_lit ?_
 refine wl_val ha10 rfl rfl rfl (op_assign ha10 rfl rfl) ?_
 intro a11 ha11; clear ha10 a10
 refine wpList_nil ?_
 refine then_n ?_
 refine wp_block ?_
 refine loop_inv (X := Nat × Int × Int) (fun (⟨i, c, m⟩ : Nat × Int × Int) fr wl => Sl 71 fr [(0, St piece), (2, .pointer (some (⟨w0.heap.size, 0, none⟩ : Addr))), (4, .int .i64 c), (5, .int .i64 m), (6, .int .i64 ((i : Nat) : Int))] ∧ Ext w0 wl ∧ Box wl w0.heap.size 36 [.int .i64 (0 : Int), St (([] : Str))] ∧ w2.heap.size ≤ wl.heap.size ∧ (i ≤ piece.length) ∧ (-1 ≤ c) ∧ (c < (i : Int)) ∧ (-1 ≤ m) ∧ (m < (i : Int)) ∧ (0 ≤ c → ∃ b : UInt8, piece[c.toNat]? = some b ∧ (b.toNat : Int) = 58) ∧ (0 ≤ m → ∃ b : UInt8, piece[m.toNat]? = some b ∧ (b.toNat : Int) = 35) ∧ ((if c < 0 then fi 58 (piece.drop i) i else c) = fi 58 piece 0) ∧ ((if m < 0 then fi 35 (piece.drop i) i else m) = fi 35 piece 0)) (fun (⟨i, c, m⟩ : Nat × Int × Int) => piece.length - i) (0, (-1 : Int), (-1 : Int)) ?_ ?_
 ·
  exact ⟨(Sl.cons_ ha11 rfl rfl (Sl.cons_ ha11 rfl rfl (Sl.cons_ ha11 rfl (int_eq (by omega)) (Sl.cons_ ha11 rfl (int_eq (by omega)) (Sl.cons_ ha11 rfl (int_eq (by omega)) (Sl.nil_ ha11)))))), hx7, hb4, (by omega), (by omega), (by omega), (by omega), (by omega), (by omega), (by intro h; omega), (by intro h; omega), (by rfl), (by rfl)⟩
 ·
  clear ha11 a11
  rintro ⟨i, c, m⟩ a15 w12 ⟨ha15, hx13, hf14, hzl16, hi, hc0, hc1, hm0, hm1, hc, hm, hcF, hmF⟩
  have hzhx13 := hx13.size
  refine wp_seq ?_
  refine wp_seq ?_
  refine wp_region_lit ?_
  refine wl_val ha15 rfl rfl rfl (op_move ha15 rfl rfl) ?_
  intro a17 ha17; clear ha15 a15
  refine wl_val ha17 rfl rfl rfl (op_move ha17 rfl rfl) ?_
  intro a18 ha18; clear ha17 a17
  refine wl_val ha18 rfl rfl rfl (op_len_str ha18 rfl Try.underlying9 rfl) ?_
  intro a19 ha19; clear ha18 a18
  refine wl_val ha19 rfl rfl rfl (op_lss ha19 rfl rfl rfl) ?_
  intro a20 ha20; clear ha19 a19
  refine wpList_nil ?_
  refine then_n ?_
  by_cases c21 : ((i : Nat) : Int) < ((piece.length : Nat) : Int)
  ·
   rw [decide_eq_true c21] at ha20
   refine cond_t ha20 rfl ?_
   refine wp_skip ?_
   refine then_n ?_
   refine wp_seq ?_
   refine wp_block ?_
   refine wp_seq ?_
   refine wp_seq ?_
   refine wp_region_lit ?_
   refine wl_val ha20 rfl rfl rfl (op_move ha20 rfl rfl) ?_
   intro a22 ha22; clear ha20 a20
   refine wl_val ha22 rfl rfl rfl (op_move ha22 rfl rfl) ?_
   intro a23 ha23; clear ha22 a22
   obtain ⟨b24, hb24⟩ := get_ex (xs := piece) (j := i) (by omega)
   have b24_lt := b24.toNat_lt
   refine wl_val ha23 rfl rfl rfl (op_index_str ha23 rfl Try.underlying9 rfl rfl (by omega) hb24) ?_
   intro a25 ha25; clear ha23 a23
   refine wl_val ha25 rfl rfl rfl (op_eql ha25 rfl rfl rfl) ?_
   intro a26 ha26; clear ha25 a25
   refine wl_val ha26 rfl rfl rfl (op_move ha26 rfl rfl) ?_
   intro a27 ha27; clear ha26 a26
   by_cases c28 : (b24.toNat : Int) = (58 : Int)
   ·
    rw [decide_eq_true c28] at ha27
    refine wl_val ha27 rfl rfl rfl (op_move ha27 rfl rfl) ?_
    intro a29 ha29; clear ha27 a27
    refine wl_val ha29 rfl rfl rfl (op_lss ha29 rfl rfl rfl) ?_
    intro a30 ha30; clear ha29 a29
    refine wl_val ha30 rfl rfl rfl (op_pick_t ha30 rfl rfl rfl) ?_
    intro a31 ha31; clear ha30 a30
    refine wpList_nil ?_
    refine then_n ?_
    by_cases c32 : c < (0 : Int)
    ·
     rw [decide_eq_true c32] at ha31
     refine cond_t ha31 rfl ?_
     refine wp_region_lit ?_
     refine wl_val ha31 rfl rfl rfl (op_move ha31 rfl rfl) ?_
     intro a33 ha33; clear ha31 a31
     refine wl_val ha33 rfl rfl rfl (op_assign ha33 rfl rfl) ?_
     intro a34 ha34; clear ha33 a33
     refine wpList_nil ?_
     refine then_n ?_
     refine wp_seq ?_
     refine wp_region_lit ?_
     refine wl_val ha34 rfl rfl rfl (op_move ha34 rfl rfl) ?_
     intro a35 ha35; clear ha34 a34
     refine wl_val ha35 rfl rfl rfl (op_move ha35 rfl rfl) ?_
     intro a36 ha36; clear ha35 a35
     refine wl_val ha36 rfl rfl rfl (op_index_str ha36 rfl Try.underlying9 rfl rfl (by omega) hb24) ?_
     intro a37 ha37; clear ha36 a36
     refine wl_val ha37 rfl rfl rfl (op_eql ha37 rfl rfl rfl) ?_
     intro a38 ha38; clear ha37 a37
     refine wl_val ha38 rfl rfl rfl (op_move ha38 rfl rfl) ?_
     intro a39 ha39; clear ha38 a38
     by_cases c40 : (b24.toNat : Int) = (35 : Int)
     ·
      rw [decide_eq_true c40] at ha39
      refine wl_val ha39 rfl rfl rfl (op_move ha39 rfl rfl) ?_
      intro a41 ha41; clear ha39 a39
      refine wl_val ha41 rfl rfl rfl (op_lss ha41 rfl rfl rfl) ?_
      intro a42 ha42; clear ha41 a41
      refine wl_val ha42 rfl rfl rfl (op_pick_t ha42 rfl rfl rfl) ?_
      intro a43 ha43; clear ha42 a42
      refine wpList_nil ?_
      refine then_n ?_
      by_cases c44 : m < (0 : Int)
      ·
       rw [decide_eq_true c44] at ha43
       refine cond_t ha43 rfl ?_
       refine wp_region_lit ?_
       refine wl_val ha43 rfl rfl rfl (op_move ha43 rfl rfl) ?_
       intro a45 ha45; clear ha43 a43
       refine wl_val ha45 rfl rfl rfl (op_assign ha45 rfl rfl) ?_
       intro a46 ha46; clear ha45 a45
       refine wpList_nil ?_
       refine block_n ?_
       refine then_n ?_
       refine wp_region_lit ?_
       refine wl_val ha46 rfl rfl rfl (op_move ha46 rfl rfl) ?_
       intro a47 ha47; clear ha46 a46
       refine wl_val ha47 rfl rfl rfl ((op_add ha47 rfl rfl rfl).int (IntWalk.i64_in _ (by omega))) ?_
       intro a48 ha48; clear ha47 a47
       refine wl_val ha48 rfl rfl rfl (op_assign ha48 rfl rfl) ?_
       intro a49 ha49; clear ha48 a48
       refine wpList_nil ?_
       refine round_end (x := (i, c, m)) ((i + 1), ((i : Nat) : Int), ((i : Nat) : Int)) ?_ ?_
       ·
        refine ⟨(Sl.cons_ ha49 rfl rfl (Sl.cons_ ha49 rfl rfl (Sl.cons_ ha49 rfl (int_eq (by omega)) (Sl.cons_ ha49 rfl (int_eq (by omega)) (Sl.cons_ ha49 rfl (int_eq (by omega)) (Sl.nil_ ha49)))))), hx13, hf14, (by omega), (by omega), (by omega), (by omega), (by omega), (by omega), (by first | (intro h; omega) | (intro h; exact hc h) | (intro h; rw [show ((i : Int)).toNat = i from rfl]; exact ⟨_, hb24, c28⟩)), (by first | (intro h; omega) | (intro h; exact hm h) | (intro h; rw [show ((i : Int)).toNat = i from rfl]; exact ⟨_, hb24, c40⟩)), (by rw [drop_cons hb24, fi_hit c28] at hcF; first | exact hcF | (split at hcF <;> split <;> omega)), (by rw [drop_cons hb24, fi_hit c40] at hmF; first | exact hmF | (split at hmF <;> split <;> omega))⟩
       ·show (piece.length - ((i + 1)) : Nat) < piece.length - i; omega
      ·
       rw [decide_eq_false c44] at ha43
       refine cond_f ha43 rfl ?_
       refine wp_skip ?_
       refine block_n ?_
       refine then_n ?_
       refine wp_region_lit ?_
       refine wl_val ha43 rfl rfl rfl (op_move ha43 rfl rfl) ?_
       intro a50 ha50; clear ha43 a43
       refine wl_val ha50 rfl rfl rfl ((op_add ha50 rfl rfl rfl).int (IntWalk.i64_in _ (by omega))) ?_
       intro a51 ha51; clear ha50 a50
       refine wl_val ha51 rfl rfl rfl (op_assign ha51 rfl rfl) ?_
       intro a52 ha52; clear ha51 a51
       refine wpList_nil ?_
       refine round_end (x := (i, c, m)) ((i + 1), ((i : Nat) : Int), m) ?_ ?_
       ·
        refine ⟨(Sl.cons_ ha52 rfl rfl (Sl.cons_ ha52 rfl rfl (Sl.cons_ ha52 rfl (int_eq (by omega)) (Sl.cons_ ha52 rfl (int_eq (by omega)) (Sl.cons_ ha52 rfl (int_eq (by omega)) (Sl.nil_ ha52)))))), hx13, hf14, (by omega), (by omega), (by omega), (by omega), (by omega), (by omega), (by first | (intro h; omega) | (intro h; exact hc h) | (intro h; rw [show ((i : Int)).toNat = i from rfl]; exact ⟨_, hb24, c28⟩)), (by first | (intro h; omega) | (intro h; exact hm h) | (intro h; rw [show ((i : Int)).toNat = i from rfl]; exact ⟨_, hb24, c40⟩)), (by rw [drop_cons hb24, fi_hit c28] at hcF; first | exact hcF | (split at hcF <;> split <;> omega)), (by rw [drop_cons hb24, fi_hit c40] at hmF; first | exact hmF | (split at hmF <;> split <;> omega))⟩
       ·show (piece.length - ((i + 1)) : Nat) < piece.length - i; omega
     ·
      rw [decide_eq_false c40] at ha39
      refine wl_skip ha39 rfl rfl rfl ?_
      intro a53 ha53; clear ha39 a39
      refine wl_skip ha53 rfl rfl rfl ?_
      intro a54 ha54; clear ha53 a53
      refine wl_val ha54 rfl rfl rfl (op_pick_f ha54 rfl rfl rfl) ?_
      intro a55 ha55; clear ha54 a54
      refine wpList_nil ?_
      refine then_n ?_
      refine cond_f ha55 rfl ?_
      refine wp_skip ?_
      refine block_n ?_
      refine then_n ?_
      refine wp_region_lit ?_
      refine wl_val ha55 rfl rfl rfl (op_move ha55 rfl rfl) ?_
      intro a56 ha56; clear ha55 a55
      refine wl_val ha56 rfl rfl rfl ((op_add ha56 rfl rfl rfl).int (IntWalk.i64_in _ (by omega))) ?_
      intro a57 ha57; clear ha56 a56
      refine wl_val ha57 rfl rfl rfl (op_assign ha57 rfl rfl) ?_
      intro a58 ha58; clear ha57 a57
      refine wpList_nil ?_
      refine round_end (x := (i, c, m)) ((i + 1), ((i : Nat) : Int), m) ?_ ?_
      ·
       refine ⟨(Sl.cons_ ha58 rfl rfl (Sl.cons_ ha58 rfl rfl (Sl.cons_ ha58 rfl (int_eq (by omega)) (Sl.cons_ ha58 rfl (int_eq (by omega)) (Sl.cons_ ha58 rfl (int_eq (by omega)) (Sl.nil_ ha58)))))), hx13, hf14, (by omega), (by omega), (by omega), (by omega), (by omega), (by omega), (by first | (intro h; omega) | (intro h; exact hc h) | (intro h; rw [show ((i : Int)).toNat = i from rfl]; exact ⟨_, hb24, c28⟩)), (by first | (intro h; omega) | (intro h; exact hm h) | (intro h; rw [show ((i : Int)).toNat = i from rfl]; exact ⟨_, hb24, c40⟩)), (by rw [drop_cons hb24, fi_hit c28] at hcF; first | exact hcF | (split at hcF <;> split <;> omega)), (by rw [drop_cons hb24, fi_miss c40] at hmF; first | exact hmF | (split at hmF <;> split <;> omega))⟩
      ·show (piece.length - ((i + 1)) : Nat) < piece.length - i; omega
    ·
     rw [decide_eq_false c32] at ha31
     refine cond_f ha31 rfl ?_
     refine wp_skip ?_
     refine then_n ?_
     refine wp_seq ?_
     refine wp_region_lit ?_
     refine wl_val ha31 rfl rfl rfl (op_move ha31 rfl rfl) ?_
     intro a59 ha59; clear ha31 a31
     refine wl_val ha59 rfl rfl rfl (op_move ha59 rfl rfl) ?_
     intro a60 ha60; clear ha59 a59
     refine wl_val ha60 rfl rfl rfl (op_index_str ha60 rfl Try.underlying9 rfl rfl (by omega) hb24) ?_
     intro a61 ha61; clear ha60 a60
     refine wl_val ha61 rfl rfl rfl (op_eql ha61 rfl rfl rfl) ?_
     intro a62 ha62; clear ha61 a61
     refine wl_val ha62 rfl rfl rfl (op_move ha62 rfl rfl) ?_
     intro a63 ha63; clear ha62 a62
     by_cases c64 : (b24.toNat : Int) = (35 : Int)
     ·
      rw [decide_eq_true c64] at ha63
      refine wl_val ha63 rfl rfl rfl (op_move ha63 rfl rfl) ?_
      intro a65 ha65; clear ha63 a63
      refine wl_val ha65 rfl rfl rfl (op_lss ha65 rfl rfl rfl) ?_
      intro a66 ha66; clear ha65 a65
      refine wl_val ha66 rfl rfl rfl (op_pick_t ha66 rfl rfl rfl) ?_
      intro a67 ha67; clear ha66 a66
      refine wpList_nil ?_
      refine then_n ?_
      by_cases c68 : m < (0 : Int)
      ·
       rw [decide_eq_true c68] at ha67
       refine cond_t ha67 rfl ?_
       refine wp_region_lit ?_
       refine wl_val ha67 rfl rfl rfl (op_move ha67 rfl rfl) ?_
       intro a69 ha69; clear ha67 a67
       refine wl_val ha69 rfl rfl rfl (op_assign ha69 rfl rfl) ?_
       intro a70 ha70; clear ha69 a69
       refine wpList_nil ?_
       refine block_n ?_
       refine then_n ?_
       refine wp_region_lit ?_
       refine wl_val ha70 rfl rfl rfl (op_move ha70 rfl rfl) ?_
       intro a71 ha71; clear ha70 a70
       refine wl_val ha71 rfl rfl rfl ((op_add ha71 rfl rfl rfl).int (IntWalk.i64_in _ (by omega))) ?_
       intro a72 ha72; clear ha71 a71
       refine wl_val ha72 rfl rfl rfl (op_assign ha72 rfl rfl) ?_
       intro a73 ha73; clear ha72 a72
       refine wpList_nil ?_
       refine round_end (x := (i, c, m)) ((i + 1), c, ((i : Nat) : Int)) ?_ ?_
       ·
        refine ⟨(Sl.cons_ ha73 rfl rfl (Sl.cons_ ha73 rfl rfl (Sl.cons_ ha73 rfl (int_eq (by omega)) (Sl.cons_ ha73 rfl (int_eq (by omega)) (Sl.cons_ ha73 rfl (int_eq (by omega)) (Sl.nil_ ha73)))))), hx13, hf14, (by omega), (by omega), (by omega), (by omega), (by omega), (by omega), (by first | (intro h; omega) | (intro h; exact hc h) | (intro h; rw [show ((i : Int)).toNat = i from rfl]; exact ⟨_, hb24, c28⟩)), (by first | (intro h; omega) | (intro h; exact hm h) | (intro h; rw [show ((i : Int)).toNat = i from rfl]; exact ⟨_, hb24, c64⟩)), (by rw [drop_cons hb24, fi_hit c28] at hcF; first | exact hcF | (split at hcF <;> split <;> omega)), (by rw [drop_cons hb24, fi_hit c64] at hmF; first | exact hmF | (split at hmF <;> split <;> omega))⟩
       ·show (piece.length - ((i + 1)) : Nat) < piece.length - i; omega
      ·
       rw [decide_eq_false c68] at ha67
       refine cond_f ha67 rfl ?_
       refine wp_skip ?_
       refine block_n ?_
       refine then_n ?_
       refine wp_region_lit ?_
       refine wl_val ha67 rfl rfl rfl (op_move ha67 rfl rfl) ?_
       intro a74 ha74; clear ha67 a67
       refine wl_val ha74 rfl rfl rfl ((op_add ha74 rfl rfl rfl).int (IntWalk.i64_in _ (by omega))) ?_
       intro a75 ha75; clear ha74 a74
       refine wl_val ha75 rfl rfl rfl (op_assign ha75 rfl rfl) ?_
       intro a76 ha76; clear ha75 a75
       refine wpList_nil ?_
       refine round_end (x := (i, c, m)) ((i + 1), c, m) ?_ ?_
       ·
        refine ⟨(Sl.cons_ ha76 rfl rfl (Sl.cons_ ha76 rfl rfl (Sl.cons_ ha76 rfl (int_eq (by omega)) (Sl.cons_ ha76 rfl (int_eq (by omega)) (Sl.cons_ ha76 rfl (int_eq (by omega)) (Sl.nil_ ha76)))))), hx13, hf14, (by omega), (by omega), (by omega), (by omega), (by omega), (by omega), (by first | (intro h; omega) | (intro h; exact hc h) | (intro h; rw [show ((i : Int)).toNat = i from rfl]; exact ⟨_, hb24, c28⟩)), (by first | (intro h; omega) | (intro h; exact hm h) | (intro h; rw [show ((i : Int)).toNat = i from rfl]; exact ⟨_, hb24, c64⟩)), (by rw [drop_cons hb24, fi_hit c28] at hcF; first | exact hcF | (split at hcF <;> split <;> omega)), (by rw [drop_cons hb24, fi_hit c64] at hmF; first | exact hmF | (split at hmF <;> split <;> omega))⟩
       ·show (piece.length - ((i + 1)) : Nat) < piece.length - i; omega
     ·
      rw [decide_eq_false c64] at ha63
      refine wl_skip ha63 rfl rfl rfl ?_
      intro a77 ha77; clear ha63 a63
      refine wl_skip ha77 rfl rfl rfl ?_
      intro a78 ha78; clear ha77 a77
      refine wl_val ha78 rfl rfl rfl (op_pick_f ha78 rfl rfl rfl) ?_
      intro a79 ha79; clear ha78 a78
      refine wpList_nil ?_
      refine then_n ?_
      refine cond_f ha79 rfl ?_
      refine wp_skip ?_
      refine block_n ?_
      refine then_n ?_
      refine wp_region_lit ?_
      refine wl_val ha79 rfl rfl rfl (op_move ha79 rfl rfl) ?_
      intro a80 ha80; clear ha79 a79
      refine wl_val ha80 rfl rfl rfl ((op_add ha80 rfl rfl rfl).int (IntWalk.i64_in _ (by omega))) ?_
      intro a81 ha81; clear ha80 a80
      refine wl_val ha81 rfl rfl rfl (op_assign ha81 rfl rfl) ?_
      intro a82 ha82; clear ha81 a81
      refine wpList_nil ?_
      refine round_end (x := (i, c, m)) ((i + 1), c, m) ?_ ?_
      ·
       refine ⟨(Sl.cons_ ha82 rfl rfl (Sl.cons_ ha82 rfl rfl (Sl.cons_ ha82 rfl (int_eq (by omega)) (Sl.cons_ ha82 rfl (int_eq (by omega)) (Sl.cons_ ha82 rfl (int_eq (by omega)) (Sl.nil_ ha82)))))), hx13, hf14, (by omega), (by omega), (by omega), (by omega), (by omega), (by omega), (by first | (intro h; omega) | (intro h; exact hc h) | (intro h; rw [show ((i : Int)).toNat = i from rfl]; exact ⟨_, hb24, c28⟩)), (by first | (intro h; omega) | (intro h; exact hm h) | (intro h; rw [show ((i : Int)).toNat = i from rfl]; exact ⟨_, hb24, c64⟩)), (by rw [drop_cons hb24, fi_hit c28] at hcF; first | exact hcF | (split at hcF <;> split <;> omega)), (by rw [drop_cons hb24, fi_miss c64] at hmF; first | exact hmF | (split at hmF <;> split <;> omega))⟩
      ·show (piece.length - ((i + 1)) : Nat) < piece.length - i; omega
   ·
    rw [decide_eq_false c28] at ha27
    refine wl_skip ha27 rfl rfl rfl ?_
    intro a83 ha83; clear ha27 a27
    refine wl_skip ha83 rfl rfl rfl ?_
    intro a84 ha84; clear ha83 a83
    refine wl_val ha84 rfl rfl rfl (op_pick_f ha84 rfl rfl rfl) ?_
    intro a85 ha85; clear ha84 a84
    refine wpList_nil ?_
    refine then_n ?_
    refine cond_f ha85 rfl ?_
    refine wp_skip ?_
    refine then_n ?_
    refine wp_seq ?_
    refine wp_region_lit ?_
    refine wl_val ha85 rfl rfl rfl (op_move ha85 rfl rfl) ?_
    intro a86 ha86; clear ha85 a85
    refine wl_val ha86 rfl rfl rfl (op_move ha86 rfl rfl) ?_
    intro a87 ha87; clear ha86 a86
    refine wl_val ha87 rfl rfl rfl (op_index_str ha87 rfl Try.underlying9 rfl rfl (by omega) hb24) ?_
    intro a88 ha88; clear ha87 a87
    refine wl_val ha88 rfl rfl rfl (op_eql ha88 rfl rfl rfl) ?_
    intro a89 ha89; clear ha88 a88
    refine wl_val ha89 rfl rfl rfl (op_move ha89 rfl rfl) ?_
    intro a90 ha90; clear ha89 a89
    by_cases c91 : (b24.toNat : Int) = (35 : Int)
    ·
     rw [decide_eq_true c91] at ha90
     refine wl_val ha90 rfl rfl rfl (op_move ha90 rfl rfl) ?_
     intro a92 ha92; clear ha90 a90
     refine wl_val ha92 rfl rfl rfl (op_lss ha92 rfl rfl rfl) ?_
     intro a93 ha93; clear ha92 a92
     refine wl_val ha93 rfl rfl rfl (op_pick_t ha93 rfl rfl rfl) ?_
     intro a94 ha94; clear ha93 a93
     refine wpList_nil ?_
     refine then_n ?_
     by_cases c95 : m < (0 : Int)
     ·
      rw [decide_eq_true c95] at ha94
      refine cond_t ha94 rfl ?_
      refine wp_region_lit ?_
      refine wl_val ha94 rfl rfl rfl (op_move ha94 rfl rfl) ?_
      intro a96 ha96; clear ha94 a94
      refine wl_val ha96 rfl rfl rfl (op_assign ha96 rfl rfl) ?_
      intro a97 ha97; clear ha96 a96
      refine wpList_nil ?_
      refine block_n ?_
      refine then_n ?_
      refine wp_region_lit ?_
      refine wl_val ha97 rfl rfl rfl (op_move ha97 rfl rfl) ?_
      intro a98 ha98; clear ha97 a97
      refine wl_val ha98 rfl rfl rfl ((op_add ha98 rfl rfl rfl).int (IntWalk.i64_in _ (by omega))) ?_
      intro a99 ha99; clear ha98 a98
      refine wl_val ha99 rfl rfl rfl (op_assign ha99 rfl rfl) ?_
      intro a100 ha100; clear ha99 a99
      refine wpList_nil ?_
      refine round_end (x := (i, c, m)) ((i + 1), c, ((i : Nat) : Int)) ?_ ?_
      ·
       refine ⟨(Sl.cons_ ha100 rfl rfl (Sl.cons_ ha100 rfl rfl (Sl.cons_ ha100 rfl (int_eq (by omega)) (Sl.cons_ ha100 rfl (int_eq (by omega)) (Sl.cons_ ha100 rfl (int_eq (by omega)) (Sl.nil_ ha100)))))), hx13, hf14, (by omega), (by omega), (by omega), (by omega), (by omega), (by omega), (by first | (intro h; omega) | (intro h; exact hc h) | (intro h; rw [show ((i : Int)).toNat = i from rfl]; exact ⟨_, hb24, c28⟩)), (by first | (intro h; omega) | (intro h; exact hm h) | (intro h; rw [show ((i : Int)).toNat = i from rfl]; exact ⟨_, hb24, c91⟩)), (by rw [drop_cons hb24, fi_miss c28] at hcF; first | exact hcF | (split at hcF <;> split <;> omega)), (by rw [drop_cons hb24, fi_hit c91] at hmF; first | exact hmF | (split at hmF <;> split <;> omega))⟩
      ·show (piece.length - ((i + 1)) : Nat) < piece.length - i; omega
     ·
      rw [decide_eq_false c95] at ha94
      refine cond_f ha94 rfl ?_
      refine wp_skip ?_
      refine block_n ?_
      refine then_n ?_
      refine wp_region_lit ?_
      refine wl_val ha94 rfl rfl rfl (op_move ha94 rfl rfl) ?_
      intro a101 ha101; clear ha94 a94
      refine wl_val ha101 rfl rfl rfl ((op_add ha101 rfl rfl rfl).int (IntWalk.i64_in _ (by omega))) ?_
      intro a102 ha102; clear ha101 a101
      refine wl_val ha102 rfl rfl rfl (op_assign ha102 rfl rfl) ?_
      intro a103 ha103; clear ha102 a102
      refine wpList_nil ?_
      refine round_end (x := (i, c, m)) ((i + 1), c, m) ?_ ?_
      ·
       refine ⟨(Sl.cons_ ha103 rfl rfl (Sl.cons_ ha103 rfl rfl (Sl.cons_ ha103 rfl (int_eq (by omega)) (Sl.cons_ ha103 rfl (int_eq (by omega)) (Sl.cons_ ha103 rfl (int_eq (by omega)) (Sl.nil_ ha103)))))), hx13, hf14, (by omega), (by omega), (by omega), (by omega), (by omega), (by omega), (by first | (intro h; omega) | (intro h; exact hc h) | (intro h; rw [show ((i : Int)).toNat = i from rfl]; exact ⟨_, hb24, c28⟩)), (by first | (intro h; omega) | (intro h; exact hm h) | (intro h; rw [show ((i : Int)).toNat = i from rfl]; exact ⟨_, hb24, c91⟩)), (by rw [drop_cons hb24, fi_miss c28] at hcF; first | exact hcF | (split at hcF <;> split <;> omega)), (by rw [drop_cons hb24, fi_hit c91] at hmF; first | exact hmF | (split at hmF <;> split <;> omega))⟩
      ·show (piece.length - ((i + 1)) : Nat) < piece.length - i; omega
    ·
     rw [decide_eq_false c91] at ha90
     refine wl_skip ha90 rfl rfl rfl ?_
     intro a104 ha104; clear ha90 a90
     refine wl_skip ha104 rfl rfl rfl ?_
     intro a105 ha105; clear ha104 a104
     refine wl_val ha105 rfl rfl rfl (op_pick_f ha105 rfl rfl rfl) ?_
     intro a106 ha106; clear ha105 a105
     refine wpList_nil ?_
     refine then_n ?_
     refine cond_f ha106 rfl ?_
     refine wp_skip ?_
     refine block_n ?_
     refine then_n ?_
     refine wp_region_lit ?_
     refine wl_val ha106 rfl rfl rfl (op_move ha106 rfl rfl) ?_
     intro a107 ha107; clear ha106 a106
     refine wl_val ha107 rfl rfl rfl ((op_add ha107 rfl rfl rfl).int (IntWalk.i64_in _ (by omega))) ?_
     intro a108 ha108; clear ha107 a107
     refine wl_val ha108 rfl rfl rfl (op_assign ha108 rfl rfl) ?_
     intro a109 ha109; clear ha108 a108
     refine wpList_nil ?_
     refine round_end (x := (i, c, m)) ((i + 1), c, m) ?_ ?_
     ·
      refine ⟨(Sl.cons_ ha109 rfl rfl (Sl.cons_ ha109 rfl rfl (Sl.cons_ ha109 rfl (int_eq (by omega)) (Sl.cons_ ha109 rfl (int_eq (by omega)) (Sl.cons_ ha109 rfl (int_eq (by omega)) (Sl.nil_ ha109)))))), hx13, hf14, (by omega), (by omega), (by omega), (by omega), (by omega), (by omega), (by first | (intro h; omega) | (intro h; exact hc h) | (intro h; rw [show ((i : Int)).toNat = i from rfl]; exact ⟨_, hb24, c28⟩)), (by first | (intro h; omega) | (intro h; exact hm h) | (intro h; rw [show ((i : Int)).toNat = i from rfl]; exact ⟨_, hb24, c91⟩)), (by rw [drop_cons hb24, fi_miss c28] at hcF; first | exact hcF | (split at hcF <;> split <;> omega)), (by rw [drop_cons hb24, fi_miss c91] at hmF; first | exact hmF | (split at hmF <;> split <;> omega))⟩
     ·show (piece.length - ((i + 1)) : Nat) < piece.length - i; omega
  ·
   rw [decide_eq_false c21] at ha20
   refine cond_f ha20 rfl ?_
   refine wp_exit ?_
   refine then_e ?_
   refine then_e ?_
   refine block_hit ?_
   refine then_n ?_
   refine wp_seq ?_
   refine wp_seq ?_
   have hC : rrC piece = c := by unfold rrC; rw [drop_nil (by omega)] at hcF; simp only [fi_nil] at hcF; rw [← hcF]; split <;> omega
   have hM : rrM piece = m := by unfold rrM; rw [drop_nil (by omega)] at hmF; simp only [fi_nil] at hmF; rw [← hmF]; split <;> omega
   refine wp_region_lit ?_
   refine wl_val ha20 rfl rfl rfl (op_move ha20 rfl rfl) ?_
   intro a110 ha110; clear ha20 a20
   refine wl_val ha110 rfl rfl rfl (op_lss ha110 rfl rfl rfl) ?_
   intro a111 ha111; clear ha110 a110
   refine wl_val ha111 rfl rfl rfl (op_move ha111 rfl rfl) ?_
   intro a112 ha112; clear ha111 a111
   by_cases c113 : c < (0 : Int)
   ·
    rw [decide_eq_true c113] at ha112
    refine wl_skip ha112 rfl rfl rfl ?_
    intro a114 ha114; clear ha112 a112
    refine wl_skip ha114 rfl rfl rfl ?_
    intro a115 ha115; clear ha114 a114
    refine wl_skip ha115 rfl rfl rfl ?_
    intro a116 ha116; clear ha115 a115
    refine wl_val ha116 rfl rfl rfl (op_pick_t ha116 rfl rfl rfl) ?_
    intro a117 ha117; clear ha116 a116
    refine wpList_nil ?_
    refine then_n ?_
    refine cond_t ha117 rfl ?_
    refine wp_seq ?_
    refine wp_region_lit ?_
    refine wl_val ha117 rfl rfl rfl (op_build (vs := []) (cs := #[.int .i64 (0 : Int), St (([] : Str))]) ha117 rfl Try.underlying36 ti36 bp36 rfl rfl) ?_
    intro a118 ha118; clear ha117 a117
    refine wl_effS ha118 rfl rfl (op_storeAll' ha118 rfl ti36 rfl rfl hf14 rfl rfl (by simp [Value.oneCell']) rfl) ?_
    rintro w119 ⟨hb121, hst120, hz122⟩
    have hx123 := hx13.stp hst120 (by intro q hq; cases hq; exact (by omega))
    have hzhx123 := hst120.size
    clear hf14
    refine wl_val ha118 rfl rfl rfl (op_assign ha118 rfl rfl) ?_
    intro a124 ha124; clear ha118 a118
    refine wpList_nil ?_
    refine then_n ?_
    refine wp_ret ?_
    refine then_r ?_
    refine retct ha124 rfl rfl rfl Try.underlying36 ti36 rfl hb121.cells ?_
    clear ha124 a124
    have hB := rrB_def piece
    rw [hC, hM] at hB
    simp only [c21, c113, decide_true, decide_false, Bool.not_true, Bool.not_false, Bool.and_true, Bool.true_and, Bool.false_and, Bool.and_false, Bool.and_self] at hB
    exact ret_mk hx123 (tup2_eq (by simp [rrR, hB]) (congrArg Value.bool (by rw [hB])))
   ·
    rw [decide_eq_false c113] at ha112
    refine wl_val ha112 rfl rfl rfl (op_move ha112 rfl rfl) ?_
    intro a125 ha125; clear ha112 a112
    refine wl_val ha125 rfl rfl rfl (op_move ha125 rfl rfl) ?_
    intro a126 ha126; clear ha125 a125
    refine wl_val ha126 rfl rfl rfl (op_lss ha126 rfl rfl rfl) ?_
    intro a127 ha127; clear ha126 a126
    refine wl_val ha127 rfl rfl rfl (op_pick_f ha127 rfl rfl rfl) ?_
    intro a128 ha128; clear ha127 a127
    refine wpList_nil ?_
    refine then_n ?_
    by_cases c129 : m < c
    ·
     rw [decide_eq_true c129] at ha128
     refine cond_t ha128 rfl ?_
     refine wp_seq ?_
     refine wp_region_lit ?_
     refine wl_val ha128 rfl rfl rfl (op_build (vs := []) (cs := #[.int .i64 (0 : Int), St (([] : Str))]) ha128 rfl Try.underlying36 ti36 bp36 rfl rfl) ?_
     intro a130 ha130; clear ha128 a128
     refine wl_effS ha130 rfl rfl (op_storeAll' ha130 rfl ti36 rfl rfl hf14 rfl rfl (by simp [Value.oneCell']) rfl) ?_
     rintro w131 ⟨hb133, hst132, hz134⟩
     have hx135 := hx13.stp hst132 (by intro q hq; cases hq; exact (by omega))
     have hzhx135 := hst132.size
     clear hf14
     refine wl_val ha130 rfl rfl rfl (op_assign ha130 rfl rfl) ?_
     intro a136 ha136; clear ha130 a130
     refine wpList_nil ?_
     refine then_n ?_
     refine wp_ret ?_
     refine then_r ?_
     refine retct ha136 rfl rfl rfl Try.underlying36 ti36 rfl hb133.cells ?_
     clear ha136 a136
     have hB := rrB_def piece
     rw [hC, hM] at hB
     simp only [c21, c113, c129, decide_true, decide_false, Bool.not_true, Bool.not_false, Bool.and_true, Bool.true_and, Bool.false_and, Bool.and_false, Bool.and_self] at hB
     exact ret_mk hx135 (tup2_eq (by simp [rrR, hB]) (congrArg Value.bool (by rw [hB])))
    ·
     rw [decide_eq_false c129] at ha128
     refine cond_f ha128 rfl ?_
     refine wp_skip ?_
     refine then_n ?_
     refine wp_seq ?_
     have hne : ¬ c = m := by intro e; obtain ⟨b1, q1, q2⟩ := hc (by omega); obtain ⟨b2, q3, q4⟩ := hm (by omega); rw [← e, q1] at q3; cases q3; omega
     have hrd := rdV_bd (piece.take c.toNat)
     have hN : rrN piece = rdV (piece.take c.toNat) := by unfold rrN; rw [hC]
     have hT : rrT piece = (piece.take m.toNat).drop (c.toNat + 1) := by unfold rrT; rw [hC, hM]
     refine wp_region_lit ?_
     refine wl_val ha128 rfl rfl rfl (op_move ha128 rfl rfl) ?_
     intro a137 ha137; clear ha128 a128
     refine wl_val ha137 rfl rfl rfl (op_move ha137 rfl rfl) ?_
     intro a138 ha138; clear ha137 a137
     refine wl_val ha138 rfl rfl rfl (op_slice_str_t (j := c.toNat) (by omega) ha138 rfl Try.underlying9 rfl rfl (by omega)) ?_
     intro a139 ha139; clear ha138 a138
     refine wl_callR ha139 rfl rfl rfl (op_call ha139 rfl cb76 rfl) (c_impl_readDecimal _ (piece.take c.toNat) (by first | assumption | omega | (simp; omega) | (have hbd := recB_bd ‹recB _ = true›; omega) | (have hbd := recB_bd ‹recB _ = true›; simp only at hbd; simp only; omega) | (simp only; omega) | (simp only [List.length_drop, List.length_take]; omega))) ?_
     rintro v140 w141 he142 rfl a143 ha143; clear ha139 a139
     have hx144 := hx13.trans' he142
     have hzhx144 := he142.size
     replace hf14 := hf14.ext he142
     refine wl_val ha143 rfl rfl rfl (op_move ha143 rfl rfl) ?_
     intro a145 ha145; clear ha143 a143
     refine wl_val ha145 rfl rfl rfl (op_extract ha145 rfl rfl rfl) ?_
     intro a146 ha146; clear ha145 a145
     refine wl_val ha146 rfl rfl rfl (op_extract ha146 rfl rfl rfl) ?_
     intro a147 ha147; clear ha146 a146
     refine wl_val ha147 rfl rfl rfl (op_assign ha147 rfl rfl) ?_
     intro a148 ha148; clear ha147 a147
     refine wl_val ha148 rfl rfl rfl (op_assign ha148 rfl rfl) ?_
     intro a149 ha149; clear ha148 a148
     refine wpList_nil ?_
     refine then_n ?_
     refine wp_seq ?_
     refine wp_region_lit ?_
     refine wl_val ha149 rfl rfl rfl (op_move ha149 rfl rfl) ?_
     intro a150 ha150; clear ha149 a149
     refine wl_val ha150 rfl rfl rfl (op_move ha150 rfl rfl) ?_
     intro a151 ha151; clear ha150 a150
     refine wl_val ha151 rfl rfl rfl (op_move ha151 rfl rfl) ?_
     intro a152 ha152; clear ha151 a151
     refine wl_val ha152 rfl rfl rfl ((op_add ha152 rfl rfl rfl).int (IntWalk.i64_in _ (by omega))) ?_
     intro a153 ha153; clear ha152 a152
     refine wl_val ha153 rfl rfl rfl (op_move ha153 rfl rfl) ?_
     intro a154 ha154; clear ha153 a153
     refine wl_val ha154 rfl rfl rfl (op_slice_str_b (i := (c.toNat + 1)) (j := m.toNat) (by omega) (by omega) ha154 rfl Try.underlying9 rfl rfl rfl (by omega) (by omega)) ?_
     intro a155 ha155; clear ha154 a154
     refine wl_val ha155 rfl rfl rfl (op_build (vs := [(0, .int .i64 ((rdV (piece.take c.toNat)).1 : Int)), (1, St ((piece.take m.toNat).drop ((c.toNat + 1))))]) (cs := #[.int .i64 ((rdV (piece.take c.toNat)).1 : Int), St ((piece.take m.toNat).drop ((c.toNat + 1)))]) ha155 rfl Try.underlying36 ti36 bp36 rfl rfl) ?_
     intro a156 ha156; clear ha155 a155
     refine wl_eff ha156 rfl rfl rfl (op_alloc' rfl ti36 rfl) ?_
     rintro _ w158 ⟨rfl, he159, hb160, hz161⟩ a162 ha162; clear ha156 a156
     have hx163 := hx144.trans' he159
     have hzhx163 := he159.size
     replace hf14 := hf14.ext he159
     refine wl_effS ha162 rfl rfl (op_storeAll' ha162 rfl ti36 rfl rfl hb160 rfl rfl (by simp [Value.oneCell']) rfl) ?_
     rintro w164 ⟨hb166, hst165, hz167⟩
     have hx168 := hx163.stp hst165 (by intro q hq; cases hq; exact (by omega))
     have hzhx168 := hst165.size
     replace hf14 := hf14.stp hst165 (by intro q hq; cases hq; omega)
     clear hb160
     refine wpList_nil ?_
     refine then_n ?_
     refine wp_seq ?_
     refine wp_seq ?_
     refine wp_region_lit ?_
     refine wl_val ha162 rfl rfl rfl (op_move ha162 rfl rfl) ?_
     intro a169 ha169; clear ha162 a162
     refine wl_val ha169 rfl rfl rfl (op_not ha169 rfl rfl) ?_
     intro a170 ha170; clear ha169 a169
     refine wl_val ha170 rfl rfl rfl (op_move ha170 rfl rfl) ?_
     intro a171 ha171; clear ha170 a170
     rcases Bool.eq_false_or_eq_true ((rdV (piece.take c.toNat)).2) with c172 | c172
     ·
      rw [c172] at ha171
      refine wl_val ha171 rfl rfl rfl (op_loadS ha171 rfl Try.underlying36 ti36 rfl rfl hb166.cells) ?_
      intro a173 ha173; clear ha171 a171
      refine wl_callR ha173 rfl rfl rfl (op_call ha173 rfl cb49 rfl) (c_impl_isRecord _ ((((rdV (piece.take c.toNat)).1 : Int), (piece.take m.toNat).drop ((c.toNat + 1)))) (by first | assumption | omega | (simp; omega) | (have hbd := recB_bd ‹recB _ = true›; omega) | (have hbd := recB_bd ‹recB _ = true›; simp only at hbd; simp only; omega) | (simp only; omega) | (simp only [List.length_drop, List.length_take]; omega)) (by first | assumption | omega | (simp; omega) | (have hbd := recB_bd ‹recB _ = true›; omega) | (have hbd := recB_bd ‹recB _ = true›; simp only at hbd; simp only; omega) | (simp only; omega) | (simp only [List.length_drop, List.length_take]; omega))) ?_
      rintro v174 w175 he176 rfl a177 ha177; clear ha173 a173
      have hx178 := hx168.trans' he176
      have hzhx178 := he176.size
      replace hf14 := hf14.ext he176
      replace hb166 := hb166.ext he176
      refine wl_val ha177 rfl rfl rfl (op_not ha177 rfl rfl) ?_
      intro a179 ha179; clear ha177 a177
      refine wl_val ha179 rfl rfl rfl (op_pick_f ha179 rfl rfl rfl) ?_
      intro a180 ha180; clear ha179 a179
      refine wl_val ha180 rfl rfl rfl (op_move ha180 rfl rfl) ?_
      intro a181 ha181; clear ha180 a180
      rcases Bool.eq_false_or_eq_true (recB ((((rdV (piece.take c.toNat)).1 : Int), (piece.take m.toNat).drop ((c.toNat + 1))))) with c182 | c182
      ·
       rw [c182] at ha181
       refine wl_val ha181 rfl rfl rfl (op_loadS ha181 rfl Try.underlying36 ti36 rfl rfl hb166.cells) ?_
       intro a183 ha183; clear ha181 a181
       refine wl_callR ha183 rfl rfl rfl (op_call ha183 rfl cb68 rfl) (c_impl_recordLine _ ((((rdV (piece.take c.toNat)).1 : Int), (piece.take m.toNat).drop ((c.toNat + 1)))) (by first | assumption | omega | (simp; omega) | (have hbd := recB_bd ‹recB _ = true›; omega) | (have hbd := recB_bd ‹recB _ = true›; simp only at hbd; simp only; omega) | (simp only; omega) | (simp only [List.length_drop, List.length_take]; omega)) (by first | assumption | omega | (simp; omega) | (have hbd := recB_bd ‹recB _ = true›; omega) | (have hbd := recB_bd ‹recB _ = true›; simp only at hbd; simp only; omega) | (simp only; omega) | (simp only [List.length_drop, List.length_take]; omega)) (by first | assumption | omega | (simp; omega) | (have hbd := recB_bd ‹recB _ = true›; omega) | (have hbd := recB_bd ‹recB _ = true›; simp only at hbd; simp only; omega) | (simp only; omega) | (simp only [List.length_drop, List.length_take]; omega))) ?_
       rintro v184 w185 he186 rfl a187 ha187; clear ha183 a183
       have hx188 := hx178.trans' he186
       have hzhx188 := he186.size
       replace hf14 := hf14.ext he186
       replace hb166 := hb166.ext he186
       refine wl_val ha187 rfl rfl rfl (op_move ha187 rfl rfl) ?_
       intro a189 ha189; clear ha187 a187
       refine wl_val ha189 rfl rfl rfl ((op_sneq ha189 rfl rfl rfl).to (congrArg Value.bool decide_not)) ?_
       intro a190 ha190; clear ha189 a189
       refine wl_val ha190 rfl rfl rfl (op_pick_f ha190 rfl rfl rfl) ?_
       intro a191 ha191; clear ha190 a190
       refine wpList_nil ?_
       refine then_n ?_
       by_cases c192 : (lineS ((((rdV (piece.take c.toNat)).1 : Int), (piece.take m.toNat).drop ((c.toNat + 1))))) = piece
       ·
        rw [decide_eq_true c192] at ha191
        refine cond_f ha191 rfl ?_
        refine wp_skip ?_
        refine then_n ?_
        refine wp_seq ?_
        refine wp_region_lit ?_
        refine wl_val ha191 rfl rfl rfl (op_loadS ha191 rfl Try.underlying36 ti36 rfl rfl hb166.cells) ?_
        intro a193 ha193; clear ha191 a191
        refine wl_effS ha193 rfl rfl (op_storeAll' ha193 rfl ti36 rfl rfl hf14 rfl rfl (by simp [Value.oneCell']) rfl) ?_
        rintro w194 ⟨hb196, hst195, hz197⟩
        have hx198 := hx188.stp hst195 (by intro q hq; cases hq; exact (by omega))
        have hzhx198 := hst195.size
        replace hb166 := hb166.stp hst195 (by intro q hq; cases hq; omega)
        clear hf14
        refine wl_val ha193 rfl rfl rfl (op_assign ha193 rfl rfl) ?_
        intro a199 ha199; clear ha193 a193
        refine wpList_nil ?_
        refine then_n ?_
        refine wp_ret ?_
        refine retct ha199 rfl rfl rfl Try.underlying36 ti36 rfl hb196.cells ?_
        clear ha199 a199
        have hB := rrB_def piece
        rw [hC, hM] at hB
        rw [hN, hT] at hB
        simp only [c21, c113, c129, c172, c182, c192, decide_true, decide_false, Bool.not_true, Bool.not_false, Bool.and_true, Bool.true_and, Bool.false_and, Bool.and_false, Bool.and_self] at hB
        exact ret_mk hx198 (tup2_eq (by simp [rrR, hB, hN, hT]) (congrArg Value.bool (by rw [hB])))
       ·
        rw [decide_eq_false c192] at ha191
        refine cond_t ha191 rfl ?_
        refine wp_seq ?_
        refine wp_region_lit ?_
        refine wl_val ha191 rfl rfl rfl (op_build (vs := []) (cs := #[.int .i64 (0 : Int), St (([] : Str))]) ha191 rfl Try.underlying36 ti36 bp36 rfl rfl) ?_
        intro a200 ha200; clear ha191 a191
        refine wl_effS ha200 rfl rfl (op_storeAll' ha200 rfl ti36 rfl rfl hf14 rfl rfl (by simp [Value.oneCell']) rfl) ?_
        rintro w201 ⟨hb203, hst202, hz204⟩
        have hx205 := hx188.stp hst202 (by intro q hq; cases hq; exact (by omega))
        have hzhx205 := hst202.size
        replace hb166 := hb166.stp hst202 (by intro q hq; cases hq; omega)
        clear hf14
        refine wl_val ha200 rfl rfl rfl (op_assign ha200 rfl rfl) ?_
        intro a206 ha206; clear ha200 a200
        refine wpList_nil ?_
        refine then_n ?_
        refine wp_ret ?_
        refine then_r ?_
        refine retct ha206 rfl rfl rfl Try.underlying36 ti36 rfl hb203.cells ?_
        clear ha206 a206
        have hB := rrB_def piece
        rw [hC, hM] at hB
        rw [hN, hT] at hB
        simp only [c21, c113, c129, c172, c182, c192, decide_true, decide_false, Bool.not_true, Bool.not_false, Bool.and_true, Bool.true_and, Bool.false_and, Bool.and_false, Bool.and_self] at hB
        exact ret_mk hx205 (tup2_eq (by simp [rrR, hB, hN, hT]) (congrArg Value.bool (by rw [hB])))
      ·
       rw [c182] at ha181
       refine wl_skip ha181 rfl rfl rfl ?_
       intro a207 ha207; clear ha181 a181
       refine wl_skip ha207 rfl rfl rfl ?_
       intro a208 ha208; clear ha207 a207
       refine wl_skip ha208 rfl rfl rfl ?_
       intro a209 ha209; clear ha208 a208
       refine wl_skip ha209 rfl rfl rfl ?_
       intro a210 ha210; clear ha209 a209
       refine wl_val ha210 rfl rfl rfl (op_pick_t ha210 rfl rfl rfl) ?_
       intro a211 ha211; clear ha210 a210
       refine wpList_nil ?_
       refine then_n ?_
       refine cond_t ha211 rfl ?_
       refine wp_seq ?_
       refine wp_region_lit ?_
       refine wl_val ha211 rfl rfl rfl (op_build (vs := []) (cs := #[.int .i64 (0 : Int), St (([] : Str))]) ha211 rfl Try.underlying36 ti36 bp36 rfl rfl) ?_
       intro a212 ha212; clear ha211 a211
       refine wl_effS ha212 rfl rfl (op_storeAll' ha212 rfl ti36 rfl rfl hf14 rfl rfl (by simp [Value.oneCell']) rfl) ?_
       rintro w213 ⟨hb215, hst214, hz216⟩
       have hx217 := hx178.stp hst214 (by intro q hq; cases hq; exact (by omega))
       have hzhx217 := hst214.size
       replace hb166 := hb166.stp hst214 (by intro q hq; cases hq; omega)
       clear hf14
       refine wl_val ha212 rfl rfl rfl (op_assign ha212 rfl rfl) ?_
       intro a218 ha218; clear ha212 a212
       refine wpList_nil ?_
       refine then_n ?_
       refine wp_ret ?_
       refine then_r ?_
       refine retct ha218 rfl rfl rfl Try.underlying36 ti36 rfl hb215.cells ?_
       clear ha218 a218
       have hB := rrB_def piece
       rw [hC, hM] at hB
       rw [hN, hT] at hB
       simp only [c21, c113, c129, c172, c182, decide_true, decide_false, Bool.not_true, Bool.not_false, Bool.and_true, Bool.true_and, Bool.false_and, Bool.and_false, Bool.and_self] at hB
       exact ret_mk hx217 (tup2_eq (by simp [rrR, hB, hN, hT]) (congrArg Value.bool (by rw [hB])))
     ·
      rw [c172] at ha171
      refine wl_skip ha171 rfl rfl rfl ?_
      intro a219 ha219; clear ha171 a171
      refine wl_skip ha219 rfl rfl rfl ?_
      intro a220 ha220; clear ha219 a219
      refine wl_skip ha220 rfl rfl rfl ?_
      intro a221 ha221; clear ha220 a220
      refine wl_val ha221 rfl rfl rfl (op_pick_t ha221 rfl rfl rfl) ?_
      intro a222 ha222; clear ha221 a221
      refine wl_val ha222 rfl rfl rfl (op_move ha222 rfl rfl) ?_
      intro a223 ha223; clear ha222 a222
      refine wl_skip ha223 rfl rfl rfl ?_
      intro a224 ha224; clear ha223 a223
      refine wl_skip ha224 rfl rfl rfl ?_
      intro a225 ha225; clear ha224 a224
      refine wl_skip ha225 rfl rfl rfl ?_
      intro a226 ha226; clear ha225 a225
      refine wl_skip ha226 rfl rfl rfl ?_
      intro a227 ha227; clear ha226 a226
      refine wl_val ha227 rfl rfl rfl (op_pick_t ha227 rfl rfl rfl) ?_
      intro a228 ha228; clear ha227 a227
      refine wpList_nil ?_
      refine then_n ?_
      refine cond_t ha228 rfl ?_
      refine wp_seq ?_
      refine wp_region_lit ?_
      refine wl_val ha228 rfl rfl rfl (op_build (vs := []) (cs := #[.int .i64 (0 : Int), St (([] : Str))]) ha228 rfl Try.underlying36 ti36 bp36 rfl rfl) ?_
      intro a229 ha229; clear ha228 a228
      refine wl_effS ha229 rfl rfl (op_storeAll' ha229 rfl ti36 rfl rfl hf14 rfl rfl (by simp [Value.oneCell']) rfl) ?_
      rintro w230 ⟨hb232, hst231, hz233⟩
      have hx234 := hx168.stp hst231 (by intro q hq; cases hq; exact (by omega))
      have hzhx234 := hst231.size
      replace hb166 := hb166.stp hst231 (by intro q hq; cases hq; omega)
      clear hf14
      refine wl_val ha229 rfl rfl rfl (op_assign ha229 rfl rfl) ?_
      intro a235 ha235; clear ha229 a229
      refine wpList_nil ?_
      refine then_n ?_
      refine wp_ret ?_
      refine then_r ?_
      refine retct ha235 rfl rfl rfl Try.underlying36 ti36 rfl hb232.cells ?_
      clear ha235 a235
      have hB := rrB_def piece
      rw [hC, hM] at hB
      rw [hN, hT] at hB
      simp only [c21, c113, c129, c172, decide_true, decide_false, Bool.not_true, Bool.not_false, Bool.and_true, Bool.true_and, Bool.false_and, Bool.and_false, Bool.and_self] at hB
      exact ret_mk hx234 (tup2_eq (by simp [rrR, hB, hN, hT]) (congrArg Value.bool (by rw [hB])))

theorem c_spec_l32Record (w0 : World) (piece : Str) (g0 : piece.length ≤ 1048576) :
  Calls Try.prog 70 #[St piece] w0 (Ret w0 (fun v _ => v = .tuple #[.agg #[.int .i64 ((spR piece)).1, St (((spR piece)).2)], .bool (rrB piece)])) := by
 refine enter (N := 69) Try.func70 rfl rfl rfl ?_
 intro a0 ha0
 have hx0 := Ext.rfl' w0
 refine wp_seq ?_
 refine wp_region_lit ?_
 refine wl_eff ha0 rfl rfl rfl (op_alloc' rfl ti36 rfl) ?_
 rintro _ w2 ⟨rfl, he3, hb4, hz5⟩ a6 ha6; clear ha0 a0
 have hx7 := hx0.trans' he3
 have hzhx7 := he3.size
 refine wl_val ha6 rfl rfl rfl (op_assign ha6 rfl rfl) ?_
 intro a8 ha8; clear ha6 a6
 refine wpList_nil ?_
 refine then_n ?_
 refine wp_seq ?_
 refine wp_region_lit ?_
 refine wl_val ha8 rfl rfl rfl (op_assign ha8 rfl rfl) ?_
 intro a9 ha9; clear ha8 a8
 refine wl_val ha9 rfl rfl rfl (op_assign ha9 rfl rfl) ?_
 intro a10 ha10; clear ha9 a9
 refine wpList_nil ?_
 refine then_n ?_
 refine wp_seq ?_
 refine wp_block ?_
 refine loop_inv (X := Nat) (fun (i : Nat) fr wl => Sl 69 fr [(0, St piece), (2, .pointer (some (⟨w0.heap.size, 0, none⟩ : Addr))), (4, .int .i64 ((i : Nat) : Int)), (5, .int .i64 (0 : Int))] ∧ Ext w0 wl ∧ Box wl w0.heap.size 36 [.int .i64 (0 : Int), St (([] : Str))] ∧ w2.heap.size ≤ wl.heap.size ∧ (i ≤ piece.length) ∧ (fi 58 (piece.drop i) i = fi 58 piece 0)) (fun (i : Nat) => piece.length - i) (0) ?_ ?_
 ·
  exact ⟨(Sl.cons_ ha10 rfl rfl (Sl.cons_ ha10 rfl rfl (Sl.cons_ ha10 rfl (int_eq (by omega)) (Sl.cons_ ha10 rfl rfl (Sl.nil_ ha10))))), hx7, hb4, (by omega), (by omega), (by rfl)⟩
 ·
  clear ha10 a10
  rintro i a14 w11 ⟨ha14, hx12, hf13, hzl15, hi, hcF⟩
  have hzhx12 := hx12.size
  refine wp_seq ?_
  refine wp_seq ?_
  refine wp_region_lit ?_
  refine wl_val ha14 rfl rfl rfl (op_move ha14 rfl rfl) ?_
  intro a16 ha16; clear ha14 a14
  refine wl_val ha16 rfl rfl rfl (op_move ha16 rfl rfl) ?_
  intro a17 ha17; clear ha16 a16
  refine wl_val ha17 rfl rfl rfl (op_len_str ha17 rfl Try.underlying9 rfl) ?_
  intro a18 ha18; clear ha17 a17
  refine wl_val ha18 rfl rfl rfl (op_lss ha18 rfl rfl rfl) ?_
  intro a19 ha19; clear ha18 a18
  refine wl_val ha19 rfl rfl rfl (op_move ha19 rfl rfl) ?_
  intro a20 ha20; clear ha19 a19
  by_cases c21 : ((i : Nat) : Int) < ((piece.length : Nat) : Int)
  ·
   rw [decide_eq_true c21] at ha20
   refine wl_val ha20 rfl rfl rfl (op_move ha20 rfl rfl) ?_
   intro a22 ha22; clear ha20 a20
   refine wl_val ha22 rfl rfl rfl (op_move ha22 rfl rfl) ?_
   intro a23 ha23; clear ha22 a22
   obtain ⟨b24, hb24⟩ := get_ex (xs := piece) (j := i) (by omega)
   have b24_lt := b24.toNat_lt
   refine wl_val ha23 rfl rfl rfl (op_index_str ha23 rfl Try.underlying9 rfl rfl (by omega) hb24) ?_
   intro a25 ha25; clear ha23 a23
   refine wl_val ha25 rfl rfl rfl ((op_neq ha25 rfl rfl rfl).to (congrArg Value.bool decide_not)) ?_
   intro a26 ha26; clear ha25 a25
   refine wl_val ha26 rfl rfl rfl (op_pick_t ha26 rfl rfl rfl) ?_
   intro a27 ha27; clear ha26 a26
   refine wpList_nil ?_
   refine then_n ?_
   by_cases c28 : (b24.toNat : Int) = (58 : Int)
   ·
    rw [decide_eq_true c28] at ha27
    refine cond_f ha27 rfl ?_
    refine wp_exit ?_
    refine then_e ?_
    refine then_e ?_
    refine block_hit ?_
    refine then_n ?_
    refine wp_seq ?_
    refine wp_block ?_
    refine loop_inv (X := Nat) (fun (j : Nat) fr wl => Sl 69 fr [(0, St piece), (2, .pointer (some (⟨w0.heap.size, 0, none⟩ : Addr))), (4, .int .i64 ((i : Nat) : Int)), (5, .int .i64 ((j : Nat) : Int))] ∧ Ext w0 wl ∧ Box wl w0.heap.size 36 [.int .i64 (0 : Int), St (([] : Str))] ∧ w11.heap.size ≤ wl.heap.size ∧ (j ≤ piece.length) ∧ (fi 35 (piece.drop j) j = fi 35 piece 0)) (fun (j : Nat) => piece.length - j) (0) ?_ ?_
    ·
     exact ⟨(Sl.cons_ ha27 rfl rfl (Sl.cons_ ha27 rfl rfl (Sl.cons_ ha27 rfl rfl (Sl.cons_ ha27 rfl (int_eq (by omega)) (Sl.nil_ ha27))))), hx12, hf13, (by omega), (by omega), (by rfl)⟩
    ·
     clear ha27 a27
     rintro j a32 w29 ⟨ha32, hx30, hf31, hzl33, hj, hmF⟩
     have hzhx30 := hx30.size
     refine wp_seq ?_
     refine wp_seq ?_
     refine wp_region_lit ?_
     refine wl_val ha32 rfl rfl rfl (op_move ha32 rfl rfl) ?_
     intro a34 ha34; clear ha32 a32
     refine wl_val ha34 rfl rfl rfl (op_move ha34 rfl rfl) ?_
     intro a35 ha35; clear ha34 a34
     refine wl_val ha35 rfl rfl rfl (op_len_str ha35 rfl Try.underlying9 rfl) ?_
     intro a36 ha36; clear ha35 a35
     refine wl_val ha36 rfl rfl rfl (op_lss ha36 rfl rfl rfl) ?_
     intro a37 ha37; clear ha36 a36
     refine wl_val ha37 rfl rfl rfl (op_move ha37 rfl rfl) ?_
     intro a38 ha38; clear ha37 a37
     by_cases c39 : ((j : Nat) : Int) < ((piece.length : Nat) : Int)
     ·
      rw [decide_eq_true c39] at ha38
      refine wl_val ha38 rfl rfl rfl (op_move ha38 rfl rfl) ?_
      intro a40 ha40; clear ha38 a38
      refine wl_val ha40 rfl rfl rfl (op_move ha40 rfl rfl) ?_
      intro a41 ha41; clear ha40 a40
      obtain ⟨b42, hb42⟩ := get_ex (xs := piece) (j := j) (by omega)
      have b42_lt := b42.toNat_lt
      refine wl_val ha41 rfl rfl rfl (op_index_str ha41 rfl Try.underlying9 rfl rfl (by omega) hb42) ?_
      intro a43 ha43; clear ha41 a41
      refine wl_val ha43 rfl rfl rfl ((op_neq ha43 rfl rfl rfl).to (congrArg Value.bool decide_not)) ?_
      intro a44 ha44; clear ha43 a43
      refine wl_val ha44 rfl rfl rfl (op_pick_t ha44 rfl rfl rfl) ?_
      intro a45 ha45; clear ha44 a44
      refine wpList_nil ?_
      refine then_n ?_
      by_cases c46 : (b42.toNat : Int) = (35 : Int)
      ·
       rw [decide_eq_true c46] at ha45
       refine cond_f ha45 rfl ?_
       refine wp_exit ?_
       refine then_e ?_
       refine then_e ?_
       refine block_hit ?_
       refine then_n ?_
       refine wp_seq ?_
       refine wp_seq ?_
       have hC : rrC piece = (i : Int) := by unfold rrC; rw [← hcF, drop_cons hb24, fi_hit c28]
       have hM : rrM piece = (j : Int) := by unfold rrM; rw [← hmF, drop_cons hb42, fi_hit c46]
       refine wp_region_lit ?_
       refine wl_val ha45 rfl rfl rfl (op_move ha45 rfl rfl) ?_
       intro a47 ha47; clear ha45 a45
       refine wl_val ha47 rfl rfl rfl (op_move ha47 rfl rfl) ?_
       intro a48 ha48; clear ha47 a47
       refine wl_val ha48 rfl rfl rfl (op_len_str ha48 rfl Try.underlying9 rfl) ?_
       intro a49 ha49; clear ha48 a48
       refine wl_val ha49 rfl rfl rfl (op_eql ha49 rfl rfl rfl) ?_
       intro a50 ha50; clear ha49 a49
       refine wl_val ha50 rfl rfl rfl (op_move ha50 rfl rfl) ?_
       intro a51 ha51; clear ha50 a50
       by_cases c52 : ((j : Nat) : Int) = ((piece.length : Nat) : Int)
       ·
        rw [decide_eq_true c52] at ha51
        refine wl_skip ha51 rfl rfl rfl ?_
        intro a53 ha53; clear ha51 a51
        refine wl_skip ha53 rfl rfl rfl ?_
        intro a54 ha54; clear ha53 a53
        refine wl_skip ha54 rfl rfl rfl ?_
        intro a55 ha55; clear ha54 a54
        refine wl_val ha55 rfl rfl rfl (op_pick_t ha55 rfl rfl rfl) ?_
        intro a56 ha56; clear ha55 a55
        refine wpList_nil ?_
        refine then_n ?_
        refine cond_t ha56 rfl ?_
        refine wp_seq ?_
        refine wp_region_lit ?_
        refine wl_val ha56 rfl rfl rfl (op_build (vs := []) (cs := #[.int .i64 (0 : Int), St (([] : Str))]) ha56 rfl Try.underlying36 ti36 bp36 rfl rfl) ?_
        intro a57 ha57; clear ha56 a56
        refine wl_effS ha57 rfl rfl (op_storeAll' ha57 rfl ti36 rfl rfl hf31 rfl rfl (by simp [Value.oneCell']) rfl) ?_
        rintro w58 ⟨hb60, hst59, hz61⟩
        have hx62 := hx30.stp hst59 (by intro q hq; cases hq; exact (by omega))
        have hzhx62 := hst59.size
        clear hf31
        refine wl_val ha57 rfl rfl rfl (op_assign ha57 rfl rfl) ?_
        intro a63 ha63; clear ha57 a57
        refine wpList_nil ?_
        refine then_n ?_
        refine wp_ret ?_
        refine then_r ?_
        refine retct ha63 rfl rfl rfl Try.underlying36 ti36 rfl hb60.cells ?_
        clear ha63 a63
        have hG : spG piece = false := by unfold spG; rw [hC, hM]; simp; try omega
        exact ret_mk hx62 (tup2_eq (by simp [spR, hG]) (congrArg Value.bool (by (rw [← sp_eq]; simp [spB, hG, c21, c28, c39, c46, c52]))))
       ·
        rw [decide_eq_false c52] at ha51
        refine wl_val ha51 rfl rfl rfl (op_move ha51 rfl rfl) ?_
        intro a64 ha64; clear ha51 a51
        refine wl_val ha64 rfl rfl rfl (op_move ha64 rfl rfl) ?_
        intro a65 ha65; clear ha64 a64
        refine wl_val ha65 rfl rfl rfl (op_geq ha65 rfl rfl rfl) ?_
        intro a66 ha66; clear ha65 a65
        refine wl_val ha66 rfl rfl rfl (op_pick_f ha66 rfl rfl rfl) ?_
        intro a67 ha67; clear ha66 a66
        refine wpList_nil ?_
        refine then_n ?_
        by_cases c68 : ((j : Nat) : Int) ≤ ((i : Nat) : Int)
        ·
         rw [decide_eq_true c68] at ha67
         refine cond_t ha67 rfl ?_
         refine wp_seq ?_
         refine wp_region_lit ?_
         refine wl_val ha67 rfl rfl rfl (op_build (vs := []) (cs := #[.int .i64 (0 : Int), St (([] : Str))]) ha67 rfl Try.underlying36 ti36 bp36 rfl rfl) ?_
         intro a69 ha69; clear ha67 a67
         refine wl_effS ha69 rfl rfl (op_storeAll' ha69 rfl ti36 rfl rfl hf31 rfl rfl (by simp [Value.oneCell']) rfl) ?_
         rintro w70 ⟨hb72, hst71, hz73⟩
         have hx74 := hx30.stp hst71 (by intro q hq; cases hq; exact (by omega))
         have hzhx74 := hst71.size
         clear hf31
         refine wl_val ha69 rfl rfl rfl (op_assign ha69 rfl rfl) ?_
         intro a75 ha75; clear ha69 a69
         refine wpList_nil ?_
         refine then_n ?_
         refine wp_ret ?_
         refine then_r ?_
         refine retct ha75 rfl rfl rfl Try.underlying36 ti36 rfl hb72.cells ?_
         clear ha75 a75
         have hG : spG piece = false := by unfold spG; rw [hC, hM]; simp; try omega
         exact ret_mk hx74 (tup2_eq (by simp [spR, hG]) (congrArg Value.bool (by (rw [← sp_eq]; simp [spB, hG, c21, c28, c39, c46, c52, c68]))))
        ·
         rw [decide_eq_false c68] at ha67
         refine cond_f ha67 rfl ?_
         refine wp_skip ?_
         refine then_n ?_
         refine wp_seq ?_
         have hrd := l01V_bd (piece.take i)
         refine wp_region_lit ?_
         refine wl_val ha67 rfl rfl rfl (op_move ha67 rfl rfl) ?_
         intro a76 ha76; clear ha67 a67
         refine wl_val ha76 rfl rfl rfl (op_move ha76 rfl rfl) ?_
         intro a77 ha77; clear ha76 a76
         refine wl_val ha77 rfl rfl rfl (op_slice_str_t (j := i) (by omega) ha77 rfl Try.underlying9 rfl rfl (by omega)) ?_
         intro a78 ha78; clear ha77 a77
         refine wl_callR ha78 rfl rfl rfl (op_call ha78 rfl cb75 rfl) (c_spec_l01Value _ (piece.take i) ) ?_
         rintro v79 w80 he81 rfl a82 ha82; clear ha78 a78
         have hx83 := hx30.trans' he81
         have hzhx83 := he81.size
         replace hf31 := hf31.ext he81
         refine wl_val ha82 rfl rfl rfl (op_move ha82 rfl rfl) ?_
         intro a84 ha84; clear ha82 a82
         refine wl_val ha84 rfl rfl rfl (op_extract ha84 rfl rfl rfl) ?_
         intro a85 ha85; clear ha84 a84
         refine wl_val ha85 rfl rfl rfl (op_extract ha85 rfl rfl rfl) ?_
         intro a86 ha86; clear ha85 a85
         refine wl_val ha86 rfl rfl rfl (op_assign ha86 rfl rfl) ?_
         intro a87 ha87; clear ha86 a86
         refine wl_val ha87 rfl rfl rfl (op_assign ha87 rfl rfl) ?_
         intro a88 ha88; clear ha87 a87
         refine wpList_nil ?_
         refine then_n ?_
         refine wp_seq ?_
         refine wp_region_lit ?_
         refine wl_val ha88 rfl rfl rfl (op_move ha88 rfl rfl) ?_
         intro a89 ha89; clear ha88 a88
         refine wl_val ha89 rfl rfl rfl (op_move ha89 rfl rfl) ?_
         intro a90 ha90; clear ha89 a89
         refine wl_val ha90 rfl rfl rfl (op_move ha90 rfl rfl) ?_
         intro a91 ha91; clear ha90 a90
         refine wl_val ha91 rfl rfl rfl ((op_add ha91 rfl rfl rfl).int (IntWalk.i64_in _ (by omega))) ?_
         intro a92 ha92; clear ha91 a91
         refine wl_val ha92 rfl rfl rfl (op_move ha92 rfl rfl) ?_
         intro a93 ha93; clear ha92 a92
         refine wl_val ha93 rfl rfl rfl (op_slice_str_b (i := (i + 1)) (j := j) (by omega) (by omega) ha93 rfl Try.underlying9 rfl rfl rfl (by omega) (by omega)) ?_
         intro a94 ha94; clear ha93 a93
         refine wl_val ha94 rfl rfl rfl (op_build (vs := [(0, .int .i64 ((l01V (piece.take i)).1 : Int)), (1, St ((piece.take j).drop ((i + 1))))]) (cs := #[.int .i64 ((l01V (piece.take i)).1 : Int), St ((piece.take j).drop ((i + 1)))]) ha94 rfl Try.underlying36 ti36 bp36 rfl rfl) ?_
         intro a95 ha95; clear ha94 a94
         refine wl_eff ha95 rfl rfl rfl (op_alloc' rfl ti36 rfl) ?_
         rintro _ w97 ⟨rfl, he98, hb99, hz100⟩ a101 ha101; clear ha95 a95
         have hx102 := hx83.trans' he98
         have hzhx102 := he98.size
         replace hf31 := hf31.ext he98
         refine wl_effS ha101 rfl rfl (op_storeAll' ha101 rfl ti36 rfl rfl hb99 rfl rfl (by simp [Value.oneCell']) rfl) ?_
         rintro w103 ⟨hb105, hst104, hz106⟩
         have hx107 := hx102.stp hst104 (by intro q hq; cases hq; exact (by omega))
         have hzhx107 := hst104.size
         replace hf31 := hf31.stp hst104 (by intro q hq; cases hq; omega)
         clear hb99
         refine wpList_nil ?_
         refine then_n ?_
         refine wp_seq ?_
         refine dr_enter (fun wa_ wb_ => Stp wa_ wb_ (some w0.heap.size)) follows_mixed ?_
         intro w108 he109
         have hx110 := hx107.trans' he109
         have hzhx110 := he109.size
         replace hf31 := hf31.ext he109
         replace hb105 := hb105.ext he109
         have hs111 : Ext w108 w108 := Ext.rfl' _
         refine dr_val (i := 0) ha101 rfl (by kernel_rfl) (by kernel_rfl) (by kernel_rfl) rfl rfl rfl (Stp.of_ext hs111 _) (fun w' hw' => op_loadS ha101 rfl Try.underlying36 ti36 rfl rfl (hb105.stp hw' (by intro q hq; cases hq; omega)).cells) ?_
         intro a112 ha112; clear ha101 a101
         refine dr_val (i := 1) ha112 rfl (by kernel_rfl) (by kernel_rfl) (by kernel_rfl) rfl rfl rfl (Stp.of_ext hs111 _) (fun w' hw' => op_move ha112 rfl rfl) ?_
         intro a113 ha113; clear ha112 a112
         refine dr_val (i := 2) ha113 rfl (by kernel_rfl) (by kernel_rfl) (by kernel_rfl) rfl rfl rfl (Stp.of_ext hs111 _) (fun w' hw' => op_move ha113 rfl rfl) ?_
         intro a114 ha114; clear ha113 a113
         rcases Bool.eq_false_or_eq_true ((l01V (piece.take i)).2) with c115 | c115
         ·
          rw [c115] at ha114
          refine dr_val (i := 3) ha114 rfl (by kernel_rfl) (by kernel_rfl) (by kernel_rfl) rfl rfl rfl (Stp.of_ext hs111 _) (fun w' hw' => op_loadS ha114 rfl Try.underlying36 ti36 rfl rfl (hb105.stp hw' (by intro q hq; cases hq; omega)).cells) ?_
          intro a116 ha116; clear ha114 a114
          refine dr_one (i := 4) (by kernel_rfl) ?_
          refine po_callR ha116 rfl rfl rfl rfl (op_call ha116 rfl cb48 rfl) (c_spec_l32Is _ ((((l01V (piece.take i)).1 : Int), (piece.take j).drop ((i + 1)))) (by first | assumption | omega | (simp; omega) | (have hbd := recB_bd ‹recB _ = true›; omega) | (have hbd := recB_bd ‹recB _ = true›; simp only at hbd; simp only; omega) | (simp only; omega) | (simp only [List.length_drop, List.length_take]; omega)) (by first | assumption | omega | (simp; omega) | (have hbd := recB_bd ‹recB _ = true›; omega) | (have hbd := recB_bd ‹recB _ = true›; simp only at hbd; simp only; omega) | (simp only; omega) | (simp only [List.length_drop, List.length_take]; omega))) ?_
          rintro v117 w118 he119 rfl a120 ha120; clear ha116 a116
          have hs121 := hs111.trans' he119
          have hx122 := hx110.trans' he119
          have hzhx122 := he119.size
          refine ⟨(Stp.of_ext hs121 _), ?_⟩
          refine dr_val (i := 5) ha120 rfl (by kernel_rfl) (by kernel_rfl) (by kernel_rfl) rfl rfl rfl (Stp.of_ext hs121 _) (fun w' hw' => op_pick_t ha120 rfl rfl rfl) ?_
          intro a123 ha123; clear ha120 a120
          refine dr_val (i := 6) ha123 rfl (by kernel_rfl) (by kernel_rfl) (by kernel_rfl) rfl rfl rfl (Stp.of_ext hs121 _) (fun w' hw' => op_move ha123 rfl rfl) ?_
          intro a124 ha124; clear ha123 a123
          rcases Bool.eq_false_or_eq_true (recB ((((l01V (piece.take i)).1 : Int), (piece.take j).drop ((i + 1))))) with c125 | c125
          ·
           rw [c125] at ha124
           refine dr_val (i := 7) ha124 rfl (by kernel_rfl) (by kernel_rfl) (by kernel_rfl) rfl rfl rfl (Stp.of_ext hs121 _) (fun w' hw' => op_loadS ha124 rfl Try.underlying36 ti36 rfl rfl (hb105.stp hw' (by intro q hq; cases hq; omega)).cells) ?_
           intro a126 ha126; clear ha124 a124
           refine dr_val (i := 9) ha126 rfl (by kernel_rfl) (by kernel_rfl) (by kernel_rfl) rfl rfl rfl (Stp.of_ext hs121 _) (fun w' hw' => op_move ha126 rfl rfl) ?_
           intro a127 ha127; clear ha126 a126
           refine dr_one (i := 8) (by kernel_rfl) ?_
           refine po_callR ha127 rfl rfl rfl rfl (op_call ha127 rfl cb63 rfl) (c_spec_l32Line _ ((((l01V (piece.take i)).1 : Int), (piece.take j).drop ((i + 1)))) (by first | assumption | omega | (simp; omega) | (have hbd := recB_bd ‹recB _ = true›; omega) | (have hbd := recB_bd ‹recB _ = true›; simp only at hbd; simp only; omega) | (simp only; omega) | (simp only [List.length_drop, List.length_take]; omega)) (by first | assumption | omega | (simp; omega) | (have hbd := recB_bd ‹recB _ = true›; omega) | (have hbd := recB_bd ‹recB _ = true›; simp only at hbd; simp only; omega) | (simp only; omega) | (simp only [List.length_drop, List.length_take]; omega)) (by first | assumption | omega | (simp; omega) | (have hbd := recB_bd ‹recB _ = true›; omega) | (have hbd := recB_bd ‹recB _ = true›; simp only at hbd; simp only; omega) | (simp only; omega) | (simp only [List.length_drop, List.length_take]; omega))) ?_
           rintro v128 w129 he130 rfl a131 ha131; clear ha127 a127
           have hs132 := hs121.trans' he130
           have hx133 := hx122.trans' he130
           have hzhx133 := he130.size
           refine ⟨(Stp.of_ext hs132 _), ?_⟩
           refine dr_val (i := 10) ha131 rfl (by kernel_rfl) (by kernel_rfl) (by kernel_rfl) rfl rfl rfl (Stp.of_ext hs132 _) (fun w' hw' => op_seql ha131 rfl rfl rfl) ?_
           intro a134 ha134; clear ha131 a131
           refine dr_val (i := 11) ha134 rfl (by kernel_rfl) (by kernel_rfl) (by kernel_rfl) rfl rfl rfl (Stp.of_ext hs132 _) (fun w' hw' => op_pick_t ha134 rfl rfl rfl) ?_
           intro a135 ha135; clear ha134 a134
           refine dr_one (i := 12) (by kernel_rfl) ?_
           replace hf31 := hf31.ext hs132
           replace hb105 := hb105.ext hs132
           refine po_effS ha135 rfl rfl rfl (op_storeAll' ha135 rfl ti36 rfl rfl hf31 rfl rfl (by simp [Value.oneCell']) rfl) ?_
           rintro w136 ⟨hb138, hst137, hz139⟩
           have hs140 := (Stp.of_ext hs132 (some w0.heap.size)).trans' hst137
           have hx141 := hx133.stp hst137 (by intro q hq; cases hq; exact (by omega))
           have hzhx141 := hst137.size
           replace hb105 := hb105.stp hst137 (by intro q hq; cases hq; omega)
           clear hf31
           refine ⟨hs140, ?_⟩
           refine dr_val (i := 13) ha135 rfl (by kernel_rfl) (by kernel_rfl) (by kernel_rfl) rfl rfl rfl hs140 (fun w' hw' => op_assign ha135 rfl rfl) ?_
           intro a142 ha142; clear ha135 a135
           refine dr_end (by kernel_rfl) ?_
           refine then_n ?_
           refine wp_ret ?_
           refine retct ha142 rfl rfl rfl Try.underlying36 ti36 rfl hb138.cells ?_
           clear ha142 a142
           have hG : spG piece = true := by unfold spG; rw [hC, hM]; simp; try omega
           have hN : spN piece = l01V (piece.take i) := by unfold spN; rw [hC]; rfl
           have hT : rrT piece = (piece.take j).drop (i + 1) := by unfold rrT; rw [hC, hM]; rfl
           exact ret_mk hx141 (tup2_eq (by simp [spR, hG, hN, hT]) (congrArg Value.bool (by (rw [← sp_eq]; simp [spB, hG, hN, hT, c21, c28, c39, c46, c52, c68, c115, c125]))))
          ·
           rw [c125] at ha124
           refine dr_skip (i := 7) ha124 rfl (by kernel_rfl) (by kernel_rfl) (by kernel_rfl) rfl rfl rfl (Stp.of_ext hs121 _) ?_
           intro a143 ha143; clear ha124 a124
           refine dr_skip (i := 8) ha143 rfl (by kernel_rfl) (by kernel_rfl) (by kernel_rfl) rfl rfl rfl (Stp.of_ext hs121 _) ?_
           intro a144 ha144; clear ha143 a143
           refine dr_skip (i := 9) ha144 rfl (by kernel_rfl) (by kernel_rfl) (by kernel_rfl) rfl rfl rfl (Stp.of_ext hs121 _) ?_
           intro a145 ha145; clear ha144 a144
           refine dr_skip (i := 10) ha145 rfl (by kernel_rfl) (by kernel_rfl) (by kernel_rfl) rfl rfl rfl (Stp.of_ext hs121 _) ?_
           intro a146 ha146; clear ha145 a145
           refine dr_val (i := 11) ha146 rfl (by kernel_rfl) (by kernel_rfl) (by kernel_rfl) rfl rfl rfl (Stp.of_ext hs121 _) (fun w' hw' => op_pick_f ha146 rfl rfl rfl) ?_
           intro a147 ha147; clear ha146 a146
           refine dr_one (i := 12) (by kernel_rfl) ?_
           replace hf31 := hf31.ext hs121
           replace hb105 := hb105.ext hs121
           refine po_effS ha147 rfl rfl rfl (op_storeAll' ha147 rfl ti36 rfl rfl hf31 rfl rfl (by simp [Value.oneCell']) rfl) ?_
           rintro w148 ⟨hb150, hst149, hz151⟩
           have hs152 := (Stp.of_ext hs121 (some w0.heap.size)).trans' hst149
           have hx153 := hx122.stp hst149 (by intro q hq; cases hq; exact (by omega))
           have hzhx153 := hst149.size
           replace hb105 := hb105.stp hst149 (by intro q hq; cases hq; omega)
           clear hf31
           refine ⟨hs152, ?_⟩
           refine dr_val (i := 13) ha147 rfl (by kernel_rfl) (by kernel_rfl) (by kernel_rfl) rfl rfl rfl hs152 (fun w' hw' => op_assign ha147 rfl rfl) ?_
           intro a154 ha154; clear ha147 a147
           refine dr_end (by kernel_rfl) ?_
           refine then_n ?_
           refine wp_ret ?_
           refine retct ha154 rfl rfl rfl Try.underlying36 ti36 rfl hb150.cells ?_
           clear ha154 a154
           have hG : spG piece = true := by unfold spG; rw [hC, hM]; simp; try omega
           have hN : spN piece = l01V (piece.take i) := by unfold spN; rw [hC]; rfl
           have hT : rrT piece = (piece.take j).drop (i + 1) := by unfold rrT; rw [hC, hM]; rfl
           exact ret_mk hx153 (tup2_eq (by simp [spR, hG, hN, hT]) (congrArg Value.bool (by (rw [← sp_eq]; simp [spB, hG, hN, hT, c21, c28, c39, c46, c52, c68, c115, c125]))))
         ·
          rw [c115] at ha114
          refine dr_skip (i := 3) ha114 rfl (by kernel_rfl) (by kernel_rfl) (by kernel_rfl) rfl rfl rfl (Stp.of_ext hs111 _) ?_
          intro a155 ha155; clear ha114 a114
          refine dr_skip (i := 4) ha155 rfl (by kernel_rfl) (by kernel_rfl) (by kernel_rfl) rfl rfl rfl (Stp.of_ext hs111 _) ?_
          intro a156 ha156; clear ha155 a155
          refine dr_val (i := 5) ha156 rfl (by kernel_rfl) (by kernel_rfl) (by kernel_rfl) rfl rfl rfl (Stp.of_ext hs111 _) (fun w' hw' => op_pick_f ha156 rfl rfl rfl) ?_
          intro a157 ha157; clear ha156 a156
          refine dr_val (i := 6) ha157 rfl (by kernel_rfl) (by kernel_rfl) (by kernel_rfl) rfl rfl rfl (Stp.of_ext hs111 _) (fun w' hw' => op_move ha157 rfl rfl) ?_
          intro a158 ha158; clear ha157 a157
          refine dr_skip (i := 7) ha158 rfl (by kernel_rfl) (by kernel_rfl) (by kernel_rfl) rfl rfl rfl (Stp.of_ext hs111 _) ?_
          intro a159 ha159; clear ha158 a158
          refine dr_skip (i := 8) ha159 rfl (by kernel_rfl) (by kernel_rfl) (by kernel_rfl) rfl rfl rfl (Stp.of_ext hs111 _) ?_
          intro a160 ha160; clear ha159 a159
          refine dr_skip (i := 9) ha160 rfl (by kernel_rfl) (by kernel_rfl) (by kernel_rfl) rfl rfl rfl (Stp.of_ext hs111 _) ?_
          intro a161 ha161; clear ha160 a160
          refine dr_skip (i := 10) ha161 rfl (by kernel_rfl) (by kernel_rfl) (by kernel_rfl) rfl rfl rfl (Stp.of_ext hs111 _) ?_
          intro a162 ha162; clear ha161 a161
          refine dr_val (i := 11) ha162 rfl (by kernel_rfl) (by kernel_rfl) (by kernel_rfl) rfl rfl rfl (Stp.of_ext hs111 _) (fun w' hw' => op_pick_f ha162 rfl rfl rfl) ?_
          intro a163 ha163; clear ha162 a162
          refine dr_one (i := 12) (by kernel_rfl) ?_
          replace hf31 := hf31.ext hs111
          replace hb105 := hb105.ext hs111
          refine po_effS ha163 rfl rfl rfl (op_storeAll' ha163 rfl ti36 rfl rfl hf31 rfl rfl (by simp [Value.oneCell']) rfl) ?_
          rintro w164 ⟨hb166, hst165, hz167⟩
          have hs168 := (Stp.of_ext hs111 (some w0.heap.size)).trans' hst165
          have hx169 := hx110.stp hst165 (by intro q hq; cases hq; exact (by omega))
          have hzhx169 := hst165.size
          replace hb105 := hb105.stp hst165 (by intro q hq; cases hq; omega)
          clear hf31
          refine ⟨hs168, ?_⟩
          refine dr_val (i := 13) ha163 rfl (by kernel_rfl) (by kernel_rfl) (by kernel_rfl) rfl rfl rfl hs168 (fun w' hw' => op_assign ha163 rfl rfl) ?_
          intro a170 ha170; clear ha163 a163
          refine dr_end (by kernel_rfl) ?_
          refine then_n ?_
          refine wp_ret ?_
          refine retct ha170 rfl rfl rfl Try.underlying36 ti36 rfl hb166.cells ?_
          clear ha170 a170
          have hG : spG piece = true := by unfold spG; rw [hC, hM]; simp; try omega
          have hN : spN piece = l01V (piece.take i) := by unfold spN; rw [hC]; rfl
          have hT : rrT piece = (piece.take j).drop (i + 1) := by unfold rrT; rw [hC, hM]; rfl
          exact ret_mk hx169 (tup2_eq (by simp [spR, hG, hN, hT]) (congrArg Value.bool (by (rw [← sp_eq]; simp [spB, hG, hN, hT, c21, c28, c39, c46, c52, c68, c115]))))
      ·
       rw [decide_eq_false c46] at ha45
       refine cond_t ha45 rfl ?_
       refine wp_skip ?_
       refine then_n ?_
       refine wp_block ?_
       refine wp_region_lit ?_
       refine wl_val ha45 rfl rfl rfl (op_move ha45 rfl rfl) ?_
       intro a171 ha171; clear ha45 a45
       refine wl_val ha171 rfl rfl rfl ((op_add ha171 rfl rfl rfl).int (IntWalk.i64_in _ (by omega))) ?_
       intro a172 ha172; clear ha171 a171
       refine wl_val ha172 rfl rfl rfl (op_assign ha172 rfl rfl) ?_
       intro a173 ha173; clear ha172 a172
       refine wpList_nil ?_
       refine block_n ?_
       refine round_end (x := j) ((j + 1)) ?_ ?_
       ·
        refine ⟨(Sl.cons_ ha173 rfl rfl (Sl.cons_ ha173 rfl rfl (Sl.cons_ ha173 rfl rfl (Sl.cons_ ha173 rfl (int_eq (by omega)) (Sl.nil_ ha173))))), hx30, hf31, (by omega), (by omega), (by rw [drop_cons hb42, fi_miss c46] at hmF; exact hmF)⟩
       ·show (piece.length - ((j + 1)) : Nat) < piece.length - j; omega
     ·
      rw [decide_eq_false c39] at ha38
      refine wl_skip ha38 rfl rfl rfl ?_
      intro a174 ha174; clear ha38 a38
      refine wl_skip ha174 rfl rfl rfl ?_
      intro a175 ha175; clear ha174 a174
      refine wl_skip ha175 rfl rfl rfl ?_
      intro a176 ha176; clear ha175 a175
      refine wl_skip ha176 rfl rfl rfl ?_
      intro a177 ha177; clear ha176 a176
      refine wl_val ha177 rfl rfl rfl (op_pick_f ha177 rfl rfl rfl) ?_
      intro a178 ha178; clear ha177 a177
      refine wpList_nil ?_
      refine then_n ?_
      refine cond_f ha178 rfl ?_
      refine wp_exit ?_
      refine then_e ?_
      refine then_e ?_
      refine block_hit ?_
      refine then_n ?_
      refine wp_seq ?_
      refine wp_seq ?_
      have hC : rrC piece = (i : Int) := by unfold rrC; rw [← hcF, drop_cons hb24, fi_hit c28]
      have hM : rrM piece = -1 := by unfold rrM; rw [← hmF, drop_nil (by omega), fi_nil]
      refine wp_region_lit ?_
      refine wl_val ha178 rfl rfl rfl (op_move ha178 rfl rfl) ?_
      intro a179 ha179; clear ha178 a178
      refine wl_val ha179 rfl rfl rfl (op_move ha179 rfl rfl) ?_
      intro a180 ha180; clear ha179 a179
      refine wl_val ha180 rfl rfl rfl (op_len_str ha180 rfl Try.underlying9 rfl) ?_
      intro a181 ha181; clear ha180 a180
      refine wl_val ha181 rfl rfl rfl (op_eql ha181 rfl rfl rfl) ?_
      intro a182 ha182; clear ha181 a181
      refine wl_val ha182 rfl rfl rfl (op_move ha182 rfl rfl) ?_
      intro a183 ha183; clear ha182 a182
      by_cases c184 : ((j : Nat) : Int) = ((piece.length : Nat) : Int)
      ·
       rw [decide_eq_true c184] at ha183
       refine wl_skip ha183 rfl rfl rfl ?_
       intro a185 ha185; clear ha183 a183
       refine wl_skip ha185 rfl rfl rfl ?_
       intro a186 ha186; clear ha185 a185
       refine wl_skip ha186 rfl rfl rfl ?_
       intro a187 ha187; clear ha186 a186
       refine wl_val ha187 rfl rfl rfl (op_pick_t ha187 rfl rfl rfl) ?_
       intro a188 ha188; clear ha187 a187
       refine wpList_nil ?_
       refine then_n ?_
       refine cond_t ha188 rfl ?_
       refine wp_seq ?_
       refine wp_region_lit ?_
       refine wl_val ha188 rfl rfl rfl (op_build (vs := []) (cs := #[.int .i64 (0 : Int), St (([] : Str))]) ha188 rfl Try.underlying36 ti36 bp36 rfl rfl) ?_
       intro a189 ha189; clear ha188 a188
       refine wl_effS ha189 rfl rfl (op_storeAll' ha189 rfl ti36 rfl rfl hf31 rfl rfl (by simp [Value.oneCell']) rfl) ?_
       rintro w190 ⟨hb192, hst191, hz193⟩
       have hx194 := hx30.stp hst191 (by intro q hq; cases hq; exact (by omega))
       have hzhx194 := hst191.size
       clear hf31
       refine wl_val ha189 rfl rfl rfl (op_assign ha189 rfl rfl) ?_
       intro a195 ha195; clear ha189 a189
       refine wpList_nil ?_
       refine then_n ?_
       refine wp_ret ?_
       refine then_r ?_
       refine retct ha195 rfl rfl rfl Try.underlying36 ti36 rfl hb192.cells ?_
       clear ha195 a195
       have hG : spG piece = false := by unfold spG; rw [hC, hM]; simp; try omega
       exact ret_mk hx194 (tup2_eq (by simp [spR, hG]) (congrArg Value.bool (by (rw [← sp_eq]; simp [spB, hG, c21, c28, c39, c184]))))
      ·
       rw [decide_eq_false c184] at ha183
       refine wl_val ha183 rfl rfl rfl (op_move ha183 rfl rfl) ?_
       intro a196 ha196; clear ha183 a183
       refine wl_val ha196 rfl rfl rfl (op_move ha196 rfl rfl) ?_
       intro a197 ha197; clear ha196 a196
       refine wl_val ha197 rfl rfl rfl (op_geq ha197 rfl rfl rfl) ?_
       intro a198 ha198; clear ha197 a197
       refine wl_val ha198 rfl rfl rfl (op_pick_f ha198 rfl rfl rfl) ?_
       intro a199 ha199; clear ha198 a198
       refine wpList_nil ?_
       refine then_n ?_
       by_cases c200 : ((j : Nat) : Int) ≤ ((i : Nat) : Int)
       ·
        rw [decide_eq_true c200] at ha199
        refine cond_t ha199 rfl ?_
        refine wp_seq ?_
        refine wp_region_lit ?_
        refine wl_val ha199 rfl rfl rfl (op_build (vs := []) (cs := #[.int .i64 (0 : Int), St (([] : Str))]) ha199 rfl Try.underlying36 ti36 bp36 rfl rfl) ?_
        intro a201 ha201; clear ha199 a199
        refine wl_effS ha201 rfl rfl (op_storeAll' ha201 rfl ti36 rfl rfl hf31 rfl rfl (by simp [Value.oneCell']) rfl) ?_
        rintro w202 ⟨hb204, hst203, hz205⟩
        have hx206 := hx30.stp hst203 (by intro q hq; cases hq; exact (by omega))
        have hzhx206 := hst203.size
        clear hf31
        refine wl_val ha201 rfl rfl rfl (op_assign ha201 rfl rfl) ?_
        intro a207 ha207; clear ha201 a201
        refine wpList_nil ?_
        refine then_n ?_
        refine wp_ret ?_
        refine then_r ?_
        refine retct ha207 rfl rfl rfl Try.underlying36 ti36 rfl hb204.cells ?_
        clear ha207 a207
        have hG : spG piece = false := by unfold spG; rw [hC, hM]; simp; try omega
        exact ret_mk hx206 (tup2_eq (by simp [spR, hG]) (congrArg Value.bool (by (rw [← sp_eq]; simp [spB, hG, c21, c28, c39, c184, c200]))))
       ·
        rw [decide_eq_false c200] at ha199
        refine cond_f ha199 rfl ?_
        refine wp_skip ?_
        refine then_n ?_
        refine wp_seq ?_
        have hrd := l01V_bd (piece.take i)
        refine wp_region_lit ?_
        refine wl_val ha199 rfl rfl rfl (op_move ha199 rfl rfl) ?_
        intro a208 ha208; clear ha199 a199
        refine wl_val ha208 rfl rfl rfl (op_move ha208 rfl rfl) ?_
        intro a209 ha209; clear ha208 a208
        refine wl_val ha209 rfl rfl rfl (op_slice_str_t (j := i) (by omega) ha209 rfl Try.underlying9 rfl rfl (by omega)) ?_
        intro a210 ha210; clear ha209 a209
        refine wl_callR ha210 rfl rfl rfl (op_call ha210 rfl cb75 rfl) (c_spec_l01Value _ (piece.take i) ) ?_
        rintro v211 w212 he213 rfl a214 ha214; clear ha210 a210
        have hx215 := hx30.trans' he213
        have hzhx215 := he213.size
        replace hf31 := hf31.ext he213
        refine wl_val ha214 rfl rfl rfl (op_move ha214 rfl rfl) ?_
        intro a216 ha216; clear ha214 a214
        refine wl_val ha216 rfl rfl rfl (op_extract ha216 rfl rfl rfl) ?_
        intro a217 ha217; clear ha216 a216
        refine wl_val ha217 rfl rfl rfl (op_extract ha217 rfl rfl rfl) ?_
        intro a218 ha218; clear ha217 a217
        refine wl_val ha218 rfl rfl rfl (op_assign ha218 rfl rfl) ?_
        intro a219 ha219; clear ha218 a218
        refine wl_val ha219 rfl rfl rfl (op_assign ha219 rfl rfl) ?_
        intro a220 ha220; clear ha219 a219
        refine wpList_nil ?_
        refine then_n ?_
        refine wp_seq ?_
        refine wp_region_lit ?_
        refine wl_val ha220 rfl rfl rfl (op_move ha220 rfl rfl) ?_
        intro a221 ha221; clear ha220 a220
        refine wl_val ha221 rfl rfl rfl (op_move ha221 rfl rfl) ?_
        intro a222 ha222; clear ha221 a221
        refine wl_val ha222 rfl rfl rfl (op_move ha222 rfl rfl) ?_
        intro a223 ha223; clear ha222 a222
        refine wl_val ha223 rfl rfl rfl ((op_add ha223 rfl rfl rfl).int (IntWalk.i64_in _ (by omega))) ?_
        intro a224 ha224; clear ha223 a223
        refine wl_val ha224 rfl rfl rfl (op_move ha224 rfl rfl) ?_
        intro a225 ha225; clear ha224 a224
        refine wl_val ha225 rfl rfl rfl (op_slice_str_b (i := (i + 1)) (j := j) (by omega) (by omega) ha225 rfl Try.underlying9 rfl rfl rfl (by omega) (by omega)) ?_
        intro a226 ha226; clear ha225 a225
        refine wl_val ha226 rfl rfl rfl (op_build (vs := [(0, .int .i64 ((l01V (piece.take i)).1 : Int)), (1, St ((piece.take j).drop ((i + 1))))]) (cs := #[.int .i64 ((l01V (piece.take i)).1 : Int), St ((piece.take j).drop ((i + 1)))]) ha226 rfl Try.underlying36 ti36 bp36 rfl rfl) ?_
        intro a227 ha227; clear ha226 a226
        refine wl_eff ha227 rfl rfl rfl (op_alloc' rfl ti36 rfl) ?_
        rintro _ w229 ⟨rfl, he230, hb231, hz232⟩ a233 ha233; clear ha227 a227
        have hx234 := hx215.trans' he230
        have hzhx234 := he230.size
        replace hf31 := hf31.ext he230
        refine wl_effS ha233 rfl rfl (op_storeAll' ha233 rfl ti36 rfl rfl hb231 rfl rfl (by simp [Value.oneCell']) rfl) ?_
        rintro w235 ⟨hb237, hst236, hz238⟩
        have hx239 := hx234.stp hst236 (by intro q hq; cases hq; exact (by omega))
        have hzhx239 := hst236.size
        replace hf31 := hf31.stp hst236 (by intro q hq; cases hq; omega)
        clear hb231
        refine wpList_nil ?_
        refine then_n ?_
        refine wp_seq ?_
        refine dr_enter (fun wa_ wb_ => Stp wa_ wb_ (some w0.heap.size)) follows_mixed ?_
        intro w240 he241
        have hx242 := hx239.trans' he241
        have hzhx242 := he241.size
        replace hf31 := hf31.ext he241
        replace hb237 := hb237.ext he241
        have hs243 : Ext w240 w240 := Ext.rfl' _
        refine dr_val (i := 0) ha233 rfl (by kernel_rfl) (by kernel_rfl) (by kernel_rfl) rfl rfl rfl (Stp.of_ext hs243 _) (fun w' hw' => op_loadS ha233 rfl Try.underlying36 ti36 rfl rfl (hb237.stp hw' (by intro q hq; cases hq; omega)).cells) ?_
        intro a244 ha244; clear ha233 a233
        refine dr_val (i := 1) ha244 rfl (by kernel_rfl) (by kernel_rfl) (by kernel_rfl) rfl rfl rfl (Stp.of_ext hs243 _) (fun w' hw' => op_move ha244 rfl rfl) ?_
        intro a245 ha245; clear ha244 a244
        refine dr_val (i := 2) ha245 rfl (by kernel_rfl) (by kernel_rfl) (by kernel_rfl) rfl rfl rfl (Stp.of_ext hs243 _) (fun w' hw' => op_move ha245 rfl rfl) ?_
        intro a246 ha246; clear ha245 a245
        rcases Bool.eq_false_or_eq_true ((l01V (piece.take i)).2) with c247 | c247
        ·
         rw [c247] at ha246
         refine dr_val (i := 3) ha246 rfl (by kernel_rfl) (by kernel_rfl) (by kernel_rfl) rfl rfl rfl (Stp.of_ext hs243 _) (fun w' hw' => op_loadS ha246 rfl Try.underlying36 ti36 rfl rfl (hb237.stp hw' (by intro q hq; cases hq; omega)).cells) ?_
         intro a248 ha248; clear ha246 a246
         refine dr_one (i := 4) (by kernel_rfl) ?_
         refine po_callR ha248 rfl rfl rfl rfl (op_call ha248 rfl cb48 rfl) (c_spec_l32Is _ ((((l01V (piece.take i)).1 : Int), (piece.take j).drop ((i + 1)))) (by first | assumption | omega | (simp; omega) | (have hbd := recB_bd ‹recB _ = true›; omega) | (have hbd := recB_bd ‹recB _ = true›; simp only at hbd; simp only; omega) | (simp only; omega) | (simp only [List.length_drop, List.length_take]; omega)) (by first | assumption | omega | (simp; omega) | (have hbd := recB_bd ‹recB _ = true›; omega) | (have hbd := recB_bd ‹recB _ = true›; simp only at hbd; simp only; omega) | (simp only; omega) | (simp only [List.length_drop, List.length_take]; omega))) ?_
         rintro v249 w250 he251 rfl a252 ha252; clear ha248 a248
         have hs253 := hs243.trans' he251
         have hx254 := hx242.trans' he251
         have hzhx254 := he251.size
         refine ⟨(Stp.of_ext hs253 _), ?_⟩
         refine dr_val (i := 5) ha252 rfl (by kernel_rfl) (by kernel_rfl) (by kernel_rfl) rfl rfl rfl (Stp.of_ext hs253 _) (fun w' hw' => op_pick_t ha252 rfl rfl rfl) ?_
         intro a255 ha255; clear ha252 a252
         refine dr_val (i := 6) ha255 rfl (by kernel_rfl) (by kernel_rfl) (by kernel_rfl) rfl rfl rfl (Stp.of_ext hs253 _) (fun w' hw' => op_move ha255 rfl rfl) ?_
         intro a256 ha256; clear ha255 a255
         rcases Bool.eq_false_or_eq_true (recB ((((l01V (piece.take i)).1 : Int), (piece.take j).drop ((i + 1))))) with c257 | c257
         ·
          rw [c257] at ha256
          refine dr_val (i := 7) ha256 rfl (by kernel_rfl) (by kernel_rfl) (by kernel_rfl) rfl rfl rfl (Stp.of_ext hs253 _) (fun w' hw' => op_loadS ha256 rfl Try.underlying36 ti36 rfl rfl (hb237.stp hw' (by intro q hq; cases hq; omega)).cells) ?_
          intro a258 ha258; clear ha256 a256
          refine dr_val (i := 9) ha258 rfl (by kernel_rfl) (by kernel_rfl) (by kernel_rfl) rfl rfl rfl (Stp.of_ext hs253 _) (fun w' hw' => op_move ha258 rfl rfl) ?_
          intro a259 ha259; clear ha258 a258
          refine dr_one (i := 8) (by kernel_rfl) ?_
          refine po_callR ha259 rfl rfl rfl rfl (op_call ha259 rfl cb63 rfl) (c_spec_l32Line _ ((((l01V (piece.take i)).1 : Int), (piece.take j).drop ((i + 1)))) (by first | assumption | omega | (simp; omega) | (have hbd := recB_bd ‹recB _ = true›; omega) | (have hbd := recB_bd ‹recB _ = true›; simp only at hbd; simp only; omega) | (simp only; omega) | (simp only [List.length_drop, List.length_take]; omega)) (by first | assumption | omega | (simp; omega) | (have hbd := recB_bd ‹recB _ = true›; omega) | (have hbd := recB_bd ‹recB _ = true›; simp only at hbd; simp only; omega) | (simp only; omega) | (simp only [List.length_drop, List.length_take]; omega)) (by first | assumption | omega | (simp; omega) | (have hbd := recB_bd ‹recB _ = true›; omega) | (have hbd := recB_bd ‹recB _ = true›; simp only at hbd; simp only; omega) | (simp only; omega) | (simp only [List.length_drop, List.length_take]; omega))) ?_
          rintro v260 w261 he262 rfl a263 ha263; clear ha259 a259
          have hs264 := hs253.trans' he262
          have hx265 := hx254.trans' he262
          have hzhx265 := he262.size
          refine ⟨(Stp.of_ext hs264 _), ?_⟩
          refine dr_val (i := 10) ha263 rfl (by kernel_rfl) (by kernel_rfl) (by kernel_rfl) rfl rfl rfl (Stp.of_ext hs264 _) (fun w' hw' => op_seql ha263 rfl rfl rfl) ?_
          intro a266 ha266; clear ha263 a263
          refine dr_val (i := 11) ha266 rfl (by kernel_rfl) (by kernel_rfl) (by kernel_rfl) rfl rfl rfl (Stp.of_ext hs264 _) (fun w' hw' => op_pick_t ha266 rfl rfl rfl) ?_
          intro a267 ha267; clear ha266 a266
          refine dr_one (i := 12) (by kernel_rfl) ?_
          replace hf31 := hf31.ext hs264
          replace hb237 := hb237.ext hs264
          refine po_effS ha267 rfl rfl rfl (op_storeAll' ha267 rfl ti36 rfl rfl hf31 rfl rfl (by simp [Value.oneCell']) rfl) ?_
          rintro w268 ⟨hb270, hst269, hz271⟩
          have hs272 := (Stp.of_ext hs264 (some w0.heap.size)).trans' hst269
          have hx273 := hx265.stp hst269 (by intro q hq; cases hq; exact (by omega))
          have hzhx273 := hst269.size
          replace hb237 := hb237.stp hst269 (by intro q hq; cases hq; omega)
          clear hf31
          refine ⟨hs272, ?_⟩
          refine dr_val (i := 13) ha267 rfl (by kernel_rfl) (by kernel_rfl) (by kernel_rfl) rfl rfl rfl hs272 (fun w' hw' => op_assign ha267 rfl rfl) ?_
          intro a274 ha274; clear ha267 a267
          refine dr_end (by kernel_rfl) ?_
          refine then_n ?_
          refine wp_ret ?_
          refine retct ha274 rfl rfl rfl Try.underlying36 ti36 rfl hb270.cells ?_
          clear ha274 a274
          exfalso; omega
         ·
          rw [c257] at ha256
          refine dr_skip (i := 7) ha256 rfl (by kernel_rfl) (by kernel_rfl) (by kernel_rfl) rfl rfl rfl (Stp.of_ext hs253 _) ?_
          intro a275 ha275; clear ha256 a256
          refine dr_skip (i := 8) ha275 rfl (by kernel_rfl) (by kernel_rfl) (by kernel_rfl) rfl rfl rfl (Stp.of_ext hs253 _) ?_
          intro a276 ha276; clear ha275 a275
          refine dr_skip (i := 9) ha276 rfl (by kernel_rfl) (by kernel_rfl) (by kernel_rfl) rfl rfl rfl (Stp.of_ext hs253 _) ?_
          intro a277 ha277; clear ha276 a276
          refine dr_skip (i := 10) ha277 rfl (by kernel_rfl) (by kernel_rfl) (by kernel_rfl) rfl rfl rfl (Stp.of_ext hs253 _) ?_
          intro a278 ha278; clear ha277 a277
          refine dr_val (i := 11) ha278 rfl (by kernel_rfl) (by kernel_rfl) (by kernel_rfl) rfl rfl rfl (Stp.of_ext hs253 _) (fun w' hw' => op_pick_f ha278 rfl rfl rfl) ?_
          intro a279 ha279; clear ha278 a278
          refine dr_one (i := 12) (by kernel_rfl) ?_
          replace hf31 := hf31.ext hs253
          replace hb237 := hb237.ext hs253
          refine po_effS ha279 rfl rfl rfl (op_storeAll' ha279 rfl ti36 rfl rfl hf31 rfl rfl (by simp [Value.oneCell']) rfl) ?_
          rintro w280 ⟨hb282, hst281, hz283⟩
          have hs284 := (Stp.of_ext hs253 (some w0.heap.size)).trans' hst281
          have hx285 := hx254.stp hst281 (by intro q hq; cases hq; exact (by omega))
          have hzhx285 := hst281.size
          replace hb237 := hb237.stp hst281 (by intro q hq; cases hq; omega)
          clear hf31
          refine ⟨hs284, ?_⟩
          refine dr_val (i := 13) ha279 rfl (by kernel_rfl) (by kernel_rfl) (by kernel_rfl) rfl rfl rfl hs284 (fun w' hw' => op_assign ha279 rfl rfl) ?_
          intro a286 ha286; clear ha279 a279
          refine dr_end (by kernel_rfl) ?_
          refine then_n ?_
          refine wp_ret ?_
          refine retct ha286 rfl rfl rfl Try.underlying36 ti36 rfl hb282.cells ?_
          clear ha286 a286
          exfalso; omega
        ·
         rw [c247] at ha246
         refine dr_skip (i := 3) ha246 rfl (by kernel_rfl) (by kernel_rfl) (by kernel_rfl) rfl rfl rfl (Stp.of_ext hs243 _) ?_
         intro a287 ha287; clear ha246 a246
         refine dr_skip (i := 4) ha287 rfl (by kernel_rfl) (by kernel_rfl) (by kernel_rfl) rfl rfl rfl (Stp.of_ext hs243 _) ?_
         intro a288 ha288; clear ha287 a287
         refine dr_val (i := 5) ha288 rfl (by kernel_rfl) (by kernel_rfl) (by kernel_rfl) rfl rfl rfl (Stp.of_ext hs243 _) (fun w' hw' => op_pick_f ha288 rfl rfl rfl) ?_
         intro a289 ha289; clear ha288 a288
         refine dr_val (i := 6) ha289 rfl (by kernel_rfl) (by kernel_rfl) (by kernel_rfl) rfl rfl rfl (Stp.of_ext hs243 _) (fun w' hw' => op_move ha289 rfl rfl) ?_
         intro a290 ha290; clear ha289 a289
         refine dr_skip (i := 7) ha290 rfl (by kernel_rfl) (by kernel_rfl) (by kernel_rfl) rfl rfl rfl (Stp.of_ext hs243 _) ?_
         intro a291 ha291; clear ha290 a290
         refine dr_skip (i := 8) ha291 rfl (by kernel_rfl) (by kernel_rfl) (by kernel_rfl) rfl rfl rfl (Stp.of_ext hs243 _) ?_
         intro a292 ha292; clear ha291 a291
         refine dr_skip (i := 9) ha292 rfl (by kernel_rfl) (by kernel_rfl) (by kernel_rfl) rfl rfl rfl (Stp.of_ext hs243 _) ?_
         intro a293 ha293; clear ha292 a292
         refine dr_skip (i := 10) ha293 rfl (by kernel_rfl) (by kernel_rfl) (by kernel_rfl) rfl rfl rfl (Stp.of_ext hs243 _) ?_
         intro a294 ha294; clear ha293 a293
         refine dr_val (i := 11) ha294 rfl (by kernel_rfl) (by kernel_rfl) (by kernel_rfl) rfl rfl rfl (Stp.of_ext hs243 _) (fun w' hw' => op_pick_f ha294 rfl rfl rfl) ?_
         intro a295 ha295; clear ha294 a294
         refine dr_one (i := 12) (by kernel_rfl) ?_
         replace hf31 := hf31.ext hs243
         replace hb237 := hb237.ext hs243
         refine po_effS ha295 rfl rfl rfl (op_storeAll' ha295 rfl ti36 rfl rfl hf31 rfl rfl (by simp [Value.oneCell']) rfl) ?_
         rintro w296 ⟨hb298, hst297, hz299⟩
         have hs300 := (Stp.of_ext hs243 (some w0.heap.size)).trans' hst297
         have hx301 := hx242.stp hst297 (by intro q hq; cases hq; exact (by omega))
         have hzhx301 := hst297.size
         replace hb237 := hb237.stp hst297 (by intro q hq; cases hq; omega)
         clear hf31
         refine ⟨hs300, ?_⟩
         refine dr_val (i := 13) ha295 rfl (by kernel_rfl) (by kernel_rfl) (by kernel_rfl) rfl rfl rfl hs300 (fun w' hw' => op_assign ha295 rfl rfl) ?_
         intro a302 ha302; clear ha295 a295
         refine dr_end (by kernel_rfl) ?_
         refine then_n ?_
         refine wp_ret ?_
         refine retct ha302 rfl rfl rfl Try.underlying36 ti36 rfl hb298.cells ?_
         clear ha302 a302
         exfalso; omega
   ·
    rw [decide_eq_false c28] at ha27
    refine cond_t ha27 rfl ?_
    refine wp_skip ?_
    refine then_n ?_
    refine wp_block ?_
    refine wp_region_lit ?_
    refine wl_val ha27 rfl rfl rfl (op_move ha27 rfl rfl) ?_
    intro a303 ha303; clear ha27 a27
    refine wl_val ha303 rfl rfl rfl ((op_add ha303 rfl rfl rfl).int (IntWalk.i64_in _ (by omega))) ?_
    intro a304 ha304; clear ha303 a303
    refine wl_val ha304 rfl rfl rfl (op_assign ha304 rfl rfl) ?_
    intro a305 ha305; clear ha304 a304
    refine wpList_nil ?_
    refine block_n ?_
    refine round_end (x := i) ((i + 1)) ?_ ?_
    ·
     refine ⟨(Sl.cons_ ha305 rfl rfl (Sl.cons_ ha305 rfl rfl (Sl.cons_ ha305 rfl (int_eq (by omega)) (Sl.cons_ ha305 rfl rfl (Sl.nil_ ha305))))), hx12, hf13, (by omega), (by omega), (by rw [drop_cons hb24, fi_miss c28] at hcF; exact hcF)⟩
    ·show (piece.length - ((i + 1)) : Nat) < piece.length - i; omega
  ·
   rw [decide_eq_false c21] at ha20
   refine wl_skip ha20 rfl rfl rfl ?_
   intro a306 ha306; clear ha20 a20
   refine wl_skip ha306 rfl rfl rfl ?_
   intro a307 ha307; clear ha306 a306
   refine wl_skip ha307 rfl rfl rfl ?_
   intro a308 ha308; clear ha307 a307
   refine wl_skip ha308 rfl rfl rfl ?_
   intro a309 ha309; clear ha308 a308
   refine wl_val ha309 rfl rfl rfl (op_pick_f ha309 rfl rfl rfl) ?_
   intro a310 ha310; clear ha309 a309
   refine wpList_nil ?_
   refine then_n ?_
   refine cond_f ha310 rfl ?_
   refine wp_exit ?_
   refine then_e ?_
   refine then_e ?_
   refine block_hit ?_
   refine then_n ?_
   refine wp_seq ?_
   refine wp_block ?_
   refine loop_inv (X := Nat) (fun (j : Nat) fr wl => Sl 69 fr [(0, St piece), (2, .pointer (some (⟨w0.heap.size, 0, none⟩ : Addr))), (4, .int .i64 ((i : Nat) : Int)), (5, .int .i64 ((j : Nat) : Int))] ∧ Ext w0 wl ∧ Box wl w0.heap.size 36 [.int .i64 (0 : Int), St (([] : Str))] ∧ w11.heap.size ≤ wl.heap.size ∧ (j ≤ piece.length) ∧ (fi 35 (piece.drop j) j = fi 35 piece 0)) (fun (j : Nat) => piece.length - j) (0) ?_ ?_
   ·
    exact ⟨(Sl.cons_ ha310 rfl rfl (Sl.cons_ ha310 rfl rfl (Sl.cons_ ha310 rfl rfl (Sl.cons_ ha310 rfl (int_eq (by omega)) (Sl.nil_ ha310))))), hx12, hf13, (by omega), (by omega), (by rfl)⟩
   ·
    clear ha310 a310
    rintro j a314 w311 ⟨ha314, hx312, hf313, hzl315, hj, hmF⟩
    have hzhx312 := hx312.size
    refine wp_seq ?_
    refine wp_seq ?_
    refine wp_region_lit ?_
    refine wl_val ha314 rfl rfl rfl (op_move ha314 rfl rfl) ?_
    intro a316 ha316; clear ha314 a314
    refine wl_val ha316 rfl rfl rfl (op_move ha316 rfl rfl) ?_
    intro a317 ha317; clear ha316 a316
    refine wl_val ha317 rfl rfl rfl (op_len_str ha317 rfl Try.underlying9 rfl) ?_
    intro a318 ha318; clear ha317 a317
    refine wl_val ha318 rfl rfl rfl (op_lss ha318 rfl rfl rfl) ?_
    intro a319 ha319; clear ha318 a318
    refine wl_val ha319 rfl rfl rfl (op_move ha319 rfl rfl) ?_
    intro a320 ha320; clear ha319 a319
    by_cases c321 : ((j : Nat) : Int) < ((piece.length : Nat) : Int)
    ·
     rw [decide_eq_true c321] at ha320
     refine wl_val ha320 rfl rfl rfl (op_move ha320 rfl rfl) ?_
     intro a322 ha322; clear ha320 a320
     refine wl_val ha322 rfl rfl rfl (op_move ha322 rfl rfl) ?_
     intro a323 ha323; clear ha322 a322
     obtain ⟨b324, hb324⟩ := get_ex (xs := piece) (j := j) (by omega)
     have b324_lt := b324.toNat_lt
     refine wl_val ha323 rfl rfl rfl (op_index_str ha323 rfl Try.underlying9 rfl rfl (by omega) hb324) ?_
     intro a325 ha325; clear ha323 a323
     refine wl_val ha325 rfl rfl rfl ((op_neq ha325 rfl rfl rfl).to (congrArg Value.bool decide_not)) ?_
     intro a326 ha326; clear ha325 a325
     refine wl_val ha326 rfl rfl rfl (op_pick_t ha326 rfl rfl rfl) ?_
     intro a327 ha327; clear ha326 a326
     refine wpList_nil ?_
     refine then_n ?_
     by_cases c328 : (b324.toNat : Int) = (35 : Int)
     ·
      rw [decide_eq_true c328] at ha327
      refine cond_f ha327 rfl ?_
      refine wp_exit ?_
      refine then_e ?_
      refine then_e ?_
      refine block_hit ?_
      refine then_n ?_
      refine wp_seq ?_
      refine wp_seq ?_
      have hC : rrC piece = -1 := by unfold rrC; rw [← hcF, drop_nil (by omega), fi_nil]
      have hM : rrM piece = (j : Int) := by unfold rrM; rw [← hmF, drop_cons hb324, fi_hit c328]
      refine wp_region_lit ?_
      refine wl_val ha327 rfl rfl rfl (op_move ha327 rfl rfl) ?_
      intro a329 ha329; clear ha327 a327
      refine wl_val ha329 rfl rfl rfl (op_move ha329 rfl rfl) ?_
      intro a330 ha330; clear ha329 a329
      refine wl_val ha330 rfl rfl rfl (op_len_str ha330 rfl Try.underlying9 rfl) ?_
      intro a331 ha331; clear ha330 a330
      refine wl_val ha331 rfl rfl rfl (op_eql ha331 rfl rfl rfl) ?_
      intro a332 ha332; clear ha331 a331
      refine wl_val ha332 rfl rfl rfl (op_move ha332 rfl rfl) ?_
      intro a333 ha333; clear ha332 a332
      by_cases c334 : ((j : Nat) : Int) = ((piece.length : Nat) : Int)
      ·
       rw [decide_eq_true c334] at ha333
       refine wl_skip ha333 rfl rfl rfl ?_
       intro a335 ha335; clear ha333 a333
       refine wl_skip ha335 rfl rfl rfl ?_
       intro a336 ha336; clear ha335 a335
       refine wl_skip ha336 rfl rfl rfl ?_
       intro a337 ha337; clear ha336 a336
       refine wl_val ha337 rfl rfl rfl (op_pick_t ha337 rfl rfl rfl) ?_
       intro a338 ha338; clear ha337 a337
       refine wpList_nil ?_
       refine then_n ?_
       refine cond_t ha338 rfl ?_
       refine wp_seq ?_
       refine wp_region_lit ?_
       refine wl_val ha338 rfl rfl rfl (op_build (vs := []) (cs := #[.int .i64 (0 : Int), St (([] : Str))]) ha338 rfl Try.underlying36 ti36 bp36 rfl rfl) ?_
       intro a339 ha339; clear ha338 a338
       refine wl_effS ha339 rfl rfl (op_storeAll' ha339 rfl ti36 rfl rfl hf313 rfl rfl (by simp [Value.oneCell']) rfl) ?_
       rintro w340 ⟨hb342, hst341, hz343⟩
       have hx344 := hx312.stp hst341 (by intro q hq; cases hq; exact (by omega))
       have hzhx344 := hst341.size
       clear hf313
       refine wl_val ha339 rfl rfl rfl (op_assign ha339 rfl rfl) ?_
       intro a345 ha345; clear ha339 a339
       refine wpList_nil ?_
       refine then_n ?_
       refine wp_ret ?_
       refine then_r ?_
       refine retct ha345 rfl rfl rfl Try.underlying36 ti36 rfl hb342.cells ?_
       clear ha345 a345
       have hG : spG piece = false := by unfold spG; rw [hC, hM]; simp; try omega
       exact ret_mk hx344 (tup2_eq (by simp [spR, hG]) (congrArg Value.bool (by (rw [← sp_eq]; simp [spB, hG, c21, c321, c328, c334]))))
      ·
       rw [decide_eq_false c334] at ha333
       refine wl_val ha333 rfl rfl rfl (op_move ha333 rfl rfl) ?_
       intro a346 ha346; clear ha333 a333
       refine wl_val ha346 rfl rfl rfl (op_move ha346 rfl rfl) ?_
       intro a347 ha347; clear ha346 a346
       refine wl_val ha347 rfl rfl rfl (op_geq ha347 rfl rfl rfl) ?_
       intro a348 ha348; clear ha347 a347
       refine wl_val ha348 rfl rfl rfl (op_pick_f ha348 rfl rfl rfl) ?_
       intro a349 ha349; clear ha348 a348
       refine wpList_nil ?_
       refine then_n ?_
       by_cases c350 : ((j : Nat) : Int) ≤ ((i : Nat) : Int)
       ·
        rw [decide_eq_true c350] at ha349
        refine cond_t ha349 rfl ?_
        refine wp_seq ?_
        refine wp_region_lit ?_
        refine wl_val ha349 rfl rfl rfl (op_build (vs := []) (cs := #[.int .i64 (0 : Int), St (([] : Str))]) ha349 rfl Try.underlying36 ti36 bp36 rfl rfl) ?_
        intro a351 ha351; clear ha349 a349
        refine wl_effS ha351 rfl rfl (op_storeAll' ha351 rfl ti36 rfl rfl hf313 rfl rfl (by simp [Value.oneCell']) rfl) ?_
        rintro w352 ⟨hb354, hst353, hz355⟩
        have hx356 := hx312.stp hst353 (by intro q hq; cases hq; exact (by omega))
        have hzhx356 := hst353.size
        clear hf313
        refine wl_val ha351 rfl rfl rfl (op_assign ha351 rfl rfl) ?_
        intro a357 ha357; clear ha351 a351
        refine wpList_nil ?_
        refine then_n ?_
        refine wp_ret ?_
        refine then_r ?_
        refine retct ha357 rfl rfl rfl Try.underlying36 ti36 rfl hb354.cells ?_
        clear ha357 a357
        have hG : spG piece = false := by unfold spG; rw [hC, hM]; simp; try omega
        exact ret_mk hx356 (tup2_eq (by simp [spR, hG]) (congrArg Value.bool (by (rw [← sp_eq]; simp [spB, hG, c21, c321, c328, c334, c350]))))
       ·
        rw [decide_eq_false c350] at ha349
        refine cond_f ha349 rfl ?_
        refine wp_skip ?_
        refine then_n ?_
        refine wp_seq ?_
        have hrd := l01V_bd (piece.take i)
        refine wp_region_lit ?_
        refine wl_val ha349 rfl rfl rfl (op_move ha349 rfl rfl) ?_
        intro a358 ha358; clear ha349 a349
        refine wl_val ha358 rfl rfl rfl (op_move ha358 rfl rfl) ?_
        intro a359 ha359; clear ha358 a358
        refine wl_val ha359 rfl rfl rfl (op_slice_str_t (j := i) (by omega) ha359 rfl Try.underlying9 rfl rfl (by omega)) ?_
        intro a360 ha360; clear ha359 a359
        refine wl_callR ha360 rfl rfl rfl (op_call ha360 rfl cb75 rfl) (c_spec_l01Value _ (piece.take i) ) ?_
        rintro v361 w362 he363 rfl a364 ha364; clear ha360 a360
        have hx365 := hx312.trans' he363
        have hzhx365 := he363.size
        replace hf313 := hf313.ext he363
        refine wl_val ha364 rfl rfl rfl (op_move ha364 rfl rfl) ?_
        intro a366 ha366; clear ha364 a364
        refine wl_val ha366 rfl rfl rfl (op_extract ha366 rfl rfl rfl) ?_
        intro a367 ha367; clear ha366 a366
        refine wl_val ha367 rfl rfl rfl (op_extract ha367 rfl rfl rfl) ?_
        intro a368 ha368; clear ha367 a367
        refine wl_val ha368 rfl rfl rfl (op_assign ha368 rfl rfl) ?_
        intro a369 ha369; clear ha368 a368
        refine wl_val ha369 rfl rfl rfl (op_assign ha369 rfl rfl) ?_
        intro a370 ha370; clear ha369 a369
        refine wpList_nil ?_
        refine then_n ?_
        refine wp_seq ?_
        refine wp_region_lit ?_
        refine wl_val ha370 rfl rfl rfl (op_move ha370 rfl rfl) ?_
        intro a371 ha371; clear ha370 a370
        refine wl_val ha371 rfl rfl rfl (op_move ha371 rfl rfl) ?_
        intro a372 ha372; clear ha371 a371
        refine wl_val ha372 rfl rfl rfl (op_move ha372 rfl rfl) ?_
        intro a373 ha373; clear ha372 a372
        refine wl_val ha373 rfl rfl rfl ((op_add ha373 rfl rfl rfl).int (IntWalk.i64_in _ (by omega))) ?_
        intro a374 ha374; clear ha373 a373
        refine wl_val ha374 rfl rfl rfl (op_move ha374 rfl rfl) ?_
        intro a375 ha375; clear ha374 a374
        refine wl_val ha375 rfl rfl rfl (op_slice_str_b (i := (i + 1)) (j := j) (by omega) (by omega) ha375 rfl Try.underlying9 rfl rfl rfl (by omega) (by omega)) ?_
        intro a376 ha376; clear ha375 a375
        refine wl_val ha376 rfl rfl rfl (op_build (vs := [(0, .int .i64 ((l01V (piece.take i)).1 : Int)), (1, St ((piece.take j).drop ((i + 1))))]) (cs := #[.int .i64 ((l01V (piece.take i)).1 : Int), St ((piece.take j).drop ((i + 1)))]) ha376 rfl Try.underlying36 ti36 bp36 rfl rfl) ?_
        intro a377 ha377; clear ha376 a376
        refine wl_eff ha377 rfl rfl rfl (op_alloc' rfl ti36 rfl) ?_
        rintro _ w379 ⟨rfl, he380, hb381, hz382⟩ a383 ha383; clear ha377 a377
        have hx384 := hx365.trans' he380
        have hzhx384 := he380.size
        replace hf313 := hf313.ext he380
        refine wl_effS ha383 rfl rfl (op_storeAll' ha383 rfl ti36 rfl rfl hb381 rfl rfl (by simp [Value.oneCell']) rfl) ?_
        rintro w385 ⟨hb387, hst386, hz388⟩
        have hx389 := hx384.stp hst386 (by intro q hq; cases hq; exact (by omega))
        have hzhx389 := hst386.size
        replace hf313 := hf313.stp hst386 (by intro q hq; cases hq; omega)
        clear hb381
        refine wpList_nil ?_
        refine then_n ?_
        refine wp_seq ?_
        refine dr_enter (fun wa_ wb_ => Stp wa_ wb_ (some w0.heap.size)) follows_mixed ?_
        intro w390 he391
        have hx392 := hx389.trans' he391
        have hzhx392 := he391.size
        replace hf313 := hf313.ext he391
        replace hb387 := hb387.ext he391
        have hs393 : Ext w390 w390 := Ext.rfl' _
        refine dr_val (i := 0) ha383 rfl (by kernel_rfl) (by kernel_rfl) (by kernel_rfl) rfl rfl rfl (Stp.of_ext hs393 _) (fun w' hw' => op_loadS ha383 rfl Try.underlying36 ti36 rfl rfl (hb387.stp hw' (by intro q hq; cases hq; omega)).cells) ?_
        intro a394 ha394; clear ha383 a383
        refine dr_val (i := 1) ha394 rfl (by kernel_rfl) (by kernel_rfl) (by kernel_rfl) rfl rfl rfl (Stp.of_ext hs393 _) (fun w' hw' => op_move ha394 rfl rfl) ?_
        intro a395 ha395; clear ha394 a394
        refine dr_val (i := 2) ha395 rfl (by kernel_rfl) (by kernel_rfl) (by kernel_rfl) rfl rfl rfl (Stp.of_ext hs393 _) (fun w' hw' => op_move ha395 rfl rfl) ?_
        intro a396 ha396; clear ha395 a395
        rcases Bool.eq_false_or_eq_true ((l01V (piece.take i)).2) with c397 | c397
        ·
         rw [c397] at ha396
         refine dr_val (i := 3) ha396 rfl (by kernel_rfl) (by kernel_rfl) (by kernel_rfl) rfl rfl rfl (Stp.of_ext hs393 _) (fun w' hw' => op_loadS ha396 rfl Try.underlying36 ti36 rfl rfl (hb387.stp hw' (by intro q hq; cases hq; omega)).cells) ?_
         intro a398 ha398; clear ha396 a396
         refine dr_one (i := 4) (by kernel_rfl) ?_
         refine po_callR ha398 rfl rfl rfl rfl (op_call ha398 rfl cb48 rfl) (c_spec_l32Is _ ((((l01V (piece.take i)).1 : Int), (piece.take j).drop ((i + 1)))) (by first | assumption | omega | (simp; omega) | (have hbd := recB_bd ‹recB _ = true›; omega) | (have hbd := recB_bd ‹recB _ = true›; simp only at hbd; simp only; omega) | (simp only; omega) | (simp only [List.length_drop, List.length_take]; omega)) (by first | assumption | omega | (simp; omega) | (have hbd := recB_bd ‹recB _ = true›; omega) | (have hbd := recB_bd ‹recB _ = true›; simp only at hbd; simp only; omega) | (simp only; omega) | (simp only [List.length_drop, List.length_take]; omega))) ?_
         rintro v399 w400 he401 rfl a402 ha402; clear ha398 a398
         have hs403 := hs393.trans' he401
         have hx404 := hx392.trans' he401
         have hzhx404 := he401.size
         refine ⟨(Stp.of_ext hs403 _), ?_⟩
         refine dr_val (i := 5) ha402 rfl (by kernel_rfl) (by kernel_rfl) (by kernel_rfl) rfl rfl rfl (Stp.of_ext hs403 _) (fun w' hw' => op_pick_t ha402 rfl rfl rfl) ?_
         intro a405 ha405; clear ha402 a402
         refine dr_val (i := 6) ha405 rfl (by kernel_rfl) (by kernel_rfl) (by kernel_rfl) rfl rfl rfl (Stp.of_ext hs403 _) (fun w' hw' => op_move ha405 rfl rfl) ?_
         intro a406 ha406; clear ha405 a405
         rcases Bool.eq_false_or_eq_true (recB ((((l01V (piece.take i)).1 : Int), (piece.take j).drop ((i + 1))))) with c407 | c407
         ·
          rw [c407] at ha406
          refine dr_val (i := 7) ha406 rfl (by kernel_rfl) (by kernel_rfl) (by kernel_rfl) rfl rfl rfl (Stp.of_ext hs403 _) (fun w' hw' => op_loadS ha406 rfl Try.underlying36 ti36 rfl rfl (hb387.stp hw' (by intro q hq; cases hq; omega)).cells) ?_
          intro a408 ha408; clear ha406 a406
          refine dr_val (i := 9) ha408 rfl (by kernel_rfl) (by kernel_rfl) (by kernel_rfl) rfl rfl rfl (Stp.of_ext hs403 _) (fun w' hw' => op_move ha408 rfl rfl) ?_
          intro a409 ha409; clear ha408 a408
          refine dr_one (i := 8) (by kernel_rfl) ?_
          refine po_callR ha409 rfl rfl rfl rfl (op_call ha409 rfl cb63 rfl) (c_spec_l32Line _ ((((l01V (piece.take i)).1 : Int), (piece.take j).drop ((i + 1)))) (by first | assumption | omega | (simp; omega) | (have hbd := recB_bd ‹recB _ = true›; omega) | (have hbd := recB_bd ‹recB _ = true›; simp only at hbd; simp only; omega) | (simp only; omega) | (simp only [List.length_drop, List.length_take]; omega)) (by first | assumption | omega | (simp; omega) | (have hbd := recB_bd ‹recB _ = true›; omega) | (have hbd := recB_bd ‹recB _ = true›; simp only at hbd; simp only; omega) | (simp only; omega) | (simp only [List.length_drop, List.length_take]; omega)) (by first | assumption | omega | (simp; omega) | (have hbd := recB_bd ‹recB _ = true›; omega) | (have hbd := recB_bd ‹recB _ = true›; simp only at hbd; simp only; omega) | (simp only; omega) | (simp only [List.length_drop, List.length_take]; omega))) ?_
          rintro v410 w411 he412 rfl a413 ha413; clear ha409 a409
          have hs414 := hs403.trans' he412
          have hx415 := hx404.trans' he412
          have hzhx415 := he412.size
          refine ⟨(Stp.of_ext hs414 _), ?_⟩
          refine dr_val (i := 10) ha413 rfl (by kernel_rfl) (by kernel_rfl) (by kernel_rfl) rfl rfl rfl (Stp.of_ext hs414 _) (fun w' hw' => op_seql ha413 rfl rfl rfl) ?_
          intro a416 ha416; clear ha413 a413
          refine dr_val (i := 11) ha416 rfl (by kernel_rfl) (by kernel_rfl) (by kernel_rfl) rfl rfl rfl (Stp.of_ext hs414 _) (fun w' hw' => op_pick_t ha416 rfl rfl rfl) ?_
          intro a417 ha417; clear ha416 a416
          refine dr_one (i := 12) (by kernel_rfl) ?_
          replace hf313 := hf313.ext hs414
          replace hb387 := hb387.ext hs414
          refine po_effS ha417 rfl rfl rfl (op_storeAll' ha417 rfl ti36 rfl rfl hf313 rfl rfl (by simp [Value.oneCell']) rfl) ?_
          rintro w418 ⟨hb420, hst419, hz421⟩
          have hs422 := (Stp.of_ext hs414 (some w0.heap.size)).trans' hst419
          have hx423 := hx415.stp hst419 (by intro q hq; cases hq; exact (by omega))
          have hzhx423 := hst419.size
          replace hb387 := hb387.stp hst419 (by intro q hq; cases hq; omega)
          clear hf313
          refine ⟨hs422, ?_⟩
          refine dr_val (i := 13) ha417 rfl (by kernel_rfl) (by kernel_rfl) (by kernel_rfl) rfl rfl rfl hs422 (fun w' hw' => op_assign ha417 rfl rfl) ?_
          intro a424 ha424; clear ha417 a417
          refine dr_end (by kernel_rfl) ?_
          refine then_n ?_
          refine wp_ret ?_
          refine retct ha424 rfl rfl rfl Try.underlying36 ti36 rfl hb420.cells ?_
          clear ha424 a424
          exfalso; omega
         ·
          rw [c407] at ha406
          refine dr_skip (i := 7) ha406 rfl (by kernel_rfl) (by kernel_rfl) (by kernel_rfl) rfl rfl rfl (Stp.of_ext hs403 _) ?_
          intro a425 ha425; clear ha406 a406
          refine dr_skip (i := 8) ha425 rfl (by kernel_rfl) (by kernel_rfl) (by kernel_rfl) rfl rfl rfl (Stp.of_ext hs403 _) ?_
          intro a426 ha426; clear ha425 a425
          refine dr_skip (i := 9) ha426 rfl (by kernel_rfl) (by kernel_rfl) (by kernel_rfl) rfl rfl rfl (Stp.of_ext hs403 _) ?_
          intro a427 ha427; clear ha426 a426
          refine dr_skip (i := 10) ha427 rfl (by kernel_rfl) (by kernel_rfl) (by kernel_rfl) rfl rfl rfl (Stp.of_ext hs403 _) ?_
          intro a428 ha428; clear ha427 a427
          refine dr_val (i := 11) ha428 rfl (by kernel_rfl) (by kernel_rfl) (by kernel_rfl) rfl rfl rfl (Stp.of_ext hs403 _) (fun w' hw' => op_pick_f ha428 rfl rfl rfl) ?_
          intro a429 ha429; clear ha428 a428
          refine dr_one (i := 12) (by kernel_rfl) ?_
          replace hf313 := hf313.ext hs403
          replace hb387 := hb387.ext hs403
          refine po_effS ha429 rfl rfl rfl (op_storeAll' ha429 rfl ti36 rfl rfl hf313 rfl rfl (by simp [Value.oneCell']) rfl) ?_
          rintro w430 ⟨hb432, hst431, hz433⟩
          have hs434 := (Stp.of_ext hs403 (some w0.heap.size)).trans' hst431
          have hx435 := hx404.stp hst431 (by intro q hq; cases hq; exact (by omega))
          have hzhx435 := hst431.size
          replace hb387 := hb387.stp hst431 (by intro q hq; cases hq; omega)
          clear hf313
          refine ⟨hs434, ?_⟩
          refine dr_val (i := 13) ha429 rfl (by kernel_rfl) (by kernel_rfl) (by kernel_rfl) rfl rfl rfl hs434 (fun w' hw' => op_assign ha429 rfl rfl) ?_
          intro a436 ha436; clear ha429 a429
          refine dr_end (by kernel_rfl) ?_
          refine then_n ?_
          refine wp_ret ?_
          refine retct ha436 rfl rfl rfl Try.underlying36 ti36 rfl hb432.cells ?_
          clear ha436 a436
          exfalso; omega
        ·
         rw [c397] at ha396
         refine dr_skip (i := 3) ha396 rfl (by kernel_rfl) (by kernel_rfl) (by kernel_rfl) rfl rfl rfl (Stp.of_ext hs393 _) ?_
         intro a437 ha437; clear ha396 a396
         refine dr_skip (i := 4) ha437 rfl (by kernel_rfl) (by kernel_rfl) (by kernel_rfl) rfl rfl rfl (Stp.of_ext hs393 _) ?_
         intro a438 ha438; clear ha437 a437
         refine dr_val (i := 5) ha438 rfl (by kernel_rfl) (by kernel_rfl) (by kernel_rfl) rfl rfl rfl (Stp.of_ext hs393 _) (fun w' hw' => op_pick_f ha438 rfl rfl rfl) ?_
         intro a439 ha439; clear ha438 a438
         refine dr_val (i := 6) ha439 rfl (by kernel_rfl) (by kernel_rfl) (by kernel_rfl) rfl rfl rfl (Stp.of_ext hs393 _) (fun w' hw' => op_move ha439 rfl rfl) ?_
         intro a440 ha440; clear ha439 a439
         refine dr_skip (i := 7) ha440 rfl (by kernel_rfl) (by kernel_rfl) (by kernel_rfl) rfl rfl rfl (Stp.of_ext hs393 _) ?_
         intro a441 ha441; clear ha440 a440
         refine dr_skip (i := 8) ha441 rfl (by kernel_rfl) (by kernel_rfl) (by kernel_rfl) rfl rfl rfl (Stp.of_ext hs393 _) ?_
         intro a442 ha442; clear ha441 a441
         refine dr_skip (i := 9) ha442 rfl (by kernel_rfl) (by kernel_rfl) (by kernel_rfl) rfl rfl rfl (Stp.of_ext hs393 _) ?_
         intro a443 ha443; clear ha442 a442
         refine dr_skip (i := 10) ha443 rfl (by kernel_rfl) (by kernel_rfl) (by kernel_rfl) rfl rfl rfl (Stp.of_ext hs393 _) ?_
         intro a444 ha444; clear ha443 a443
         refine dr_val (i := 11) ha444 rfl (by kernel_rfl) (by kernel_rfl) (by kernel_rfl) rfl rfl rfl (Stp.of_ext hs393 _) (fun w' hw' => op_pick_f ha444 rfl rfl rfl) ?_
         intro a445 ha445; clear ha444 a444
         refine dr_one (i := 12) (by kernel_rfl) ?_
         replace hf313 := hf313.ext hs393
         replace hb387 := hb387.ext hs393
         refine po_effS ha445 rfl rfl rfl (op_storeAll' ha445 rfl ti36 rfl rfl hf313 rfl rfl (by simp [Value.oneCell']) rfl) ?_
         rintro w446 ⟨hb448, hst447, hz449⟩
         have hs450 := (Stp.of_ext hs393 (some w0.heap.size)).trans' hst447
         have hx451 := hx392.stp hst447 (by intro q hq; cases hq; exact (by omega))
         have hzhx451 := hst447.size
         replace hb387 := hb387.stp hst447 (by intro q hq; cases hq; omega)
         clear hf313
         refine ⟨hs450, ?_⟩
         refine dr_val (i := 13) ha445 rfl (by kernel_rfl) (by kernel_rfl) (by kernel_rfl) rfl rfl rfl hs450 (fun w' hw' => op_assign ha445 rfl rfl) ?_
         intro a452 ha452; clear ha445 a445
         refine dr_end (by kernel_rfl) ?_
         refine then_n ?_
         refine wp_ret ?_
         refine retct ha452 rfl rfl rfl Try.underlying36 ti36 rfl hb448.cells ?_
         clear ha452 a452
         exfalso; omega
     ·
      rw [decide_eq_false c328] at ha327
      refine cond_t ha327 rfl ?_
      refine wp_skip ?_
      refine then_n ?_
      refine wp_block ?_
      refine wp_region_lit ?_
      refine wl_val ha327 rfl rfl rfl (op_move ha327 rfl rfl) ?_
      intro a453 ha453; clear ha327 a327
      refine wl_val ha453 rfl rfl rfl ((op_add ha453 rfl rfl rfl).int (IntWalk.i64_in _ (by omega))) ?_
      intro a454 ha454; clear ha453 a453
      refine wl_val ha454 rfl rfl rfl (op_assign ha454 rfl rfl) ?_
      intro a455 ha455; clear ha454 a454
      refine wpList_nil ?_
      refine block_n ?_
      refine round_end (x := j) ((j + 1)) ?_ ?_
      ·
       refine ⟨(Sl.cons_ ha455 rfl rfl (Sl.cons_ ha455 rfl rfl (Sl.cons_ ha455 rfl rfl (Sl.cons_ ha455 rfl (int_eq (by omega)) (Sl.nil_ ha455))))), hx312, hf313, (by omega), (by omega), (by rw [drop_cons hb324, fi_miss c328] at hmF; exact hmF)⟩
      ·show (piece.length - ((j + 1)) : Nat) < piece.length - j; omega
    ·
     rw [decide_eq_false c321] at ha320
     refine wl_skip ha320 rfl rfl rfl ?_
     intro a456 ha456; clear ha320 a320
     refine wl_skip ha456 rfl rfl rfl ?_
     intro a457 ha457; clear ha456 a456
     refine wl_skip ha457 rfl rfl rfl ?_
     intro a458 ha458; clear ha457 a457
     refine wl_skip ha458 rfl rfl rfl ?_
     intro a459 ha459; clear ha458 a458
     refine wl_val ha459 rfl rfl rfl (op_pick_f ha459 rfl rfl rfl) ?_
     intro a460 ha460; clear ha459 a459
     refine wpList_nil ?_
     refine then_n ?_
     refine cond_f ha460 rfl ?_
     refine wp_exit ?_
     refine then_e ?_
     refine then_e ?_
     refine block_hit ?_
     refine then_n ?_
     refine wp_seq ?_
     refine wp_seq ?_
     have hC : rrC piece = -1 := by unfold rrC; rw [← hcF, drop_nil (by omega), fi_nil]
     have hM : rrM piece = -1 := by unfold rrM; rw [← hmF, drop_nil (by omega), fi_nil]
     refine wp_region_lit ?_
     refine wl_val ha460 rfl rfl rfl (op_move ha460 rfl rfl) ?_
     intro a461 ha461; clear ha460 a460
     refine wl_val ha461 rfl rfl rfl (op_move ha461 rfl rfl) ?_
     intro a462 ha462; clear ha461 a461
     refine wl_val ha462 rfl rfl rfl (op_len_str ha462 rfl Try.underlying9 rfl) ?_
     intro a463 ha463; clear ha462 a462
     refine wl_val ha463 rfl rfl rfl (op_eql ha463 rfl rfl rfl) ?_
     intro a464 ha464; clear ha463 a463
     refine wl_val ha464 rfl rfl rfl (op_move ha464 rfl rfl) ?_
     intro a465 ha465; clear ha464 a464
     by_cases c466 : ((j : Nat) : Int) = ((piece.length : Nat) : Int)
     ·
      rw [decide_eq_true c466] at ha465
      refine wl_skip ha465 rfl rfl rfl ?_
      intro a467 ha467; clear ha465 a465
      refine wl_skip ha467 rfl rfl rfl ?_
      intro a468 ha468; clear ha467 a467
      refine wl_skip ha468 rfl rfl rfl ?_
      intro a469 ha469; clear ha468 a468
      refine wl_val ha469 rfl rfl rfl (op_pick_t ha469 rfl rfl rfl) ?_
      intro a470 ha470; clear ha469 a469
      refine wpList_nil ?_
      refine then_n ?_
      refine cond_t ha470 rfl ?_
      refine wp_seq ?_
      refine wp_region_lit ?_
      refine wl_val ha470 rfl rfl rfl (op_build (vs := []) (cs := #[.int .i64 (0 : Int), St (([] : Str))]) ha470 rfl Try.underlying36 ti36 bp36 rfl rfl) ?_
      intro a471 ha471; clear ha470 a470
      refine wl_effS ha471 rfl rfl (op_storeAll' ha471 rfl ti36 rfl rfl hf313 rfl rfl (by simp [Value.oneCell']) rfl) ?_
      rintro w472 ⟨hb474, hst473, hz475⟩
      have hx476 := hx312.stp hst473 (by intro q hq; cases hq; exact (by omega))
      have hzhx476 := hst473.size
      clear hf313
      refine wl_val ha471 rfl rfl rfl (op_assign ha471 rfl rfl) ?_
      intro a477 ha477; clear ha471 a471
      refine wpList_nil ?_
      refine then_n ?_
      refine wp_ret ?_
      refine then_r ?_
      refine retct ha477 rfl rfl rfl Try.underlying36 ti36 rfl hb474.cells ?_
      clear ha477 a477
      have hG : spG piece = false := by unfold spG; rw [hC, hM]; simp; try omega
      exact ret_mk hx476 (tup2_eq (by simp [spR, hG]) (congrArg Value.bool (by (rw [← sp_eq]; simp [spB, hG, c21, c321, c466]))))
     ·
      rw [decide_eq_false c466] at ha465
      refine wl_val ha465 rfl rfl rfl (op_move ha465 rfl rfl) ?_
      intro a478 ha478; clear ha465 a465
      refine wl_val ha478 rfl rfl rfl (op_move ha478 rfl rfl) ?_
      intro a479 ha479; clear ha478 a478
      refine wl_val ha479 rfl rfl rfl (op_geq ha479 rfl rfl rfl) ?_
      intro a480 ha480; clear ha479 a479
      refine wl_val ha480 rfl rfl rfl (op_pick_f ha480 rfl rfl rfl) ?_
      intro a481 ha481; clear ha480 a480
      refine wpList_nil ?_
      refine then_n ?_
      by_cases c482 : ((j : Nat) : Int) ≤ ((i : Nat) : Int)
      ·
       rw [decide_eq_true c482] at ha481
       refine cond_t ha481 rfl ?_
       refine wp_seq ?_
       refine wp_region_lit ?_
       refine wl_val ha481 rfl rfl rfl (op_build (vs := []) (cs := #[.int .i64 (0 : Int), St (([] : Str))]) ha481 rfl Try.underlying36 ti36 bp36 rfl rfl) ?_
       intro a483 ha483; clear ha481 a481
       refine wl_effS ha483 rfl rfl (op_storeAll' ha483 rfl ti36 rfl rfl hf313 rfl rfl (by simp [Value.oneCell']) rfl) ?_
       rintro w484 ⟨hb486, hst485, hz487⟩
       have hx488 := hx312.stp hst485 (by intro q hq; cases hq; exact (by omega))
       have hzhx488 := hst485.size
       clear hf313
       refine wl_val ha483 rfl rfl rfl (op_assign ha483 rfl rfl) ?_
       intro a489 ha489; clear ha483 a483
       refine wpList_nil ?_
       refine then_n ?_
       refine wp_ret ?_
       refine then_r ?_
       refine retct ha489 rfl rfl rfl Try.underlying36 ti36 rfl hb486.cells ?_
       clear ha489 a489
       have hG : spG piece = false := by unfold spG; rw [hC, hM]; simp; try omega
       exact ret_mk hx488 (tup2_eq (by simp [spR, hG]) (congrArg Value.bool (by (rw [← sp_eq]; simp [spB, hG, c21, c321, c466, c482]))))
      ·
       rw [decide_eq_false c482] at ha481
       refine cond_f ha481 rfl ?_
       refine wp_skip ?_
       refine then_n ?_
       refine wp_seq ?_
       have hrd := l01V_bd (piece.take i)
       refine wp_region_lit ?_
       refine wl_val ha481 rfl rfl rfl (op_move ha481 rfl rfl) ?_
       intro a490 ha490; clear ha481 a481
       refine wl_val ha490 rfl rfl rfl (op_move ha490 rfl rfl) ?_
       intro a491 ha491; clear ha490 a490
       refine wl_val ha491 rfl rfl rfl (op_slice_str_t (j := i) (by omega) ha491 rfl Try.underlying9 rfl rfl (by omega)) ?_
       intro a492 ha492; clear ha491 a491
       refine wl_callR ha492 rfl rfl rfl (op_call ha492 rfl cb75 rfl) (c_spec_l01Value _ (piece.take i) ) ?_
       rintro v493 w494 he495 rfl a496 ha496; clear ha492 a492
       have hx497 := hx312.trans' he495
       have hzhx497 := he495.size
       replace hf313 := hf313.ext he495
       refine wl_val ha496 rfl rfl rfl (op_move ha496 rfl rfl) ?_
       intro a498 ha498; clear ha496 a496
       refine wl_val ha498 rfl rfl rfl (op_extract ha498 rfl rfl rfl) ?_
       intro a499 ha499; clear ha498 a498
       refine wl_val ha499 rfl rfl rfl (op_extract ha499 rfl rfl rfl) ?_
       intro a500 ha500; clear ha499 a499
       refine wl_val ha500 rfl rfl rfl (op_assign ha500 rfl rfl) ?_
       intro a501 ha501; clear ha500 a500
       refine wl_val ha501 rfl rfl rfl (op_assign ha501 rfl rfl) ?_
       intro a502 ha502; clear ha501 a501
       refine wpList_nil ?_
       refine then_n ?_
       refine wp_seq ?_
       refine wp_region_lit ?_
       refine wl_val ha502 rfl rfl rfl (op_move ha502 rfl rfl) ?_
       intro a503 ha503; clear ha502 a502
       refine wl_val ha503 rfl rfl rfl (op_move ha503 rfl rfl) ?_
       intro a504 ha504; clear ha503 a503
       refine wl_val ha504 rfl rfl rfl (op_move ha504 rfl rfl) ?_
       intro a505 ha505; clear ha504 a504
       refine wl_val ha505 rfl rfl rfl ((op_add ha505 rfl rfl rfl).int (IntWalk.i64_in _ (by omega))) ?_
       intro a506 ha506; clear ha505 a505
       refine wl_val ha506 rfl rfl rfl (op_move ha506 rfl rfl) ?_
       intro a507 ha507; clear ha506 a506
       refine wl_val ha507 rfl rfl rfl (op_slice_str_b (i := (i + 1)) (j := j) (by omega) (by omega) ha507 rfl Try.underlying9 rfl rfl rfl (by omega) (by omega)) ?_
       intro a508 ha508; clear ha507 a507
       refine wl_val ha508 rfl rfl rfl (op_build (vs := [(0, .int .i64 ((l01V (piece.take i)).1 : Int)), (1, St ((piece.take j).drop ((i + 1))))]) (cs := #[.int .i64 ((l01V (piece.take i)).1 : Int), St ((piece.take j).drop ((i + 1)))]) ha508 rfl Try.underlying36 ti36 bp36 rfl rfl) ?_
       intro a509 ha509; clear ha508 a508
       refine wl_eff ha509 rfl rfl rfl (op_alloc' rfl ti36 rfl) ?_
       rintro _ w511 ⟨rfl, he512, hb513, hz514⟩ a515 ha515; clear ha509 a509
       have hx516 := hx497.trans' he512
       have hzhx516 := he512.size
       replace hf313 := hf313.ext he512
       refine wl_effS ha515 rfl rfl (op_storeAll' ha515 rfl ti36 rfl rfl hb513 rfl rfl (by simp [Value.oneCell']) rfl) ?_
       rintro w517 ⟨hb519, hst518, hz520⟩
       have hx521 := hx516.stp hst518 (by intro q hq; cases hq; exact (by omega))
       have hzhx521 := hst518.size
       replace hf313 := hf313.stp hst518 (by intro q hq; cases hq; omega)
       clear hb513
       refine wpList_nil ?_
       refine then_n ?_
       refine wp_seq ?_
       refine dr_enter (fun wa_ wb_ => Stp wa_ wb_ (some w0.heap.size)) follows_mixed ?_
       intro w522 he523
       have hx524 := hx521.trans' he523
       have hzhx524 := he523.size
       replace hf313 := hf313.ext he523
       replace hb519 := hb519.ext he523
       have hs525 : Ext w522 w522 := Ext.rfl' _
       refine dr_val (i := 0) ha515 rfl (by kernel_rfl) (by kernel_rfl) (by kernel_rfl) rfl rfl rfl (Stp.of_ext hs525 _) (fun w' hw' => op_loadS ha515 rfl Try.underlying36 ti36 rfl rfl (hb519.stp hw' (by intro q hq; cases hq; omega)).cells) ?_
       intro a526 ha526; clear ha515 a515
       refine dr_val (i := 1) ha526 rfl (by kernel_rfl) (by kernel_rfl) (by kernel_rfl) rfl rfl rfl (Stp.of_ext hs525 _) (fun w' hw' => op_move ha526 rfl rfl) ?_
       intro a527 ha527; clear ha526 a526
       refine dr_val (i := 2) ha527 rfl (by kernel_rfl) (by kernel_rfl) (by kernel_rfl) rfl rfl rfl (Stp.of_ext hs525 _) (fun w' hw' => op_move ha527 rfl rfl) ?_
       intro a528 ha528; clear ha527 a527
       rcases Bool.eq_false_or_eq_true ((l01V (piece.take i)).2) with c529 | c529
       ·
        rw [c529] at ha528
        refine dr_val (i := 3) ha528 rfl (by kernel_rfl) (by kernel_rfl) (by kernel_rfl) rfl rfl rfl (Stp.of_ext hs525 _) (fun w' hw' => op_loadS ha528 rfl Try.underlying36 ti36 rfl rfl (hb519.stp hw' (by intro q hq; cases hq; omega)).cells) ?_
        intro a530 ha530; clear ha528 a528
        refine dr_one (i := 4) (by kernel_rfl) ?_
        refine po_callR ha530 rfl rfl rfl rfl (op_call ha530 rfl cb48 rfl) (c_spec_l32Is _ ((((l01V (piece.take i)).1 : Int), (piece.take j).drop ((i + 1)))) (by first | assumption | omega | (simp; omega) | (have hbd := recB_bd ‹recB _ = true›; omega) | (have hbd := recB_bd ‹recB _ = true›; simp only at hbd; simp only; omega) | (simp only; omega) | (simp only [List.length_drop, List.length_take]; omega)) (by first | assumption | omega | (simp; omega) | (have hbd := recB_bd ‹recB _ = true›; omega) | (have hbd := recB_bd ‹recB _ = true›; simp only at hbd; simp only; omega) | (simp only; omega) | (simp only [List.length_drop, List.length_take]; omega))) ?_
        rintro v531 w532 he533 rfl a534 ha534; clear ha530 a530
        have hs535 := hs525.trans' he533
        have hx536 := hx524.trans' he533
        have hzhx536 := he533.size
        refine ⟨(Stp.of_ext hs535 _), ?_⟩
        refine dr_val (i := 5) ha534 rfl (by kernel_rfl) (by kernel_rfl) (by kernel_rfl) rfl rfl rfl (Stp.of_ext hs535 _) (fun w' hw' => op_pick_t ha534 rfl rfl rfl) ?_
        intro a537 ha537; clear ha534 a534
        refine dr_val (i := 6) ha537 rfl (by kernel_rfl) (by kernel_rfl) (by kernel_rfl) rfl rfl rfl (Stp.of_ext hs535 _) (fun w' hw' => op_move ha537 rfl rfl) ?_
        intro a538 ha538; clear ha537 a537
        rcases Bool.eq_false_or_eq_true (recB ((((l01V (piece.take i)).1 : Int), (piece.take j).drop ((i + 1))))) with c539 | c539
        ·
         rw [c539] at ha538
         refine dr_val (i := 7) ha538 rfl (by kernel_rfl) (by kernel_rfl) (by kernel_rfl) rfl rfl rfl (Stp.of_ext hs535 _) (fun w' hw' => op_loadS ha538 rfl Try.underlying36 ti36 rfl rfl (hb519.stp hw' (by intro q hq; cases hq; omega)).cells) ?_
         intro a540 ha540; clear ha538 a538
         refine dr_val (i := 9) ha540 rfl (by kernel_rfl) (by kernel_rfl) (by kernel_rfl) rfl rfl rfl (Stp.of_ext hs535 _) (fun w' hw' => op_move ha540 rfl rfl) ?_
         intro a541 ha541; clear ha540 a540
         refine dr_one (i := 8) (by kernel_rfl) ?_
         refine po_callR ha541 rfl rfl rfl rfl (op_call ha541 rfl cb63 rfl) (c_spec_l32Line _ ((((l01V (piece.take i)).1 : Int), (piece.take j).drop ((i + 1)))) (by first | assumption | omega | (simp; omega) | (have hbd := recB_bd ‹recB _ = true›; omega) | (have hbd := recB_bd ‹recB _ = true›; simp only at hbd; simp only; omega) | (simp only; omega) | (simp only [List.length_drop, List.length_take]; omega)) (by first | assumption | omega | (simp; omega) | (have hbd := recB_bd ‹recB _ = true›; omega) | (have hbd := recB_bd ‹recB _ = true›; simp only at hbd; simp only; omega) | (simp only; omega) | (simp only [List.length_drop, List.length_take]; omega)) (by first | assumption | omega | (simp; omega) | (have hbd := recB_bd ‹recB _ = true›; omega) | (have hbd := recB_bd ‹recB _ = true›; simp only at hbd; simp only; omega) | (simp only; omega) | (simp only [List.length_drop, List.length_take]; omega))) ?_
         rintro v542 w543 he544 rfl a545 ha545; clear ha541 a541
         have hs546 := hs535.trans' he544
         have hx547 := hx536.trans' he544
         have hzhx547 := he544.size
         refine ⟨(Stp.of_ext hs546 _), ?_⟩
         refine dr_val (i := 10) ha545 rfl (by kernel_rfl) (by kernel_rfl) (by kernel_rfl) rfl rfl rfl (Stp.of_ext hs546 _) (fun w' hw' => op_seql ha545 rfl rfl rfl) ?_
         intro a548 ha548; clear ha545 a545
         refine dr_val (i := 11) ha548 rfl (by kernel_rfl) (by kernel_rfl) (by kernel_rfl) rfl rfl rfl (Stp.of_ext hs546 _) (fun w' hw' => op_pick_t ha548 rfl rfl rfl) ?_
         intro a549 ha549; clear ha548 a548
         refine dr_one (i := 12) (by kernel_rfl) ?_
         replace hf313 := hf313.ext hs546
         replace hb519 := hb519.ext hs546
         refine po_effS ha549 rfl rfl rfl (op_storeAll' ha549 rfl ti36 rfl rfl hf313 rfl rfl (by simp [Value.oneCell']) rfl) ?_
         rintro w550 ⟨hb552, hst551, hz553⟩
         have hs554 := (Stp.of_ext hs546 (some w0.heap.size)).trans' hst551
         have hx555 := hx547.stp hst551 (by intro q hq; cases hq; exact (by omega))
         have hzhx555 := hst551.size
         replace hb519 := hb519.stp hst551 (by intro q hq; cases hq; omega)
         clear hf313
         refine ⟨hs554, ?_⟩
         refine dr_val (i := 13) ha549 rfl (by kernel_rfl) (by kernel_rfl) (by kernel_rfl) rfl rfl rfl hs554 (fun w' hw' => op_assign ha549 rfl rfl) ?_
         intro a556 ha556; clear ha549 a549
         refine dr_end (by kernel_rfl) ?_
         refine then_n ?_
         refine wp_ret ?_
         refine retct ha556 rfl rfl rfl Try.underlying36 ti36 rfl hb552.cells ?_
         clear ha556 a556
         exfalso; omega
        ·
         rw [c539] at ha538
         refine dr_skip (i := 7) ha538 rfl (by kernel_rfl) (by kernel_rfl) (by kernel_rfl) rfl rfl rfl (Stp.of_ext hs535 _) ?_
         intro a557 ha557; clear ha538 a538
         refine dr_skip (i := 8) ha557 rfl (by kernel_rfl) (by kernel_rfl) (by kernel_rfl) rfl rfl rfl (Stp.of_ext hs535 _) ?_
         intro a558 ha558; clear ha557 a557
         refine dr_skip (i := 9) ha558 rfl (by kernel_rfl) (by kernel_rfl) (by kernel_rfl) rfl rfl rfl (Stp.of_ext hs535 _) ?_
         intro a559 ha559; clear ha558 a558
         refine dr_skip (i := 10) ha559 rfl (by kernel_rfl) (by kernel_rfl) (by kernel_rfl) rfl rfl rfl (Stp.of_ext hs535 _) ?_
         intro a560 ha560; clear ha559 a559
         refine dr_val (i := 11) ha560 rfl (by kernel_rfl) (by kernel_rfl) (by kernel_rfl) rfl rfl rfl (Stp.of_ext hs535 _) (fun w' hw' => op_pick_f ha560 rfl rfl rfl) ?_
         intro a561 ha561; clear ha560 a560
         refine dr_one (i := 12) (by kernel_rfl) ?_
         replace hf313 := hf313.ext hs535
         replace hb519 := hb519.ext hs535
         refine po_effS ha561 rfl rfl rfl (op_storeAll' ha561 rfl ti36 rfl rfl hf313 rfl rfl (by simp [Value.oneCell']) rfl) ?_
         rintro w562 ⟨hb564, hst563, hz565⟩
         have hs566 := (Stp.of_ext hs535 (some w0.heap.size)).trans' hst563
         have hx567 := hx536.stp hst563 (by intro q hq; cases hq; exact (by omega))
         have hzhx567 := hst563.size
         replace hb519 := hb519.stp hst563 (by intro q hq; cases hq; omega)
         clear hf313
         refine ⟨hs566, ?_⟩
         refine dr_val (i := 13) ha561 rfl (by kernel_rfl) (by kernel_rfl) (by kernel_rfl) rfl rfl rfl hs566 (fun w' hw' => op_assign ha561 rfl rfl) ?_
         intro a568 ha568; clear ha561 a561
         refine dr_end (by kernel_rfl) ?_
         refine then_n ?_
         refine wp_ret ?_
         refine retct ha568 rfl rfl rfl Try.underlying36 ti36 rfl hb564.cells ?_
         clear ha568 a568
         exfalso; omega
       ·
        rw [c529] at ha528
        refine dr_skip (i := 3) ha528 rfl (by kernel_rfl) (by kernel_rfl) (by kernel_rfl) rfl rfl rfl (Stp.of_ext hs525 _) ?_
        intro a569 ha569; clear ha528 a528
        refine dr_skip (i := 4) ha569 rfl (by kernel_rfl) (by kernel_rfl) (by kernel_rfl) rfl rfl rfl (Stp.of_ext hs525 _) ?_
        intro a570 ha570; clear ha569 a569
        refine dr_val (i := 5) ha570 rfl (by kernel_rfl) (by kernel_rfl) (by kernel_rfl) rfl rfl rfl (Stp.of_ext hs525 _) (fun w' hw' => op_pick_f ha570 rfl rfl rfl) ?_
        intro a571 ha571; clear ha570 a570
        refine dr_val (i := 6) ha571 rfl (by kernel_rfl) (by kernel_rfl) (by kernel_rfl) rfl rfl rfl (Stp.of_ext hs525 _) (fun w' hw' => op_move ha571 rfl rfl) ?_
        intro a572 ha572; clear ha571 a571
        refine dr_skip (i := 7) ha572 rfl (by kernel_rfl) (by kernel_rfl) (by kernel_rfl) rfl rfl rfl (Stp.of_ext hs525 _) ?_
        intro a573 ha573; clear ha572 a572
        refine dr_skip (i := 8) ha573 rfl (by kernel_rfl) (by kernel_rfl) (by kernel_rfl) rfl rfl rfl (Stp.of_ext hs525 _) ?_
        intro a574 ha574; clear ha573 a573
        refine dr_skip (i := 9) ha574 rfl (by kernel_rfl) (by kernel_rfl) (by kernel_rfl) rfl rfl rfl (Stp.of_ext hs525 _) ?_
        intro a575 ha575; clear ha574 a574
        refine dr_skip (i := 10) ha575 rfl (by kernel_rfl) (by kernel_rfl) (by kernel_rfl) rfl rfl rfl (Stp.of_ext hs525 _) ?_
        intro a576 ha576; clear ha575 a575
        refine dr_val (i := 11) ha576 rfl (by kernel_rfl) (by kernel_rfl) (by kernel_rfl) rfl rfl rfl (Stp.of_ext hs525 _) (fun w' hw' => op_pick_f ha576 rfl rfl rfl) ?_
        intro a577 ha577; clear ha576 a576
        refine dr_one (i := 12) (by kernel_rfl) ?_
        replace hf313 := hf313.ext hs525
        replace hb519 := hb519.ext hs525
        refine po_effS ha577 rfl rfl rfl (op_storeAll' ha577 rfl ti36 rfl rfl hf313 rfl rfl (by simp [Value.oneCell']) rfl) ?_
        rintro w578 ⟨hb580, hst579, hz581⟩
        have hs582 := (Stp.of_ext hs525 (some w0.heap.size)).trans' hst579
        have hx583 := hx524.stp hst579 (by intro q hq; cases hq; exact (by omega))
        have hzhx583 := hst579.size
        replace hb519 := hb519.stp hst579 (by intro q hq; cases hq; omega)
        clear hf313
        refine ⟨hs582, ?_⟩
        refine dr_val (i := 13) ha577 rfl (by kernel_rfl) (by kernel_rfl) (by kernel_rfl) rfl rfl rfl hs582 (fun w' hw' => op_assign ha577 rfl rfl) ?_
        intro a584 ha584; clear ha577 a577
        refine dr_end (by kernel_rfl) ?_
        refine then_n ?_
        refine wp_ret ?_
        refine retct ha584 rfl rfl rfl Try.underlying36 ti36 rfl hb580.cells ?_
        clear ha584 a584
        exfalso; omega


end Go.Proofs.Ytkdnclpgijkceaa
