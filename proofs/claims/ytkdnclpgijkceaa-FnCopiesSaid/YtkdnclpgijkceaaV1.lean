/- Numbers out of texts. -/
import Derived.Test.YtkdnclpgijkceaaD1
namespace Go.Proofs.Ytkdnclpgijkceaa
open Go Go.RowKit

def valGo : Int → Str → Option Int
  | n, [] => some n
  | n, b :: s => if (b.toNat : Int) < 48 ∨ 57 < (b.toNat : Int) then none else valGo (10 * n + ((b.toNat : Int) - 48)) s
theorem valGo_nil (n : Int) : valGo n [] = some n := rfl
theorem valGo_bad {n : Int} {b : UInt8} {s : Str} (h : (b.toNat : Int) < 48 ∨ 57 < (b.toNat : Int)) : valGo n (b :: s) = none := by rw [valGo, if_pos h]
theorem valGo_ok {n : Int} {b : UInt8} {s : Str} (h : ¬ (b.toNat : Int) < 48) (h' : ¬ 57 < (b.toNat : Int)) : valGo n (b :: s) = valGo (10 * n + ((b.toNat : Int) - 48)) s := by rw [valGo, if_neg (by omega)]
def l01V (s : Str) : Int × Bool := if s.length < 1 ∨ 13 < s.length then (0, false) else match valGo 0 s with
  | none => (0, false)
  | some n => (n, decide (decS n = s))
theorem l01V_none {s : Str} (h : valGo 0 s = none) : l01V s = (0, false) := by unfold l01V; split <;> simp [h]
theorem l01V_some {s : Str} {n : Int} (h : valGo 0 s = some n) (h1 : 1 ≤ s.length) (h2 : s.length ≤ 13) : l01V s = (n, decide (decS n = s)) := by unfold l01V; rw [if_neg (by omega), h]
theorem l01V_bad {s : Str} (h : s.length < 1 ∨ 13 < s.length) : l01V s = (0, false) := by unfold l01V; rw [if_pos h]
def chI (s : Str) (i : Nat) : Option Int := (s[i]?).map fun b => (b.toNat : Int)
theorem chI_eq {s : Str} {i : Nat} {b : UInt8} (h : s[i]? = some b) : chI s i = some (b.toNat : Int) := by unfold chI; rw [h]; rfl
theorem chI_nil {s : Str} {i : Nat} (h : s.length ≤ i) : chI s i = none := by unfold chI; rw [List.getElem?_eq_none h]; rfl
def rdD (s : Str) : Str := if chI s 0 = some 45 then s.drop 1 else s
theorem rdD_t {s : Str} {b : UInt8} (h : s[0]? = some b) (e : (b.toNat : Int) = 45) : rdD s = s.drop 1 := by unfold rdD; rw [chI_eq h, if_pos (by rw [e])]
theorem rdD_f {s : Str} {b : UInt8} (h : s[0]? = some b) (e : ¬ (b.toNat : Int) = 45) : rdD s = s := by unfold rdD; rw [chI_eq h, if_neg (by simpa using e)]
theorem rdD_n {s : Str} (h : s.length ≤ 0) : rdD s = s := by unfold rdD; rw [chI_nil h, if_neg (by simp)]
def rdBad (s d : Str) : Prop := d.length = 0 ∨ 18 < d.length ∨ (chI d 0 = some 48 ∧ (1 < d.length ∨ 1 < s.length))
instance (s d : Str) : Decidable (rdBad s d) := by unfold rdBad; infer_instance
def rdV (s : Str) : Int × Bool := if rdBad s (rdD s) then (0, false) else match valGo 0 (rdD s) with
  | none => (0, false)
  | some n => (if (rdD s).length < s.length then 0 - n else n, true)
theorem rdV_bad {s d : Str} (hd : rdD s = d) (h : rdBad s d) : rdV s = (0, false) := by unfold rdV; rw [hd, if_pos h]
theorem rdV_none {s d : Str} (hd : rdD s = d) (h : valGo 0 d = none) : rdV s = (0, false) := by unfold rdV; rw [hd]; split <;> simp [h]
theorem rdV_some {s d : Str} {n : Int} (hd : rdD s = d) (hb : ¬ rdBad s d) (h : valGo 0 d = some n) : rdV s = (if d.length < s.length then 0 - n else n, true) := by unfold rdV; rw [hd, if_neg hb, h]
theorem valGo_bd : ∀ (k : Nat) (s : Str) (n m B : Int), s.length ≤ k → 0 ≤ n → n < B → valGo n s = some m → 0 ≤ m ∧ m < B * 10 ^ k
  | 0, s, n, m, B, h, h0, h1, hv => by
    have : s = [] := List.eq_nil_of_length_eq_zero (by omega)
    subst this; rw [valGo_nil] at hv; cases hv; simp; omega
  | k + 1, [], n, m, B, h, h0, h1, hv => by
    have := valGo_bd k [] n m B (by simp) h0 h1 hv
    rw [Int.pow_succ, ← Int.mul_assoc]
    omega
  | k + 1, b :: s, n, m, B, h, h0, h1, hv => by
    rw [valGo] at hv
    split at hv
    · cases hv
    · have := valGo_bd k s _ m (B * 10) (by simpa using h) (by omega) (by omega) hv
      rw [Int.pow_succ, Int.mul_comm ((10 : Int) ^ k) 10, ← Int.mul_assoc]
      exact this
theorem rdV_bd (s : Str) : -1000000000000000000 ≤ (rdV s).1 ∧ (rdV s).1 ≤ 1000000000000000000 := by
  unfold rdV; split
  · simp
  · rename_i hb
    cases hv : valGo 0 (rdD s) with
    | none => simp
    | some n =>
      have h18 : (rdD s).length ≤ 18 := by unfold rdBad at hb; omega
      have := valGo_bd 18 _ 0 n 1 h18 (by omega) (by omega) hv
      simp only
      split <;> omega
theorem l01V_bd (s : Str) : 0 ≤ (l01V s).1 ∧ (l01V s).1 ≤ 10000000000000 := by
  unfold l01V; split
  · simp
  · cases hv : valGo 0 s with
    | none => simp
    | some n =>
      have := valGo_bd 13 _ 0 n 1 (by omega) (by omega) (by omega) hv
      simp only
      omega
theorem pow18 {i : Nat} (h : i ≤ 18) : 10 ^ i ≤ 1000000000000000000 := Nat.le_trans (Nat.pow_le_pow_right (by decide) h) (by decide)
theorem pow17 {i : Nat} (h : i ≤ 17) : 10 ^ i ≤ 100000000000000000 := Nat.le_trans (Nat.pow_le_pow_right (by decide) h) (by decide)

theorem c_spec_l01Value (w0 : World) (s : Str)  :
  Calls Try.prog 75 #[St s] w0 (Ret w0 (fun v _ => v = .tuple #[.int .i64 ((l01V s).1), .bool ((l01V s).2)])) := by
 refine enter (N := 43) Try.func75 rfl rfl rfl ?_
 intro a0 ha0
 have hx0 := Ext.rfl' w0
 refine wp_seq ?_
 refine wp_region_lit ?_
 refine wl_val ha0 rfl rfl rfl (op_assign ha0 rfl rfl) ?_
 intro a1 ha1; clear ha0 a0
 refine wl_val ha1 rfl rfl rfl (op_assign ha1 rfl rfl) ?_
 intro a2 ha2; clear ha1 a1
 refine wpList_nil ?_
 refine then_n ?_
 refine wp_seq ?_
 refine wp_seq ?_
 refine wp_region_lit ?_
 refine wl_val ha2 rfl rfl rfl (op_move ha2 rfl rfl) ?_
 intro a3 ha3; clear ha2 a2
 refine wl_val ha3 rfl rfl rfl (op_len_str ha3 rfl Try.underlying9 rfl) ?_
 intro a4 ha4; clear ha3 a3
 refine wl_val ha4 rfl rfl rfl (op_lss ha4 rfl rfl rfl) ?_
 intro a5 ha5; clear ha4 a4
 refine wl_val ha5 rfl rfl rfl (op_move ha5 rfl rfl) ?_
 intro a6 ha6; clear ha5 a5
 by_cases c7 : ((s.length : Nat) : Int) < (1 : Int)
 ·
  rw [decide_eq_true c7] at ha6
  refine wl_skip ha6 rfl rfl rfl ?_
  intro a8 ha8; clear ha6 a6
  refine wl_skip ha8 rfl rfl rfl ?_
  intro a9 ha9; clear ha8 a8
  refine wl_skip ha9 rfl rfl rfl ?_
  intro a10 ha10; clear ha9 a9
  refine wl_val ha10 rfl rfl rfl (op_pick_t ha10 rfl rfl rfl) ?_
  intro a11 ha11; clear ha10 a10
  refine wpList_nil ?_
  refine then_n ?_
  refine cond_t ha11 rfl ?_
  refine wp_seq ?_
  refine wp_region_lit ?_
  refine wl_val ha11 rfl rfl rfl (op_assign ha11 rfl rfl) ?_
  intro a12 ha12; clear ha11 a11
  refine wl_val ha12 rfl rfl rfl (op_assign ha12 rfl rfl) ?_
  intro a13 ha13; clear ha12 a12
  refine wpList_nil ?_
  refine then_n ?_
  refine wp_ret ?_
  refine then_r ?_
  refine ret2 ha13 rfl rfl rfl ?_
  clear ha13 a13
  
  exact ret_mk hx0 (tup2_eq (int_eq (by rw [l01V_bad (by omega)])) (congrArg Value.bool (by rw [l01V_bad (by omega)])))
 ·
  rw [decide_eq_false c7] at ha6
  refine wl_val ha6 rfl rfl rfl (op_move ha6 rfl rfl) ?_
  intro a14 ha14; clear ha6 a6
  refine wl_val ha14 rfl rfl rfl (op_len_str ha14 rfl Try.underlying9 rfl) ?_
  intro a15 ha15; clear ha14 a14
  refine wl_val ha15 rfl rfl rfl (op_gtr ha15 rfl rfl rfl) ?_
  intro a16 ha16; clear ha15 a15
  refine wl_val ha16 rfl rfl rfl (op_pick_f ha16 rfl rfl rfl) ?_
  intro a17 ha17; clear ha16 a16
  refine wpList_nil ?_
  refine then_n ?_
  by_cases c18 : (13 : Int) < ((s.length : Nat) : Int)
  ·
   rw [decide_eq_true c18] at ha17
   refine cond_t ha17 rfl ?_
   refine wp_seq ?_
   refine wp_region_lit ?_
   refine wl_val ha17 rfl rfl rfl (op_assign ha17 rfl rfl) ?_
   intro a19 ha19; clear ha17 a17
   refine wl_val ha19 rfl rfl rfl (op_assign ha19 rfl rfl) ?_
   intro a20 ha20; clear ha19 a19
   refine wpList_nil ?_
   refine then_n ?_
   refine wp_ret ?_
   refine then_r ?_
   refine ret2 ha20 rfl rfl rfl ?_
   clear ha20 a20
   
   exact ret_mk hx0 (tup2_eq (int_eq (by rw [l01V_bad (by omega)])) (congrArg Value.bool (by rw [l01V_bad (by omega)])))
  ·
   rw [decide_eq_false c18] at ha17
   refine cond_f ha17 rfl ?_
   refine wp_skip ?_
   refine then_n ?_
   refine wp_seq ?_
   refine wp_region_lit ?_
   refine wl_val ha17 rfl rfl rfl (op_assign ha17 rfl rfl) ?_
   intro a21 ha21; clear ha17 a17
   refine wpList_nil ?_
   refine then_n ?_
   refine wp_seq ?_
   refine wp_seq ?_
   refine wp_region_lit ?_
   refine wl_val ha21 rfl rfl rfl (op_assign ha21 rfl rfl) ?_
   intro a22 ha22; clear ha21 a21
   refine wpList_nil ?_
   refine then_n ?_
   refine wp_block ?_
   refine loop_inv (X := Nat × Int) (fun (⟨i, n⟩ : Nat × Int) fr wl => Sl 43 fr [(0, St s), (4, .int .i64 n), (5, .int .i64 ((i : Nat) : Int))] ∧ Ext w0 wl ∧ w0.heap.size ≤ wl.heap.size ∧ (i ≤ s.length) ∧ (0 ≤ n) ∧ (n < ((10 ^ i : Nat) : Int)) ∧ (valGo n (s.drop i) = valGo 0 s)) (fun (⟨i, n⟩ : Nat × Int) => s.length - i) (0, (0 : Int)) ?_ ?_
   ·
    exact ⟨(Sl.cons_ ha22 rfl rfl (Sl.cons_ ha22 rfl (int_eq (by omega)) (Sl.cons_ ha22 rfl (int_eq (by omega)) (Sl.nil_ ha22)))), hx0, (by omega), (by omega), (by omega), (by simp), (by rfl)⟩
   ·
    clear ha22 a22
    rintro ⟨i, n⟩ a25 w23 ⟨ha25, hx24, hzl26, hi, hn0, hn1, hF⟩
    have hzhx24 := hx24.size
    have h17 := pow17 (i := i)
    have h18 := pow18 (i := i)
    have h10 : (10 : Nat) ^ (i + 1) = 10 ^ i * 10 := by rw [Nat.pow_succ]
    refine wp_seq ?_
    refine wp_seq ?_
    refine wp_region_lit ?_
    refine wl_val ha25 rfl rfl rfl (op_move ha25 rfl rfl) ?_
    intro a27 ha27; clear ha25 a25
    refine wl_val ha27 rfl rfl rfl (op_move ha27 rfl rfl) ?_
    intro a28 ha28; clear ha27 a27
    refine wl_val ha28 rfl rfl rfl (op_len_str ha28 rfl Try.underlying9 rfl) ?_
    intro a29 ha29; clear ha28 a28
    refine wl_val ha29 rfl rfl rfl (op_lss ha29 rfl rfl rfl) ?_
    intro a30 ha30; clear ha29 a29
    refine wpList_nil ?_
    refine then_n ?_
    by_cases c31 : ((i : Nat) : Int) < ((s.length : Nat) : Int)
    ·
     rw [decide_eq_true c31] at ha30
     refine cond_t ha30 rfl ?_
     refine wp_skip ?_
     refine then_n ?_
     refine wp_seq ?_
     refine wp_block ?_
     refine wp_seq ?_
     refine wp_seq ?_
     refine wp_region_lit ?_
     refine wl_val ha30 rfl rfl rfl (op_move ha30 rfl rfl) ?_
     intro a32 ha32; clear ha30 a30
     refine wl_val ha32 rfl rfl rfl (op_move ha32 rfl rfl) ?_
     intro a33 ha33; clear ha32 a32
     obtain ⟨b34, hb34⟩ := get_ex (xs := s) (j := i) (by omega)
     have b34_lt := b34.toNat_lt
     refine wl_val ha33 rfl rfl rfl (op_index_str ha33 rfl Try.underlying9 rfl rfl (by omega) hb34) ?_
     intro a35 ha35; clear ha33 a33
     refine wl_val ha35 rfl rfl rfl (op_lss ha35 rfl rfl rfl) ?_
     intro a36 ha36; clear ha35 a35
     refine wl_val ha36 rfl rfl rfl (op_move ha36 rfl rfl) ?_
     intro a37 ha37; clear ha36 a36
     by_cases c38 : (b34.toNat : Int) < (48 : Int)
     ·
      rw [decide_eq_true c38] at ha37
      refine wl_skip ha37 rfl rfl rfl ?_
      intro a39 ha39; clear ha37 a37
      refine wl_skip ha39 rfl rfl rfl ?_
      intro a40 ha40; clear ha39 a39
      refine wl_skip ha40 rfl rfl rfl ?_
      intro a41 ha41; clear ha40 a40
      refine wl_skip ha41 rfl rfl rfl ?_
      intro a42 ha42; clear ha41 a41
      refine wl_val ha42 rfl rfl rfl (op_pick_t ha42 rfl rfl rfl) ?_
      intro a43 ha43; clear ha42 a42
      refine wpList_nil ?_
      refine then_n ?_
      refine cond_t ha43 rfl ?_
      refine wp_seq ?_
      refine wp_region_lit ?_
      refine wl_val ha43 rfl rfl rfl (op_assign ha43 rfl rfl) ?_
      intro a44 ha44; clear ha43 a43
      refine wl_val ha44 rfl rfl rfl (op_assign ha44 rfl rfl) ?_
      intro a45 ha45; clear ha44 a44
      refine wpList_nil ?_
      refine then_n ?_
      refine wp_ret ?_
      refine then_r ?_
      refine block_r ?_
      refine then_r ?_
      refine then_r ?_
      refine block_r ?_
      refine then_r ?_
      refine ret2 ha45 rfl rfl rfl ?_
      clear ha45 a45
      rw [drop_cons hb34, valGo_bad (by omega)] at hF
      exact ret_mk hx24 (tup2_eq (int_eq (by rw [l01V_none hF.symm])) (congrArg Value.bool (by rw [l01V_none hF.symm])))
     ·
      rw [decide_eq_false c38] at ha37
      refine wl_val ha37 rfl rfl rfl (op_move ha37 rfl rfl) ?_
      intro a46 ha46; clear ha37 a37
      refine wl_val ha46 rfl rfl rfl (op_move ha46 rfl rfl) ?_
      intro a47 ha47; clear ha46 a46
      refine wl_val ha47 rfl rfl rfl (op_index_str ha47 rfl Try.underlying9 rfl rfl (by omega) hb34) ?_
      intro a48 ha48; clear ha47 a47
      refine wl_val ha48 rfl rfl rfl (op_gtr ha48 rfl rfl rfl) ?_
      intro a49 ha49; clear ha48 a48
      refine wl_val ha49 rfl rfl rfl (op_pick_f ha49 rfl rfl rfl) ?_
      intro a50 ha50; clear ha49 a49
      refine wpList_nil ?_
      refine then_n ?_
      by_cases c51 : (57 : Int) < (b34.toNat : Int)
      ·
       rw [decide_eq_true c51] at ha50
       refine cond_t ha50 rfl ?_
       refine wp_seq ?_
       refine wp_region_lit ?_
       refine wl_val ha50 rfl rfl rfl (op_assign ha50 rfl rfl) ?_
       intro a52 ha52; clear ha50 a50
       refine wl_val ha52 rfl rfl rfl (op_assign ha52 rfl rfl) ?_
       intro a53 ha53; clear ha52 a52
       refine wpList_nil ?_
       refine then_n ?_
       refine wp_ret ?_
       refine then_r ?_
       refine block_r ?_
       refine then_r ?_
       refine then_r ?_
       refine block_r ?_
       refine then_r ?_
       refine ret2 ha53 rfl rfl rfl ?_
       clear ha53 a53
       rw [drop_cons hb34, valGo_bad (by omega)] at hF
       exact ret_mk hx24 (tup2_eq (int_eq (by rw [l01V_none hF.symm])) (congrArg Value.bool (by rw [l01V_none hF.symm])))
      ·
       rw [decide_eq_false c51] at ha50
       refine cond_f ha50 rfl ?_
       refine wp_skip ?_
       refine then_n ?_
       refine wp_region_lit ?_
       refine wl_val ha50 rfl rfl rfl (op_move ha50 rfl rfl) ?_
       intro a54 ha54; clear ha50 a50
       refine wl_val ha54 rfl rfl rfl ((op_mul ha54 rfl rfl rfl).int (IntWalk.i64_in _ (by omega))) ?_
       intro a55 ha55; clear ha54 a54
       refine wl_val ha55 rfl rfl rfl (op_move ha55 rfl rfl) ?_
       intro a56 ha56; clear ha55 a55
       refine wl_val ha56 rfl rfl rfl (op_move ha56 rfl rfl) ?_
       intro a57 ha57; clear ha56 a56
       refine wl_val ha57 rfl rfl rfl (op_index_str ha57 rfl Try.underlying9 rfl rfl (by omega) hb34) ?_
       intro a58 ha58; clear ha57 a57
       refine wl_val ha58 rfl rfl rfl ((op_sub ha58 rfl rfl rfl).int (IntWalk.u8_in _ (by omega))) ?_
       intro a59 ha59; clear ha58 a58
       refine wl_val ha59 rfl rfl rfl ((op_conv_int ha59 rfl Try.underlying5 Try.underlying2 rfl).int (IntWalk.i64_in _ (by omega))) ?_
       intro a60 ha60; clear ha59 a59
       refine wl_val ha60 rfl rfl rfl ((op_add ha60 rfl rfl rfl).int (IntWalk.i64_in _ (by omega))) ?_
       intro a61 ha61; clear ha60 a60
       refine wl_val ha61 rfl rfl rfl (op_assign ha61 rfl rfl) ?_
       intro a62 ha62; clear ha61 a61
       refine wpList_nil ?_
       refine block_n ?_
       refine then_n ?_
       refine wp_region_lit ?_
       refine wl_val ha62 rfl rfl rfl (op_move ha62 rfl rfl) ?_
       intro a63 ha63; clear ha62 a62
       refine wl_val ha63 rfl rfl rfl ((op_add ha63 rfl rfl rfl).int (IntWalk.i64_in _ (by omega))) ?_
       intro a64 ha64; clear ha63 a63
       refine wl_val ha64 rfl rfl rfl (op_assign ha64 rfl rfl) ?_
       intro a65 ha65; clear ha64 a64
       refine wpList_nil ?_
       refine round_end (x := (i, n)) ((i + 1), (((10 : Int) * n) + ((b34.toNat : Int) - (48 : Int)))) ?_ ?_
       ·
        refine ⟨(Sl.cons_ ha65 rfl rfl (Sl.cons_ ha65 rfl (int_eq (by omega)) (Sl.cons_ ha65 rfl (int_eq (by omega)) (Sl.nil_ ha65)))), hx24, (by omega), (by omega), (by omega), (by rw [h10]; omega), (by rw [drop_cons hb34, valGo_ok (by omega) (by omega)] at hF; exact hF)⟩
       ·show (s.length - ((i + 1)) : Nat) < s.length - i; omega
    ·
     rw [decide_eq_false c31] at ha30
     refine cond_f ha30 rfl ?_
     refine wp_exit ?_
     refine then_e ?_
     refine then_e ?_
     refine block_hit ?_
     refine then_n ?_
     refine wp_seq ?_
     refine wp_region_lit ?_
     refine wl_val ha30 rfl rfl rfl (op_move ha30 rfl rfl) ?_
     intro a66 ha66; clear ha30 a30
     refine wl_val ha66 rfl rfl rfl (op_move ha66 rfl rfl) ?_
     intro a67 ha67; clear ha66 a66
     refine wl_callR ha67 rfl rfl rfl (op_call ha67 rfl cb73 rfl) (c_spec_l01Dec _ n (by first | assumption | omega | (simp; omega) | (simp [mkN_length]; omega)) (by first | assumption | omega | (simp; omega) | (simp [mkN_length]; omega))) ?_
     rintro v68 w69 he70 rfl a71 ha71; clear ha67 a67
     have hx72 := hx24.trans' he70
     have hzhx72 := he70.size
     refine wl_val ha71 rfl rfl rfl (op_move ha71 rfl rfl) ?_
     intro a73 ha73; clear ha71 a71
     refine wl_val ha73 rfl rfl rfl (op_seql ha73 rfl rfl rfl) ?_
     intro a74 ha74; clear ha73 a73
     refine wl_val ha74 rfl rfl rfl (op_assign ha74 rfl rfl) ?_
     intro a75 ha75; clear ha74 a74
     refine wl_val ha75 rfl rfl rfl (op_assign ha75 rfl rfl) ?_
     intro a76 ha76; clear ha75 a75
     refine wpList_nil ?_
     refine then_n ?_
     refine wp_ret ?_
     refine ret2 ha76 rfl rfl rfl ?_
     clear ha76 a76
     rw [drop_nil (by omega), valGo_nil] at hF
     exact ret_mk hx72 (tup2_eq (int_eq (by rw [l01V_some hF.symm (by omega) (by omega)])) (congrArg Value.bool (by rw [l01V_some hF.symm (by omega) (by omega)])))

theorem c_impl_readDecimal (w0 : World) (s : Str) (g0 : s.length ≤ 9223372036854775807) :
  Calls Try.prog 76 #[St s] w0 (Ret w0 (fun v _ => v = .tuple #[.int .i64 ((rdV s).1), .bool ((rdV s).2)])) := by
 refine enter (N := 73) Try.func76 rfl rfl rfl ?_
 intro a0 ha0
 have hx0 := Ext.rfl' w0
 refine wp_seq ?_
 refine wp_region_lit ?_
 refine wl_val ha0 rfl rfl rfl (op_assign ha0 rfl rfl) ?_
 intro a1 ha1; clear ha0 a0
 refine wl_val ha1 rfl rfl rfl (op_assign ha1 rfl rfl) ?_
 intro a2 ha2; clear ha1 a1
 refine wpList_nil ?_
 refine then_n ?_
 refine wp_seq ?_
 refine wp_region_lit ?_
 refine wl_val ha2 rfl rfl rfl (op_move ha2 rfl rfl) ?_
 intro a3 ha3; clear ha2 a2
 refine wl_val ha3 rfl rfl rfl (op_assign ha3 rfl rfl) ?_
 intro a4 ha4; clear ha3 a3
 refine wpList_nil ?_
 refine then_n ?_
 refine wp_seq ?_
 refine wp_seq ?_
 refine wp_region_lit ?_
 refine wl_val ha4 rfl rfl rfl (op_move ha4 rfl rfl) ?_
 intro a5 ha5; clear ha4 a4
 refine wl_val ha5 rfl rfl rfl (op_len_str ha5 rfl Try.underlying9 rfl) ?_
 intro a6 ha6; clear ha5 a5
 refine wl_val ha6 rfl rfl rfl (op_gtr ha6 rfl rfl rfl) ?_
 intro a7 ha7; clear ha6 a6
 refine wl_val ha7 rfl rfl rfl (op_move ha7 rfl rfl) ?_
 intro a8 ha8; clear ha7 a7
 by_cases c9 : (0 : Int) < ((s.length : Nat) : Int)
 ·
  rw [decide_eq_true c9] at ha8
  refine wl_val ha8 rfl rfl rfl (op_move ha8 rfl rfl) ?_
  intro a10 ha10; clear ha8 a8
  obtain ⟨b11, hb11⟩ := get_ex (xs := s) (j := 0) (by omega)
  have b11_lt := b11.toNat_lt
  refine wl_val ha10 rfl rfl rfl (op_index_str ha10 rfl Try.underlying9 rfl rfl (by omega) hb11) ?_
  intro a12 ha12; clear ha10 a10
  refine wl_val ha12 rfl rfl rfl (op_eql ha12 rfl rfl rfl) ?_
  intro a13 ha13; clear ha12 a12
  refine wl_val ha13 rfl rfl rfl (op_pick_t ha13 rfl rfl rfl) ?_
  intro a14 ha14; clear ha13 a13
  refine wpList_nil ?_
  refine then_n ?_
  by_cases c15 : (b11.toNat : Int) = (45 : Int)
  ·
   rw [decide_eq_true c15] at ha14
   refine cond_t ha14 rfl ?_
   refine wp_region_lit ?_
   refine wl_val ha14 rfl rfl rfl (op_move ha14 rfl rfl) ?_
   intro a16 ha16; clear ha14 a14
   refine wl_val ha16 rfl rfl rfl (op_slice_str_f (i := 1) (by omega) ha16 rfl Try.underlying9 rfl rfl (by omega)) ?_
   intro a17 ha17; clear ha16 a16
   refine wl_val ha17 rfl rfl rfl (op_assign ha17 rfl rfl) ?_
   intro a18 ha18; clear ha17 a17
   refine wpList_nil ?_
   refine then_n ?_
   refine wp_seq ?_
   refine wp_seq ?_
   refine wp_region_lit ?_
   refine wl_val ha18 rfl rfl rfl (op_move ha18 rfl rfl) ?_
   intro a19 ha19; clear ha18 a18
   refine wl_val ha19 rfl rfl rfl (op_len_str ha19 rfl Try.underlying9 rfl) ?_
   intro a20 ha20; clear ha19 a19
   refine wl_val ha20 rfl rfl rfl (op_eql ha20 rfl rfl rfl) ?_
   intro a21 ha21; clear ha20 a20
   refine wl_val ha21 rfl rfl rfl (op_move ha21 rfl rfl) ?_
   intro a22 ha22; clear ha21 a21
   by_cases c23 : (((s.drop 1).length : Nat) : Int) = (0 : Int)
   ·
    rw [decide_eq_true c23] at ha22
    refine wl_skip ha22 rfl rfl rfl ?_
    intro a24 ha24; clear ha22 a22
    refine wl_skip ha24 rfl rfl rfl ?_
    intro a25 ha25; clear ha24 a24
    refine wl_skip ha25 rfl rfl rfl ?_
    intro a26 ha26; clear ha25 a25
    refine wl_val ha26 rfl rfl rfl (op_pick_t ha26 rfl rfl rfl) ?_
    intro a27 ha27; clear ha26 a26
    refine wl_val ha27 rfl rfl rfl (op_move ha27 rfl rfl) ?_
    intro a28 ha28; clear ha27 a27
    refine wl_skip ha28 rfl rfl rfl ?_
    intro a29 ha29; clear ha28 a28
    refine wl_skip ha29 rfl rfl rfl ?_
    intro a30 ha30; clear ha29 a29
    refine wl_skip ha30 rfl rfl rfl ?_
    intro a31 ha31; clear ha30 a30
    refine wl_skip ha31 rfl rfl rfl ?_
    intro a32 ha32; clear ha31 a31
    refine wl_skip ha32 rfl rfl rfl ?_
    intro a33 ha33; clear ha32 a32
    refine wl_skip ha33 rfl rfl rfl ?_
    intro a34 ha34; clear ha33 a33
    refine wl_skip ha34 rfl rfl rfl ?_
    intro a35 ha35; clear ha34 a34
    refine wl_skip ha35 rfl rfl rfl ?_
    intro a36 ha36; clear ha35 a35
    refine wl_skip ha36 rfl rfl rfl ?_
    intro a37 ha37; clear ha36 a36
    refine wl_skip ha37 rfl rfl rfl ?_
    intro a38 ha38; clear ha37 a37
    refine wl_skip ha38 rfl rfl rfl ?_
    intro a39 ha39; clear ha38 a38
    refine wl_skip ha39 rfl rfl rfl ?_
    intro a40 ha40; clear ha39 a39
    refine wl_skip ha40 rfl rfl rfl ?_
    intro a41 ha41; clear ha40 a40
    refine wl_val ha41 rfl rfl rfl (op_pick_t ha41 rfl rfl rfl) ?_
    intro a42 ha42; clear ha41 a41
    refine wpList_nil ?_
    refine then_n ?_
    refine cond_t ha42 rfl ?_
    refine wp_seq ?_
    refine wp_region_lit ?_
    refine wl_val ha42 rfl rfl rfl (op_assign ha42 rfl rfl) ?_
    intro a43 ha43; clear ha42 a42
    refine wl_val ha43 rfl rfl rfl (op_assign ha43 rfl rfl) ?_
    intro a44 ha44; clear ha43 a43
    refine wpList_nil ?_
    refine then_n ?_
    refine wp_ret ?_
    refine then_r ?_
    refine ret2 ha44 rfl rfl rfl ?_
    clear ha44 a44
    have hd : rdD s = s.drop 1 := rdD_t hb11 (by omega)
    exact ret_mk hx0 (tup2_eq (int_eq (by rw [rdV_bad hd (by unfold rdBad; omega)])) (congrArg Value.bool (by rw [rdV_bad hd (by unfold rdBad; omega)])))
   ·
    rw [decide_eq_false c23] at ha22
    refine wl_val ha22 rfl rfl rfl (op_move ha22 rfl rfl) ?_
    intro a45 ha45; clear ha22 a22
    refine wl_val ha45 rfl rfl rfl (op_len_str ha45 rfl Try.underlying9 rfl) ?_
    intro a46 ha46; clear ha45 a45
    refine wl_val ha46 rfl rfl rfl (op_gtr ha46 rfl rfl rfl) ?_
    intro a47 ha47; clear ha46 a46
    refine wl_val ha47 rfl rfl rfl (op_pick_f ha47 rfl rfl rfl) ?_
    intro a48 ha48; clear ha47 a47
    refine wl_val ha48 rfl rfl rfl (op_move ha48 rfl rfl) ?_
    intro a49 ha49; clear ha48 a48
    by_cases c50 : (18 : Int) < (((s.drop 1).length : Nat) : Int)
    ·
     rw [decide_eq_true c50] at ha49
     refine wl_skip ha49 rfl rfl rfl ?_
     intro a51 ha51; clear ha49 a49
     refine wl_skip ha51 rfl rfl rfl ?_
     intro a52 ha52; clear ha51 a51
     refine wl_skip ha52 rfl rfl rfl ?_
     intro a53 ha53; clear ha52 a52
     refine wl_skip ha53 rfl rfl rfl ?_
     intro a54 ha54; clear ha53 a53
     refine wl_skip ha54 rfl rfl rfl ?_
     intro a55 ha55; clear ha54 a54
     refine wl_skip ha55 rfl rfl rfl ?_
     intro a56 ha56; clear ha55 a55
     refine wl_skip ha56 rfl rfl rfl ?_
     intro a57 ha57; clear ha56 a56
     refine wl_skip ha57 rfl rfl rfl ?_
     intro a58 ha58; clear ha57 a57
     refine wl_skip ha58 rfl rfl rfl ?_
     intro a59 ha59; clear ha58 a58
     refine wl_skip ha59 rfl rfl rfl ?_
     intro a60 ha60; clear ha59 a59
     refine wl_skip ha60 rfl rfl rfl ?_
     intro a61 ha61; clear ha60 a60
     refine wl_skip ha61 rfl rfl rfl ?_
     intro a62 ha62; clear ha61 a61
     refine wl_skip ha62 rfl rfl rfl ?_
     intro a63 ha63; clear ha62 a62
     refine wl_val ha63 rfl rfl rfl (op_pick_t ha63 rfl rfl rfl) ?_
     intro a64 ha64; clear ha63 a63
     refine wpList_nil ?_
     refine then_n ?_
     refine cond_t ha64 rfl ?_
     refine wp_seq ?_
     refine wp_region_lit ?_
     refine wl_val ha64 rfl rfl rfl (op_assign ha64 rfl rfl) ?_
     intro a65 ha65; clear ha64 a64
     refine wl_val ha65 rfl rfl rfl (op_assign ha65 rfl rfl) ?_
     intro a66 ha66; clear ha65 a65
     refine wpList_nil ?_
     refine then_n ?_
     refine wp_ret ?_
     refine then_r ?_
     refine ret2 ha66 rfl rfl rfl ?_
     clear ha66 a66
     have hd : rdD s = s.drop 1 := rdD_t hb11 (by omega)
     exact ret_mk hx0 (tup2_eq (int_eq (by rw [rdV_bad hd (by unfold rdBad; omega)])) (congrArg Value.bool (by rw [rdV_bad hd (by unfold rdBad; omega)])))
    ·
     rw [decide_eq_false c50] at ha49
     refine wl_val ha49 rfl rfl rfl (op_move ha49 rfl rfl) ?_
     intro a67 ha67; clear ha49 a49
     obtain ⟨b68, hb68⟩ := get_ex (xs := s.drop 1) (j := 0) (by omega)
     have b68_lt := b68.toNat_lt
     refine wl_val ha67 rfl rfl rfl (op_index_str ha67 rfl Try.underlying9 rfl rfl (by omega) hb68) ?_
     intro a69 ha69; clear ha67 a67
     refine wl_val ha69 rfl rfl rfl (op_eql ha69 rfl rfl rfl) ?_
     intro a70 ha70; clear ha69 a69
     refine wl_val ha70 rfl rfl rfl (op_move ha70 rfl rfl) ?_
     intro a71 ha71; clear ha70 a70
     by_cases c72 : (b68.toNat : Int) = (48 : Int)
     ·
      rw [decide_eq_true c72] at ha71
      refine wl_val ha71 rfl rfl rfl (op_move ha71 rfl rfl) ?_
      intro a73 ha73; clear ha71 a71
      refine wl_val ha73 rfl rfl rfl (op_len_str ha73 rfl Try.underlying9 rfl) ?_
      intro a74 ha74; clear ha73 a73
      refine wl_val ha74 rfl rfl rfl (op_gtr ha74 rfl rfl rfl) ?_
      intro a75 ha75; clear ha74 a74
      refine wl_val ha75 rfl rfl rfl (op_move ha75 rfl rfl) ?_
      intro a76 ha76; clear ha75 a75
      by_cases c77 : (1 : Int) < (((s.drop 1).length : Nat) : Int)
      ·
       rw [decide_eq_true c77] at ha76
       refine wl_skip ha76 rfl rfl rfl ?_
       intro a78 ha78; clear ha76 a76
       refine wl_skip ha78 rfl rfl rfl ?_
       intro a79 ha79; clear ha78 a78
       refine wl_skip ha79 rfl rfl rfl ?_
       intro a80 ha80; clear ha79 a79
       refine wl_val ha80 rfl rfl rfl (op_pick_t ha80 rfl rfl rfl) ?_
       intro a81 ha81; clear ha80 a80
       refine wl_val ha81 rfl rfl rfl (op_pick_t ha81 rfl rfl rfl) ?_
       intro a82 ha82; clear ha81 a81
       refine wl_val ha82 rfl rfl rfl (op_pick_f ha82 rfl rfl rfl) ?_
       intro a83 ha83; clear ha82 a82
       refine wpList_nil ?_
       refine then_n ?_
       refine cond_t ha83 rfl ?_
       refine wp_seq ?_
       refine wp_region_lit ?_
       refine wl_val ha83 rfl rfl rfl (op_assign ha83 rfl rfl) ?_
       intro a84 ha84; clear ha83 a83
       refine wl_val ha84 rfl rfl rfl (op_assign ha84 rfl rfl) ?_
       intro a85 ha85; clear ha84 a84
       refine wpList_nil ?_
       refine then_n ?_
       refine wp_ret ?_
       refine then_r ?_
       refine ret2 ha85 rfl rfl rfl ?_
       clear ha85 a85
       have hd : rdD s = s.drop 1 := rdD_t hb11 (by omega)
       exact ret_mk hx0 (tup2_eq (int_eq (by rw [rdV_bad hd (by unfold rdBad; rw [chI_eq hb68]; simp only [Option.some.injEq]; omega)])) (congrArg Value.bool (by rw [rdV_bad hd (by unfold rdBad; rw [chI_eq hb68]; simp only [Option.some.injEq]; omega)])))
      ·
       rw [decide_eq_false c77] at ha76
       refine wl_val ha76 rfl rfl rfl (op_move ha76 rfl rfl) ?_
       intro a86 ha86; clear ha76 a76
       refine wl_val ha86 rfl rfl rfl (op_len_str ha86 rfl Try.underlying9 rfl) ?_
       intro a87 ha87; clear ha86 a86
       refine wl_val ha87 rfl rfl rfl (op_gtr ha87 rfl rfl rfl) ?_
       intro a88 ha88; clear ha87 a87
       refine wl_val ha88 rfl rfl rfl (op_pick_f ha88 rfl rfl rfl) ?_
       intro a89 ha89; clear ha88 a88
       refine wl_val ha89 rfl rfl rfl (op_pick_t ha89 rfl rfl rfl) ?_
       intro a90 ha90; clear ha89 a89
       refine wl_val ha90 rfl rfl rfl (op_pick_f ha90 rfl rfl rfl) ?_
       intro a91 ha91; clear ha90 a90
       refine wpList_nil ?_
       refine then_n ?_
       by_cases c92 : (1 : Int) < ((s.length : Nat) : Int)
       ·
        rw [decide_eq_true c92] at ha91
        refine cond_t ha91 rfl ?_
        refine wp_seq ?_
        refine wp_region_lit ?_
        refine wl_val ha91 rfl rfl rfl (op_assign ha91 rfl rfl) ?_
        intro a93 ha93; clear ha91 a91
        refine wl_val ha93 rfl rfl rfl (op_assign ha93 rfl rfl) ?_
        intro a94 ha94; clear ha93 a93
        refine wpList_nil ?_
        refine then_n ?_
        refine wp_ret ?_
        refine then_r ?_
        refine ret2 ha94 rfl rfl rfl ?_
        clear ha94 a94
        have hd : rdD s = s.drop 1 := rdD_t hb11 (by omega)
        exact ret_mk hx0 (tup2_eq (int_eq (by rw [rdV_bad hd (by unfold rdBad; rw [chI_eq hb68]; simp only [Option.some.injEq]; omega)])) (congrArg Value.bool (by rw [rdV_bad hd (by unfold rdBad; rw [chI_eq hb68]; simp only [Option.some.injEq]; omega)])))
       ·
        rw [decide_eq_false c92] at ha91
        refine cond_f ha91 rfl ?_
        refine wp_skip ?_
        refine then_n ?_
        refine wp_seq ?_
        refine wp_region_lit ?_
        refine wl_val ha91 rfl rfl rfl (op_assign ha91 rfl rfl) ?_
        intro a95 ha95; clear ha91 a91
        refine wpList_nil ?_
        refine then_n ?_
        refine wp_seq ?_
        refine wp_seq ?_
        refine wp_region_lit ?_
        refine wl_val ha95 rfl rfl rfl (op_assign ha95 rfl rfl) ?_
        intro a96 ha96; clear ha95 a95
        refine wpList_nil ?_
        refine then_n ?_
        refine wp_block ?_
        refine loop_inv (X := Nat × Int) (fun (⟨i, n⟩ : Nat × Int) fr wl => Sl 73 fr [(0, St s), (4, St (s.drop 1)), (5, .int .i64 n), (6, .int .i64 ((i : Nat) : Int))] ∧ Ext w0 wl ∧ w0.heap.size ≤ wl.heap.size ∧ (i ≤ (s.drop 1).length) ∧ (0 ≤ n) ∧ (n < ((10 ^ i : Nat) : Int)) ∧ (valGo n ((s.drop 1).drop i) = valGo 0 (s.drop 1))) (fun (⟨i, n⟩ : Nat × Int) => (s.drop 1).length - i) (0, (0 : Int)) ?_ ?_
        ·
         exact ⟨(Sl.cons_ ha96 rfl rfl (Sl.cons_ ha96 rfl rfl (Sl.cons_ ha96 rfl (int_eq (by omega)) (Sl.cons_ ha96 rfl (int_eq (by omega)) (Sl.nil_ ha96))))), hx0, (by omega), (by omega), (by omega), (by simp), (by rfl)⟩
        ·
         clear ha96 a96
         rintro ⟨i, n⟩ a99 w97 ⟨ha99, hx98, hzl100, hi, hn0, hn1, hF⟩
         have hzhx98 := hx98.size
         have h17 := pow17 (i := i)
         have h18 := pow18 (i := i)
         have h10 : (10 : Nat) ^ (i + 1) = 10 ^ i * 10 := by rw [Nat.pow_succ]
         refine wp_seq ?_
         refine wp_seq ?_
         refine wp_region_lit ?_
         refine wl_val ha99 rfl rfl rfl (op_move ha99 rfl rfl) ?_
         intro a101 ha101; clear ha99 a99
         refine wl_val ha101 rfl rfl rfl (op_move ha101 rfl rfl) ?_
         intro a102 ha102; clear ha101 a101
         refine wl_val ha102 rfl rfl rfl (op_len_str ha102 rfl Try.underlying9 rfl) ?_
         intro a103 ha103; clear ha102 a102
         refine wl_val ha103 rfl rfl rfl (op_lss ha103 rfl rfl rfl) ?_
         intro a104 ha104; clear ha103 a103
         refine wpList_nil ?_
         refine then_n ?_
         by_cases c105 : ((i : Nat) : Int) < (((s.drop 1).length : Nat) : Int)
         ·
          rw [decide_eq_true c105] at ha104
          refine cond_t ha104 rfl ?_
          refine wp_skip ?_
          refine then_n ?_
          refine wp_seq ?_
          refine wp_block ?_
          refine wp_seq ?_
          refine wp_seq ?_
          refine wp_region_lit ?_
          refine wl_val ha104 rfl rfl rfl (op_move ha104 rfl rfl) ?_
          intro a106 ha106; clear ha104 a104
          refine wl_val ha106 rfl rfl rfl (op_move ha106 rfl rfl) ?_
          intro a107 ha107; clear ha106 a106
          obtain ⟨b108, hb108⟩ := get_ex (xs := s.drop 1) (j := i) (by omega)
          have b108_lt := b108.toNat_lt
          refine wl_val ha107 rfl rfl rfl (op_index_str ha107 rfl Try.underlying9 rfl rfl (by omega) hb108) ?_
          intro a109 ha109; clear ha107 a107
          refine wl_val ha109 rfl rfl rfl (op_lss ha109 rfl rfl rfl) ?_
          intro a110 ha110; clear ha109 a109
          refine wl_val ha110 rfl rfl rfl (op_move ha110 rfl rfl) ?_
          intro a111 ha111; clear ha110 a110
          by_cases c112 : (b108.toNat : Int) < (48 : Int)
          ·
           rw [decide_eq_true c112] at ha111
           refine wl_skip ha111 rfl rfl rfl ?_
           intro a113 ha113; clear ha111 a111
           refine wl_skip ha113 rfl rfl rfl ?_
           intro a114 ha114; clear ha113 a113
           refine wl_skip ha114 rfl rfl rfl ?_
           intro a115 ha115; clear ha114 a114
           refine wl_skip ha115 rfl rfl rfl ?_
           intro a116 ha116; clear ha115 a115
           refine wl_val ha116 rfl rfl rfl (op_pick_t ha116 rfl rfl rfl) ?_
           intro a117 ha117; clear ha116 a116
           refine wpList_nil ?_
           refine then_n ?_
           refine cond_t ha117 rfl ?_
           refine wp_seq ?_
           refine wp_region_lit ?_
           refine wl_val ha117 rfl rfl rfl (op_assign ha117 rfl rfl) ?_
           intro a118 ha118; clear ha117 a117
           refine wl_val ha118 rfl rfl rfl (op_assign ha118 rfl rfl) ?_
           intro a119 ha119; clear ha118 a118
           refine wpList_nil ?_
           refine then_n ?_
           refine wp_ret ?_
           refine then_r ?_
           refine block_r ?_
           refine then_r ?_
           refine then_r ?_
           refine block_r ?_
           refine then_r ?_
           refine ret2 ha119 rfl rfl rfl ?_
           clear ha119 a119
           have hd : rdD s = s.drop 1 := rdD_t hb11 (by omega)
           rw [drop_cons hb108, valGo_bad (by omega)] at hF
           exact ret_mk hx98 (tup2_eq (int_eq (by rw [rdV_none hd hF.symm])) (congrArg Value.bool (by rw [rdV_none hd hF.symm])))
          ·
           rw [decide_eq_false c112] at ha111
           refine wl_val ha111 rfl rfl rfl (op_move ha111 rfl rfl) ?_
           intro a120 ha120; clear ha111 a111
           refine wl_val ha120 rfl rfl rfl (op_move ha120 rfl rfl) ?_
           intro a121 ha121; clear ha120 a120
           refine wl_val ha121 rfl rfl rfl (op_index_str ha121 rfl Try.underlying9 rfl rfl (by omega) hb108) ?_
           intro a122 ha122; clear ha121 a121
           refine wl_val ha122 rfl rfl rfl (op_gtr ha122 rfl rfl rfl) ?_
           intro a123 ha123; clear ha122 a122
           refine wl_val ha123 rfl rfl rfl (op_pick_f ha123 rfl rfl rfl) ?_
           intro a124 ha124; clear ha123 a123
           refine wpList_nil ?_
           refine then_n ?_
           by_cases c125 : (57 : Int) < (b108.toNat : Int)
           ·
            rw [decide_eq_true c125] at ha124
            refine cond_t ha124 rfl ?_
            refine wp_seq ?_
            refine wp_region_lit ?_
            refine wl_val ha124 rfl rfl rfl (op_assign ha124 rfl rfl) ?_
            intro a126 ha126; clear ha124 a124
            refine wl_val ha126 rfl rfl rfl (op_assign ha126 rfl rfl) ?_
            intro a127 ha127; clear ha126 a126
            refine wpList_nil ?_
            refine then_n ?_
            refine wp_ret ?_
            refine then_r ?_
            refine block_r ?_
            refine then_r ?_
            refine then_r ?_
            refine block_r ?_
            refine then_r ?_
            refine ret2 ha127 rfl rfl rfl ?_
            clear ha127 a127
            have hd : rdD s = s.drop 1 := rdD_t hb11 (by omega)
            rw [drop_cons hb108, valGo_bad (by omega)] at hF
            exact ret_mk hx98 (tup2_eq (int_eq (by rw [rdV_none hd hF.symm])) (congrArg Value.bool (by rw [rdV_none hd hF.symm])))
           ·
            rw [decide_eq_false c125] at ha124
            refine cond_f ha124 rfl ?_
            refine wp_skip ?_
            refine then_n ?_
            refine wp_region_lit ?_
            refine wl_val ha124 rfl rfl rfl (op_move ha124 rfl rfl) ?_
            intro a128 ha128; clear ha124 a124
            refine wl_val ha128 rfl rfl rfl ((op_mul ha128 rfl rfl rfl).int (IntWalk.i64_in _ (by omega))) ?_
            intro a129 ha129; clear ha128 a128
            refine wl_val ha129 rfl rfl rfl (op_move ha129 rfl rfl) ?_
            intro a130 ha130; clear ha129 a129
            refine wl_val ha130 rfl rfl rfl (op_move ha130 rfl rfl) ?_
            intro a131 ha131; clear ha130 a130
            refine wl_val ha131 rfl rfl rfl (op_index_str ha131 rfl Try.underlying9 rfl rfl (by omega) hb108) ?_
            intro a132 ha132; clear ha131 a131
            refine wl_val ha132 rfl rfl rfl ((op_sub ha132 rfl rfl rfl).int (IntWalk.u8_in _ (by omega))) ?_
            intro a133 ha133; clear ha132 a132
            refine wl_val ha133 rfl rfl rfl ((op_conv_int ha133 rfl Try.underlying5 Try.underlying2 rfl).int (IntWalk.i64_in _ (by omega))) ?_
            intro a134 ha134; clear ha133 a133
            refine wl_val ha134 rfl rfl rfl ((op_add ha134 rfl rfl rfl).int (IntWalk.i64_in _ (by omega))) ?_
            intro a135 ha135; clear ha134 a134
            refine wl_val ha135 rfl rfl rfl (op_assign ha135 rfl rfl) ?_
            intro a136 ha136; clear ha135 a135
            refine wpList_nil ?_
            refine block_n ?_
            refine then_n ?_
            refine wp_region_lit ?_
            refine wl_val ha136 rfl rfl rfl (op_move ha136 rfl rfl) ?_
            intro a137 ha137; clear ha136 a136
            refine wl_val ha137 rfl rfl rfl ((op_add ha137 rfl rfl rfl).int (IntWalk.i64_in _ (by omega))) ?_
            intro a138 ha138; clear ha137 a137
            refine wl_val ha138 rfl rfl rfl (op_assign ha138 rfl rfl) ?_
            intro a139 ha139; clear ha138 a138
            refine wpList_nil ?_
            refine round_end (x := (i, n)) ((i + 1), (((10 : Int) * n) + ((b108.toNat : Int) - (48 : Int)))) ?_ ?_
            ·
             refine ⟨(Sl.cons_ ha139 rfl rfl (Sl.cons_ ha139 rfl rfl (Sl.cons_ ha139 rfl (int_eq (by omega)) (Sl.cons_ ha139 rfl (int_eq (by omega)) (Sl.nil_ ha139))))), hx98, (by omega), (by omega), (by omega), (by rw [h10]; omega), (by rw [drop_cons hb108, valGo_ok (by omega) (by omega)] at hF; exact hF)⟩
            ·show ((s.drop 1).length - ((i + 1)) : Nat) < (s.drop 1).length - i; omega
         ·
          rw [decide_eq_false c105] at ha104
          refine cond_f ha104 rfl ?_
          refine wp_exit ?_
          refine then_e ?_
          refine then_e ?_
          refine block_hit ?_
          refine then_n ?_
          refine wp_seq ?_
          refine wp_seq ?_
          refine wp_region_lit ?_
          refine wl_val ha104 rfl rfl rfl (op_move ha104 rfl rfl) ?_
          intro a140 ha140; clear ha104 a104
          refine wl_val ha140 rfl rfl rfl (op_len_str ha140 rfl Try.underlying9 rfl) ?_
          intro a141 ha141; clear ha140 a140
          refine wl_val ha141 rfl rfl rfl (op_move ha141 rfl rfl) ?_
          intro a142 ha142; clear ha141 a141
          refine wl_val ha142 rfl rfl rfl (op_len_str ha142 rfl Try.underlying9 rfl) ?_
          intro a143 ha143; clear ha142 a142
          refine wl_val ha143 rfl rfl rfl (op_lss ha143 rfl rfl rfl) ?_
          intro a144 ha144; clear ha143 a143
          refine wpList_nil ?_
          refine then_n ?_
          by_cases c145 : (((s.drop 1).length : Nat) : Int) < ((s.length : Nat) : Int)
          ·
           rw [decide_eq_true c145] at ha144
           refine cond_t ha144 rfl ?_
           refine wp_region_lit ?_
           refine wl_val ha144 rfl rfl rfl (op_move ha144 rfl rfl) ?_
           intro a146 ha146; clear ha144 a144
           refine wl_val ha146 rfl rfl rfl ((op_neg ha146 rfl rfl).int (IntWalk.i64_in _ (by omega))) ?_
           intro a147 ha147; clear ha146 a146
           refine wl_val ha147 rfl rfl rfl (op_assign ha147 rfl rfl) ?_
           intro a148 ha148; clear ha147 a147
           refine wpList_nil ?_
           refine then_n ?_
           refine wp_seq ?_
           refine wp_region_lit ?_
           refine wl_val ha148 rfl rfl rfl (op_move ha148 rfl rfl) ?_
           intro a149 ha149; clear ha148 a148
           refine wl_val ha149 rfl rfl rfl (op_assign ha149 rfl rfl) ?_
           intro a150 ha150; clear ha149 a149
           refine wl_val ha150 rfl rfl rfl (op_assign ha150 rfl rfl) ?_
           intro a151 ha151; clear ha150 a150
           refine wpList_nil ?_
           refine then_n ?_
           refine wp_ret ?_
           refine ret2 ha151 rfl rfl rfl ?_
           clear ha151 a151
           have hd : rdD s = s.drop 1 := rdD_t hb11 (by omega)
           rw [drop_nil (by omega), valGo_nil] at hF
           exact ret_mk hx98 (tup2_eq (int_eq (by rw [rdV_some hd (by unfold rdBad; rw [chI_eq hb68]; simp only [Option.some.injEq]; omega) hF.symm] <;> rw [if_pos (by omega)])) (congrArg Value.bool (by rw [rdV_some hd (by unfold rdBad; rw [chI_eq hb68]; simp only [Option.some.injEq]; omega) hF.symm] <;> rw [if_pos (by omega)])))
          ·
           rw [decide_eq_false c145] at ha144
           refine cond_f ha144 rfl ?_
           refine wp_skip ?_
           refine then_n ?_
           refine wp_seq ?_
           refine wp_region_lit ?_
           refine wl_val ha144 rfl rfl rfl (op_move ha144 rfl rfl) ?_
           intro a152 ha152; clear ha144 a144
           refine wl_val ha152 rfl rfl rfl (op_assign ha152 rfl rfl) ?_
           intro a153 ha153; clear ha152 a152
           refine wl_val ha153 rfl rfl rfl (op_assign ha153 rfl rfl) ?_
           intro a154 ha154; clear ha153 a153
           refine wpList_nil ?_
           refine then_n ?_
           refine wp_ret ?_
           refine ret2 ha154 rfl rfl rfl ?_
           clear ha154 a154
           have hd : rdD s = s.drop 1 := rdD_t hb11 (by omega)
           rw [drop_nil (by omega), valGo_nil] at hF
           exact ret_mk hx98 (tup2_eq (int_eq (by rw [rdV_some hd (by unfold rdBad; rw [chI_eq hb68]; simp only [Option.some.injEq]; omega) hF.symm] <;> rw [if_neg (by omega)])) (congrArg Value.bool (by rw [rdV_some hd (by unfold rdBad; rw [chI_eq hb68]; simp only [Option.some.injEq]; omega) hF.symm] <;> rw [if_neg (by omega)])))
     ·
      rw [decide_eq_false c72] at ha71
      refine wl_skip ha71 rfl rfl rfl ?_
      intro a155 ha155; clear ha71 a71
      refine wl_skip ha155 rfl rfl rfl ?_
      intro a156 ha156; clear ha155 a155
      refine wl_skip ha156 rfl rfl rfl ?_
      intro a157 ha157; clear ha156 a156
      refine wl_skip ha157 rfl rfl rfl ?_
      intro a158 ha158; clear ha157 a157
      refine wl_skip ha158 rfl rfl rfl ?_
      intro a159 ha159; clear ha158 a158
      refine wl_skip ha159 rfl rfl rfl ?_
      intro a160 ha160; clear ha159 a159
      refine wl_skip ha160 rfl rfl rfl ?_
      intro a161 ha161; clear ha160 a160
      refine wl_skip ha161 rfl rfl rfl ?_
      intro a162 ha162; clear ha161 a161
      refine wl_val ha162 rfl rfl rfl (op_pick_f ha162 rfl rfl rfl) ?_
      intro a163 ha163; clear ha162 a162
      refine wl_val ha163 rfl rfl rfl (op_pick_f ha163 rfl rfl rfl) ?_
      intro a164 ha164; clear ha163 a163
      refine wpList_nil ?_
      refine then_n ?_
      refine cond_f ha164 rfl ?_
      refine wp_skip ?_
      refine then_n ?_
      refine wp_seq ?_
      refine wp_region_lit ?_
      refine wl_val ha164 rfl rfl rfl (op_assign ha164 rfl rfl) ?_
      intro a165 ha165; clear ha164 a164
      refine wpList_nil ?_
      refine then_n ?_
      refine wp_seq ?_
      refine wp_seq ?_
      refine wp_region_lit ?_
      refine wl_val ha165 rfl rfl rfl (op_assign ha165 rfl rfl) ?_
      intro a166 ha166; clear ha165 a165
      refine wpList_nil ?_
      refine then_n ?_
      refine wp_block ?_
      refine loop_inv (X := Nat × Int) (fun (⟨i, n⟩ : Nat × Int) fr wl => Sl 73 fr [(0, St s), (4, St (s.drop 1)), (5, .int .i64 n), (6, .int .i64 ((i : Nat) : Int))] ∧ Ext w0 wl ∧ w0.heap.size ≤ wl.heap.size ∧ (i ≤ (s.drop 1).length) ∧ (0 ≤ n) ∧ (n < ((10 ^ i : Nat) : Int)) ∧ (valGo n ((s.drop 1).drop i) = valGo 0 (s.drop 1))) (fun (⟨i, n⟩ : Nat × Int) => (s.drop 1).length - i) (0, (0 : Int)) ?_ ?_
      ·
       exact ⟨(Sl.cons_ ha166 rfl rfl (Sl.cons_ ha166 rfl rfl (Sl.cons_ ha166 rfl (int_eq (by omega)) (Sl.cons_ ha166 rfl (int_eq (by omega)) (Sl.nil_ ha166))))), hx0, (by omega), (by omega), (by omega), (by simp), (by rfl)⟩
      ·
       clear ha166 a166
       rintro ⟨i, n⟩ a169 w167 ⟨ha169, hx168, hzl170, hi, hn0, hn1, hF⟩
       have hzhx168 := hx168.size
       have h17 := pow17 (i := i)
       have h18 := pow18 (i := i)
       have h10 : (10 : Nat) ^ (i + 1) = 10 ^ i * 10 := by rw [Nat.pow_succ]
       refine wp_seq ?_
       refine wp_seq ?_
       refine wp_region_lit ?_
       refine wl_val ha169 rfl rfl rfl (op_move ha169 rfl rfl) ?_
       intro a171 ha171; clear ha169 a169
       refine wl_val ha171 rfl rfl rfl (op_move ha171 rfl rfl) ?_
       intro a172 ha172; clear ha171 a171
       refine wl_val ha172 rfl rfl rfl (op_len_str ha172 rfl Try.underlying9 rfl) ?_
       intro a173 ha173; clear ha172 a172
       refine wl_val ha173 rfl rfl rfl (op_lss ha173 rfl rfl rfl) ?_
       intro a174 ha174; clear ha173 a173
       refine wpList_nil ?_
       refine then_n ?_
       by_cases c175 : ((i : Nat) : Int) < (((s.drop 1).length : Nat) : Int)
       ·
        rw [decide_eq_true c175] at ha174
        refine cond_t ha174 rfl ?_
        refine wp_skip ?_
        refine then_n ?_
        refine wp_seq ?_
        refine wp_block ?_
        refine wp_seq ?_
        refine wp_seq ?_
        refine wp_region_lit ?_
        refine wl_val ha174 rfl rfl rfl (op_move ha174 rfl rfl) ?_
        intro a176 ha176; clear ha174 a174
        refine wl_val ha176 rfl rfl rfl (op_move ha176 rfl rfl) ?_
        intro a177 ha177; clear ha176 a176
        obtain ⟨b178, hb178⟩ := get_ex (xs := s.drop 1) (j := i) (by omega)
        have b178_lt := b178.toNat_lt
        refine wl_val ha177 rfl rfl rfl (op_index_str ha177 rfl Try.underlying9 rfl rfl (by omega) hb178) ?_
        intro a179 ha179; clear ha177 a177
        refine wl_val ha179 rfl rfl rfl (op_lss ha179 rfl rfl rfl) ?_
        intro a180 ha180; clear ha179 a179
        refine wl_val ha180 rfl rfl rfl (op_move ha180 rfl rfl) ?_
        intro a181 ha181; clear ha180 a180
        by_cases c182 : (b178.toNat : Int) < (48 : Int)
        ·
         rw [decide_eq_true c182] at ha181
         refine wl_skip ha181 rfl rfl rfl ?_
         intro a183 ha183; clear ha181 a181
         refine wl_skip ha183 rfl rfl rfl ?_
         intro a184 ha184; clear ha183 a183
         refine wl_skip ha184 rfl rfl rfl ?_
         intro a185 ha185; clear ha184 a184
         refine wl_skip ha185 rfl rfl rfl ?_
         intro a186 ha186; clear ha185 a185
         refine wl_val ha186 rfl rfl rfl (op_pick_t ha186 rfl rfl rfl) ?_
         intro a187 ha187; clear ha186 a186
         refine wpList_nil ?_
         refine then_n ?_
         refine cond_t ha187 rfl ?_
         refine wp_seq ?_
         refine wp_region_lit ?_
         refine wl_val ha187 rfl rfl rfl (op_assign ha187 rfl rfl) ?_
         intro a188 ha188; clear ha187 a187
         refine wl_val ha188 rfl rfl rfl (op_assign ha188 rfl rfl) ?_
         intro a189 ha189; clear ha188 a188
         refine wpList_nil ?_
         refine then_n ?_
         refine wp_ret ?_
         refine then_r ?_
         refine block_r ?_
         refine then_r ?_
         refine then_r ?_
         refine block_r ?_
         refine then_r ?_
         refine ret2 ha189 rfl rfl rfl ?_
         clear ha189 a189
         have hd : rdD s = s.drop 1 := rdD_t hb11 (by omega)
         rw [drop_cons hb178, valGo_bad (by omega)] at hF
         exact ret_mk hx168 (tup2_eq (int_eq (by rw [rdV_none hd hF.symm])) (congrArg Value.bool (by rw [rdV_none hd hF.symm])))
        ·
         rw [decide_eq_false c182] at ha181
         refine wl_val ha181 rfl rfl rfl (op_move ha181 rfl rfl) ?_
         intro a190 ha190; clear ha181 a181
         refine wl_val ha190 rfl rfl rfl (op_move ha190 rfl rfl) ?_
         intro a191 ha191; clear ha190 a190
         refine wl_val ha191 rfl rfl rfl (op_index_str ha191 rfl Try.underlying9 rfl rfl (by omega) hb178) ?_
         intro a192 ha192; clear ha191 a191
         refine wl_val ha192 rfl rfl rfl (op_gtr ha192 rfl rfl rfl) ?_
         intro a193 ha193; clear ha192 a192
         refine wl_val ha193 rfl rfl rfl (op_pick_f ha193 rfl rfl rfl) ?_
         intro a194 ha194; clear ha193 a193
         refine wpList_nil ?_
         refine then_n ?_
         by_cases c195 : (57 : Int) < (b178.toNat : Int)
         ·
          rw [decide_eq_true c195] at ha194
          refine cond_t ha194 rfl ?_
          refine wp_seq ?_
          refine wp_region_lit ?_
          refine wl_val ha194 rfl rfl rfl (op_assign ha194 rfl rfl) ?_
          intro a196 ha196; clear ha194 a194
          refine wl_val ha196 rfl rfl rfl (op_assign ha196 rfl rfl) ?_
          intro a197 ha197; clear ha196 a196
          refine wpList_nil ?_
          refine then_n ?_
          refine wp_ret ?_
          refine then_r ?_
          refine block_r ?_
          refine then_r ?_
          refine then_r ?_
          refine block_r ?_
          refine then_r ?_
          refine ret2 ha197 rfl rfl rfl ?_
          clear ha197 a197
          have hd : rdD s = s.drop 1 := rdD_t hb11 (by omega)
          rw [drop_cons hb178, valGo_bad (by omega)] at hF
          exact ret_mk hx168 (tup2_eq (int_eq (by rw [rdV_none hd hF.symm])) (congrArg Value.bool (by rw [rdV_none hd hF.symm])))
         ·
          rw [decide_eq_false c195] at ha194
          refine cond_f ha194 rfl ?_
          refine wp_skip ?_
          refine then_n ?_
          refine wp_region_lit ?_
          refine wl_val ha194 rfl rfl rfl (op_move ha194 rfl rfl) ?_
          intro a198 ha198; clear ha194 a194
          refine wl_val ha198 rfl rfl rfl ((op_mul ha198 rfl rfl rfl).int (IntWalk.i64_in _ (by omega))) ?_
          intro a199 ha199; clear ha198 a198
          refine wl_val ha199 rfl rfl rfl (op_move ha199 rfl rfl) ?_
          intro a200 ha200; clear ha199 a199
          refine wl_val ha200 rfl rfl rfl (op_move ha200 rfl rfl) ?_
          intro a201 ha201; clear ha200 a200
          refine wl_val ha201 rfl rfl rfl (op_index_str ha201 rfl Try.underlying9 rfl rfl (by omega) hb178) ?_
          intro a202 ha202; clear ha201 a201
          refine wl_val ha202 rfl rfl rfl ((op_sub ha202 rfl rfl rfl).int (IntWalk.u8_in _ (by omega))) ?_
          intro a203 ha203; clear ha202 a202
          refine wl_val ha203 rfl rfl rfl ((op_conv_int ha203 rfl Try.underlying5 Try.underlying2 rfl).int (IntWalk.i64_in _ (by omega))) ?_
          intro a204 ha204; clear ha203 a203
          refine wl_val ha204 rfl rfl rfl ((op_add ha204 rfl rfl rfl).int (IntWalk.i64_in _ (by omega))) ?_
          intro a205 ha205; clear ha204 a204
          refine wl_val ha205 rfl rfl rfl (op_assign ha205 rfl rfl) ?_
          intro a206 ha206; clear ha205 a205
          refine wpList_nil ?_
          refine block_n ?_
          refine then_n ?_
          refine wp_region_lit ?_
          refine wl_val ha206 rfl rfl rfl (op_move ha206 rfl rfl) ?_
          intro a207 ha207; clear ha206 a206
          refine wl_val ha207 rfl rfl rfl ((op_add ha207 rfl rfl rfl).int (IntWalk.i64_in _ (by omega))) ?_
          intro a208 ha208; clear ha207 a207
          refine wl_val ha208 rfl rfl rfl (op_assign ha208 rfl rfl) ?_
          intro a209 ha209; clear ha208 a208
          refine wpList_nil ?_
          refine round_end (x := (i, n)) ((i + 1), (((10 : Int) * n) + ((b178.toNat : Int) - (48 : Int)))) ?_ ?_
          ·
           refine ⟨(Sl.cons_ ha209 rfl rfl (Sl.cons_ ha209 rfl rfl (Sl.cons_ ha209 rfl (int_eq (by omega)) (Sl.cons_ ha209 rfl (int_eq (by omega)) (Sl.nil_ ha209))))), hx168, (by omega), (by omega), (by omega), (by rw [h10]; omega), (by rw [drop_cons hb178, valGo_ok (by omega) (by omega)] at hF; exact hF)⟩
          ·show ((s.drop 1).length - ((i + 1)) : Nat) < (s.drop 1).length - i; omega
       ·
        rw [decide_eq_false c175] at ha174
        refine cond_f ha174 rfl ?_
        refine wp_exit ?_
        refine then_e ?_
        refine then_e ?_
        refine block_hit ?_
        refine then_n ?_
        refine wp_seq ?_
        refine wp_seq ?_
        refine wp_region_lit ?_
        refine wl_val ha174 rfl rfl rfl (op_move ha174 rfl rfl) ?_
        intro a210 ha210; clear ha174 a174
        refine wl_val ha210 rfl rfl rfl (op_len_str ha210 rfl Try.underlying9 rfl) ?_
        intro a211 ha211; clear ha210 a210
        refine wl_val ha211 rfl rfl rfl (op_move ha211 rfl rfl) ?_
        intro a212 ha212; clear ha211 a211
        refine wl_val ha212 rfl rfl rfl (op_len_str ha212 rfl Try.underlying9 rfl) ?_
        intro a213 ha213; clear ha212 a212
        refine wl_val ha213 rfl rfl rfl (op_lss ha213 rfl rfl rfl) ?_
        intro a214 ha214; clear ha213 a213
        refine wpList_nil ?_
        refine then_n ?_
        by_cases c215 : (((s.drop 1).length : Nat) : Int) < ((s.length : Nat) : Int)
        ·
         rw [decide_eq_true c215] at ha214
         refine cond_t ha214 rfl ?_
         refine wp_region_lit ?_
         refine wl_val ha214 rfl rfl rfl (op_move ha214 rfl rfl) ?_
         intro a216 ha216; clear ha214 a214
         refine wl_val ha216 rfl rfl rfl ((op_neg ha216 rfl rfl).int (IntWalk.i64_in _ (by omega))) ?_
         intro a217 ha217; clear ha216 a216
         refine wl_val ha217 rfl rfl rfl (op_assign ha217 rfl rfl) ?_
         intro a218 ha218; clear ha217 a217
         refine wpList_nil ?_
         refine then_n ?_
         refine wp_seq ?_
         refine wp_region_lit ?_
         refine wl_val ha218 rfl rfl rfl (op_move ha218 rfl rfl) ?_
         intro a219 ha219; clear ha218 a218
         refine wl_val ha219 rfl rfl rfl (op_assign ha219 rfl rfl) ?_
         intro a220 ha220; clear ha219 a219
         refine wl_val ha220 rfl rfl rfl (op_assign ha220 rfl rfl) ?_
         intro a221 ha221; clear ha220 a220
         refine wpList_nil ?_
         refine then_n ?_
         refine wp_ret ?_
         refine ret2 ha221 rfl rfl rfl ?_
         clear ha221 a221
         have hd : rdD s = s.drop 1 := rdD_t hb11 (by omega)
         rw [drop_nil (by omega), valGo_nil] at hF
         exact ret_mk hx168 (tup2_eq (int_eq (by rw [rdV_some hd (by unfold rdBad; rw [chI_eq hb68]; simp only [Option.some.injEq]; omega) hF.symm] <;> rw [if_pos (by omega)])) (congrArg Value.bool (by rw [rdV_some hd (by unfold rdBad; rw [chI_eq hb68]; simp only [Option.some.injEq]; omega) hF.symm] <;> rw [if_pos (by omega)])))
        ·
         rw [decide_eq_false c215] at ha214
         refine cond_f ha214 rfl ?_
         refine wp_skip ?_
         refine then_n ?_
         refine wp_seq ?_
         refine wp_region_lit ?_
         refine wl_val ha214 rfl rfl rfl (op_move ha214 rfl rfl) ?_
         intro a222 ha222; clear ha214 a214
         refine wl_val ha222 rfl rfl rfl (op_assign ha222 rfl rfl) ?_
         intro a223 ha223; clear ha222 a222
         refine wl_val ha223 rfl rfl rfl (op_assign ha223 rfl rfl) ?_
         intro a224 ha224; clear ha223 a223
         refine wpList_nil ?_
         refine then_n ?_
         refine wp_ret ?_
         refine ret2 ha224 rfl rfl rfl ?_
         clear ha224 a224
         have hd : rdD s = s.drop 1 := rdD_t hb11 (by omega)
         rw [drop_nil (by omega), valGo_nil] at hF
         exact ret_mk hx168 (tup2_eq (int_eq (by rw [rdV_some hd (by unfold rdBad; rw [chI_eq hb68]; simp only [Option.some.injEq]; omega) hF.symm] <;> rw [if_neg (by omega)])) (congrArg Value.bool (by rw [rdV_some hd (by unfold rdBad; rw [chI_eq hb68]; simp only [Option.some.injEq]; omega) hF.symm] <;> rw [if_neg (by omega)])))
  ·
   rw [decide_eq_false c15] at ha14
   refine cond_f ha14 rfl ?_
   refine wp_skip ?_
   refine then_n ?_
   refine wp_seq ?_
   refine wp_seq ?_
   refine wp_region_lit ?_
   refine wl_val ha14 rfl rfl rfl (op_move ha14 rfl rfl) ?_
   intro a225 ha225; clear ha14 a14
   refine wl_val ha225 rfl rfl rfl (op_len_str ha225 rfl Try.underlying9 rfl) ?_
   intro a226 ha226; clear ha225 a225
   refine wl_val ha226 rfl rfl rfl (op_eql ha226 rfl rfl rfl) ?_
   intro a227 ha227; clear ha226 a226
   refine wl_val ha227 rfl rfl rfl (op_move ha227 rfl rfl) ?_
   intro a228 ha228; clear ha227 a227
   by_cases c229 : ((s.length : Nat) : Int) = (0 : Int)
   ·
    rw [decide_eq_true c229] at ha228
    refine wl_skip ha228 rfl rfl rfl ?_
    intro a230 ha230; clear ha228 a228
    refine wl_skip ha230 rfl rfl rfl ?_
    intro a231 ha231; clear ha230 a230
    refine wl_skip ha231 rfl rfl rfl ?_
    intro a232 ha232; clear ha231 a231
    refine wl_val ha232 rfl rfl rfl (op_pick_t ha232 rfl rfl rfl) ?_
    intro a233 ha233; clear ha232 a232
    refine wl_val ha233 rfl rfl rfl (op_move ha233 rfl rfl) ?_
    intro a234 ha234; clear ha233 a233
    refine wl_skip ha234 rfl rfl rfl ?_
    intro a235 ha235; clear ha234 a234
    refine wl_skip ha235 rfl rfl rfl ?_
    intro a236 ha236; clear ha235 a235
    refine wl_skip ha236 rfl rfl rfl ?_
    intro a237 ha237; clear ha236 a236
    refine wl_skip ha237 rfl rfl rfl ?_
    intro a238 ha238; clear ha237 a237
    refine wl_skip ha238 rfl rfl rfl ?_
    intro a239 ha239; clear ha238 a238
    refine wl_skip ha239 rfl rfl rfl ?_
    intro a240 ha240; clear ha239 a239
    refine wl_skip ha240 rfl rfl rfl ?_
    intro a241 ha241; clear ha240 a240
    refine wl_skip ha241 rfl rfl rfl ?_
    intro a242 ha242; clear ha241 a241
    refine wl_skip ha242 rfl rfl rfl ?_
    intro a243 ha243; clear ha242 a242
    refine wl_skip ha243 rfl rfl rfl ?_
    intro a244 ha244; clear ha243 a243
    refine wl_skip ha244 rfl rfl rfl ?_
    intro a245 ha245; clear ha244 a244
    refine wl_skip ha245 rfl rfl rfl ?_
    intro a246 ha246; clear ha245 a245
    refine wl_skip ha246 rfl rfl rfl ?_
    intro a247 ha247; clear ha246 a246
    refine wl_val ha247 rfl rfl rfl (op_pick_t ha247 rfl rfl rfl) ?_
    intro a248 ha248; clear ha247 a247
    refine wpList_nil ?_
    refine then_n ?_
    refine cond_t ha248 rfl ?_
    refine wp_seq ?_
    refine wp_region_lit ?_
    refine wl_val ha248 rfl rfl rfl (op_assign ha248 rfl rfl) ?_
    intro a249 ha249; clear ha248 a248
    refine wl_val ha249 rfl rfl rfl (op_assign ha249 rfl rfl) ?_
    intro a250 ha250; clear ha249 a249
    refine wpList_nil ?_
    refine then_n ?_
    refine wp_ret ?_
    refine then_r ?_
    refine ret2 ha250 rfl rfl rfl ?_
    clear ha250 a250
    have hd : rdD s = s := rdD_f hb11 (by omega)
    exact ret_mk hx0 (tup2_eq (int_eq (by rw [rdV_bad hd (by unfold rdBad; rw [chI_eq hb11]; simp only [Option.some.injEq]; omega)])) (congrArg Value.bool (by rw [rdV_bad hd (by unfold rdBad; rw [chI_eq hb11]; simp only [Option.some.injEq]; omega)])))
   ·
    rw [decide_eq_false c229] at ha228
    refine wl_val ha228 rfl rfl rfl (op_move ha228 rfl rfl) ?_
    intro a251 ha251; clear ha228 a228
    refine wl_val ha251 rfl rfl rfl (op_len_str ha251 rfl Try.underlying9 rfl) ?_
    intro a252 ha252; clear ha251 a251
    refine wl_val ha252 rfl rfl rfl (op_gtr ha252 rfl rfl rfl) ?_
    intro a253 ha253; clear ha252 a252
    refine wl_val ha253 rfl rfl rfl (op_pick_f ha253 rfl rfl rfl) ?_
    intro a254 ha254; clear ha253 a253
    refine wl_val ha254 rfl rfl rfl (op_move ha254 rfl rfl) ?_
    intro a255 ha255; clear ha254 a254
    by_cases c256 : (18 : Int) < ((s.length : Nat) : Int)
    ·
     rw [decide_eq_true c256] at ha255
     refine wl_skip ha255 rfl rfl rfl ?_
     intro a257 ha257; clear ha255 a255
     refine wl_skip ha257 rfl rfl rfl ?_
     intro a258 ha258; clear ha257 a257
     refine wl_skip ha258 rfl rfl rfl ?_
     intro a259 ha259; clear ha258 a258
     refine wl_skip ha259 rfl rfl rfl ?_
     intro a260 ha260; clear ha259 a259
     refine wl_skip ha260 rfl rfl rfl ?_
     intro a261 ha261; clear ha260 a260
     refine wl_skip ha261 rfl rfl rfl ?_
     intro a262 ha262; clear ha261 a261
     refine wl_skip ha262 rfl rfl rfl ?_
     intro a263 ha263; clear ha262 a262
     refine wl_skip ha263 rfl rfl rfl ?_
     intro a264 ha264; clear ha263 a263
     refine wl_skip ha264 rfl rfl rfl ?_
     intro a265 ha265; clear ha264 a264
     refine wl_skip ha265 rfl rfl rfl ?_
     intro a266 ha266; clear ha265 a265
     refine wl_skip ha266 rfl rfl rfl ?_
     intro a267 ha267; clear ha266 a266
     refine wl_skip ha267 rfl rfl rfl ?_
     intro a268 ha268; clear ha267 a267
     refine wl_skip ha268 rfl rfl rfl ?_
     intro a269 ha269; clear ha268 a268
     refine wl_val ha269 rfl rfl rfl (op_pick_t ha269 rfl rfl rfl) ?_
     intro a270 ha270; clear ha269 a269
     refine wpList_nil ?_
     refine then_n ?_
     refine cond_t ha270 rfl ?_
     refine wp_seq ?_
     refine wp_region_lit ?_
     refine wl_val ha270 rfl rfl rfl (op_assign ha270 rfl rfl) ?_
     intro a271 ha271; clear ha270 a270
     refine wl_val ha271 rfl rfl rfl (op_assign ha271 rfl rfl) ?_
     intro a272 ha272; clear ha271 a271
     refine wpList_nil ?_
     refine then_n ?_
     refine wp_ret ?_
     refine then_r ?_
     refine ret2 ha272 rfl rfl rfl ?_
     clear ha272 a272
     have hd : rdD s = s := rdD_f hb11 (by omega)
     exact ret_mk hx0 (tup2_eq (int_eq (by rw [rdV_bad hd (by unfold rdBad; rw [chI_eq hb11]; simp only [Option.some.injEq]; omega)])) (congrArg Value.bool (by rw [rdV_bad hd (by unfold rdBad; rw [chI_eq hb11]; simp only [Option.some.injEq]; omega)])))
    ·
     rw [decide_eq_false c256] at ha255
     refine wl_val ha255 rfl rfl rfl (op_move ha255 rfl rfl) ?_
     intro a273 ha273; clear ha255 a255
     refine wl_val ha273 rfl rfl rfl (op_index_str ha273 rfl Try.underlying9 rfl rfl (by omega) hb11) ?_
     intro a274 ha274; clear ha273 a273
     refine wl_val ha274 rfl rfl rfl (op_eql ha274 rfl rfl rfl) ?_
     intro a275 ha275; clear ha274 a274
     refine wl_val ha275 rfl rfl rfl (op_move ha275 rfl rfl) ?_
     intro a276 ha276; clear ha275 a275
     by_cases c277 : (b11.toNat : Int) = (48 : Int)
     ·
      rw [decide_eq_true c277] at ha276
      refine wl_val ha276 rfl rfl rfl (op_move ha276 rfl rfl) ?_
      intro a278 ha278; clear ha276 a276
      refine wl_val ha278 rfl rfl rfl (op_len_str ha278 rfl Try.underlying9 rfl) ?_
      intro a279 ha279; clear ha278 a278
      refine wl_val ha279 rfl rfl rfl (op_gtr ha279 rfl rfl rfl) ?_
      intro a280 ha280; clear ha279 a279
      refine wl_val ha280 rfl rfl rfl (op_move ha280 rfl rfl) ?_
      intro a281 ha281; clear ha280 a280
      by_cases c282 : (1 : Int) < ((s.length : Nat) : Int)
      ·
       rw [decide_eq_true c282] at ha281
       refine wl_skip ha281 rfl rfl rfl ?_
       intro a283 ha283; clear ha281 a281
       refine wl_skip ha283 rfl rfl rfl ?_
       intro a284 ha284; clear ha283 a283
       refine wl_skip ha284 rfl rfl rfl ?_
       intro a285 ha285; clear ha284 a284
       refine wl_val ha285 rfl rfl rfl (op_pick_t ha285 rfl rfl rfl) ?_
       intro a286 ha286; clear ha285 a285
       refine wl_val ha286 rfl rfl rfl (op_pick_t ha286 rfl rfl rfl) ?_
       intro a287 ha287; clear ha286 a286
       refine wl_val ha287 rfl rfl rfl (op_pick_f ha287 rfl rfl rfl) ?_
       intro a288 ha288; clear ha287 a287
       refine wpList_nil ?_
       refine then_n ?_
       refine cond_t ha288 rfl ?_
       refine wp_seq ?_
       refine wp_region_lit ?_
       refine wl_val ha288 rfl rfl rfl (op_assign ha288 rfl rfl) ?_
       intro a289 ha289; clear ha288 a288
       refine wl_val ha289 rfl rfl rfl (op_assign ha289 rfl rfl) ?_
       intro a290 ha290; clear ha289 a289
       refine wpList_nil ?_
       refine then_n ?_
       refine wp_ret ?_
       refine then_r ?_
       refine ret2 ha290 rfl rfl rfl ?_
       clear ha290 a290
       have hd : rdD s = s := rdD_f hb11 (by omega)
       exact ret_mk hx0 (tup2_eq (int_eq (by rw [rdV_bad hd (by unfold rdBad; rw [chI_eq hb11]; simp only [Option.some.injEq]; omega)])) (congrArg Value.bool (by rw [rdV_bad hd (by unfold rdBad; rw [chI_eq hb11]; simp only [Option.some.injEq]; omega)])))
      ·
       rw [decide_eq_false c282] at ha281
       refine wl_val ha281 rfl rfl rfl (op_move ha281 rfl rfl) ?_
       intro a291 ha291; clear ha281 a281
       refine wl_val ha291 rfl rfl rfl (op_len_str ha291 rfl Try.underlying9 rfl) ?_
       intro a292 ha292; clear ha291 a291
       refine wl_val ha292 rfl rfl rfl (op_gtr ha292 rfl rfl rfl) ?_
       intro a293 ha293; clear ha292 a292
       refine wl_val ha293 rfl rfl rfl (op_pick_f ha293 rfl rfl rfl) ?_
       intro a294 ha294; clear ha293 a293
       refine wl_val ha294 rfl rfl rfl (op_pick_t ha294 rfl rfl rfl) ?_
       intro a295 ha295; clear ha294 a294
       refine wl_val ha295 rfl rfl rfl (op_pick_f ha295 rfl rfl rfl) ?_
       intro a296 ha296; clear ha295 a295
       refine wpList_nil ?_
       refine then_n ?_
       rw [decide_eq_false c282] at ha296
       refine cond_f ha296 rfl ?_
       refine wp_skip ?_
       refine then_n ?_
       refine wp_seq ?_
       refine wp_region_lit ?_
       refine wl_val ha296 rfl rfl rfl (op_assign ha296 rfl rfl) ?_
       intro a297 ha297; clear ha296 a296
       refine wpList_nil ?_
       refine then_n ?_
       refine wp_seq ?_
       refine wp_seq ?_
       refine wp_region_lit ?_
       refine wl_val ha297 rfl rfl rfl (op_assign ha297 rfl rfl) ?_
       intro a298 ha298; clear ha297 a297
       refine wpList_nil ?_
       refine then_n ?_
       refine wp_block ?_
       refine loop_inv (X := Nat × Int) (fun (⟨i, n⟩ : Nat × Int) fr wl => Sl 73 fr [(0, St s), (4, St s), (5, .int .i64 n), (6, .int .i64 ((i : Nat) : Int))] ∧ Ext w0 wl ∧ w0.heap.size ≤ wl.heap.size ∧ (i ≤ s.length) ∧ (0 ≤ n) ∧ (n < ((10 ^ i : Nat) : Int)) ∧ (valGo n (s.drop i) = valGo 0 s)) (fun (⟨i, n⟩ : Nat × Int) => s.length - i) (0, (0 : Int)) ?_ ?_
       ·
        exact ⟨(Sl.cons_ ha298 rfl rfl (Sl.cons_ ha298 rfl rfl (Sl.cons_ ha298 rfl (int_eq (by omega)) (Sl.cons_ ha298 rfl (int_eq (by omega)) (Sl.nil_ ha298))))), hx0, (by omega), (by omega), (by omega), (by simp), (by rfl)⟩
       ·
        clear ha298 a298
        rintro ⟨i, n⟩ a301 w299 ⟨ha301, hx300, hzl302, hi, hn0, hn1, hF⟩
        have hzhx300 := hx300.size
        have h17 := pow17 (i := i)
        have h18 := pow18 (i := i)
        have h10 : (10 : Nat) ^ (i + 1) = 10 ^ i * 10 := by rw [Nat.pow_succ]
        refine wp_seq ?_
        refine wp_seq ?_
        refine wp_region_lit ?_
        refine wl_val ha301 rfl rfl rfl (op_move ha301 rfl rfl) ?_
        intro a303 ha303; clear ha301 a301
        refine wl_val ha303 rfl rfl rfl (op_move ha303 rfl rfl) ?_
        intro a304 ha304; clear ha303 a303
        refine wl_val ha304 rfl rfl rfl (op_len_str ha304 rfl Try.underlying9 rfl) ?_
        intro a305 ha305; clear ha304 a304
        refine wl_val ha305 rfl rfl rfl (op_lss ha305 rfl rfl rfl) ?_
        intro a306 ha306; clear ha305 a305
        refine wpList_nil ?_
        refine then_n ?_
        by_cases c307 : ((i : Nat) : Int) < ((s.length : Nat) : Int)
        ·
         rw [decide_eq_true c307] at ha306
         refine cond_t ha306 rfl ?_
         refine wp_skip ?_
         refine then_n ?_
         refine wp_seq ?_
         refine wp_block ?_
         refine wp_seq ?_
         refine wp_seq ?_
         refine wp_region_lit ?_
         refine wl_val ha306 rfl rfl rfl (op_move ha306 rfl rfl) ?_
         intro a308 ha308; clear ha306 a306
         refine wl_val ha308 rfl rfl rfl (op_move ha308 rfl rfl) ?_
         intro a309 ha309; clear ha308 a308
         obtain ⟨b310, hb310⟩ := get_ex (xs := s) (j := i) (by omega)
         have b310_lt := b310.toNat_lt
         refine wl_val ha309 rfl rfl rfl (op_index_str ha309 rfl Try.underlying9 rfl rfl (by omega) hb310) ?_
         intro a311 ha311; clear ha309 a309
         refine wl_val ha311 rfl rfl rfl (op_lss ha311 rfl rfl rfl) ?_
         intro a312 ha312; clear ha311 a311
         refine wl_val ha312 rfl rfl rfl (op_move ha312 rfl rfl) ?_
         intro a313 ha313; clear ha312 a312
         by_cases c314 : (b310.toNat : Int) < (48 : Int)
         ·
          rw [decide_eq_true c314] at ha313
          refine wl_skip ha313 rfl rfl rfl ?_
          intro a315 ha315; clear ha313 a313
          refine wl_skip ha315 rfl rfl rfl ?_
          intro a316 ha316; clear ha315 a315
          refine wl_skip ha316 rfl rfl rfl ?_
          intro a317 ha317; clear ha316 a316
          refine wl_skip ha317 rfl rfl rfl ?_
          intro a318 ha318; clear ha317 a317
          refine wl_val ha318 rfl rfl rfl (op_pick_t ha318 rfl rfl rfl) ?_
          intro a319 ha319; clear ha318 a318
          refine wpList_nil ?_
          refine then_n ?_
          refine cond_t ha319 rfl ?_
          refine wp_seq ?_
          refine wp_region_lit ?_
          refine wl_val ha319 rfl rfl rfl (op_assign ha319 rfl rfl) ?_
          intro a320 ha320; clear ha319 a319
          refine wl_val ha320 rfl rfl rfl (op_assign ha320 rfl rfl) ?_
          intro a321 ha321; clear ha320 a320
          refine wpList_nil ?_
          refine then_n ?_
          refine wp_ret ?_
          refine then_r ?_
          refine block_r ?_
          refine then_r ?_
          refine then_r ?_
          refine block_r ?_
          refine then_r ?_
          refine ret2 ha321 rfl rfl rfl ?_
          clear ha321 a321
          have hd : rdD s = s := rdD_f hb11 (by omega)
          rw [drop_cons hb310, valGo_bad (by omega)] at hF
          exact ret_mk hx300 (tup2_eq (int_eq (by rw [rdV_none hd hF.symm])) (congrArg Value.bool (by rw [rdV_none hd hF.symm])))
         ·
          rw [decide_eq_false c314] at ha313
          refine wl_val ha313 rfl rfl rfl (op_move ha313 rfl rfl) ?_
          intro a322 ha322; clear ha313 a313
          refine wl_val ha322 rfl rfl rfl (op_move ha322 rfl rfl) ?_
          intro a323 ha323; clear ha322 a322
          refine wl_val ha323 rfl rfl rfl (op_index_str ha323 rfl Try.underlying9 rfl rfl (by omega) hb310) ?_
          intro a324 ha324; clear ha323 a323
          refine wl_val ha324 rfl rfl rfl (op_gtr ha324 rfl rfl rfl) ?_
          intro a325 ha325; clear ha324 a324
          refine wl_val ha325 rfl rfl rfl (op_pick_f ha325 rfl rfl rfl) ?_
          intro a326 ha326; clear ha325 a325
          refine wpList_nil ?_
          refine then_n ?_
          by_cases c327 : (57 : Int) < (b310.toNat : Int)
          ·
           rw [decide_eq_true c327] at ha326
           refine cond_t ha326 rfl ?_
           refine wp_seq ?_
           refine wp_region_lit ?_
           refine wl_val ha326 rfl rfl rfl (op_assign ha326 rfl rfl) ?_
           intro a328 ha328; clear ha326 a326
           refine wl_val ha328 rfl rfl rfl (op_assign ha328 rfl rfl) ?_
           intro a329 ha329; clear ha328 a328
           refine wpList_nil ?_
           refine then_n ?_
           refine wp_ret ?_
           refine then_r ?_
           refine block_r ?_
           refine then_r ?_
           refine then_r ?_
           refine block_r ?_
           refine then_r ?_
           refine ret2 ha329 rfl rfl rfl ?_
           clear ha329 a329
           have hd : rdD s = s := rdD_f hb11 (by omega)
           rw [drop_cons hb310, valGo_bad (by omega)] at hF
           exact ret_mk hx300 (tup2_eq (int_eq (by rw [rdV_none hd hF.symm])) (congrArg Value.bool (by rw [rdV_none hd hF.symm])))
          ·
           rw [decide_eq_false c327] at ha326
           refine cond_f ha326 rfl ?_
           refine wp_skip ?_
           refine then_n ?_
           refine wp_region_lit ?_
           refine wl_val ha326 rfl rfl rfl (op_move ha326 rfl rfl) ?_
           intro a330 ha330; clear ha326 a326
           refine wl_val ha330 rfl rfl rfl ((op_mul ha330 rfl rfl rfl).int (IntWalk.i64_in _ (by omega))) ?_
           intro a331 ha331; clear ha330 a330
           refine wl_val ha331 rfl rfl rfl (op_move ha331 rfl rfl) ?_
           intro a332 ha332; clear ha331 a331
           refine wl_val ha332 rfl rfl rfl (op_move ha332 rfl rfl) ?_
           intro a333 ha333; clear ha332 a332
           refine wl_val ha333 rfl rfl rfl (op_index_str ha333 rfl Try.underlying9 rfl rfl (by omega) hb310) ?_
           intro a334 ha334; clear ha333 a333
           refine wl_val ha334 rfl rfl rfl ((op_sub ha334 rfl rfl rfl).int (IntWalk.u8_in _ (by omega))) ?_
           intro a335 ha335; clear ha334 a334
           refine wl_val ha335 rfl rfl rfl ((op_conv_int ha335 rfl Try.underlying5 Try.underlying2 rfl).int (IntWalk.i64_in _ (by omega))) ?_
           intro a336 ha336; clear ha335 a335
           refine wl_val ha336 rfl rfl rfl ((op_add ha336 rfl rfl rfl).int (IntWalk.i64_in _ (by omega))) ?_
           intro a337 ha337; clear ha336 a336
           refine wl_val ha337 rfl rfl rfl (op_assign ha337 rfl rfl) ?_
           intro a338 ha338; clear ha337 a337
           refine wpList_nil ?_
           refine block_n ?_
           refine then_n ?_
           refine wp_region_lit ?_
           refine wl_val ha338 rfl rfl rfl (op_move ha338 rfl rfl) ?_
           intro a339 ha339; clear ha338 a338
           refine wl_val ha339 rfl rfl rfl ((op_add ha339 rfl rfl rfl).int (IntWalk.i64_in _ (by omega))) ?_
           intro a340 ha340; clear ha339 a339
           refine wl_val ha340 rfl rfl rfl (op_assign ha340 rfl rfl) ?_
           intro a341 ha341; clear ha340 a340
           refine wpList_nil ?_
           refine round_end (x := (i, n)) ((i + 1), (((10 : Int) * n) + ((b310.toNat : Int) - (48 : Int)))) ?_ ?_
           ·
            refine ⟨(Sl.cons_ ha341 rfl rfl (Sl.cons_ ha341 rfl rfl (Sl.cons_ ha341 rfl (int_eq (by omega)) (Sl.cons_ ha341 rfl (int_eq (by omega)) (Sl.nil_ ha341))))), hx300, (by omega), (by omega), (by omega), (by rw [h10]; omega), (by rw [drop_cons hb310, valGo_ok (by omega) (by omega)] at hF; exact hF)⟩
           ·show (s.length - ((i + 1)) : Nat) < s.length - i; omega
        ·
         rw [decide_eq_false c307] at ha306
         refine cond_f ha306 rfl ?_
         refine wp_exit ?_
         refine then_e ?_
         refine then_e ?_
         refine block_hit ?_
         refine then_n ?_
         refine wp_seq ?_
         refine wp_seq ?_
         refine wp_region_lit ?_
         refine wl_val ha306 rfl rfl rfl (op_move ha306 rfl rfl) ?_
         intro a342 ha342; clear ha306 a306
         refine wl_val ha342 rfl rfl rfl (op_len_str ha342 rfl Try.underlying9 rfl) ?_
         intro a343 ha343; clear ha342 a342
         refine wl_val ha343 rfl rfl rfl (op_move ha343 rfl rfl) ?_
         intro a344 ha344; clear ha343 a343
         refine wl_val ha344 rfl rfl rfl (op_len_str ha344 rfl Try.underlying9 rfl) ?_
         intro a345 ha345; clear ha344 a344
         refine wl_val ha345 rfl rfl rfl (op_lss ha345 rfl rfl rfl) ?_
         intro a346 ha346; clear ha345 a345
         refine wpList_nil ?_
         refine then_n ?_
         by_cases c347 : ((s.length : Nat) : Int) < ((s.length : Nat) : Int)
         ·
          rw [decide_eq_true c347] at ha346
          refine cond_t ha346 rfl ?_
          refine wp_region_lit ?_
          refine wl_val ha346 rfl rfl rfl (op_move ha346 rfl rfl) ?_
          intro a348 ha348; clear ha346 a346
          refine wl_val ha348 rfl rfl rfl ((op_neg ha348 rfl rfl).int (IntWalk.i64_in _ (by omega))) ?_
          intro a349 ha349; clear ha348 a348
          refine wl_val ha349 rfl rfl rfl (op_assign ha349 rfl rfl) ?_
          intro a350 ha350; clear ha349 a349
          refine wpList_nil ?_
          refine then_n ?_
          refine wp_seq ?_
          refine wp_region_lit ?_
          refine wl_val ha350 rfl rfl rfl (op_move ha350 rfl rfl) ?_
          intro a351 ha351; clear ha350 a350
          refine wl_val ha351 rfl rfl rfl (op_assign ha351 rfl rfl) ?_
          intro a352 ha352; clear ha351 a351
          refine wl_val ha352 rfl rfl rfl (op_assign ha352 rfl rfl) ?_
          intro a353 ha353; clear ha352 a352
          refine wpList_nil ?_
          refine then_n ?_
          refine wp_ret ?_
          refine ret2 ha353 rfl rfl rfl ?_
          clear ha353 a353
          have hd : rdD s = s := rdD_f hb11 (by omega)
          rw [drop_nil (by omega), valGo_nil] at hF
          exact ret_mk hx300 (tup2_eq (int_eq (by rw [rdV_some hd (by unfold rdBad; rw [chI_eq hb11]; simp only [Option.some.injEq]; omega) hF.symm] <;> rw [if_pos (by omega)])) (congrArg Value.bool (by rw [rdV_some hd (by unfold rdBad; rw [chI_eq hb11]; simp only [Option.some.injEq]; omega) hF.symm] <;> rw [if_pos (by omega)])))
         ·
          rw [decide_eq_false c347] at ha346
          refine cond_f ha346 rfl ?_
          refine wp_skip ?_
          refine then_n ?_
          refine wp_seq ?_
          refine wp_region_lit ?_
          refine wl_val ha346 rfl rfl rfl (op_move ha346 rfl rfl) ?_
          intro a354 ha354; clear ha346 a346
          refine wl_val ha354 rfl rfl rfl (op_assign ha354 rfl rfl) ?_
          intro a355 ha355; clear ha354 a354
          refine wl_val ha355 rfl rfl rfl (op_assign ha355 rfl rfl) ?_
          intro a356 ha356; clear ha355 a355
          refine wpList_nil ?_
          refine then_n ?_
          refine wp_ret ?_
          refine ret2 ha356 rfl rfl rfl ?_
          clear ha356 a356
          have hd : rdD s = s := rdD_f hb11 (by omega)
          rw [drop_nil (by omega), valGo_nil] at hF
          exact ret_mk hx300 (tup2_eq (int_eq (by rw [rdV_some hd (by unfold rdBad; rw [chI_eq hb11]; simp only [Option.some.injEq]; omega) hF.symm] <;> rw [if_neg (by omega)])) (congrArg Value.bool (by rw [rdV_some hd (by unfold rdBad; rw [chI_eq hb11]; simp only [Option.some.injEq]; omega) hF.symm] <;> rw [if_neg (by omega)])))
     ·
      rw [decide_eq_false c277] at ha276
      refine wl_skip ha276 rfl rfl rfl ?_
      intro a357 ha357; clear ha276 a276
      refine wl_skip ha357 rfl rfl rfl ?_
      intro a358 ha358; clear ha357 a357
      refine wl_skip ha358 rfl rfl rfl ?_
      intro a359 ha359; clear ha358 a358
      refine wl_skip ha359 rfl rfl rfl ?_
      intro a360 ha360; clear ha359 a359
      refine wl_skip ha360 rfl rfl rfl ?_
      intro a361 ha361; clear ha360 a360
      refine wl_skip ha361 rfl rfl rfl ?_
      intro a362 ha362; clear ha361 a361
      refine wl_skip ha362 rfl rfl rfl ?_
      intro a363 ha363; clear ha362 a362
      refine wl_skip ha363 rfl rfl rfl ?_
      intro a364 ha364; clear ha363 a363
      refine wl_val ha364 rfl rfl rfl (op_pick_f ha364 rfl rfl rfl) ?_
      intro a365 ha365; clear ha364 a364
      refine wl_val ha365 rfl rfl rfl (op_pick_f ha365 rfl rfl rfl) ?_
      intro a366 ha366; clear ha365 a365
      refine wpList_nil ?_
      refine then_n ?_
      refine cond_f ha366 rfl ?_
      refine wp_skip ?_
      refine then_n ?_
      refine wp_seq ?_
      refine wp_region_lit ?_
      refine wl_val ha366 rfl rfl rfl (op_assign ha366 rfl rfl) ?_
      intro a367 ha367; clear ha366 a366
      refine wpList_nil ?_
      refine then_n ?_
      refine wp_seq ?_
      refine wp_seq ?_
      refine wp_region_lit ?_
      refine wl_val ha367 rfl rfl rfl (op_assign ha367 rfl rfl) ?_
      intro a368 ha368; clear ha367 a367
      refine wpList_nil ?_
      refine then_n ?_
      refine wp_block ?_
      refine loop_inv (X := Nat × Int) (fun (⟨i, n⟩ : Nat × Int) fr wl => Sl 73 fr [(0, St s), (4, St s), (5, .int .i64 n), (6, .int .i64 ((i : Nat) : Int))] ∧ Ext w0 wl ∧ w0.heap.size ≤ wl.heap.size ∧ (i ≤ s.length) ∧ (0 ≤ n) ∧ (n < ((10 ^ i : Nat) : Int)) ∧ (valGo n (s.drop i) = valGo 0 s)) (fun (⟨i, n⟩ : Nat × Int) => s.length - i) (0, (0 : Int)) ?_ ?_
      ·
       exact ⟨(Sl.cons_ ha368 rfl rfl (Sl.cons_ ha368 rfl rfl (Sl.cons_ ha368 rfl (int_eq (by omega)) (Sl.cons_ ha368 rfl (int_eq (by omega)) (Sl.nil_ ha368))))), hx0, (by omega), (by omega), (by omega), (by simp), (by rfl)⟩
      ·
       clear ha368 a368
       rintro ⟨i, n⟩ a371 w369 ⟨ha371, hx370, hzl372, hi, hn0, hn1, hF⟩
       have hzhx370 := hx370.size
       have h17 := pow17 (i := i)
       have h18 := pow18 (i := i)
       have h10 : (10 : Nat) ^ (i + 1) = 10 ^ i * 10 := by rw [Nat.pow_succ]
       refine wp_seq ?_
       refine wp_seq ?_
       refine wp_region_lit ?_
       refine wl_val ha371 rfl rfl rfl (op_move ha371 rfl rfl) ?_
       intro a373 ha373; clear ha371 a371
       refine wl_val ha373 rfl rfl rfl (op_move ha373 rfl rfl) ?_
       intro a374 ha374; clear ha373 a373
       refine wl_val ha374 rfl rfl rfl (op_len_str ha374 rfl Try.underlying9 rfl) ?_
       intro a375 ha375; clear ha374 a374
       refine wl_val ha375 rfl rfl rfl (op_lss ha375 rfl rfl rfl) ?_
       intro a376 ha376; clear ha375 a375
       refine wpList_nil ?_
       refine then_n ?_
       by_cases c377 : ((i : Nat) : Int) < ((s.length : Nat) : Int)
       ·
        rw [decide_eq_true c377] at ha376
        refine cond_t ha376 rfl ?_
        refine wp_skip ?_
        refine then_n ?_
        refine wp_seq ?_
        refine wp_block ?_
        refine wp_seq ?_
        refine wp_seq ?_
        refine wp_region_lit ?_
        refine wl_val ha376 rfl rfl rfl (op_move ha376 rfl rfl) ?_
        intro a378 ha378; clear ha376 a376
        refine wl_val ha378 rfl rfl rfl (op_move ha378 rfl rfl) ?_
        intro a379 ha379; clear ha378 a378
        obtain ⟨b380, hb380⟩ := get_ex (xs := s) (j := i) (by omega)
        have b380_lt := b380.toNat_lt
        refine wl_val ha379 rfl rfl rfl (op_index_str ha379 rfl Try.underlying9 rfl rfl (by omega) hb380) ?_
        intro a381 ha381; clear ha379 a379
        refine wl_val ha381 rfl rfl rfl (op_lss ha381 rfl rfl rfl) ?_
        intro a382 ha382; clear ha381 a381
        refine wl_val ha382 rfl rfl rfl (op_move ha382 rfl rfl) ?_
        intro a383 ha383; clear ha382 a382
        by_cases c384 : (b380.toNat : Int) < (48 : Int)
        ·
         rw [decide_eq_true c384] at ha383
         refine wl_skip ha383 rfl rfl rfl ?_
         intro a385 ha385; clear ha383 a383
         refine wl_skip ha385 rfl rfl rfl ?_
         intro a386 ha386; clear ha385 a385
         refine wl_skip ha386 rfl rfl rfl ?_
         intro a387 ha387; clear ha386 a386
         refine wl_skip ha387 rfl rfl rfl ?_
         intro a388 ha388; clear ha387 a387
         refine wl_val ha388 rfl rfl rfl (op_pick_t ha388 rfl rfl rfl) ?_
         intro a389 ha389; clear ha388 a388
         refine wpList_nil ?_
         refine then_n ?_
         refine cond_t ha389 rfl ?_
         refine wp_seq ?_
         refine wp_region_lit ?_
         refine wl_val ha389 rfl rfl rfl (op_assign ha389 rfl rfl) ?_
         intro a390 ha390; clear ha389 a389
         refine wl_val ha390 rfl rfl rfl (op_assign ha390 rfl rfl) ?_
         intro a391 ha391; clear ha390 a390
         refine wpList_nil ?_
         refine then_n ?_
         refine wp_ret ?_
         refine then_r ?_
         refine block_r ?_
         refine then_r ?_
         refine then_r ?_
         refine block_r ?_
         refine then_r ?_
         refine ret2 ha391 rfl rfl rfl ?_
         clear ha391 a391
         have hd : rdD s = s := rdD_f hb11 (by omega)
         rw [drop_cons hb380, valGo_bad (by omega)] at hF
         exact ret_mk hx370 (tup2_eq (int_eq (by rw [rdV_none hd hF.symm])) (congrArg Value.bool (by rw [rdV_none hd hF.symm])))
        ·
         rw [decide_eq_false c384] at ha383
         refine wl_val ha383 rfl rfl rfl (op_move ha383 rfl rfl) ?_
         intro a392 ha392; clear ha383 a383
         refine wl_val ha392 rfl rfl rfl (op_move ha392 rfl rfl) ?_
         intro a393 ha393; clear ha392 a392
         refine wl_val ha393 rfl rfl rfl (op_index_str ha393 rfl Try.underlying9 rfl rfl (by omega) hb380) ?_
         intro a394 ha394; clear ha393 a393
         refine wl_val ha394 rfl rfl rfl (op_gtr ha394 rfl rfl rfl) ?_
         intro a395 ha395; clear ha394 a394
         refine wl_val ha395 rfl rfl rfl (op_pick_f ha395 rfl rfl rfl) ?_
         intro a396 ha396; clear ha395 a395
         refine wpList_nil ?_
         refine then_n ?_
         by_cases c397 : (57 : Int) < (b380.toNat : Int)
         ·
          rw [decide_eq_true c397] at ha396
          refine cond_t ha396 rfl ?_
          refine wp_seq ?_
          refine wp_region_lit ?_
          refine wl_val ha396 rfl rfl rfl (op_assign ha396 rfl rfl) ?_
          intro a398 ha398; clear ha396 a396
          refine wl_val ha398 rfl rfl rfl (op_assign ha398 rfl rfl) ?_
          intro a399 ha399; clear ha398 a398
          refine wpList_nil ?_
          refine then_n ?_
          refine wp_ret ?_
          refine then_r ?_
          refine block_r ?_
          refine then_r ?_
          refine then_r ?_
          refine block_r ?_
          refine then_r ?_
          refine ret2 ha399 rfl rfl rfl ?_
          clear ha399 a399
          have hd : rdD s = s := rdD_f hb11 (by omega)
          rw [drop_cons hb380, valGo_bad (by omega)] at hF
          exact ret_mk hx370 (tup2_eq (int_eq (by rw [rdV_none hd hF.symm])) (congrArg Value.bool (by rw [rdV_none hd hF.symm])))
         ·
          rw [decide_eq_false c397] at ha396
          refine cond_f ha396 rfl ?_
          refine wp_skip ?_
          refine then_n ?_
          refine wp_region_lit ?_
          refine wl_val ha396 rfl rfl rfl (op_move ha396 rfl rfl) ?_
          intro a400 ha400; clear ha396 a396
          refine wl_val ha400 rfl rfl rfl ((op_mul ha400 rfl rfl rfl).int (IntWalk.i64_in _ (by omega))) ?_
          intro a401 ha401; clear ha400 a400
          refine wl_val ha401 rfl rfl rfl (op_move ha401 rfl rfl) ?_
          intro a402 ha402; clear ha401 a401
          refine wl_val ha402 rfl rfl rfl (op_move ha402 rfl rfl) ?_
          intro a403 ha403; clear ha402 a402
          refine wl_val ha403 rfl rfl rfl (op_index_str ha403 rfl Try.underlying9 rfl rfl (by omega) hb380) ?_
          intro a404 ha404; clear ha403 a403
          refine wl_val ha404 rfl rfl rfl ((op_sub ha404 rfl rfl rfl).int (IntWalk.u8_in _ (by omega))) ?_
          intro a405 ha405; clear ha404 a404
          refine wl_val ha405 rfl rfl rfl ((op_conv_int ha405 rfl Try.underlying5 Try.underlying2 rfl).int (IntWalk.i64_in _ (by omega))) ?_
          intro a406 ha406; clear ha405 a405
          refine wl_val ha406 rfl rfl rfl ((op_add ha406 rfl rfl rfl).int (IntWalk.i64_in _ (by omega))) ?_
          intro a407 ha407; clear ha406 a406
          refine wl_val ha407 rfl rfl rfl (op_assign ha407 rfl rfl) ?_
          intro a408 ha408; clear ha407 a407
          refine wpList_nil ?_
          refine block_n ?_
          refine then_n ?_
          refine wp_region_lit ?_
          refine wl_val ha408 rfl rfl rfl (op_move ha408 rfl rfl) ?_
          intro a409 ha409; clear ha408 a408
          refine wl_val ha409 rfl rfl rfl ((op_add ha409 rfl rfl rfl).int (IntWalk.i64_in _ (by omega))) ?_
          intro a410 ha410; clear ha409 a409
          refine wl_val ha410 rfl rfl rfl (op_assign ha410 rfl rfl) ?_
          intro a411 ha411; clear ha410 a410
          refine wpList_nil ?_
          refine round_end (x := (i, n)) ((i + 1), (((10 : Int) * n) + ((b380.toNat : Int) - (48 : Int)))) ?_ ?_
          ·
           refine ⟨(Sl.cons_ ha411 rfl rfl (Sl.cons_ ha411 rfl rfl (Sl.cons_ ha411 rfl (int_eq (by omega)) (Sl.cons_ ha411 rfl (int_eq (by omega)) (Sl.nil_ ha411))))), hx370, (by omega), (by omega), (by omega), (by rw [h10]; omega), (by rw [drop_cons hb380, valGo_ok (by omega) (by omega)] at hF; exact hF)⟩
          ·show (s.length - ((i + 1)) : Nat) < s.length - i; omega
       ·
        rw [decide_eq_false c377] at ha376
        refine cond_f ha376 rfl ?_
        refine wp_exit ?_
        refine then_e ?_
        refine then_e ?_
        refine block_hit ?_
        refine then_n ?_
        refine wp_seq ?_
        refine wp_seq ?_
        refine wp_region_lit ?_
        refine wl_val ha376 rfl rfl rfl (op_move ha376 rfl rfl) ?_
        intro a412 ha412; clear ha376 a376
        refine wl_val ha412 rfl rfl rfl (op_len_str ha412 rfl Try.underlying9 rfl) ?_
        intro a413 ha413; clear ha412 a412
        refine wl_val ha413 rfl rfl rfl (op_move ha413 rfl rfl) ?_
        intro a414 ha414; clear ha413 a413
        refine wl_val ha414 rfl rfl rfl (op_len_str ha414 rfl Try.underlying9 rfl) ?_
        intro a415 ha415; clear ha414 a414
        refine wl_val ha415 rfl rfl rfl (op_lss ha415 rfl rfl rfl) ?_
        intro a416 ha416; clear ha415 a415
        refine wpList_nil ?_
        refine then_n ?_
        by_cases c417 : ((s.length : Nat) : Int) < ((s.length : Nat) : Int)
        ·
         rw [decide_eq_true c417] at ha416
         refine cond_t ha416 rfl ?_
         refine wp_region_lit ?_
         refine wl_val ha416 rfl rfl rfl (op_move ha416 rfl rfl) ?_
         intro a418 ha418; clear ha416 a416
         refine wl_val ha418 rfl rfl rfl ((op_neg ha418 rfl rfl).int (IntWalk.i64_in _ (by omega))) ?_
         intro a419 ha419; clear ha418 a418
         refine wl_val ha419 rfl rfl rfl (op_assign ha419 rfl rfl) ?_
         intro a420 ha420; clear ha419 a419
         refine wpList_nil ?_
         refine then_n ?_
         refine wp_seq ?_
         refine wp_region_lit ?_
         refine wl_val ha420 rfl rfl rfl (op_move ha420 rfl rfl) ?_
         intro a421 ha421; clear ha420 a420
         refine wl_val ha421 rfl rfl rfl (op_assign ha421 rfl rfl) ?_
         intro a422 ha422; clear ha421 a421
         refine wl_val ha422 rfl rfl rfl (op_assign ha422 rfl rfl) ?_
         intro a423 ha423; clear ha422 a422
         refine wpList_nil ?_
         refine then_n ?_
         refine wp_ret ?_
         refine ret2 ha423 rfl rfl rfl ?_
         clear ha423 a423
         have hd : rdD s = s := rdD_f hb11 (by omega)
         rw [drop_nil (by omega), valGo_nil] at hF
         exact ret_mk hx370 (tup2_eq (int_eq (by rw [rdV_some hd (by unfold rdBad; rw [chI_eq hb11]; simp only [Option.some.injEq]; omega) hF.symm] <;> rw [if_pos (by omega)])) (congrArg Value.bool (by rw [rdV_some hd (by unfold rdBad; rw [chI_eq hb11]; simp only [Option.some.injEq]; omega) hF.symm] <;> rw [if_pos (by omega)])))
        ·
         rw [decide_eq_false c417] at ha416
         refine cond_f ha416 rfl ?_
         refine wp_skip ?_
         refine then_n ?_
         refine wp_seq ?_
         refine wp_region_lit ?_
         refine wl_val ha416 rfl rfl rfl (op_move ha416 rfl rfl) ?_
         intro a424 ha424; clear ha416 a416
         refine wl_val ha424 rfl rfl rfl (op_assign ha424 rfl rfl) ?_
         intro a425 ha425; clear ha424 a424
         refine wl_val ha425 rfl rfl rfl (op_assign ha425 rfl rfl) ?_
         intro a426 ha426; clear ha425 a425
         refine wpList_nil ?_
         refine then_n ?_
         refine wp_ret ?_
         refine ret2 ha426 rfl rfl rfl ?_
         clear ha426 a426
         have hd : rdD s = s := rdD_f hb11 (by omega)
         rw [drop_nil (by omega), valGo_nil] at hF
         exact ret_mk hx370 (tup2_eq (int_eq (by rw [rdV_some hd (by unfold rdBad; rw [chI_eq hb11]; simp only [Option.some.injEq]; omega) hF.symm] <;> rw [if_neg (by omega)])) (congrArg Value.bool (by rw [rdV_some hd (by unfold rdBad; rw [chI_eq hb11]; simp only [Option.some.injEq]; omega) hF.symm] <;> rw [if_neg (by omega)])))
 ·
  rw [decide_eq_false c9] at ha8
  refine wl_skip ha8 rfl rfl rfl ?_
  intro a427 ha427; clear ha8 a8
  refine wl_skip ha427 rfl rfl rfl ?_
  intro a428 ha428; clear ha427 a427
  refine wl_skip ha428 rfl rfl rfl ?_
  intro a429 ha429; clear ha428 a428
  refine wl_val ha429 rfl rfl rfl (op_pick_f ha429 rfl rfl rfl) ?_
  intro a430 ha430; clear ha429 a429
  refine wpList_nil ?_
  refine then_n ?_
  refine cond_f ha430 rfl ?_
  refine wp_skip ?_
  refine then_n ?_
  refine wp_seq ?_
  refine wp_seq ?_
  refine wp_region_lit ?_
  refine wl_val ha430 rfl rfl rfl (op_move ha430 rfl rfl) ?_
  intro a431 ha431; clear ha430 a430
  refine wl_val ha431 rfl rfl rfl (op_len_str ha431 rfl Try.underlying9 rfl) ?_
  intro a432 ha432; clear ha431 a431
  refine wl_val ha432 rfl rfl rfl (op_eql ha432 rfl rfl rfl) ?_
  intro a433 ha433; clear ha432 a432
  refine wl_val ha433 rfl rfl rfl (op_move ha433 rfl rfl) ?_
  intro a434 ha434; clear ha433 a433
  by_cases c435 : ((s.length : Nat) : Int) = (0 : Int)
  ·
   rw [decide_eq_true c435] at ha434
   refine wl_skip ha434 rfl rfl rfl ?_
   intro a436 ha436; clear ha434 a434
   refine wl_skip ha436 rfl rfl rfl ?_
   intro a437 ha437; clear ha436 a436
   refine wl_skip ha437 rfl rfl rfl ?_
   intro a438 ha438; clear ha437 a437
   refine wl_val ha438 rfl rfl rfl (op_pick_t ha438 rfl rfl rfl) ?_
   intro a439 ha439; clear ha438 a438
   refine wl_val ha439 rfl rfl rfl (op_move ha439 rfl rfl) ?_
   intro a440 ha440; clear ha439 a439
   refine wl_skip ha440 rfl rfl rfl ?_
   intro a441 ha441; clear ha440 a440
   refine wl_skip ha441 rfl rfl rfl ?_
   intro a442 ha442; clear ha441 a441
   refine wl_skip ha442 rfl rfl rfl ?_
   intro a443 ha443; clear ha442 a442
   refine wl_skip ha443 rfl rfl rfl ?_
   intro a444 ha444; clear ha443 a443
   refine wl_skip ha444 rfl rfl rfl ?_
   intro a445 ha445; clear ha444 a444
   refine wl_skip ha445 rfl rfl rfl ?_
   intro a446 ha446; clear ha445 a445
   refine wl_skip ha446 rfl rfl rfl ?_
   intro a447 ha447; clear ha446 a446
   refine wl_skip ha447 rfl rfl rfl ?_
   intro a448 ha448; clear ha447 a447
   refine wl_skip ha448 rfl rfl rfl ?_
   intro a449 ha449; clear ha448 a448
   refine wl_skip ha449 rfl rfl rfl ?_
   intro a450 ha450; clear ha449 a449
   refine wl_skip ha450 rfl rfl rfl ?_
   intro a451 ha451; clear ha450 a450
   refine wl_skip ha451 rfl rfl rfl ?_
   intro a452 ha452; clear ha451 a451
   refine wl_skip ha452 rfl rfl rfl ?_
   intro a453 ha453; clear ha452 a452
   refine wl_val ha453 rfl rfl rfl (op_pick_t ha453 rfl rfl rfl) ?_
   intro a454 ha454; clear ha453 a453
   refine wpList_nil ?_
   refine then_n ?_
   refine cond_t ha454 rfl ?_
   refine wp_seq ?_
   refine wp_region_lit ?_
   refine wl_val ha454 rfl rfl rfl (op_assign ha454 rfl rfl) ?_
   intro a455 ha455; clear ha454 a454
   refine wl_val ha455 rfl rfl rfl (op_assign ha455 rfl rfl) ?_
   intro a456 ha456; clear ha455 a455
   refine wpList_nil ?_
   refine then_n ?_
   refine wp_ret ?_
   refine then_r ?_
   refine ret2 ha456 rfl rfl rfl ?_
   clear ha456 a456
   have hd : rdD s = s := rdD_n (by omega)
   exact ret_mk hx0 (tup2_eq (int_eq (by rw [rdV_bad hd (by unfold rdBad; omega)])) (congrArg Value.bool (by rw [rdV_bad hd (by unfold rdBad; omega)])))
  ·
   rw [decide_eq_false c435] at ha434
   refine wl_val ha434 rfl rfl rfl (op_move ha434 rfl rfl) ?_
   intro a457 ha457; clear ha434 a434
   refine wl_val ha457 rfl rfl rfl (op_len_str ha457 rfl Try.underlying9 rfl) ?_
   intro a458 ha458; clear ha457 a457
   refine wl_val ha458 rfl rfl rfl (op_gtr ha458 rfl rfl rfl) ?_
   intro a459 ha459; clear ha458 a458
   refine wl_val ha459 rfl rfl rfl (op_pick_f ha459 rfl rfl rfl) ?_
   intro a460 ha460; clear ha459 a459
   refine wl_val ha460 rfl rfl rfl (op_move ha460 rfl rfl) ?_
   intro a461 ha461; clear ha460 a460
   by_cases c462 : (18 : Int) < ((s.length : Nat) : Int)
   ·
    rw [decide_eq_true c462] at ha461
    refine wl_skip ha461 rfl rfl rfl ?_
    intro a463 ha463; clear ha461 a461
    refine wl_skip ha463 rfl rfl rfl ?_
    intro a464 ha464; clear ha463 a463
    refine wl_skip ha464 rfl rfl rfl ?_
    intro a465 ha465; clear ha464 a464
    refine wl_skip ha465 rfl rfl rfl ?_
    intro a466 ha466; clear ha465 a465
    refine wl_skip ha466 rfl rfl rfl ?_
    intro a467 ha467; clear ha466 a466
    refine wl_skip ha467 rfl rfl rfl ?_
    intro a468 ha468; clear ha467 a467
    refine wl_skip ha468 rfl rfl rfl ?_
    intro a469 ha469; clear ha468 a468
    refine wl_skip ha469 rfl rfl rfl ?_
    intro a470 ha470; clear ha469 a469
    refine wl_skip ha470 rfl rfl rfl ?_
    intro a471 ha471; clear ha470 a470
    refine wl_skip ha471 rfl rfl rfl ?_
    intro a472 ha472; clear ha471 a471
    refine wl_skip ha472 rfl rfl rfl ?_
    intro a473 ha473; clear ha472 a472
    refine wl_skip ha473 rfl rfl rfl ?_
    intro a474 ha474; clear ha473 a473
    refine wl_skip ha474 rfl rfl rfl ?_
    intro a475 ha475; clear ha474 a474
    refine wl_val ha475 rfl rfl rfl (op_pick_t ha475 rfl rfl rfl) ?_
    intro a476 ha476; clear ha475 a475
    refine wpList_nil ?_
    refine then_n ?_
    refine cond_t ha476 rfl ?_
    refine wp_seq ?_
    refine wp_region_lit ?_
    refine wl_val ha476 rfl rfl rfl (op_assign ha476 rfl rfl) ?_
    intro a477 ha477; clear ha476 a476
    refine wl_val ha477 rfl rfl rfl (op_assign ha477 rfl rfl) ?_
    intro a478 ha478; clear ha477 a477
    refine wpList_nil ?_
    refine then_n ?_
    refine wp_ret ?_
    refine then_r ?_
    refine ret2 ha478 rfl rfl rfl ?_
    clear ha478 a478
    have hd : rdD s = s := rdD_n (by omega)
    exact ret_mk hx0 (tup2_eq (int_eq (by rw [rdV_bad hd (by unfold rdBad; omega)])) (congrArg Value.bool (by rw [rdV_bad hd (by unfold rdBad; omega)])))
   ·
    rw [decide_eq_false c462] at ha461
    refine wl_val ha461 rfl rfl rfl (op_move ha461 rfl rfl) ?_
    intro a479 ha479; clear ha461 a461
    obtain ⟨b480, hb480⟩ := get_ex (xs := s) (j := 0) (by omega)
    have b480_lt := b480.toNat_lt
    refine wl_val ha479 rfl rfl rfl (op_index_str ha479 rfl Try.underlying9 rfl rfl (by omega) hb480) ?_
    intro a481 ha481; clear ha479 a479
    refine wl_val ha481 rfl rfl rfl (op_eql ha481 rfl rfl rfl) ?_
    intro a482 ha482; clear ha481 a481
    refine wl_val ha482 rfl rfl rfl (op_move ha482 rfl rfl) ?_
    intro a483 ha483; clear ha482 a482
    by_cases c484 : (b480.toNat : Int) = (48 : Int)
    ·
     rw [decide_eq_true c484] at ha483
     refine wl_val ha483 rfl rfl rfl (op_move ha483 rfl rfl) ?_
     intro a485 ha485; clear ha483 a483
     refine wl_val ha485 rfl rfl rfl (op_len_str ha485 rfl Try.underlying9 rfl) ?_
     intro a486 ha486; clear ha485 a485
     refine wl_val ha486 rfl rfl rfl (op_gtr ha486 rfl rfl rfl) ?_
     intro a487 ha487; clear ha486 a486
     refine wl_val ha487 rfl rfl rfl (op_move ha487 rfl rfl) ?_
     intro a488 ha488; clear ha487 a487
     by_cases c489 : (1 : Int) < ((s.length : Nat) : Int)
     ·
      rw [decide_eq_true c489] at ha488
      refine wl_skip ha488 rfl rfl rfl ?_
      intro a490 ha490; clear ha488 a488
      refine wl_skip ha490 rfl rfl rfl ?_
      intro a491 ha491; clear ha490 a490
      refine wl_skip ha491 rfl rfl rfl ?_
      intro a492 ha492; clear ha491 a491
      refine wl_val ha492 rfl rfl rfl (op_pick_t ha492 rfl rfl rfl) ?_
      intro a493 ha493; clear ha492 a492
      refine wl_val ha493 rfl rfl rfl (op_pick_t ha493 rfl rfl rfl) ?_
      intro a494 ha494; clear ha493 a493
      refine wl_val ha494 rfl rfl rfl (op_pick_f ha494 rfl rfl rfl) ?_
      intro a495 ha495; clear ha494 a494
      refine wpList_nil ?_
      refine then_n ?_
      refine cond_t ha495 rfl ?_
      refine wp_seq ?_
      refine wp_region_lit ?_
      refine wl_val ha495 rfl rfl rfl (op_assign ha495 rfl rfl) ?_
      intro a496 ha496; clear ha495 a495
      refine wl_val ha496 rfl rfl rfl (op_assign ha496 rfl rfl) ?_
      intro a497 ha497; clear ha496 a496
      refine wpList_nil ?_
      refine then_n ?_
      refine wp_ret ?_
      refine then_r ?_
      refine ret2 ha497 rfl rfl rfl ?_
      clear ha497 a497
      have hd : rdD s = s := rdD_f hb480 (by omega)
      exact ret_mk hx0 (tup2_eq (int_eq (by rw [rdV_bad hd (by unfold rdBad; rw [chI_eq hb480]; simp only [Option.some.injEq]; omega)])) (congrArg Value.bool (by rw [rdV_bad hd (by unfold rdBad; rw [chI_eq hb480]; simp only [Option.some.injEq]; omega)])))
     ·
      rw [decide_eq_false c489] at ha488
      refine wl_val ha488 rfl rfl rfl (op_move ha488 rfl rfl) ?_
      intro a498 ha498; clear ha488 a488
      refine wl_val ha498 rfl rfl rfl (op_len_str ha498 rfl Try.underlying9 rfl) ?_
      intro a499 ha499; clear ha498 a498
      refine wl_val ha499 rfl rfl rfl (op_gtr ha499 rfl rfl rfl) ?_
      intro a500 ha500; clear ha499 a499
      refine wl_val ha500 rfl rfl rfl (op_pick_f ha500 rfl rfl rfl) ?_
      intro a501 ha501; clear ha500 a500
      refine wl_val ha501 rfl rfl rfl (op_pick_t ha501 rfl rfl rfl) ?_
      intro a502 ha502; clear ha501 a501
      refine wl_val ha502 rfl rfl rfl (op_pick_f ha502 rfl rfl rfl) ?_
      intro a503 ha503; clear ha502 a502
      refine wpList_nil ?_
      refine then_n ?_
      rw [decide_eq_false c489] at ha503
      refine cond_f ha503 rfl ?_
      refine wp_skip ?_
      refine then_n ?_
      refine wp_seq ?_
      refine wp_region_lit ?_
      refine wl_val ha503 rfl rfl rfl (op_assign ha503 rfl rfl) ?_
      intro a504 ha504; clear ha503 a503
      refine wpList_nil ?_
      refine then_n ?_
      refine wp_seq ?_
      refine wp_seq ?_
      refine wp_region_lit ?_
      refine wl_val ha504 rfl rfl rfl (op_assign ha504 rfl rfl) ?_
      intro a505 ha505; clear ha504 a504
      refine wpList_nil ?_
      refine then_n ?_
      refine wp_block ?_
      refine loop_inv (X := Nat × Int) (fun (⟨i, n⟩ : Nat × Int) fr wl => Sl 73 fr [(0, St s), (4, St s), (5, .int .i64 n), (6, .int .i64 ((i : Nat) : Int))] ∧ Ext w0 wl ∧ w0.heap.size ≤ wl.heap.size ∧ (i ≤ s.length) ∧ (0 ≤ n) ∧ (n < ((10 ^ i : Nat) : Int)) ∧ (valGo n (s.drop i) = valGo 0 s)) (fun (⟨i, n⟩ : Nat × Int) => s.length - i) (0, (0 : Int)) ?_ ?_
      ·
       exact ⟨(Sl.cons_ ha505 rfl rfl (Sl.cons_ ha505 rfl rfl (Sl.cons_ ha505 rfl (int_eq (by omega)) (Sl.cons_ ha505 rfl (int_eq (by omega)) (Sl.nil_ ha505))))), hx0, (by omega), (by omega), (by omega), (by simp), (by rfl)⟩
      ·
       clear ha505 a505
       rintro ⟨i, n⟩ a508 w506 ⟨ha508, hx507, hzl509, hi, hn0, hn1, hF⟩
       have hzhx507 := hx507.size
       have h17 := pow17 (i := i)
       have h18 := pow18 (i := i)
       have h10 : (10 : Nat) ^ (i + 1) = 10 ^ i * 10 := by rw [Nat.pow_succ]
       refine wp_seq ?_
       refine wp_seq ?_
       refine wp_region_lit ?_
       refine wl_val ha508 rfl rfl rfl (op_move ha508 rfl rfl) ?_
       intro a510 ha510; clear ha508 a508
       refine wl_val ha510 rfl rfl rfl (op_move ha510 rfl rfl) ?_
       intro a511 ha511; clear ha510 a510
       refine wl_val ha511 rfl rfl rfl (op_len_str ha511 rfl Try.underlying9 rfl) ?_
       intro a512 ha512; clear ha511 a511
       refine wl_val ha512 rfl rfl rfl (op_lss ha512 rfl rfl rfl) ?_
       intro a513 ha513; clear ha512 a512
       refine wpList_nil ?_
       refine then_n ?_
       by_cases c514 : ((i : Nat) : Int) < ((s.length : Nat) : Int)
       ·
        rw [decide_eq_true c514] at ha513
        refine cond_t ha513 rfl ?_
        refine wp_skip ?_
        refine then_n ?_
        refine wp_seq ?_
        refine wp_block ?_
        refine wp_seq ?_
        refine wp_seq ?_
        refine wp_region_lit ?_
        refine wl_val ha513 rfl rfl rfl (op_move ha513 rfl rfl) ?_
        intro a515 ha515; clear ha513 a513
        refine wl_val ha515 rfl rfl rfl (op_move ha515 rfl rfl) ?_
        intro a516 ha516; clear ha515 a515
        obtain ⟨b517, hb517⟩ := get_ex (xs := s) (j := i) (by omega)
        have b517_lt := b517.toNat_lt
        refine wl_val ha516 rfl rfl rfl (op_index_str ha516 rfl Try.underlying9 rfl rfl (by omega) hb517) ?_
        intro a518 ha518; clear ha516 a516
        refine wl_val ha518 rfl rfl rfl (op_lss ha518 rfl rfl rfl) ?_
        intro a519 ha519; clear ha518 a518
        refine wl_val ha519 rfl rfl rfl (op_move ha519 rfl rfl) ?_
        intro a520 ha520; clear ha519 a519
        by_cases c521 : (b517.toNat : Int) < (48 : Int)
        ·
         rw [decide_eq_true c521] at ha520
         refine wl_skip ha520 rfl rfl rfl ?_
         intro a522 ha522; clear ha520 a520
         refine wl_skip ha522 rfl rfl rfl ?_
         intro a523 ha523; clear ha522 a522
         refine wl_skip ha523 rfl rfl rfl ?_
         intro a524 ha524; clear ha523 a523
         refine wl_skip ha524 rfl rfl rfl ?_
         intro a525 ha525; clear ha524 a524
         refine wl_val ha525 rfl rfl rfl (op_pick_t ha525 rfl rfl rfl) ?_
         intro a526 ha526; clear ha525 a525
         refine wpList_nil ?_
         refine then_n ?_
         refine cond_t ha526 rfl ?_
         refine wp_seq ?_
         refine wp_region_lit ?_
         refine wl_val ha526 rfl rfl rfl (op_assign ha526 rfl rfl) ?_
         intro a527 ha527; clear ha526 a526
         refine wl_val ha527 rfl rfl rfl (op_assign ha527 rfl rfl) ?_
         intro a528 ha528; clear ha527 a527
         refine wpList_nil ?_
         refine then_n ?_
         refine wp_ret ?_
         refine then_r ?_
         refine block_r ?_
         refine then_r ?_
         refine then_r ?_
         refine block_r ?_
         refine then_r ?_
         refine ret2 ha528 rfl rfl rfl ?_
         clear ha528 a528
         have hd : rdD s = s := rdD_f hb480 (by omega)
         rw [drop_cons hb517, valGo_bad (by omega)] at hF
         exact ret_mk hx507 (tup2_eq (int_eq (by rw [rdV_none hd hF.symm])) (congrArg Value.bool (by rw [rdV_none hd hF.symm])))
        ·
         rw [decide_eq_false c521] at ha520
         refine wl_val ha520 rfl rfl rfl (op_move ha520 rfl rfl) ?_
         intro a529 ha529; clear ha520 a520
         refine wl_val ha529 rfl rfl rfl (op_move ha529 rfl rfl) ?_
         intro a530 ha530; clear ha529 a529
         refine wl_val ha530 rfl rfl rfl (op_index_str ha530 rfl Try.underlying9 rfl rfl (by omega) hb517) ?_
         intro a531 ha531; clear ha530 a530
         refine wl_val ha531 rfl rfl rfl (op_gtr ha531 rfl rfl rfl) ?_
         intro a532 ha532; clear ha531 a531
         refine wl_val ha532 rfl rfl rfl (op_pick_f ha532 rfl rfl rfl) ?_
         intro a533 ha533; clear ha532 a532
         refine wpList_nil ?_
         refine then_n ?_
         by_cases c534 : (57 : Int) < (b517.toNat : Int)
         ·
          rw [decide_eq_true c534] at ha533
          refine cond_t ha533 rfl ?_
          refine wp_seq ?_
          refine wp_region_lit ?_
          refine wl_val ha533 rfl rfl rfl (op_assign ha533 rfl rfl) ?_
          intro a535 ha535; clear ha533 a533
          refine wl_val ha535 rfl rfl rfl (op_assign ha535 rfl rfl) ?_
          intro a536 ha536; clear ha535 a535
          refine wpList_nil ?_
          refine then_n ?_
          refine wp_ret ?_
          refine then_r ?_
          refine block_r ?_
          refine then_r ?_
          refine then_r ?_
          refine block_r ?_
          refine then_r ?_
          refine ret2 ha536 rfl rfl rfl ?_
          clear ha536 a536
          have hd : rdD s = s := rdD_f hb480 (by omega)
          rw [drop_cons hb517, valGo_bad (by omega)] at hF
          exact ret_mk hx507 (tup2_eq (int_eq (by rw [rdV_none hd hF.symm])) (congrArg Value.bool (by rw [rdV_none hd hF.symm])))
         ·
          rw [decide_eq_false c534] at ha533
          refine cond_f ha533 rfl ?_
          refine wp_skip ?_
          refine then_n ?_
          refine wp_region_lit ?_
          refine wl_val ha533 rfl rfl rfl (op_move ha533 rfl rfl) ?_
          intro a537 ha537; clear ha533 a533
          refine wl_val ha537 rfl rfl rfl ((op_mul ha537 rfl rfl rfl).int (IntWalk.i64_in _ (by omega))) ?_
          intro a538 ha538; clear ha537 a537
          refine wl_val ha538 rfl rfl rfl (op_move ha538 rfl rfl) ?_
          intro a539 ha539; clear ha538 a538
          refine wl_val ha539 rfl rfl rfl (op_move ha539 rfl rfl) ?_
          intro a540 ha540; clear ha539 a539
          refine wl_val ha540 rfl rfl rfl (op_index_str ha540 rfl Try.underlying9 rfl rfl (by omega) hb517) ?_
          intro a541 ha541; clear ha540 a540
          refine wl_val ha541 rfl rfl rfl ((op_sub ha541 rfl rfl rfl).int (IntWalk.u8_in _ (by omega))) ?_
          intro a542 ha542; clear ha541 a541
          refine wl_val ha542 rfl rfl rfl ((op_conv_int ha542 rfl Try.underlying5 Try.underlying2 rfl).int (IntWalk.i64_in _ (by omega))) ?_
          intro a543 ha543; clear ha542 a542
          refine wl_val ha543 rfl rfl rfl ((op_add ha543 rfl rfl rfl).int (IntWalk.i64_in _ (by omega))) ?_
          intro a544 ha544; clear ha543 a543
          refine wl_val ha544 rfl rfl rfl (op_assign ha544 rfl rfl) ?_
          intro a545 ha545; clear ha544 a544
          refine wpList_nil ?_
          refine block_n ?_
          refine then_n ?_
          refine wp_region_lit ?_
          refine wl_val ha545 rfl rfl rfl (op_move ha545 rfl rfl) ?_
          intro a546 ha546; clear ha545 a545
          refine wl_val ha546 rfl rfl rfl ((op_add ha546 rfl rfl rfl).int (IntWalk.i64_in _ (by omega))) ?_
          intro a547 ha547; clear ha546 a546
          refine wl_val ha547 rfl rfl rfl (op_assign ha547 rfl rfl) ?_
          intro a548 ha548; clear ha547 a547
          refine wpList_nil ?_
          refine round_end (x := (i, n)) ((i + 1), (((10 : Int) * n) + ((b517.toNat : Int) - (48 : Int)))) ?_ ?_
          ·
           refine ⟨(Sl.cons_ ha548 rfl rfl (Sl.cons_ ha548 rfl rfl (Sl.cons_ ha548 rfl (int_eq (by omega)) (Sl.cons_ ha548 rfl (int_eq (by omega)) (Sl.nil_ ha548))))), hx507, (by omega), (by omega), (by omega), (by rw [h10]; omega), (by rw [drop_cons hb517, valGo_ok (by omega) (by omega)] at hF; exact hF)⟩
          ·show (s.length - ((i + 1)) : Nat) < s.length - i; omega
       ·
        rw [decide_eq_false c514] at ha513
        refine cond_f ha513 rfl ?_
        refine wp_exit ?_
        refine then_e ?_
        refine then_e ?_
        refine block_hit ?_
        refine then_n ?_
        refine wp_seq ?_
        refine wp_seq ?_
        refine wp_region_lit ?_
        refine wl_val ha513 rfl rfl rfl (op_move ha513 rfl rfl) ?_
        intro a549 ha549; clear ha513 a513
        refine wl_val ha549 rfl rfl rfl (op_len_str ha549 rfl Try.underlying9 rfl) ?_
        intro a550 ha550; clear ha549 a549
        refine wl_val ha550 rfl rfl rfl (op_move ha550 rfl rfl) ?_
        intro a551 ha551; clear ha550 a550
        refine wl_val ha551 rfl rfl rfl (op_len_str ha551 rfl Try.underlying9 rfl) ?_
        intro a552 ha552; clear ha551 a551
        refine wl_val ha552 rfl rfl rfl (op_lss ha552 rfl rfl rfl) ?_
        intro a553 ha553; clear ha552 a552
        refine wpList_nil ?_
        refine then_n ?_
        by_cases c554 : ((s.length : Nat) : Int) < ((s.length : Nat) : Int)
        ·
         rw [decide_eq_true c554] at ha553
         refine cond_t ha553 rfl ?_
         refine wp_region_lit ?_
         refine wl_val ha553 rfl rfl rfl (op_move ha553 rfl rfl) ?_
         intro a555 ha555; clear ha553 a553
         refine wl_val ha555 rfl rfl rfl ((op_neg ha555 rfl rfl).int (IntWalk.i64_in _ (by omega))) ?_
         intro a556 ha556; clear ha555 a555
         refine wl_val ha556 rfl rfl rfl (op_assign ha556 rfl rfl) ?_
         intro a557 ha557; clear ha556 a556
         refine wpList_nil ?_
         refine then_n ?_
         refine wp_seq ?_
         refine wp_region_lit ?_
         refine wl_val ha557 rfl rfl rfl (op_move ha557 rfl rfl) ?_
         intro a558 ha558; clear ha557 a557
         refine wl_val ha558 rfl rfl rfl (op_assign ha558 rfl rfl) ?_
         intro a559 ha559; clear ha558 a558
         refine wl_val ha559 rfl rfl rfl (op_assign ha559 rfl rfl) ?_
         intro a560 ha560; clear ha559 a559
         refine wpList_nil ?_
         refine then_n ?_
         refine wp_ret ?_
         refine ret2 ha560 rfl rfl rfl ?_
         clear ha560 a560
         have hd : rdD s = s := rdD_f hb480 (by omega)
         rw [drop_nil (by omega), valGo_nil] at hF
         exact ret_mk hx507 (tup2_eq (int_eq (by rw [rdV_some hd (by unfold rdBad; rw [chI_eq hb480]; simp only [Option.some.injEq]; omega) hF.symm] <;> rw [if_pos (by omega)])) (congrArg Value.bool (by rw [rdV_some hd (by unfold rdBad; rw [chI_eq hb480]; simp only [Option.some.injEq]; omega) hF.symm] <;> rw [if_pos (by omega)])))
        ·
         rw [decide_eq_false c554] at ha553
         refine cond_f ha553 rfl ?_
         refine wp_skip ?_
         refine then_n ?_
         refine wp_seq ?_
         refine wp_region_lit ?_
         refine wl_val ha553 rfl rfl rfl (op_move ha553 rfl rfl) ?_
         intro a561 ha561; clear ha553 a553
         refine wl_val ha561 rfl rfl rfl (op_assign ha561 rfl rfl) ?_
         intro a562 ha562; clear ha561 a561
         refine wl_val ha562 rfl rfl rfl (op_assign ha562 rfl rfl) ?_
         intro a563 ha563; clear ha562 a562
         refine wpList_nil ?_
         refine then_n ?_
         refine wp_ret ?_
         refine ret2 ha563 rfl rfl rfl ?_
         clear ha563 a563
         have hd : rdD s = s := rdD_f hb480 (by omega)
         rw [drop_nil (by omega), valGo_nil] at hF
         exact ret_mk hx507 (tup2_eq (int_eq (by rw [rdV_some hd (by unfold rdBad; rw [chI_eq hb480]; simp only [Option.some.injEq]; omega) hF.symm] <;> rw [if_neg (by omega)])) (congrArg Value.bool (by rw [rdV_some hd (by unfold rdBad; rw [chI_eq hb480]; simp only [Option.some.injEq]; omega) hF.symm] <;> rw [if_neg (by omega)])))
    ·
     rw [decide_eq_false c484] at ha483
     refine wl_skip ha483 rfl rfl rfl ?_
     intro a564 ha564; clear ha483 a483
     refine wl_skip ha564 rfl rfl rfl ?_
     intro a565 ha565; clear ha564 a564
     refine wl_skip ha565 rfl rfl rfl ?_
     intro a566 ha566; clear ha565 a565
     refine wl_skip ha566 rfl rfl rfl ?_
     intro a567 ha567; clear ha566 a566
     refine wl_skip ha567 rfl rfl rfl ?_
     intro a568 ha568; clear ha567 a567
     refine wl_skip ha568 rfl rfl rfl ?_
     intro a569 ha569; clear ha568 a568
     refine wl_skip ha569 rfl rfl rfl ?_
     intro a570 ha570; clear ha569 a569
     refine wl_skip ha570 rfl rfl rfl ?_
     intro a571 ha571; clear ha570 a570
     refine wl_val ha571 rfl rfl rfl (op_pick_f ha571 rfl rfl rfl) ?_
     intro a572 ha572; clear ha571 a571
     refine wl_val ha572 rfl rfl rfl (op_pick_f ha572 rfl rfl rfl) ?_
     intro a573 ha573; clear ha572 a572
     refine wpList_nil ?_
     refine then_n ?_
     refine cond_f ha573 rfl ?_
     refine wp_skip ?_
     refine then_n ?_
     refine wp_seq ?_
     refine wp_region_lit ?_
     refine wl_val ha573 rfl rfl rfl (op_assign ha573 rfl rfl) ?_
     intro a574 ha574; clear ha573 a573
     refine wpList_nil ?_
     refine then_n ?_
     refine wp_seq ?_
     refine wp_seq ?_
     refine wp_region_lit ?_
     refine wl_val ha574 rfl rfl rfl (op_assign ha574 rfl rfl) ?_
     intro a575 ha575; clear ha574 a574
     refine wpList_nil ?_
     refine then_n ?_
     refine wp_block ?_
     refine loop_inv (X := Nat × Int) (fun (⟨i, n⟩ : Nat × Int) fr wl => Sl 73 fr [(0, St s), (4, St s), (5, .int .i64 n), (6, .int .i64 ((i : Nat) : Int))] ∧ Ext w0 wl ∧ w0.heap.size ≤ wl.heap.size ∧ (i ≤ s.length) ∧ (0 ≤ n) ∧ (n < ((10 ^ i : Nat) : Int)) ∧ (valGo n (s.drop i) = valGo 0 s)) (fun (⟨i, n⟩ : Nat × Int) => s.length - i) (0, (0 : Int)) ?_ ?_
     ·
      exact ⟨(Sl.cons_ ha575 rfl rfl (Sl.cons_ ha575 rfl rfl (Sl.cons_ ha575 rfl (int_eq (by omega)) (Sl.cons_ ha575 rfl (int_eq (by omega)) (Sl.nil_ ha575))))), hx0, (by omega), (by omega), (by omega), (by simp), (by rfl)⟩
     ·
      clear ha575 a575
      rintro ⟨i, n⟩ a578 w576 ⟨ha578, hx577, hzl579, hi, hn0, hn1, hF⟩
      have hzhx577 := hx577.size
      have h17 := pow17 (i := i)
      have h18 := pow18 (i := i)
      have h10 : (10 : Nat) ^ (i + 1) = 10 ^ i * 10 := by rw [Nat.pow_succ]
      refine wp_seq ?_
      refine wp_seq ?_
      refine wp_region_lit ?_
      refine wl_val ha578 rfl rfl rfl (op_move ha578 rfl rfl) ?_
      intro a580 ha580; clear ha578 a578
      refine wl_val ha580 rfl rfl rfl (op_move ha580 rfl rfl) ?_
      intro a581 ha581; clear ha580 a580
      refine wl_val ha581 rfl rfl rfl (op_len_str ha581 rfl Try.underlying9 rfl) ?_
      intro a582 ha582; clear ha581 a581
      refine wl_val ha582 rfl rfl rfl (op_lss ha582 rfl rfl rfl) ?_
      intro a583 ha583; clear ha582 a582
      refine wpList_nil ?_
      refine then_n ?_
      by_cases c584 : ((i : Nat) : Int) < ((s.length : Nat) : Int)
      ·
       rw [decide_eq_true c584] at ha583
       refine cond_t ha583 rfl ?_
       refine wp_skip ?_
       refine then_n ?_
       refine wp_seq ?_
       refine wp_block ?_
       refine wp_seq ?_
       refine wp_seq ?_
       refine wp_region_lit ?_
       refine wl_val ha583 rfl rfl rfl (op_move ha583 rfl rfl) ?_
       intro a585 ha585; clear ha583 a583
       refine wl_val ha585 rfl rfl rfl (op_move ha585 rfl rfl) ?_
       intro a586 ha586; clear ha585 a585
       obtain ⟨b587, hb587⟩ := get_ex (xs := s) (j := i) (by omega)
       have b587_lt := b587.toNat_lt
       refine wl_val ha586 rfl rfl rfl (op_index_str ha586 rfl Try.underlying9 rfl rfl (by omega) hb587) ?_
       intro a588 ha588; clear ha586 a586
       refine wl_val ha588 rfl rfl rfl (op_lss ha588 rfl rfl rfl) ?_
       intro a589 ha589; clear ha588 a588
       refine wl_val ha589 rfl rfl rfl (op_move ha589 rfl rfl) ?_
       intro a590 ha590; clear ha589 a589
       by_cases c591 : (b587.toNat : Int) < (48 : Int)
       ·
        rw [decide_eq_true c591] at ha590
        refine wl_skip ha590 rfl rfl rfl ?_
        intro a592 ha592; clear ha590 a590
        refine wl_skip ha592 rfl rfl rfl ?_
        intro a593 ha593; clear ha592 a592
        refine wl_skip ha593 rfl rfl rfl ?_
        intro a594 ha594; clear ha593 a593
        refine wl_skip ha594 rfl rfl rfl ?_
        intro a595 ha595; clear ha594 a594
        refine wl_val ha595 rfl rfl rfl (op_pick_t ha595 rfl rfl rfl) ?_
        intro a596 ha596; clear ha595 a595
        refine wpList_nil ?_
        refine then_n ?_
        refine cond_t ha596 rfl ?_
        refine wp_seq ?_
        refine wp_region_lit ?_
        refine wl_val ha596 rfl rfl rfl (op_assign ha596 rfl rfl) ?_
        intro a597 ha597; clear ha596 a596
        refine wl_val ha597 rfl rfl rfl (op_assign ha597 rfl rfl) ?_
        intro a598 ha598; clear ha597 a597
        refine wpList_nil ?_
        refine then_n ?_
        refine wp_ret ?_
        refine then_r ?_
        refine block_r ?_
        refine then_r ?_
        refine then_r ?_
        refine block_r ?_
        refine then_r ?_
        refine ret2 ha598 rfl rfl rfl ?_
        clear ha598 a598
        have hd : rdD s = s := rdD_f hb480 (by omega)
        rw [drop_cons hb587, valGo_bad (by omega)] at hF
        exact ret_mk hx577 (tup2_eq (int_eq (by rw [rdV_none hd hF.symm])) (congrArg Value.bool (by rw [rdV_none hd hF.symm])))
       ·
        rw [decide_eq_false c591] at ha590
        refine wl_val ha590 rfl rfl rfl (op_move ha590 rfl rfl) ?_
        intro a599 ha599; clear ha590 a590
        refine wl_val ha599 rfl rfl rfl (op_move ha599 rfl rfl) ?_
        intro a600 ha600; clear ha599 a599
        refine wl_val ha600 rfl rfl rfl (op_index_str ha600 rfl Try.underlying9 rfl rfl (by omega) hb587) ?_
        intro a601 ha601; clear ha600 a600
        refine wl_val ha601 rfl rfl rfl (op_gtr ha601 rfl rfl rfl) ?_
        intro a602 ha602; clear ha601 a601
        refine wl_val ha602 rfl rfl rfl (op_pick_f ha602 rfl rfl rfl) ?_
        intro a603 ha603; clear ha602 a602
        refine wpList_nil ?_
        refine then_n ?_
        by_cases c604 : (57 : Int) < (b587.toNat : Int)
        ·
         rw [decide_eq_true c604] at ha603
         refine cond_t ha603 rfl ?_
         refine wp_seq ?_
         refine wp_region_lit ?_
         refine wl_val ha603 rfl rfl rfl (op_assign ha603 rfl rfl) ?_
         intro a605 ha605; clear ha603 a603
         refine wl_val ha605 rfl rfl rfl (op_assign ha605 rfl rfl) ?_
         intro a606 ha606; clear ha605 a605
         refine wpList_nil ?_
         refine then_n ?_
         refine wp_ret ?_
         refine then_r ?_
         refine block_r ?_
         refine then_r ?_
         refine then_r ?_
         refine block_r ?_
         refine then_r ?_
         refine ret2 ha606 rfl rfl rfl ?_
         clear ha606 a606
         have hd : rdD s = s := rdD_f hb480 (by omega)
         rw [drop_cons hb587, valGo_bad (by omega)] at hF
         exact ret_mk hx577 (tup2_eq (int_eq (by rw [rdV_none hd hF.symm])) (congrArg Value.bool (by rw [rdV_none hd hF.symm])))
        ·
         rw [decide_eq_false c604] at ha603
         refine cond_f ha603 rfl ?_
         refine wp_skip ?_
         refine then_n ?_
         refine wp_region_lit ?_
         refine wl_val ha603 rfl rfl rfl (op_move ha603 rfl rfl) ?_
         intro a607 ha607; clear ha603 a603
         refine wl_val ha607 rfl rfl rfl ((op_mul ha607 rfl rfl rfl).int (IntWalk.i64_in _ (by omega))) ?_
         intro a608 ha608; clear ha607 a607
         refine wl_val ha608 rfl rfl rfl (op_move ha608 rfl rfl) ?_
         intro a609 ha609; clear ha608 a608
         refine wl_val ha609 rfl rfl rfl (op_move ha609 rfl rfl) ?_
         intro a610 ha610; clear ha609 a609
         refine wl_val ha610 rfl rfl rfl (op_index_str ha610 rfl Try.underlying9 rfl rfl (by omega) hb587) ?_
         intro a611 ha611; clear ha610 a610
         refine wl_val ha611 rfl rfl rfl ((op_sub ha611 rfl rfl rfl).int (IntWalk.u8_in _ (by omega))) ?_
         intro a612 ha612; clear ha611 a611
         refine wl_val ha612 rfl rfl rfl ((op_conv_int ha612 rfl Try.underlying5 Try.underlying2 rfl).int (IntWalk.i64_in _ (by omega))) ?_
         intro a613 ha613; clear ha612 a612
         refine wl_val ha613 rfl rfl rfl ((op_add ha613 rfl rfl rfl).int (IntWalk.i64_in _ (by omega))) ?_
         intro a614 ha614; clear ha613 a613
         refine wl_val ha614 rfl rfl rfl (op_assign ha614 rfl rfl) ?_
         intro a615 ha615; clear ha614 a614
         refine wpList_nil ?_
         refine block_n ?_
         refine then_n ?_
         refine wp_region_lit ?_
         refine wl_val ha615 rfl rfl rfl (op_move ha615 rfl rfl) ?_
         intro a616 ha616; clear ha615 a615
         refine wl_val ha616 rfl rfl rfl ((op_add ha616 rfl rfl rfl).int (IntWalk.i64_in _ (by omega))) ?_
         intro a617 ha617; clear ha616 a616
         refine wl_val ha617 rfl rfl rfl (op_assign ha617 rfl rfl) ?_
         intro a618 ha618; clear ha617 a617
         refine wpList_nil ?_
         refine round_end (x := (i, n)) ((i + 1), (((10 : Int) * n) + ((b587.toNat : Int) - (48 : Int)))) ?_ ?_
         ·
          refine ⟨(Sl.cons_ ha618 rfl rfl (Sl.cons_ ha618 rfl rfl (Sl.cons_ ha618 rfl (int_eq (by omega)) (Sl.cons_ ha618 rfl (int_eq (by omega)) (Sl.nil_ ha618))))), hx577, (by omega), (by omega), (by omega), (by rw [h10]; omega), (by rw [drop_cons hb587, valGo_ok (by omega) (by omega)] at hF; exact hF)⟩
         ·show (s.length - ((i + 1)) : Nat) < s.length - i; omega
      ·
       rw [decide_eq_false c584] at ha583
       refine cond_f ha583 rfl ?_
       refine wp_exit ?_
       refine then_e ?_
       refine then_e ?_
       refine block_hit ?_
       refine then_n ?_
       refine wp_seq ?_
       refine wp_seq ?_
       refine wp_region_lit ?_
       refine wl_val ha583 rfl rfl rfl (op_move ha583 rfl rfl) ?_
       intro a619 ha619; clear ha583 a583
       refine wl_val ha619 rfl rfl rfl (op_len_str ha619 rfl Try.underlying9 rfl) ?_
       intro a620 ha620; clear ha619 a619
       refine wl_val ha620 rfl rfl rfl (op_move ha620 rfl rfl) ?_
       intro a621 ha621; clear ha620 a620
       refine wl_val ha621 rfl rfl rfl (op_len_str ha621 rfl Try.underlying9 rfl) ?_
       intro a622 ha622; clear ha621 a621
       refine wl_val ha622 rfl rfl rfl (op_lss ha622 rfl rfl rfl) ?_
       intro a623 ha623; clear ha622 a622
       refine wpList_nil ?_
       refine then_n ?_
       by_cases c624 : ((s.length : Nat) : Int) < ((s.length : Nat) : Int)
       ·
        rw [decide_eq_true c624] at ha623
        refine cond_t ha623 rfl ?_
        refine wp_region_lit ?_
        refine wl_val ha623 rfl rfl rfl (op_move ha623 rfl rfl) ?_
        intro a625 ha625; clear ha623 a623
        refine wl_val ha625 rfl rfl rfl ((op_neg ha625 rfl rfl).int (IntWalk.i64_in _ (by omega))) ?_
        intro a626 ha626; clear ha625 a625
        refine wl_val ha626 rfl rfl rfl (op_assign ha626 rfl rfl) ?_
        intro a627 ha627; clear ha626 a626
        refine wpList_nil ?_
        refine then_n ?_
        refine wp_seq ?_
        refine wp_region_lit ?_
        refine wl_val ha627 rfl rfl rfl (op_move ha627 rfl rfl) ?_
        intro a628 ha628; clear ha627 a627
        refine wl_val ha628 rfl rfl rfl (op_assign ha628 rfl rfl) ?_
        intro a629 ha629; clear ha628 a628
        refine wl_val ha629 rfl rfl rfl (op_assign ha629 rfl rfl) ?_
        intro a630 ha630; clear ha629 a629
        refine wpList_nil ?_
        refine then_n ?_
        refine wp_ret ?_
        refine ret2 ha630 rfl rfl rfl ?_
        clear ha630 a630
        have hd : rdD s = s := rdD_f hb480 (by omega)
        rw [drop_nil (by omega), valGo_nil] at hF
        exact ret_mk hx577 (tup2_eq (int_eq (by rw [rdV_some hd (by unfold rdBad; rw [chI_eq hb480]; simp only [Option.some.injEq]; omega) hF.symm] <;> rw [if_pos (by omega)])) (congrArg Value.bool (by rw [rdV_some hd (by unfold rdBad; rw [chI_eq hb480]; simp only [Option.some.injEq]; omega) hF.symm] <;> rw [if_pos (by omega)])))
       ·
        rw [decide_eq_false c624] at ha623
        refine cond_f ha623 rfl ?_
        refine wp_skip ?_
        refine then_n ?_
        refine wp_seq ?_
        refine wp_region_lit ?_
        refine wl_val ha623 rfl rfl rfl (op_move ha623 rfl rfl) ?_
        intro a631 ha631; clear ha623 a623
        refine wl_val ha631 rfl rfl rfl (op_assign ha631 rfl rfl) ?_
        intro a632 ha632; clear ha631 a631
        refine wl_val ha632 rfl rfl rfl (op_assign ha632 rfl rfl) ?_
        intro a633 ha633; clear ha632 a632
        refine wpList_nil ?_
        refine then_n ?_
        refine wp_ret ?_
        refine ret2 ha633 rfl rfl rfl ?_
        clear ha633 a633
        have hd : rdD s = s := rdD_f hb480 (by omega)
        rw [drop_nil (by omega), valGo_nil] at hF
        exact ret_mk hx577 (tup2_eq (int_eq (by rw [rdV_some hd (by unfold rdBad; rw [chI_eq hb480]; simp only [Option.some.injEq]; omega) hF.symm] <;> rw [if_neg (by omega)])) (congrArg Value.bool (by rw [rdV_some hd (by unfold rdBad; rw [chI_eq hb480]; simp only [Option.some.injEq]; omega) hF.symm] <;> rw [if_neg (by omega)])))


end Go.Proofs.Ytkdnclpgijkceaa
