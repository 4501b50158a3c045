/- Decimal texts, and numbers out of texts. -/
import Derived.Test.YthbehhhblchhhaaGreatW1
namespace Go.Proofs.YthbehhhblchhhaaGreat
open Go Go.RowKit
set_option maxHeartbeats 16000000

/-- The digits of a number. -/
def digs (n : Nat) : Str := if h : n < 10 then [UInt8.ofNat (48 + n % 10)] else digs (n / 10) ++ [UInt8.ofNat (48 + n % 10)]
termination_by n
decreasing_by omega
def decS (n : Int) : Str := if n < 0 then 45 :: digs (0 - n).toNat else digs n.toNat
theorem digs_lt {n : Nat} (h : n < 10) : digs n = [UInt8.ofNat (48 + n % 10)] := by rw [digs, dif_pos h]
theorem digs_ge {n : Nat} (h : ¬ n < 10) : digs n = digs (n / 10) ++ [UInt8.ofNat (48 + n % 10)] := by rw [digs, dif_neg h]
theorem digs_len : ∀ (k n : Nat), n < 10 ^ (k + 1) → (digs n).length ≤ k + 1 := by
  intro k
  induction k with
  | zero => intro n h; rw [digs_lt (by simpa using h)]; simp
  | succ k ih =>
    intro n h
    by_cases h10 : n < 10
    · rw [digs_lt h10]; simp
    · rw [digs_ge h10, List.length_append]
      have := ih (n / 10) (by rw [Nat.pow_succ] at h; omega)
      simp; omega
theorem digs_pos (n : Nat) : 1 ≤ (digs n).length := by
  by_cases h : n < 10
  · rw [digs_lt h]; simp
  · rw [digs_ge h]; simp
theorem digs_len19 {n : Nat} (h : n ≤ 9223372036854775807) : (digs n).length ≤ 19 := digs_len 18 n (by omega)
theorem decS_len {n : Int} (h : -9223372036854775808 ≤ n ∧ n ≤ 9223372036854775807) : (decS n).length ≤ 20 := by
  unfold decS
  split
  · by_cases e : n = -9223372036854775808
    · subst e
      have := digs_len 18 9223372036854775808 (by omega)
      simp only [List.length_cons]
      have e2 : (0 - (-9223372036854775808 : Int)).toNat = 9223372036854775808 := by decide
      rw [e2]; omega
    · have := digs_len19 (n := (0 - n).toNat) (by omega); rw [List.length_cons]; omega
  · have := digs_len19 (n := n.toNat) (by omega); omega
theorem decS_nn {n : Int} (h : 0 ≤ n) : decS n = digs n.toNat := by unfold decS; rw [if_neg (by omega)]
theorem decS_lt {n : Int} (h0 : 0 ≤ n) (h : n < 10) : decS n = [UInt8.ofNat (48 + n.toNat)] := by
  rw [decS_nn h0, digs_lt (by omega)]; congr 3; omega
theorem decS_ge {n : Int} (h0 : 0 ≤ n) (h : ¬ n < 10) : decS n = decS (n / 10) ++ [UInt8.ofNat (48 + n.toNat % 10)] := by
  rw [decS_nn h0, decS_nn (by omega), digs_ge (by omega)]
  have : (n / 10).toNat = n.toNat / 10 := by omega
  rw [this]

def valGo : Int → Str → Option Int
  | n, [] => some n
  | n, b :: s => if (b.toNat : Int) < 48 ∨ 57 < (b.toNat : Int) then none else valGo (10 * n + ((b.toNat : Int) - 48)) s
theorem valGo_nil (n : Int) : valGo n [] = some n := rfl
theorem valGo_bad {n : Int} {b : UInt8} {s : Str} (h : (b.toNat : Int) < 48 ∨ 57 < (b.toNat : Int)) : valGo n (b :: s) = none := by rw [valGo, if_pos h]
theorem valGo_ok {n : Int} {b : UInt8} {s : Str} (h : ¬ (b.toNat : Int) < 48) (h' : ¬ 57 < (b.toNat : Int)) : valGo n (b :: s) = valGo (10 * n + ((b.toNat : Int) - 48)) s := by rw [valGo, if_neg (by omega)]
def l01V (s : Str) : Int × Bool := if s.length < 1 ∨ 13 < s.length then (0, false) else match valGo 0 s with
  | none => (0, false)
  | some n => (n, decide (decS n = s))
theorem l01V_none {s : Str} (h : valGo 0 s = none) : l01V s = (0, false) := by unfold l01V; split <;> simp [h]
theorem l01V_some {s : Str} {n : Int} (h : valGo 0 s = some n) (h1 : 1 ≤ s.length) (h2 : s.length ≤ 13) : l01V s = (n, decide (decS n = s)) := by unfold l01V; rw [if_neg (by omega), h]
theorem l01V_bad {s : Str} (h : s.length < 1 ∨ 13 < s.length) : l01V s = (0, false) := by unfold l01V; rw [if_pos h]
def chI (s : Str) (i : Nat) : Option Int := (s[i]?).map fun b => (b.toNat : Int)
theorem chI_eq {s : Str} {i : Nat} {b : UInt8} (h : s[i]? = some b) : chI s i = some (b.toNat : Int) := by unfold chI; rw [h]; rfl
theorem chI_nil {s : Str} {i : Nat} (h : s.length ≤ i) : chI s i = none := by unfold chI; rw [List.getElem?_eq_none h]; rfl
def rdD (s : Str) : Str := if chI s 0 = some 45 then s.drop 1 else s
theorem rdD_t {s : Str} {b : UInt8} (h : s[0]? = some b) (e : (b.toNat : Int) = 45) : rdD s = s.drop 1 := by unfold rdD; rw [chI_eq h, if_pos (by rw [e])]
theorem rdD_f {s : Str} {b : UInt8} (h : s[0]? = some b) (e : ¬ (b.toNat : Int) = 45) : rdD s = s := by unfold rdD; rw [chI_eq h, if_neg (by simpa using e)]
theorem rdD_n {s : Str} (h : s.length ≤ 0) : rdD s = s := by unfold rdD; rw [chI_nil h, if_neg (by simp)]
def rdBad (s d : Str) : Prop := d.length = 0 ∨ 18 < d.length ∨ (chI d 0 = some 48 ∧ (1 < d.length ∨ 1 < s.length))
instance (s d : Str) : Decidable (rdBad s d) := by unfold rdBad; infer_instance
def rdV (s : Str) : Int × Bool := if rdBad s (rdD s) then (0, false) else match valGo 0 (rdD s) with
  | none => (0, false)
  | some n => (if (rdD s).length < s.length then 0 - n else n, true)
theorem rdV_bad {s d : Str} (hd : rdD s = d) (h : rdBad s d) : rdV s = (0, false) := by unfold rdV; rw [hd, if_pos h]
theorem rdV_none {s d : Str} (hd : rdD s = d) (h : valGo 0 d = none) : rdV s = (0, false) := by unfold rdV; rw [hd]; split <;> simp [h]
theorem rdV_some {s d : Str} {n : Int} (hd : rdD s = d) (hb : ¬ rdBad s d) (h : valGo 0 d = some n) : rdV s = (if d.length < s.length then 0 - n else n, true) := by unfold rdV; rw [hd, if_neg hb, h]
theorem valGo_bd : ∀ (k : Nat) (s : Str) (n m B : Int), s.length ≤ k → 0 ≤ n → n < B → valGo n s = some m → 0 ≤ m ∧ m < B * 10 ^ k
  | 0, s, n, m, B, h, h0, h1, hv => by
    have : s = [] := List.eq_nil_of_length_eq_zero (by omega)
    subst this; rw [valGo_nil] at hv; cases hv; simp; omega
  | k + 1, [], n, m, B, h, h0, h1, hv => by
    have := valGo_bd k [] n m B (by simp) h0 h1 hv
    rw [Int.pow_succ, ← Int.mul_assoc]
    omega
  | k + 1, b :: s, n, m, B, h, h0, h1, hv => by
    rw [valGo] at hv
    split at hv
    · cases hv
    · have := valGo_bd k s _ m (B * 10) (by simpa using h) (by omega) (by omega) hv
      rw [Int.pow_succ, Int.mul_comm ((10 : Int) ^ k) 10, ← Int.mul_assoc]
      exact this
theorem rdV_bd (s : Str) : -1000000000000000000 ≤ (rdV s).1 ∧ (rdV s).1 ≤ 1000000000000000000 := by
  unfold rdV; split
  · simp
  · rename_i hb
    cases hv : valGo 0 (rdD s) with
    | none => simp
    | some n =>
      have h18 : (rdD s).length ≤ 18 := by unfold rdBad at hb; omega
      have := valGo_bd 18 _ 0 n 1 h18 (by omega) (by omega) hv
      simp only
      split <;> omega
theorem l01V_bd (s : Str) : 0 ≤ (l01V s).1 ∧ (l01V s).1 ≤ 10000000000000 := by
  unfold l01V; split
  · simp
  · cases hv : valGo 0 s with
    | none => simp
    | some n =>
      have := valGo_bd 13 _ 0 n 1 (by omega) (by omega) (by omega) hv
      simp only
      omega
theorem pow18 {i : Nat} (h : i ≤ 18) : 10 ^ i ≤ 1000000000000000000 := Nat.le_trans (Nat.pow_le_pow_right (by decide) h) (by decide)
theorem pow17 {i : Nat} (h : i ≤ 17) : 10 ^ i ≤ 100000000000000000 := Nat.le_trans (Nat.pow_le_pow_right (by decide) h) (by decide)

theorem digs_dig : ∀ (k n : Nat), n ≤ k → ∀ c ∈ digs n, 48 ≤ c.toNat ∧ c.toNat ≤ 57 := by
  intro k
  induction k with
  | zero => intro n h c hc; rw [digs_lt (by omega)] at hc; simp only [List.mem_singleton] at hc; subst hc; rw [UInt8.toNat_ofNat']; omega
  | succ k ih =>
    intro n h c hc
    by_cases h10 : n < 10
    · rw [digs_lt h10] at hc; simp only [List.mem_singleton] at hc; subst hc; rw [UInt8.toNat_ofNat']; omega
    · rw [digs_ge h10] at hc
      rcases List.mem_append.1 hc with hc | hc
      · exact ih _ (by omega) c hc
      · simp only [List.mem_singleton] at hc; subst hc; rw [UInt8.toNat_ofNat']; omega
theorem valGo_append : ∀ (s t : Str) (n : Int), valGo n (s ++ t) = (valGo n s).bind fun m => valGo m t
  | [], t, n => by simp [valGo]
  | b :: s, t, n => by
    rw [List.cons_append, valGo, valGo]; split
    · rfl
    · exact valGo_append s t _
theorem valGo_digs : ∀ (k n : Nat), n ≤ k → valGo 0 (digs n) = some (n : Int) := by
  intro k
  induction k with
  | zero => intro n h; have : n = 0 := by omega
            subst this; rw [digs_lt (by omega)]; decide
  | succ k ih =>
    intro n h
    have hd : ((UInt8.ofNat (48 + n % 10)).toNat : Int) = 48 + ((n % 10 : Nat) : Int) := by rw [UInt8.toNat_ofNat']; omega
    by_cases h10 : n < 10
    · rw [digs_lt h10, valGo_ok (by rw [hd]; omega) (by rw [hd]; omega), valGo_nil, hd]; congr 1; omega
    · rw [digs_ge h10, valGo_append, ih _ (by omega)]
      simp only [Option.bind_some]
      rw [valGo_ok (by rw [hd]; omega) (by rw [hd]; omega), valGo_nil, hd]; congr 1; omega
theorem digs_head : ∀ (k n : Nat), n ≤ k → 0 < n → ∃ c s, digs n = c :: s ∧ 49 ≤ c.toNat := by
  intro k
  induction k with
  | zero => intro n h h0; omega
  | succ k ih =>
    intro n h h0
    by_cases h10 : n < 10
    · exact ⟨_, [], digs_lt h10, by rw [UInt8.toNat_ofNat']; omega⟩
    · obtain ⟨c, s, e, hc⟩ := ih (n / 10) (by omega) (by omega)
      exact ⟨c, s ++ [UInt8.ofNat (48 + n % 10)], by rw [digs_ge h10, e]; rfl, hc⟩
theorem digs_chI {n : Nat} (h : chI (digs n) 0 = some 48) : n = 0 := by
  rcases Nat.eq_zero_or_pos n with h0 | h0
  · exact h0
  · obtain ⟨c, s, e, hc⟩ := digs_head n n (Nat.le_refl _) h0
    rw [e, chI_eq (s := c :: s) (b := c) rfl] at h
    simp only [Option.some.injEq] at h
    omega
theorem valGo_ge : ∀ (s : Str) (n m : Int), 0 ≤ n → valGo n s = some m → n ≤ m
  | [], n, m, _, h => by rw [valGo_nil] at h; cases h; exact Int.le_refl _
  | b :: s, n, m, h0, h => by
    rw [valGo] at h; split at h
    · cases h
    · have := valGo_ge s _ m (by omega) h; omega
theorem u48 (b : UInt8) (h : ¬ (b.toNat : Int) < 48) (h' : ¬ 57 < (b.toNat : Int)) : UInt8.ofNat (48 + (b.toNat - 48)) = b := by
  apply UInt8.toNat_inj.1; rw [UInt8.toNat_ofNat']; omega
/-- A text of digits that does not begin with a zero is how its number is written. -/
theorem digs_of : ∀ (k : Nat) (s : Str) (n : Int), s.length = k + 1 → valGo 0 s = some n → (s.length = 1 ∨ s[0]? ≠ some 48) → 0 ≤ n ∧ digs n.toNat = s
  | 0, s, n, hl, hv, _ => by
    match s, hl with
    | [b], _ =>
      rw [valGo] at hv; split at hv
      · cases hv
      · rename_i hb
        rw [valGo_nil] at hv; cases hv
        refine ⟨by omega, ?_⟩
        rw [digs_lt (by omega)]
        have e : (10 * 0 + ((b.toNat : Int) - 48)).toNat % 10 = b.toNat - 48 := by omega
        rw [e, u48 b (by omega) (by omega)]
  | k + 1, s, n, hl, hv, h0 => by
    have hne : s ≠ [] := by intro e; subst e; simp at hl
    have hs := List.dropLast_concat_getLast hne
    have hz : s[0]? ≠ some 48 := h0.resolve_left (by omega)
    generalize s.dropLast = t at hs
    generalize s.getLast hne = b at hs
    subst hs
    have hlt : t.length = k + 1 := by simpa using hl
    rw [valGo_append] at hv
    cases ht : valGo 0 t with
    | none => rw [ht] at hv; cases hv
    | some m =>
      rw [ht, Option.bind_some, valGo] at hv
      split at hv
      · cases hv
      · rename_i hb
        rw [valGo_nil] at hv; cases hv
        have hz' : t[0]? ≠ some 48 := by rwa [List.getElem?_append_left (by omega)] at hz
        obtain ⟨hm, hd⟩ := digs_of k t m hlt ht (.inr hz')
        have hm1 : 1 ≤ m := by
          obtain ⟨c, hc⟩ := get_ex (xs := t) (j := 0) (by omega)
          match t, hc with
          | c' :: t', hc =>
            simp at hc; subst hc
            rw [valGo] at ht; split at ht
            · cases ht
            · have h1 := valGo_ge t' _ m (by omega) ht
              have h2 : ¬ c'.toNat = 48 := fun e => hz' (by simp; apply UInt8.toNat_inj.1; rw [e]; rfl)
              omega
        refine ⟨by omega, ?_⟩
        rw [digs_ge (by omega)]
        have e1 : (10 * m + ((b.toNat : Int) - 48)).toNat / 10 = m.toNat := by omega
        have e2 : (10 * m + ((b.toNat : Int) - 48)).toNat % 10 = b.toNat - 48 := by omega
        rw [e1, e2, hd, u48 b (by omega) (by omega)]
theorem chI_some {s : Str} {i : Nat} {k : Int} (h : chI s i = some k) : ∃ b, s[i]? = some b ∧ (b.toNat : Int) = k := by
  unfold chI at h
  cases e : s[i]? with
  | none => rw [e] at h; cases h
  | some b => rw [e] at h; simp at h; exact ⟨b, rfl, h⟩
theorem digs_bad {n : Nat} {s : Str} (hl : (digs n).length ≤ 18) (hs : n = 0 → s.length ≤ 1) : ¬ rdBad s (digs n) := by
  have hp := digs_pos n
  unfold rdBad
  rintro (hq | hq | ⟨hq, hq2⟩)
  · omega
  · omega
  · have h0 := digs_chI hq
    have := hs h0
    subst h0
    rw [digs_lt (by omega)] at hq2
    simp at hq2; omega
theorem rdV_dec {n : Int} (h : -1000000000000000000 < n ∧ n < 1000000000000000000) : rdV (decS n) = (n, true) := by
  by_cases hn : n < 0
  · have hd : decS n = 45 :: digs (0 - n).toNat := by unfold decS; rw [if_pos hn]
    have hl : (digs (0 - n).toNat).length ≤ 18 := digs_len 17 _ (by omega)
    have e : rdD (decS n) = digs (0 - n).toNat := by rw [hd, rdD_t (b := 45) rfl rfl]; rfl
    rw [rdV_some e (digs_bad hl (by omega)) (valGo_digs _ _ (Nat.le_refl _)), hd, if_pos (by simp)]
    congr 1; omega
  · rw [decS_nn (by omega)]
    have hl : (digs n.toNat).length ≤ 18 := digs_len 17 _ (by omega)
    have hp := digs_pos n.toNat
    obtain ⟨b, hb⟩ := get_ex (xs := digs n.toNat) (j := 0) (by omega)
    have hbd := digs_dig _ _ (Nat.le_refl _) b (List.mem_of_getElem? hb)
    have e : rdD (digs n.toNat) = digs n.toNat := rdD_f hb (by omega)
    have hbad : ¬ rdBad (digs n.toNat) (digs n.toNat) := digs_bad hl fun h0 => by rw [h0, digs_lt (by omega)]; simp
    rw [rdV_some e hbad (valGo_digs _ _ (Nat.le_refl _)), if_neg (by omega)]
    congr 1; omega
theorem l01V_digs {n : Nat} (h : n < 10000000000000) : l01V (digs n) = ((n : Int), true) := by
  have hl : (digs n).length ≤ 13 := digs_len 12 n (by omega)
  have hp := digs_pos n
  rw [l01V_some (valGo_digs n n (Nat.le_refl _)) (by omega) (by omega), decS_nn (by omega)]
  simp
/-- A number with its sign, as the reference reads it. -/
def l01Sg (s : Str) : Int × Bool := if chI s 0 = some 45 then (0 - (l01V (s.drop 1)).1, (l01V (s.drop 1)).2 && decide (0 < (l01V (s.drop 1)).1)) else l01V s
theorem l01Sg_t {s : Str} {b : UInt8} (h : s[0]? = some b) (e : (b.toNat : Int) = 45) : l01Sg s = (0 - (l01V (s.drop 1)).1, (l01V (s.drop 1)).2 && decide (0 < (l01V (s.drop 1)).1)) := by unfold l01Sg; rw [chI_eq h, if_pos (by rw [e])]
theorem l01Sg_f {s : Str} {b : UInt8} (h : s[0]? = some b) (e : ¬ (b.toNat : Int) = 45) : l01Sg s = l01V s := by unfold l01Sg; rw [chI_eq h, if_neg (by simpa using e)]
theorem l01Sg_n {s : Str} (h : s.length ≤ 0) : l01Sg s = l01V s := by unfold l01Sg; rw [chI_nil h, if_neg (by simp)]
theorem l01Sg_dec {n : Int} (h : -10000000000000 < n ∧ n < 10000000000000) : l01Sg (decS n) = (n, true) := by
  by_cases hn : n < 0
  · have hd : decS n = 45 :: digs (0 - n).toNat := by unfold decS; rw [if_pos hn]
    rw [hd, l01Sg_t (b := 45) rfl rfl]
    show (0 - (l01V (digs (0 - n).toNat)).1, _) = _
    rw [show (45 :: digs (0 - n).toNat).drop 1 = digs (0 - n).toNat from rfl, l01V_digs (by omega)]
    simp; omega
  · rw [decS_nn (by omega)]
    have hp := digs_pos n.toNat
    obtain ⟨b, hb⟩ := get_ex (xs := digs n.toNat) (j := 0) (by omega)
    have hbd := digs_dig _ _ (Nat.le_refl _) b (List.mem_of_getElem? hb)
    rw [l01Sg_f hb (by omega), l01V_digs (by omega)]
    congr 1; omega
theorem l01Sg_bd (s : Str) : -10000000000000 ≤ (l01Sg s).1 ∧ (l01Sg s).1 ≤ 10000000000000 := by
  unfold l01Sg
  have h1 := l01V_bd s; have h2 := l01V_bd (s.drop 1)
  split
  · show -10000000000000 ≤ 0 - (l01V (s.drop 1)).1 ∧ 0 - (l01V (s.drop 1)).1 ≤ _; omega
  · omega
/-- The two readers agree where a number of at least 0 and of at most 13 digits is asked. -/
theorem rd_l01 (w : Str) (h1 : (rdV w).2 = true) (h2 : ¬ (rdV w).1 < 0) (h3 : ¬ 13 < w.length) : l01V w = ((rdV w).1, true) := by
  have hD := rfl (a := rdD w)
  by_cases hb : rdBad w (rdD w)
  · rw [rdV_bad rfl hb] at h1; cases h1
  · cases hv : valGo 0 (rdD w) with
    | none => rw [rdV_none rfl hv] at h1; cases h1
    | some n =>
      rw [rdV_some rfl hb hv] at h2 ⊢
      have hn := valGo_ge _ _ _ (Int.le_refl 0) hv
      have hb1 : ¬ (rdD w).length = 0 := fun e => hb (.inl e)
      have hlead : (rdD w).length = 1 ∧ w.length ≤ 1 ∨ (rdD w)[0]? ≠ some 48 := by
        by_cases e : (rdD w)[0]? = some 48
        · left
          have hc : chI (rdD w) 0 = some 48 := chI_eq e
          constructor
          · apply Classical.byContradiction; intro q; exact hb (.inr (.inr ⟨hc, .inl (by omega)⟩))
          · apply Classical.byContradiction; intro q; exact hb (.inr (.inr ⟨hc, .inr (by omega)⟩))
        · exact .inr e
      obtain ⟨k, hk⟩ : ∃ k, (rdD w).length = k + 1 := ⟨(rdD w).length - 1, by omega⟩
      obtain ⟨_, hd⟩ := digs_of k _ n hk hv (hlead.imp (·.1) id)
      by_cases hm : (rdD w).length < w.length
      · rw [if_pos hm] at h2
        exfalso
        have hn0 : n = 0 := by omega
        subst hn0
        have h48 : (rdD w)[0]? = some 48 := by rw [← hd]; rw [digs_lt (by decide)]; rfl
        rcases hlead with q | q
        · omega
        · exact q h48
      · have hw : rdD w = w := by
          unfold rdD at hm ⊢; split
          · rename_i q; rw [if_pos q] at hm; obtain ⟨b, hb, _⟩ := chI_some q
            have := (List.getElem?_eq_some_iff.1 hb).1
            rw [List.length_drop] at hm; omega
          · rfl
        rw [hw] at hv hd hk
        rw [if_neg hm, l01V_some hv (by omega) (by omega), decS_nn hn, hd]; simp
theorem l01_rd (w : Str) (h : (l01V w).2 = true) : rdV w = ((l01V w).1, true) ∧ ¬ (l01V w).1 < 0 ∧ ¬ 13 < w.length := by
  by_cases hl : w.length < 1 ∨ 13 < w.length
  · rw [l01V_bad hl] at h; cases h
  · cases hv : valGo 0 w with
    | none => rw [l01V_none hv] at h; cases h
    | some n =>
      rw [l01V_some hv (by omega) (by omega)] at h ⊢
      have hn := valGo_ge _ _ _ (Int.le_refl 0) hv
      have hb := valGo_bd 13 w 0 n 1 (by omega) (by omega) (by omega) hv
      have e : decS n = w := by simpa using h
      refine ⟨?_, by show ¬ n < 0; omega, by omega⟩
      rw [← e, rdV_dec (by omega)]

theorem c_spec_l01Dec_ind : ∀ (kk : Nat) (w0 : World) (n : Int) (_g0 : 0 ≤ n) (_g1 : n ≤ 9223372036854775807) (_hk : n.toNat < kk), Calls Tryz.prog 67 #[.int .i64 n] w0 (Ret w0 (fun v _ => v = St (decS n))) := by
 intro kk
 induction kk with
 | zero => intro w0 n g0 g1 hk; exact absurd hk (by omega)
 | succ kk ih =>
 intro w0 n g0 g1 hk
 refine enter (N := 20) Tryz.func67 rfl rfl rfl ?_
 intro A H
 have hx0 := Ext.rfl' w0
 revert A; refine go ?_; intro A H
 by_cases c4 : n < (10 : Int)
 rw [decide_eq_true c4] at H
 revert A; refine go ?_; intro A H
 refine wv H ((op_add H rfl rfl rfl).int (IntWalk.i64_in _ (by omega))) ?_
 clear H A; intro A H
 refine wv H ((op_conv_int H rfl U2 U5 rfl).int (IntWalk.u8_in _ (by omega))) ?_
 clear H A; intro A H
 refine we H (op_buildSlice (s := shU8) (xs := [UInt8.ofNat ((48 + n.toNat))]) (cs := [.int .u8 ((48 : Int) + n)]) (vs := [(0, .int .u8 ((48 : Int) + n))]) (S := fun _ => False) (le := w0.heap.size) H rfl pos_shU8 U22 ti5 rfl rfl (by decide) (by kernel_rfl) (Els.single (mk_shU8i ((48 + n.toNat)) (by omega) (by omega))) (fun _ h => h.elim)) ?_
 clear H A; rintro v8 w9 ⟨ho10, he11, hob12⟩ A H
 obtain ⟨hx14, _⟩ := nx hx0 he11
 refine wv H (op_conv_str H rfl U22 U5 U9 rfl (ho10.rds pos_shU8)) ?_
 clear H A; refine go ?_; intro A H
 refine ret1 H rfl rfl ?_
 clear H A
 exact ret_mk hx14 (congrArg St (by rw [decS_lt (n := n) (by omega) (by omega)]))
 rw [decide_eq_false c4] at H
 revert A; refine go ?_; intro A H
 refine dre Ext follows_mixed ?_
 intro w17 he18 hs20
 obtain ⟨hx19, _⟩ := nx hx0 he18
 refine dw 0 H rfl hs20 (op_move H rfl rfl) ?_
 clear H A; intro A H
 refine dv 1 H rfl hs20 (fun w' hw' => (op_quo H rfl rfl rfl (by omega)).int (IntWalk.i64_quo _ _ (by omega))) ?_
 clear H A; intro A H
 refine dw 3 H rfl hs20 (op_move H rfl rfl) ?_
 clear H A; intro A H
 refine dv 4 H rfl hs20 (fun w' hw' => (op_rem H rfl rfl rfl (by omega)).int (Int.tmod_eq_emod_of_nonneg (by omega))) ?_
 clear H A; intro A H
 refine dw 5 H rfl hs20 ((op_add H rfl rfl rfl).int (IntWalk.i64_in _ (by omega))) ?_
 clear H A; intro A H
 refine dv 6 H rfl hs20 (fun w' hw' => (op_conv_int H rfl U2 U5 rfl).int (IntWalk.u8_in _ (by omega))) ?_
 clear H A; intro A H
 refine dr_two (i := 2) (j := 7) (by kernel_rfl) ?_ ?_
 refine pc H cb67 rfl (ih _ (n / (10 : Int)) gd gd (by omega)) ?_
 clear H A; rintro v27 w28 he29 rfl A H
 have hs31 := hs20.trans' he29
 obtain ⟨hx32, _⟩ := nx hx19 he29
 refine ⟨hs31, ?_⟩
 refine dr_one (i := 7) (by kernel_rfl) ?_
 refine pe H rfl (op_buildSlice (s := shU8) (xs := [UInt8.ofNat ((48 + (n.toNat % 10)))]) (cs := [.int .u8 ((48 : Int) + (n % (10 : Int)))]) (vs := [(0, .int .u8 ((48 : Int) + (n % (10 : Int))))]) (S := fun _ => False) (le := w28.heap.size) H rfl pos_shU8 U22 ti5 rfl rfl (by decide) (by kernel_rfl) (Els.single (mk_shU8i ((48 + (n.toNat % 10))) (by omega) (by omega))) (fun _ h => h.elim)) ?_
 clear H A; rintro v33 w34 ⟨ho35, he36, hob37⟩ A H
 have hs39 := hs31.trans' he36
 obtain ⟨hx40, _⟩ := nx hx32 he36
 refine ⟨hs39, ?_⟩
 refine dr_one (i := 8) (by kernel_rfl) ?_
 refine po_to H rfl rfl rfl rfl (op_conv_str H rfl U22 U5 U9 rfl (ho35.rds pos_shU8)) ?_
 clear H A; intro A H
 refine ⟨hs39, ?_⟩
 refine dw 9 H rfl hs39 (op_sadd H rfl rfl rfl (by (have h1 := decS_len (n := n / 10) (by omega)); simp; omega)) ?_
 clear H A; intro A H
 refine dw 10 H rfl hs39 (op_assign H rfl rfl) ?_
 clear H A; intro A H
 refine dr_end (by kernel_rfl) ?_
 revert A; refine go ?_; intro A H
 refine ret1 H rfl rfl ?_
 clear H A
 exact ret_mk hx40 (congrArg St (by rw [decS_ge (n := n) (by omega) (by omega)]))
 refine pe H rfl (op_buildSlice (s := shU8) (xs := [UInt8.ofNat ((48 + (n.toNat % 10)))]) (cs := [.int .u8 ((48 : Int) + (n % (10 : Int)))]) (vs := [(0, .int .u8 ((48 : Int) + (n % (10 : Int))))]) (S := fun _ => False) (le := w17.heap.size) H rfl pos_shU8 U22 ti5 rfl rfl (by decide) (by kernel_rfl) (Els.single (mk_shU8i ((48 + (n.toNat % 10))) (by omega) (by omega))) (fun _ h => h.elim)) ?_
 clear H A; rintro v44 w45 ⟨ho46, he47, hob48⟩ A H
 have hs50 := hs20.trans' he47
 obtain ⟨hx51, _⟩ := nx hx19 he47
 refine ⟨hs50, ?_⟩
 refine dr_two (i := 2) (j := 8) (by kernel_rfl) ?_ ?_
 refine pc H cb67 rfl (ih _ (n / (10 : Int)) gd gd (by omega)) ?_
 clear H A; rintro v52 w53 he54 rfl A H
 have hs56 := hs50.trans' he54
 obtain ⟨hx57, _⟩ := nx hx51 he54
 replace ho46 := ho46.ext he54
 refine ⟨hs56, ?_⟩
 refine dr_one (i := 8) (by kernel_rfl) ?_
 refine po_to H rfl rfl rfl rfl (op_conv_str H rfl U22 U5 U9 rfl (ho46.rds pos_shU8)) ?_
 clear H A; intro A H
 refine ⟨hs56, ?_⟩
 refine dw 9 H rfl hs56 (op_sadd H rfl rfl rfl (by (have h1 := decS_len (n := n / 10) (by omega)); simp; omega)) ?_
 clear H A; intro A H
 refine dw 10 H rfl hs56 (op_assign H rfl rfl) ?_
 clear H A; intro A H
 refine dr_end (by kernel_rfl) ?_
 revert A; refine go ?_; intro A H
 refine ret1 H rfl rfl ?_
 clear H A
 exact ret_mk hx57 (congrArg St (by rw [decS_ge (n := n) (by omega) (by omega)]))
 refine po_to H rfl rfl rfl rfl (op_conv_str H rfl U22 U5 U9 rfl (ho46.rds pos_shU8)) ?_
 clear H A; intro A H
 refine ⟨hs50, ?_⟩
 refine dr_one (i := 2) (by kernel_rfl) ?_
 refine pc H cb67 rfl (ih _ (n / (10 : Int)) gd gd (by omega)) ?_
 clear H A; rintro v62 w63 he64 rfl A H
 have hs66 := hs50.trans' he64
 obtain ⟨hx67, _⟩ := nx hx51 he64
 replace ho46 := ho46.ext he64
 refine ⟨hs66, ?_⟩
 refine dw 9 H rfl hs66 (op_sadd H rfl rfl rfl (by (have h1 := decS_len (n := n / 10) (by omega)); simp; omega)) ?_
 clear H A; intro A H
 refine dw 10 H rfl hs66 (op_assign H rfl rfl) ?_
 clear H A; intro A H
 refine dr_end (by kernel_rfl) ?_
 revert A; refine go ?_; intro A H
 refine ret1 H rfl rfl ?_
 clear H A
 exact ret_mk hx67 (congrArg St (by rw [decS_ge (n := n) (by omega) (by omega)]))

theorem c_spec_l01Dec (w0 : World) (n : Int) (g0 : 0 ≤ n) (g1 : n ≤ 9223372036854775807) : Calls Tryz.prog 67 #[.int .i64 n] w0 (Ret w0 (fun v _ => v = St (decS n))) := c_spec_l01Dec_ind (n.toNat + 1) w0 n g0 g1 (by omega)

theorem c_spec_l01Value (w0 : World) (s : Str)  :
    Calls Tryz.prog 71 #[St s] w0 (Ret w0 (fun v _ => v = .tuple #[.int .i64 ((l01V s).1), .bool ((l01V s).2)])) := by
 refine enter (N := 43) Tryz.func71 rfl rfl rfl ?_
 intro A H
 have hx0 := Ext.rfl' w0
 revert A; refine go ?_; intro A H
 refine wv H (op_len_str H rfl U9 rfl) ?_
 clear H A; refine go ?_; intro A H
 by_cases c7 : ((s.length : Nat) : Int) < (1 : Int)
 rw [decide_eq_true c7] at H
 revert A; refine go ?_; intro A H
 refine ret2 H rfl rfl rfl ?_
 clear H A
 exact ret_mk hx0 (tup2_eq (int_eq (by rw [l01V_bad (by omega)])) (congrArg Value.bool (by rw [l01V_bad (by omega)])))
 rw [decide_eq_false c7] at H
 refine wv H (op_move H rfl rfl) ?_
 clear H A; intro A H
 refine wv H (op_len_str H rfl U9 rfl) ?_
 clear H A; refine go ?_; intro A H
 by_cases c18 : (13 : Int) < ((s.length : Nat) : Int)
 rw [decide_eq_true c18] at H
 revert A; refine go ?_; intro A H
 refine ret2 H rfl rfl rfl ?_
 clear H A
 exact ret_mk hx0 (tup2_eq (int_eq (by rw [l01V_bad (by omega)])) (congrArg Value.bool (by rw [l01V_bad (by omega)])))
 rw [decide_eq_false c18] at H
 revert A; refine go ?_; intro A H
 refine loop_inv (X := Nat × Int) (fun ⟨i, n⟩ fr wl => Sl 43 fr [(0, St s), (4, .int .i64 n), (5, .int .i64 ((i : Nat) : Int))] ∧ Ext w0 wl ∧ w0.heap.size ≤ wl.heap.size ∧ (i ≤ s.length) ∧ (0 ≤ n) ∧ (n < ((10 ^ i : Nat) : Int)) ∧ (valGo n (s.drop i) = valGo 0 s)) (fun ⟨i, n⟩ => s.length - i) (0, (0 : Int)) ?_ ?_
 exact ⟨(sl H), hx0, (by omega), (by omega), (by omega), (by simp), (by rfl)⟩
 clear H A
 rintro ⟨i, n⟩ A w23 ⟨H, hx24, hzl26, hi, hn0, hn1, hF⟩
 have hzhx24 := hx24.size
 have h17 := pow17 (i := i)
 have h18 := pow18 (i := i)
 have h10 : (10 : Nat) ^ (i + 1) = 10 ^ i * 10 := by rw [Nat.pow_succ]
 revert A; refine go ?_; intro A H
 refine wv H (op_len_str H rfl U9 rfl) ?_
 clear H A; refine go ?_; intro A H
 by_cases c31 : ((i : Nat) : Int) < ((s.length : Nat) : Int)
 rw [decide_eq_true c31] at H
 revert A; refine go ?_; intro A H
 obtain ⟨b34, hb34⟩ := get_ex (xs := s) (j := i) (by omega)
 have b34_lt := b34.toNat_lt
 refine wv H (op_index_str H rfl U9 rfl rfl (by omega) hb34) ?_
 clear H A; refine go ?_; intro A H
 by_cases c38 : (b34.toNat : Int) < (48 : Int)
 rw [decide_eq_true c38] at H
 revert A; refine go ?_; intro A H
 refine ret2 H rfl rfl rfl ?_
 clear H A
 rw [drop_cons hb34, valGo_bad (by omega)] at hF
 exact ret_mk hx24 (tup2_eq (int_eq (by rw [l01V_none hF.symm])) (congrArg Value.bool (by rw [l01V_none hF.symm])))
 rw [decide_eq_false c38] at H
 revert A; refine go ?_; intro A H
 refine wv H (op_index_str H rfl U9 rfl rfl (by omega) hb34) ?_
 clear H A; refine go ?_; intro A H
 by_cases c51 : (57 : Int) < (b34.toNat : Int)
 rw [decide_eq_true c51] at H
 revert A; refine go ?_; intro A H
 refine ret2 H rfl rfl rfl ?_
 clear H A
 rw [drop_cons hb34, valGo_bad (by omega)] at hF
 exact ret_mk hx24 (tup2_eq (int_eq (by rw [l01V_none hF.symm])) (congrArg Value.bool (by rw [l01V_none hF.symm])))
 rw [decide_eq_false c51] at H
 revert A; refine go ?_; intro A H
 refine wv H ((op_mul H rfl rfl rfl).int (IntWalk.i64_in _ (by omega))) ?_
 clear H A; refine go ?_; intro A H
 refine wv H (op_index_str H rfl U9 rfl rfl (by omega) hb34) ?_
 clear H A; intro A H
 refine wv H ((op_sub H rfl rfl rfl).int (IntWalk.u8_in _ (by omega))) ?_
 clear H A; intro A H
 refine wv H ((op_conv_int H rfl U5 U2 rfl).int (IntWalk.i64_in _ (by omega))) ?_
 clear H A; intro A H
 refine wv H ((op_add H rfl rfl rfl).int (IntWalk.i64_in _ (by omega))) ?_
 clear H A; refine go ?_; intro A H
 refine wv H ((op_add H rfl rfl rfl).int (IntWalk.i64_in _ (by omega))) ?_
 clear H A; refine go ?_; intro A H
 refine ⟨((i + 1), (((10 : Int) * n) + ((b34.toNat : Int) - (48 : Int)))), ?_, ?_⟩
 refine ⟨(sl H), hx24, (by omega), (by omega), (by omega), (by rw [h10]; omega), (by rw [drop_cons hb34, valGo_ok (by omega) (by omega)] at hF; exact hF)⟩
 show (s.length - ((i + 1)) : Nat) < s.length - i; omega
 rw [decide_eq_false c31] at H
 revert A; refine go ?_; intro A H
 refine wc H cb67 (c_spec_l01Dec _ n gd gd) ?_
 clear H A; rintro v68 w69 he70 rfl A H
 obtain ⟨hx72, _⟩ := nx hx24 he70
 revert A; refine go ?_; intro A H
 refine ret2 H rfl rfl rfl ?_
 clear H A
 rw [drop_nil (by omega), valGo_nil] at hF
 exact ret_mk hx72 (tup2_eq (int_eq (by rw [l01V_some hF.symm (by omega) (by omega)])) (congrArg Value.bool (by rw [l01V_some hF.symm (by omega) (by omega)])))



theorem c_impl_readDecimal (w0 : World) (s : Str) (g0 : s.length ≤ 9223372036854775807) :
    Calls Tryz.prog 69 #[St s] w0 (Ret w0 (fun v _ => v = .tuple #[.int .i64 ((rdV s).1), .bool ((rdV s).2)])) := by
 refine enter (N := 73) Tryz.func69 rfl rfl rfl ?_
 intro A H
 have hx0 := Ext.rfl' w0
 revert A; refine go ?_; intro A H
 refine wv H (op_len_str H rfl U9 rfl) ?_
 clear H A; refine go ?_; intro A H
 by_cases c9 : (0 : Int) < ((s.length : Nat) : Int)
 rw [decide_eq_true c9] at H
 refine wv H (op_move H rfl rfl) ?_
 clear H A; intro A H
 obtain ⟨b11, hb11⟩ := get_ex (xs := s) (j := 0) (by omega)
 have b11_lt := b11.toNat_lt
 refine wv H (op_index_str H rfl U9 rfl rfl (by omega) hb11) ?_
 clear H A; refine go ?_; intro A H
 by_cases c15 : (b11.toNat : Int) = (45 : Int)
 rw [decide_eq_true c15] at H
 revert A; refine go ?_; intro A H
 refine wv H (op_slice_str_f (i := 1) (by omega) H rfl U9 rfl rfl (by omega)) ?_
 clear H A; refine go ?_; intro A H
 refine wv H (op_len_str H rfl U9 rfl) ?_
 clear H A; refine go ?_; intro A H
 by_cases c23 : (((s.drop 1).length : Nat) : Int) = (0 : Int)
 rw [decide_eq_true c23] at H
 revert A; refine go ?_; intro A H
 refine ret2 H rfl rfl rfl ?_
 clear H A
 have hd : rdD s = s.drop 1 := rdD_t hb11 (by omega)
 exact ret_mk hx0 (tup2_eq (int_eq (by rw [rdV_bad hd (by unfold rdBad; omega)])) (congrArg Value.bool (by rw [rdV_bad hd (by unfold rdBad; omega)])))
 rw [decide_eq_false c23] at H
 refine wv H (op_move H rfl rfl) ?_
 clear H A; intro A H
 refine wv H (op_len_str H rfl U9 rfl) ?_
 clear H A; refine go ?_; intro A H
 by_cases c50 : (18 : Int) < (((s.drop 1).length : Nat) : Int)
 rw [decide_eq_true c50] at H
 revert A; refine go ?_; intro A H
 refine ret2 H rfl rfl rfl ?_
 clear H A
 have hd : rdD s = s.drop 1 := rdD_t hb11 (by omega)
 exact ret_mk hx0 (tup2_eq (int_eq (by rw [rdV_bad hd (by unfold rdBad; omega)])) (congrArg Value.bool (by rw [rdV_bad hd (by unfold rdBad; omega)])))
 rw [decide_eq_false c50] at H
 refine wv H (op_move H rfl rfl) ?_
 clear H A; intro A H
 obtain ⟨b68, hb68⟩ := get_ex (xs := s.drop 1) (j := 0) (by omega)
 have b68_lt := b68.toNat_lt
 refine wv H (op_index_str H rfl U9 rfl rfl (by omega) hb68) ?_
 clear H A; refine go ?_; intro A H
 by_cases c72 : (b68.toNat : Int) = (48 : Int)
 rw [decide_eq_true c72] at H
 refine wv H (op_move H rfl rfl) ?_
 clear H A; intro A H
 refine wv H (op_len_str H rfl U9 rfl) ?_
 clear H A; refine go ?_; intro A H
 by_cases c77 : (1 : Int) < (((s.drop 1).length : Nat) : Int)
 rw [decide_eq_true c77] at H
 revert A; refine go ?_; intro A H
 refine ret2 H rfl rfl rfl ?_
 clear H A
 have hd : rdD s = s.drop 1 := rdD_t hb11 (by omega)
 exact ret_mk hx0 (tup2_eq (int_eq (by rw [rdV_bad hd (by unfold rdBad; rw [chI_eq hb68]; simp only [Option.some.injEq]; omega)])) (congrArg Value.bool (by rw [rdV_bad hd (by unfold rdBad; rw [chI_eq hb68]; simp only [Option.some.injEq]; omega)])))
 rw [decide_eq_false c77] at H
 refine wv H (op_move H rfl rfl) ?_
 clear H A; intro A H
 refine wv H (op_len_str H rfl U9 rfl) ?_
 clear H A; refine go ?_; intro A H
 by_cases c92 : (1 : Int) < ((s.length : Nat) : Int)
 rw [decide_eq_true c92] at H
 revert A; refine go ?_; intro A H
 refine ret2 H rfl rfl rfl ?_
 clear H A
 have hd : rdD s = s.drop 1 := rdD_t hb11 (by omega)
 exact ret_mk hx0 (tup2_eq (int_eq (by rw [rdV_bad hd (by unfold rdBad; rw [chI_eq hb68]; simp only [Option.some.injEq]; omega)])) (congrArg Value.bool (by rw [rdV_bad hd (by unfold rdBad; rw [chI_eq hb68]; simp only [Option.some.injEq]; omega)])))
 rw [decide_eq_false c92] at H
 revert A; refine go ?_; intro A H
 refine loop_inv (X := Nat × Int) (fun ⟨i, n⟩ fr wl => Sl 73 fr [(0, St s), (4, St (s.drop 1)), (5, .int .i64 n), (6, .int .i64 ((i : Nat) : Int))] ∧ Ext w0 wl ∧ w0.heap.size ≤ wl.heap.size ∧ (i ≤ (s.drop 1).length) ∧ (0 ≤ n) ∧ (n < ((10 ^ i : Nat) : Int)) ∧ (valGo n ((s.drop 1).drop i) = valGo 0 (s.drop 1))) (fun ⟨i, n⟩ => (s.drop 1).length - i) (0, (0 : Int)) ?_ ?_
 exact ⟨(sl H), hx0, (by omega), (by omega), (by omega), (by simp), (by rfl)⟩
 clear H A
 rintro ⟨i, n⟩ A w97 ⟨H, hx98, hzl100, hi, hn0, hn1, hF⟩
 have hzhx98 := hx98.size
 have h17 := pow17 (i := i)
 have h18 := pow18 (i := i)
 have h10 : (10 : Nat) ^ (i + 1) = 10 ^ i * 10 := by rw [Nat.pow_succ]
 revert A; refine go ?_; intro A H
 refine wv H (op_len_str H rfl U9 rfl) ?_
 clear H A; refine go ?_; intro A H
 by_cases c105 : ((i : Nat) : Int) < (((s.drop 1).length : Nat) : Int)
 rw [decide_eq_true c105] at H
 revert A; refine go ?_; intro A H
 obtain ⟨b108, hb108⟩ := get_ex (xs := s.drop 1) (j := i) (by omega)
 have b108_lt := b108.toNat_lt
 refine wv H (op_index_str H rfl U9 rfl rfl (by omega) hb108) ?_
 clear H A; refine go ?_; intro A H
 by_cases c112 : (b108.toNat : Int) < (48 : Int)
 rw [decide_eq_true c112] at H
 revert A; refine go ?_; intro A H
 refine ret2 H rfl rfl rfl ?_
 clear H A
 have hd : rdD s = s.drop 1 := rdD_t hb11 (by omega)
 rw [drop_cons hb108, valGo_bad (by omega)] at hF
 exact ret_mk hx98 (tup2_eq (int_eq (by rw [rdV_none hd hF.symm])) (congrArg Value.bool (by rw [rdV_none hd hF.symm])))
 rw [decide_eq_false c112] at H
 revert A; refine go ?_; intro A H
 refine wv H (op_index_str H rfl U9 rfl rfl (by omega) hb108) ?_
 clear H A; refine go ?_; intro A H
 by_cases c125 : (57 : Int) < (b108.toNat : Int)
 rw [decide_eq_true c125] at H
 revert A; refine go ?_; intro A H
 refine ret2 H rfl rfl rfl ?_
 clear H A
 have hd : rdD s = s.drop 1 := rdD_t hb11 (by omega)
 rw [drop_cons hb108, valGo_bad (by omega)] at hF
 exact ret_mk hx98 (tup2_eq (int_eq (by rw [rdV_none hd hF.symm])) (congrArg Value.bool (by rw [rdV_none hd hF.symm])))
 rw [decide_eq_false c125] at H
 revert A; refine go ?_; intro A H
 refine wv H ((op_mul H rfl rfl rfl).int (IntWalk.i64_in _ (by omega))) ?_
 clear H A; refine go ?_; intro A H
 refine wv H (op_index_str H rfl U9 rfl rfl (by omega) hb108) ?_
 clear H A; intro A H
 refine wv H ((op_sub H rfl rfl rfl).int (IntWalk.u8_in _ (by omega))) ?_
 clear H A; intro A H
 refine wv H ((op_conv_int H rfl U5 U2 rfl).int (IntWalk.i64_in _ (by omega))) ?_
 clear H A; intro A H
 refine wv H ((op_add H rfl rfl rfl).int (IntWalk.i64_in _ (by omega))) ?_
 clear H A; refine go ?_; intro A H
 refine wv H ((op_add H rfl rfl rfl).int (IntWalk.i64_in _ (by omega))) ?_
 clear H A; refine go ?_; intro A H
 refine ⟨((i + 1), (((10 : Int) * n) + ((b108.toNat : Int) - (48 : Int)))), ?_, ?_⟩
 refine ⟨(sl H), hx98, (by omega), (by omega), (by omega), (by rw [h10]; omega), (by rw [drop_cons hb108, valGo_ok (by omega) (by omega)] at hF; exact hF)⟩
 show ((s.drop 1).length - ((i + 1)) : Nat) < (s.drop 1).length - i; omega
 rw [decide_eq_false c105] at H
 revert A; refine go ?_; intro A H
 refine wv H (op_len_str H rfl U9 rfl) ?_
 clear H A; intro A H
 refine wv H (op_move H rfl rfl) ?_
 clear H A; intro A H
 refine wv H (op_len_str H rfl U9 rfl) ?_
 clear H A; refine go ?_; intro A H
 by_cases c145 : (((s.drop 1).length : Nat) : Int) < ((s.length : Nat) : Int)
 rw [decide_eq_true c145] at H
 revert A; refine go ?_; intro A H
 refine wv H ((op_neg H rfl rfl).int (IntWalk.i64_in _ (by omega))) ?_
 clear H A; refine go ?_; intro A H
 refine ret2 H rfl rfl rfl ?_
 clear H A
 have hd : rdD s = s.drop 1 := rdD_t hb11 (by omega)
 rw [drop_nil (by omega), valGo_nil] at hF
 exact ret_mk hx98 (tup2_eq (int_eq (by rw [rdV_some hd (by unfold rdBad; rw [chI_eq hb68]; simp only [Option.some.injEq]; omega) hF.symm] <;> rw [if_pos (by omega)])) (congrArg Value.bool (by rw [rdV_some hd (by unfold rdBad; rw [chI_eq hb68]; simp only [Option.some.injEq]; omega) hF.symm] <;> rw [if_pos (by omega)])))
 rw [decide_eq_false c145] at H
 revert A; refine go ?_; intro A H
 refine ret2 H rfl rfl rfl ?_
 clear H A
 have hd : rdD s = s.drop 1 := rdD_t hb11 (by omega)
 rw [drop_nil (by omega), valGo_nil] at hF
 exact ret_mk hx98 (tup2_eq (int_eq (by rw [rdV_some hd (by unfold rdBad; rw [chI_eq hb68]; simp only [Option.some.injEq]; omega) hF.symm] <;> rw [if_neg (by omega)])) (congrArg Value.bool (by rw [rdV_some hd (by unfold rdBad; rw [chI_eq hb68]; simp only [Option.some.injEq]; omega) hF.symm] <;> rw [if_neg (by omega)])))
 rw [decide_eq_false c72] at H
 revert A; refine go ?_; intro A H
 refine loop_inv (X := Nat × Int) (fun ⟨i, n⟩ fr wl => Sl 73 fr [(0, St s), (4, St (s.drop 1)), (5, .int .i64 n), (6, .int .i64 ((i : Nat) : Int))] ∧ Ext w0 wl ∧ w0.heap.size ≤ wl.heap.size ∧ (i ≤ (s.drop 1).length) ∧ (0 ≤ n) ∧ (n < ((10 ^ i : Nat) : Int)) ∧ (valGo n ((s.drop 1).drop i) = valGo 0 (s.drop 1))) (fun ⟨i, n⟩ => (s.drop 1).length - i) (0, (0 : Int)) ?_ ?_
 exact ⟨(sl H), hx0, (by omega), (by omega), (by omega), (by simp), (by rfl)⟩
 clear H A
 rintro ⟨i, n⟩ A w167 ⟨H, hx168, hzl170, hi, hn0, hn1, hF⟩
 have hzhx168 := hx168.size
 have h17 := pow17 (i := i)
 have h18 := pow18 (i := i)
 have h10 : (10 : Nat) ^ (i + 1) = 10 ^ i * 10 := by rw [Nat.pow_succ]
 revert A; refine go ?_; intro A H
 refine wv H (op_len_str H rfl U9 rfl) ?_
 clear H A; refine go ?_; intro A H
 by_cases c175 : ((i : Nat) : Int) < (((s.drop 1).length : Nat) : Int)
 rw [decide_eq_true c175] at H
 revert A; refine go ?_; intro A H
 obtain ⟨b178, hb178⟩ := get_ex (xs := s.drop 1) (j := i) (by omega)
 have b178_lt := b178.toNat_lt
 refine wv H (op_index_str H rfl U9 rfl rfl (by omega) hb178) ?_
 clear H A; refine go ?_; intro A H
 by_cases c182 : (b178.toNat : Int) < (48 : Int)
 rw [decide_eq_true c182] at H
 revert A; refine go ?_; intro A H
 refine ret2 H rfl rfl rfl ?_
 clear H A
 have hd : rdD s = s.drop 1 := rdD_t hb11 (by omega)
 rw [drop_cons hb178, valGo_bad (by omega)] at hF
 exact ret_mk hx168 (tup2_eq (int_eq (by rw [rdV_none hd hF.symm])) (congrArg Value.bool (by rw [rdV_none hd hF.symm])))
 rw [decide_eq_false c182] at H
 revert A; refine go ?_; intro A H
 refine wv H (op_index_str H rfl U9 rfl rfl (by omega) hb178) ?_
 clear H A; refine go ?_; intro A H
 by_cases c195 : (57 : Int) < (b178.toNat : Int)
 rw [decide_eq_true c195] at H
 revert A; refine go ?_; intro A H
 refine ret2 H rfl rfl rfl ?_
 clear H A
 have hd : rdD s = s.drop 1 := rdD_t hb11 (by omega)
 rw [drop_cons hb178, valGo_bad (by omega)] at hF
 exact ret_mk hx168 (tup2_eq (int_eq (by rw [rdV_none hd hF.symm])) (congrArg Value.bool (by rw [rdV_none hd hF.symm])))
 rw [decide_eq_false c195] at H
 revert A; refine go ?_; intro A H
 refine wv H ((op_mul H rfl rfl rfl).int (IntWalk.i64_in _ (by omega))) ?_
 clear H A; refine go ?_; intro A H
 refine wv H (op_index_str H rfl U9 rfl rfl (by omega) hb178) ?_
 clear H A; intro A H
 refine wv H ((op_sub H rfl rfl rfl).int (IntWalk.u8_in _ (by omega))) ?_
 clear H A; intro A H
 refine wv H ((op_conv_int H rfl U5 U2 rfl).int (IntWalk.i64_in _ (by omega))) ?_
 clear H A; intro A H
 refine wv H ((op_add H rfl rfl rfl).int (IntWalk.i64_in _ (by omega))) ?_
 clear H A; refine go ?_; intro A H
 refine wv H ((op_add H rfl rfl rfl).int (IntWalk.i64_in _ (by omega))) ?_
 clear H A; refine go ?_; intro A H
 refine ⟨((i + 1), (((10 : Int) * n) + ((b178.toNat : Int) - (48 : Int)))), ?_, ?_⟩
 refine ⟨(sl H), hx168, (by omega), (by omega), (by omega), (by rw [h10]; omega), (by rw [drop_cons hb178, valGo_ok (by omega) (by omega)] at hF; exact hF)⟩
 show ((s.drop 1).length - ((i + 1)) : Nat) < (s.drop 1).length - i; omega
 rw [decide_eq_false c175] at H
 revert A; refine go ?_; intro A H
 refine wv H (op_len_str H rfl U9 rfl) ?_
 clear H A; intro A H
 refine wv H (op_move H rfl rfl) ?_
 clear H A; intro A H
 refine wv H (op_len_str H rfl U9 rfl) ?_
 clear H A; refine go ?_; intro A H
 by_cases c215 : (((s.drop 1).length : Nat) : Int) < ((s.length : Nat) : Int)
 rw [decide_eq_true c215] at H
 revert A; refine go ?_; intro A H
 refine wv H ((op_neg H rfl rfl).int (IntWalk.i64_in _ (by omega))) ?_
 clear H A; refine go ?_; intro A H
 refine ret2 H rfl rfl rfl ?_
 clear H A
 have hd : rdD s = s.drop 1 := rdD_t hb11 (by omega)
 rw [drop_nil (by omega), valGo_nil] at hF
 exact ret_mk hx168 (tup2_eq (int_eq (by rw [rdV_some hd (by unfold rdBad; rw [chI_eq hb68]; simp only [Option.some.injEq]; omega) hF.symm] <;> rw [if_pos (by omega)])) (congrArg Value.bool (by rw [rdV_some hd (by unfold rdBad; rw [chI_eq hb68]; simp only [Option.some.injEq]; omega) hF.symm] <;> rw [if_pos (by omega)])))
 rw [decide_eq_false c215] at H
 revert A; refine go ?_; intro A H
 refine ret2 H rfl rfl rfl ?_
 clear H A
 have hd : rdD s = s.drop 1 := rdD_t hb11 (by omega)
 rw [drop_nil (by omega), valGo_nil] at hF
 exact ret_mk hx168 (tup2_eq (int_eq (by rw [rdV_some hd (by unfold rdBad; rw [chI_eq hb68]; simp only [Option.some.injEq]; omega) hF.symm] <;> rw [if_neg (by omega)])) (congrArg Value.bool (by rw [rdV_some hd (by unfold rdBad; rw [chI_eq hb68]; simp only [Option.some.injEq]; omega) hF.symm] <;> rw [if_neg (by omega)])))
 rw [decide_eq_false c15] at H
 revert A; refine go ?_; intro A H
 refine wv H (op_len_str H rfl U9 rfl) ?_
 clear H A; refine go ?_; intro A H
 by_cases c229 : ((s.length : Nat) : Int) = (0 : Int)
 rw [decide_eq_true c229] at H
 revert A; refine go ?_; intro A H
 refine ret2 H rfl rfl rfl ?_
 clear H A
 have hd : rdD s = s := rdD_f hb11 (by omega)
 exact ret_mk hx0 (tup2_eq (int_eq (by rw [rdV_bad hd (by unfold rdBad; rw [chI_eq hb11]; simp only [Option.some.injEq]; omega)])) (congrArg Value.bool (by rw [rdV_bad hd (by unfold rdBad; rw [chI_eq hb11]; simp only [Option.some.injEq]; omega)])))
 rw [decide_eq_false c229] at H
 refine wv H (op_move H rfl rfl) ?_
 clear H A; intro A H
 refine wv H (op_len_str H rfl U9 rfl) ?_
 clear H A; refine go ?_; intro A H
 by_cases c256 : (18 : Int) < ((s.length : Nat) : Int)
 rw [decide_eq_true c256] at H
 revert A; refine go ?_; intro A H
 refine ret2 H rfl rfl rfl ?_
 clear H A
 have hd : rdD s = s := rdD_f hb11 (by omega)
 exact ret_mk hx0 (tup2_eq (int_eq (by rw [rdV_bad hd (by unfold rdBad; rw [chI_eq hb11]; simp only [Option.some.injEq]; omega)])) (congrArg Value.bool (by rw [rdV_bad hd (by unfold rdBad; rw [chI_eq hb11]; simp only [Option.some.injEq]; omega)])))
 rw [decide_eq_false c256] at H
 refine wv H (op_move H rfl rfl) ?_
 clear H A; intro A H
 refine wv H (op_index_str H rfl U9 rfl rfl (by omega) hb11) ?_
 clear H A; refine go ?_; intro A H
 by_cases c277 : (b11.toNat : Int) = (48 : Int)
 rw [decide_eq_true c277] at H
 refine wv H (op_move H rfl rfl) ?_
 clear H A; intro A H
 refine wv H (op_len_str H rfl U9 rfl) ?_
 clear H A; refine go ?_; intro A H
 by_cases c282 : (1 : Int) < ((s.length : Nat) : Int)
 rw [decide_eq_true c282] at H
 revert A; refine go ?_; intro A H
 refine ret2 H rfl rfl rfl ?_
 clear H A
 have hd : rdD s = s := rdD_f hb11 (by omega)
 exact ret_mk hx0 (tup2_eq (int_eq (by rw [rdV_bad hd (by unfold rdBad; rw [chI_eq hb11]; simp only [Option.some.injEq]; omega)])) (congrArg Value.bool (by rw [rdV_bad hd (by unfold rdBad; rw [chI_eq hb11]; simp only [Option.some.injEq]; omega)])))
 rw [decide_eq_false c282] at H
 refine wv H (op_move H rfl rfl) ?_
 clear H A; intro A H
 refine wv H (op_len_str H rfl U9 rfl) ?_
 clear H A; refine go ?_; intro A H
 rw [decide_eq_false c282] at H
 revert A; refine go ?_; intro A H
 refine loop_inv (X := Nat × Int) (fun ⟨i, n⟩ fr wl => Sl 73 fr [(0, St s), (4, St s), (5, .int .i64 n), (6, .int .i64 ((i : Nat) : Int))] ∧ Ext w0 wl ∧ w0.heap.size ≤ wl.heap.size ∧ (i ≤ s.length) ∧ (0 ≤ n) ∧ (n < ((10 ^ i : Nat) : Int)) ∧ (valGo n (s.drop i) = valGo 0 s)) (fun ⟨i, n⟩ => s.length - i) (0, (0 : Int)) ?_ ?_
 exact ⟨(sl H), hx0, (by omega), (by omega), (by omega), (by simp), (by rfl)⟩
 clear H A
 rintro ⟨i, n⟩ A w299 ⟨H, hx300, hzl302, hi, hn0, hn1, hF⟩
 have hzhx300 := hx300.size
 have h17 := pow17 (i := i)
 have h18 := pow18 (i := i)
 have h10 : (10 : Nat) ^ (i + 1) = 10 ^ i * 10 := by rw [Nat.pow_succ]
 revert A; refine go ?_; intro A H
 refine wv H (op_len_str H rfl U9 rfl) ?_
 clear H A; refine go ?_; intro A H
 by_cases c307 : ((i : Nat) : Int) < ((s.length : Nat) : Int)
 rw [decide_eq_true c307] at H
 revert A; refine go ?_; intro A H
 obtain ⟨b310, hb310⟩ := get_ex (xs := s) (j := i) (by omega)
 have b310_lt := b310.toNat_lt
 refine wv H (op_index_str H rfl U9 rfl rfl (by omega) hb310) ?_
 clear H A; refine go ?_; intro A H
 by_cases c314 : (b310.toNat : Int) < (48 : Int)
 rw [decide_eq_true c314] at H
 revert A; refine go ?_; intro A H
 refine ret2 H rfl rfl rfl ?_
 clear H A
 have hd : rdD s = s := rdD_f hb11 (by omega)
 rw [drop_cons hb310, valGo_bad (by omega)] at hF
 exact ret_mk hx300 (tup2_eq (int_eq (by rw [rdV_none hd hF.symm])) (congrArg Value.bool (by rw [rdV_none hd hF.symm])))
 rw [decide_eq_false c314] at H
 revert A; refine go ?_; intro A H
 refine wv H (op_index_str H rfl U9 rfl rfl (by omega) hb310) ?_
 clear H A; refine go ?_; intro A H
 by_cases c327 : (57 : Int) < (b310.toNat : Int)
 rw [decide_eq_true c327] at H
 revert A; refine go ?_; intro A H
 refine ret2 H rfl rfl rfl ?_
 clear H A
 have hd : rdD s = s := rdD_f hb11 (by omega)
 rw [drop_cons hb310, valGo_bad (by omega)] at hF
 exact ret_mk hx300 (tup2_eq (int_eq (by rw [rdV_none hd hF.symm])) (congrArg Value.bool (by rw [rdV_none hd hF.symm])))
 rw [decide_eq_false c327] at H
 revert A; refine go ?_; intro A H
 refine wv H ((op_mul H rfl rfl rfl).int (IntWalk.i64_in _ (by omega))) ?_
 clear H A; refine go ?_; intro A H
 refine wv H (op_index_str H rfl U9 rfl rfl (by omega) hb310) ?_
 clear H A; intro A H
 refine wv H ((op_sub H rfl rfl rfl).int (IntWalk.u8_in _ (by omega))) ?_
 clear H A; intro A H
 refine wv H ((op_conv_int H rfl U5 U2 rfl).int (IntWalk.i64_in _ (by omega))) ?_
 clear H A; intro A H
 refine wv H ((op_add H rfl rfl rfl).int (IntWalk.i64_in _ (by omega))) ?_
 clear H A; refine go ?_; intro A H
 refine wv H ((op_add H rfl rfl rfl).int (IntWalk.i64_in _ (by omega))) ?_
 clear H A; refine go ?_; intro A H
 refine ⟨((i + 1), (((10 : Int) * n) + ((b310.toNat : Int) - (48 : Int)))), ?_, ?_⟩
 refine ⟨(sl H), hx300, (by omega), (by omega), (by omega), (by rw [h10]; omega), (by rw [drop_cons hb310, valGo_ok (by omega) (by omega)] at hF; exact hF)⟩
 show (s.length - ((i + 1)) : Nat) < s.length - i; omega
 rw [decide_eq_false c307] at H
 revert A; refine go ?_; intro A H
 refine wv H (op_len_str H rfl U9 rfl) ?_
 clear H A; intro A H
 refine wv H (op_move H rfl rfl) ?_
 clear H A; intro A H
 refine wv H (op_len_str H rfl U9 rfl) ?_
 clear H A; refine go ?_; intro A H
 by_cases c347 : ((s.length : Nat) : Int) < ((s.length : Nat) : Int)
 rw [decide_eq_true c347] at H
 revert A; refine go ?_; intro A H
 refine wv H ((op_neg H rfl rfl).int (IntWalk.i64_in _ (by omega))) ?_
 clear H A; refine go ?_; intro A H
 refine ret2 H rfl rfl rfl ?_
 clear H A
 have hd : rdD s = s := rdD_f hb11 (by omega)
 rw [drop_nil (by omega), valGo_nil] at hF
 exact ret_mk hx300 (tup2_eq (int_eq (by rw [rdV_some hd (by unfold rdBad; rw [chI_eq hb11]; simp only [Option.some.injEq]; omega) hF.symm] <;> rw [if_pos (by omega)])) (congrArg Value.bool (by rw [rdV_some hd (by unfold rdBad; rw [chI_eq hb11]; simp only [Option.some.injEq]; omega) hF.symm] <;> rw [if_pos (by omega)])))
 rw [decide_eq_false c347] at H
 revert A; refine go ?_; intro A H
 refine ret2 H rfl rfl rfl ?_
 clear H A
 have hd : rdD s = s := rdD_f hb11 (by omega)
 rw [drop_nil (by omega), valGo_nil] at hF
 exact ret_mk hx300 (tup2_eq (int_eq (by rw [rdV_some hd (by unfold rdBad; rw [chI_eq hb11]; simp only [Option.some.injEq]; omega) hF.symm] <;> rw [if_neg (by omega)])) (congrArg Value.bool (by rw [rdV_some hd (by unfold rdBad; rw [chI_eq hb11]; simp only [Option.some.injEq]; omega) hF.symm] <;> rw [if_neg (by omega)])))
 rw [decide_eq_false c277] at H
 revert A; refine go ?_; intro A H
 refine loop_inv (X := Nat × Int) (fun ⟨i, n⟩ fr wl => Sl 73 fr [(0, St s), (4, St s), (5, .int .i64 n), (6, .int .i64 ((i : Nat) : Int))] ∧ Ext w0 wl ∧ w0.heap.size ≤ wl.heap.size ∧ (i ≤ s.length) ∧ (0 ≤ n) ∧ (n < ((10 ^ i : Nat) : Int)) ∧ (valGo n (s.drop i) = valGo 0 s)) (fun ⟨i, n⟩ => s.length - i) (0, (0 : Int)) ?_ ?_
 exact ⟨(sl H), hx0, (by omega), (by omega), (by omega), (by simp), (by rfl)⟩
 clear H A
 rintro ⟨i, n⟩ A w369 ⟨H, hx370, hzl372, hi, hn0, hn1, hF⟩
 have hzhx370 := hx370.size
 have h17 := pow17 (i := i)
 have h18 := pow18 (i := i)
 have h10 : (10 : Nat) ^ (i + 1) = 10 ^ i * 10 := by rw [Nat.pow_succ]
 revert A; refine go ?_; intro A H
 refine wv H (op_len_str H rfl U9 rfl) ?_
 clear H A; refine go ?_; intro A H
 by_cases c377 : ((i : Nat) : Int) < ((s.length : Nat) : Int)
 rw [decide_eq_true c377] at H
 revert A; refine go ?_; intro A H
 obtain ⟨b380, hb380⟩ := get_ex (xs := s) (j := i) (by omega)
 have b380_lt := b380.toNat_lt
 refine wv H (op_index_str H rfl U9 rfl rfl (by omega) hb380) ?_
 clear H A; refine go ?_; intro A H
 by_cases c384 : (b380.toNat : Int) < (48 : Int)
 rw [decide_eq_true c384] at H
 revert A; refine go ?_; intro A H
 refine ret2 H rfl rfl rfl ?_
 clear H A
 have hd : rdD s = s := rdD_f hb11 (by omega)
 rw [drop_cons hb380, valGo_bad (by omega)] at hF
 exact ret_mk hx370 (tup2_eq (int_eq (by rw [rdV_none hd hF.symm])) (congrArg Value.bool (by rw [rdV_none hd hF.symm])))
 rw [decide_eq_false c384] at H
 revert A; refine go ?_; intro A H
 refine wv H (op_index_str H rfl U9 rfl rfl (by omega) hb380) ?_
 clear H A; refine go ?_; intro A H
 by_cases c397 : (57 : Int) < (b380.toNat : Int)
 rw [decide_eq_true c397] at H
 revert A; refine go ?_; intro A H
 refine ret2 H rfl rfl rfl ?_
 clear H A
 have hd : rdD s = s := rdD_f hb11 (by omega)
 rw [drop_cons hb380, valGo_bad (by omega)] at hF
 exact ret_mk hx370 (tup2_eq (int_eq (by rw [rdV_none hd hF.symm])) (congrArg Value.bool (by rw [rdV_none hd hF.symm])))
 rw [decide_eq_false c397] at H
 revert A; refine go ?_; intro A H
 refine wv H ((op_mul H rfl rfl rfl).int (IntWalk.i64_in _ (by omega))) ?_
 clear H A; refine go ?_; intro A H
 refine wv H (op_index_str H rfl U9 rfl rfl (by omega) hb380) ?_
 clear H A; intro A H
 refine wv H ((op_sub H rfl rfl rfl).int (IntWalk.u8_in _ (by omega))) ?_
 clear H A; intro A H
 refine wv H ((op_conv_int H rfl U5 U2 rfl).int (IntWalk.i64_in _ (by omega))) ?_
 clear H A; intro A H
 refine wv H ((op_add H rfl rfl rfl).int (IntWalk.i64_in _ (by omega))) ?_
 clear H A; refine go ?_; intro A H
 refine wv H ((op_add H rfl rfl rfl).int (IntWalk.i64_in _ (by omega))) ?_
 clear H A; refine go ?_; intro A H
 refine ⟨((i + 1), (((10 : Int) * n) + ((b380.toNat : Int) - (48 : Int)))), ?_, ?_⟩
 refine ⟨(sl H), hx370, (by omega), (by omega), (by omega), (by rw [h10]; omega), (by rw [drop_cons hb380, valGo_ok (by omega) (by omega)] at hF; exact hF)⟩
 show (s.length - ((i + 1)) : Nat) < s.length - i; omega
 rw [decide_eq_false c377] at H
 revert A; refine go ?_; intro A H
 refine wv H (op_len_str H rfl U9 rfl) ?_
 clear H A; intro A H
 refine wv H (op_move H rfl rfl) ?_
 clear H A; intro A H
 refine wv H (op_len_str H rfl U9 rfl) ?_
 clear H A; refine go ?_; intro A H
 by_cases c417 : ((s.length : Nat) : Int) < ((s.length : Nat) : Int)
 rw [decide_eq_true c417] at H
 revert A; refine go ?_; intro A H
 refine wv H ((op_neg H rfl rfl).int (IntWalk.i64_in _ (by omega))) ?_
 clear H A; refine go ?_; intro A H
 refine ret2 H rfl rfl rfl ?_
 clear H A
 have hd : rdD s = s := rdD_f hb11 (by omega)
 rw [drop_nil (by omega), valGo_nil] at hF
 exact ret_mk hx370 (tup2_eq (int_eq (by rw [rdV_some hd (by unfold rdBad; rw [chI_eq hb11]; simp only [Option.some.injEq]; omega) hF.symm] <;> rw [if_pos (by omega)])) (congrArg Value.bool (by rw [rdV_some hd (by unfold rdBad; rw [chI_eq hb11]; simp only [Option.some.injEq]; omega) hF.symm] <;> rw [if_pos (by omega)])))
 rw [decide_eq_false c417] at H
 revert A; refine go ?_; intro A H
 refine ret2 H rfl rfl rfl ?_
 clear H A
 have hd : rdD s = s := rdD_f hb11 (by omega)
 rw [drop_nil (by omega), valGo_nil] at hF
 exact ret_mk hx370 (tup2_eq (int_eq (by rw [rdV_some hd (by unfold rdBad; rw [chI_eq hb11]; simp only [Option.some.injEq]; omega) hF.symm] <;> rw [if_neg (by omega)])) (congrArg Value.bool (by rw [rdV_some hd (by unfold rdBad; rw [chI_eq hb11]; simp only [Option.some.injEq]; omega) hF.symm] <;> rw [if_neg (by omega)])))
 rw [decide_eq_false c9] at H
 revert A; refine go ?_; intro A H
 refine wv H (op_len_str H rfl U9 rfl) ?_
 clear H A; refine go ?_; intro A H
 by_cases c435 : ((s.length : Nat) : Int) = (0 : Int)
 rw [decide_eq_true c435] at H
 revert A; refine go ?_; intro A H
 refine ret2 H rfl rfl rfl ?_
 clear H A
 have hd : rdD s = s := rdD_n (by omega)
 exact ret_mk hx0 (tup2_eq (int_eq (by rw [rdV_bad hd (by unfold rdBad; omega)])) (congrArg Value.bool (by rw [rdV_bad hd (by unfold rdBad; omega)])))
 rw [decide_eq_false c435] at H
 refine wv H (op_move H rfl rfl) ?_
 clear H A; intro A H
 refine wv H (op_len_str H rfl U9 rfl) ?_
 clear H A; refine go ?_; intro A H
 by_cases c462 : (18 : Int) < ((s.length : Nat) : Int)
 rw [decide_eq_true c462] at H
 revert A; refine go ?_; intro A H
 refine ret2 H rfl rfl rfl ?_
 clear H A
 have hd : rdD s = s := rdD_n (by omega)
 exact ret_mk hx0 (tup2_eq (int_eq (by rw [rdV_bad hd (by unfold rdBad; omega)])) (congrArg Value.bool (by rw [rdV_bad hd (by unfold rdBad; omega)])))
 rw [decide_eq_false c462] at H
 refine wv H (op_move H rfl rfl) ?_
 clear H A; intro A H
 obtain ⟨b480, hb480⟩ := get_ex (xs := s) (j := 0) (by omega)
 have b480_lt := b480.toNat_lt
 refine wv H (op_index_str H rfl U9 rfl rfl (by omega) hb480) ?_
 clear H A; refine go ?_; intro A H
 by_cases c484 : (b480.toNat : Int) = (48 : Int)
 rw [decide_eq_true c484] at H
 refine wv H (op_move H rfl rfl) ?_
 clear H A; intro A H
 refine wv H (op_len_str H rfl U9 rfl) ?_
 clear H A; refine go ?_; intro A H
 by_cases c489 : (1 : Int) < ((s.length : Nat) : Int)
 rw [decide_eq_true c489] at H
 revert A; refine go ?_; intro A H
 refine ret2 H rfl rfl rfl ?_
 clear H A
 have hd : rdD s = s := rdD_f hb480 (by omega)
 exact ret_mk hx0 (tup2_eq (int_eq (by rw [rdV_bad hd (by unfold rdBad; rw [chI_eq hb480]; simp only [Option.some.injEq]; omega)])) (congrArg Value.bool (by rw [rdV_bad hd (by unfold rdBad; rw [chI_eq hb480]; simp only [Option.some.injEq]; omega)])))
 rw [decide_eq_false c489] at H
 refine wv H (op_move H rfl rfl) ?_
 clear H A; intro A H
 refine wv H (op_len_str H rfl U9 rfl) ?_
 clear H A; refine go ?_; intro A H
 rw [decide_eq_false c489] at H
 revert A; refine go ?_; intro A H
 refine loop_inv (X := Nat × Int) (fun ⟨i, n⟩ fr wl => Sl 73 fr [(0, St s), (4, St s), (5, .int .i64 n), (6, .int .i64 ((i : Nat) : Int))] ∧ Ext w0 wl ∧ w0.heap.size ≤ wl.heap.size ∧ (i ≤ s.length) ∧ (0 ≤ n) ∧ (n < ((10 ^ i : Nat) : Int)) ∧ (valGo n (s.drop i) = valGo 0 s)) (fun ⟨i, n⟩ => s.length - i) (0, (0 : Int)) ?_ ?_
 exact ⟨(sl H), hx0, (by omega), (by omega), (by omega), (by simp), (by rfl)⟩
 clear H A
 rintro ⟨i, n⟩ A w506 ⟨H, hx507, hzl509, hi, hn0, hn1, hF⟩
 have hzhx507 := hx507.size
 have h17 := pow17 (i := i)
 have h18 := pow18 (i := i)
 have h10 : (10 : Nat) ^ (i + 1) = 10 ^ i * 10 := by rw [Nat.pow_succ]
 revert A; refine go ?_; intro A H
 refine wv H (op_len_str H rfl U9 rfl) ?_
 clear H A; refine go ?_; intro A H
 by_cases c514 : ((i : Nat) : Int) < ((s.length : Nat) : Int)
 rw [decide_eq_true c514] at H
 revert A; refine go ?_; intro A H
 obtain ⟨b517, hb517⟩ := get_ex (xs := s) (j := i) (by omega)
 have b517_lt := b517.toNat_lt
 refine wv H (op_index_str H rfl U9 rfl rfl (by omega) hb517) ?_
 clear H A; refine go ?_; intro A H
 by_cases c521 : (b517.toNat : Int) < (48 : Int)
 rw [decide_eq_true c521] at H
 revert A; refine go ?_; intro A H
 refine ret2 H rfl rfl rfl ?_
 clear H A
 have hd : rdD s = s := rdD_f hb480 (by omega)
 rw [drop_cons hb517, valGo_bad (by omega)] at hF
 exact ret_mk hx507 (tup2_eq (int_eq (by rw [rdV_none hd hF.symm])) (congrArg Value.bool (by rw [rdV_none hd hF.symm])))
 rw [decide_eq_false c521] at H
 revert A; refine go ?_; intro A H
 refine wv H (op_index_str H rfl U9 rfl rfl (by omega) hb517) ?_
 clear H A; refine go ?_; intro A H
 by_cases c534 : (57 : Int) < (b517.toNat : Int)
 rw [decide_eq_true c534] at H
 revert A; refine go ?_; intro A H
 refine ret2 H rfl rfl rfl ?_
 clear H A
 have hd : rdD s = s := rdD_f hb480 (by omega)
 rw [drop_cons hb517, valGo_bad (by omega)] at hF
 exact ret_mk hx507 (tup2_eq (int_eq (by rw [rdV_none hd hF.symm])) (congrArg Value.bool (by rw [rdV_none hd hF.symm])))
 rw [decide_eq_false c534] at H
 revert A; refine go ?_; intro A H
 refine wv H ((op_mul H rfl rfl rfl).int (IntWalk.i64_in _ (by omega))) ?_
 clear H A; refine go ?_; intro A H
 refine wv H (op_index_str H rfl U9 rfl rfl (by omega) hb517) ?_
 clear H A; intro A H
 refine wv H ((op_sub H rfl rfl rfl).int (IntWalk.u8_in _ (by omega))) ?_
 clear H A; intro A H
 refine wv H ((op_conv_int H rfl U5 U2 rfl).int (IntWalk.i64_in _ (by omega))) ?_
 clear H A; intro A H
 refine wv H ((op_add H rfl rfl rfl).int (IntWalk.i64_in _ (by omega))) ?_
 clear H A; refine go ?_; intro A H
 refine wv H ((op_add H rfl rfl rfl).int (IntWalk.i64_in _ (by omega))) ?_
 clear H A; refine go ?_; intro A H
 refine ⟨((i + 1), (((10 : Int) * n) + ((b517.toNat : Int) - (48 : Int)))), ?_, ?_⟩
 refine ⟨(sl H), hx507, (by omega), (by omega), (by omega), (by rw [h10]; omega), (by rw [drop_cons hb517, valGo_ok (by omega) (by omega)] at hF; exact hF)⟩
 show (s.length - ((i + 1)) : Nat) < s.length - i; omega
 rw [decide_eq_false c514] at H
 revert A; refine go ?_; intro A H
 refine wv H (op_len_str H rfl U9 rfl) ?_
 clear H A; intro A H
 refine wv H (op_move H rfl rfl) ?_
 clear H A; intro A H
 refine wv H (op_len_str H rfl U9 rfl) ?_
 clear H A; refine go ?_; intro A H
 by_cases c554 : ((s.length : Nat) : Int) < ((s.length : Nat) : Int)
 rw [decide_eq_true c554] at H
 revert A; refine go ?_; intro A H
 refine wv H ((op_neg H rfl rfl).int (IntWalk.i64_in _ (by omega))) ?_
 clear H A; refine go ?_; intro A H
 refine ret2 H rfl rfl rfl ?_
 clear H A
 have hd : rdD s = s := rdD_f hb480 (by omega)
 rw [drop_nil (by omega), valGo_nil] at hF
 exact ret_mk hx507 (tup2_eq (int_eq (by rw [rdV_some hd (by unfold rdBad; rw [chI_eq hb480]; simp only [Option.some.injEq]; omega) hF.symm] <;> rw [if_pos (by omega)])) (congrArg Value.bool (by rw [rdV_some hd (by unfold rdBad; rw [chI_eq hb480]; simp only [Option.some.injEq]; omega) hF.symm] <;> rw [if_pos (by omega)])))
 rw [decide_eq_false c554] at H
 revert A; refine go ?_; intro A H
 refine ret2 H rfl rfl rfl ?_
 clear H A
 have hd : rdD s = s := rdD_f hb480 (by omega)
 rw [drop_nil (by omega), valGo_nil] at hF
 exact ret_mk hx507 (tup2_eq (int_eq (by rw [rdV_some hd (by unfold rdBad; rw [chI_eq hb480]; simp only [Option.some.injEq]; omega) hF.symm] <;> rw [if_neg (by omega)])) (congrArg Value.bool (by rw [rdV_some hd (by unfold rdBad; rw [chI_eq hb480]; simp only [Option.some.injEq]; omega) hF.symm] <;> rw [if_neg (by omega)])))
 rw [decide_eq_false c484] at H
 revert A; refine go ?_; intro A H
 refine loop_inv (X := Nat × Int) (fun ⟨i, n⟩ fr wl => Sl 73 fr [(0, St s), (4, St s), (5, .int .i64 n), (6, .int .i64 ((i : Nat) : Int))] ∧ Ext w0 wl ∧ w0.heap.size ≤ wl.heap.size ∧ (i ≤ s.length) ∧ (0 ≤ n) ∧ (n < ((10 ^ i : Nat) : Int)) ∧ (valGo n (s.drop i) = valGo 0 s)) (fun ⟨i, n⟩ => s.length - i) (0, (0 : Int)) ?_ ?_
 exact ⟨(sl H), hx0, (by omega), (by omega), (by omega), (by simp), (by rfl)⟩
 clear H A
 rintro ⟨i, n⟩ A w576 ⟨H, hx577, hzl579, hi, hn0, hn1, hF⟩
 have hzhx577 := hx577.size
 have h17 := pow17 (i := i)
 have h18 := pow18 (i := i)
 have h10 : (10 : Nat) ^ (i + 1) = 10 ^ i * 10 := by rw [Nat.pow_succ]
 revert A; refine go ?_; intro A H
 refine wv H (op_len_str H rfl U9 rfl) ?_
 clear H A; refine go ?_; intro A H
 by_cases c584 : ((i : Nat) : Int) < ((s.length : Nat) : Int)
 rw [decide_eq_true c584] at H
 revert A; refine go ?_; intro A H
 obtain ⟨b587, hb587⟩ := get_ex (xs := s) (j := i) (by omega)
 have b587_lt := b587.toNat_lt
 refine wv H (op_index_str H rfl U9 rfl rfl (by omega) hb587) ?_
 clear H A; refine go ?_; intro A H
 by_cases c591 : (b587.toNat : Int) < (48 : Int)
 rw [decide_eq_true c591] at H
 revert A; refine go ?_; intro A H
 refine ret2 H rfl rfl rfl ?_
 clear H A
 have hd : rdD s = s := rdD_f hb480 (by omega)
 rw [drop_cons hb587, valGo_bad (by omega)] at hF
 exact ret_mk hx577 (tup2_eq (int_eq (by rw [rdV_none hd hF.symm])) (congrArg Value.bool (by rw [rdV_none hd hF.symm])))
 rw [decide_eq_false c591] at H
 revert A; refine go ?_; intro A H
 refine wv H (op_index_str H rfl U9 rfl rfl (by omega) hb587) ?_
 clear H A; refine go ?_; intro A H
 by_cases c604 : (57 : Int) < (b587.toNat : Int)
 rw [decide_eq_true c604] at H
 revert A; refine go ?_; intro A H
 refine ret2 H rfl rfl rfl ?_
 clear H A
 have hd : rdD s = s := rdD_f hb480 (by omega)
 rw [drop_cons hb587, valGo_bad (by omega)] at hF
 exact ret_mk hx577 (tup2_eq (int_eq (by rw [rdV_none hd hF.symm])) (congrArg Value.bool (by rw [rdV_none hd hF.symm])))
 rw [decide_eq_false c604] at H
 revert A; refine go ?_; intro A H
 refine wv H ((op_mul H rfl rfl rfl).int (IntWalk.i64_in _ (by omega))) ?_
 clear H A; refine go ?_; intro A H
 refine wv H (op_index_str H rfl U9 rfl rfl (by omega) hb587) ?_
 clear H A; intro A H
 refine wv H ((op_sub H rfl rfl rfl).int (IntWalk.u8_in _ (by omega))) ?_
 clear H A; intro A H
 refine wv H ((op_conv_int H rfl U5 U2 rfl).int (IntWalk.i64_in _ (by omega))) ?_
 clear H A; intro A H
 refine wv H ((op_add H rfl rfl rfl).int (IntWalk.i64_in _ (by omega))) ?_
 clear H A; refine go ?_; intro A H
 refine wv H ((op_add H rfl rfl rfl).int (IntWalk.i64_in _ (by omega))) ?_
 clear H A; refine go ?_; intro A H
 refine ⟨((i + 1), (((10 : Int) * n) + ((b587.toNat : Int) - (48 : Int)))), ?_, ?_⟩
 refine ⟨(sl H), hx577, (by omega), (by omega), (by omega), (by rw [h10]; omega), (by rw [drop_cons hb587, valGo_ok (by omega) (by omega)] at hF; exact hF)⟩
 show (s.length - ((i + 1)) : Nat) < s.length - i; omega
 rw [decide_eq_false c584] at H
 revert A; refine go ?_; intro A H
 refine wv H (op_len_str H rfl U9 rfl) ?_
 clear H A; intro A H
 refine wv H (op_move H rfl rfl) ?_
 clear H A; intro A H
 refine wv H (op_len_str H rfl U9 rfl) ?_
 clear H A; refine go ?_; intro A H
 by_cases c624 : ((s.length : Nat) : Int) < ((s.length : Nat) : Int)
 rw [decide_eq_true c624] at H
 revert A; refine go ?_; intro A H
 refine wv H ((op_neg H rfl rfl).int (IntWalk.i64_in _ (by omega))) ?_
 clear H A; refine go ?_; intro A H
 refine ret2 H rfl rfl rfl ?_
 clear H A
 have hd : rdD s = s := rdD_f hb480 (by omega)
 rw [drop_nil (by omega), valGo_nil] at hF
 exact ret_mk hx577 (tup2_eq (int_eq (by rw [rdV_some hd (by unfold rdBad; rw [chI_eq hb480]; simp only [Option.some.injEq]; omega) hF.symm] <;> rw [if_pos (by omega)])) (congrArg Value.bool (by rw [rdV_some hd (by unfold rdBad; rw [chI_eq hb480]; simp only [Option.some.injEq]; omega) hF.symm] <;> rw [if_pos (by omega)])))
 rw [decide_eq_false c624] at H
 revert A; refine go ?_; intro A H
 refine ret2 H rfl rfl rfl ?_
 clear H A
 have hd : rdD s = s := rdD_f hb480 (by omega)
 rw [drop_nil (by omega), valGo_nil] at hF
 exact ret_mk hx577 (tup2_eq (int_eq (by rw [rdV_some hd (by unfold rdBad; rw [chI_eq hb480]; simp only [Option.some.injEq]; omega) hF.symm] <;> rw [if_neg (by omega)])) (congrArg Value.bool (by rw [rdV_some hd (by unfold rdBad; rw [chI_eq hb480]; simp only [Option.some.injEq]; omega) hF.symm] <;> rw [if_neg (by omega)])))




end Go.Proofs.YthbehhhblchhhaaGreat
