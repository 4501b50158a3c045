/- Sheets and versions. -/
import Derived.Test.YtllpdkidaldkiaaW1
namespace Go.Proofs.Ytllpdkidaldkiaa
open Go Go.RowKit

abbrev Line : Type := Str × Int
abbrev Ver : Type := Int × List Line
def svB (v : Int) : Bool := decide (0 ≤ v) && decide (v ≤ 1000000)
def lnPrev : Option Line → Line → Bool
  | none, _ => true
  | some a, b => decide (a.1 < b.1)
def lnAt (ls : List Line) (i : Nat) : Bool := match ls[i]? with
  | none => false
  | some l => (wordB l.1 && svB l.2) && (decide (i = 0) || lnPrev ls[i - 1]? l)
/-- Is it a sheet? -/
def shB (ls : List Line) : Bool := decide (ls.length ≤ 8) && upB (lnAt ls) ls.length
theorem lnAt_eq {ls : List Line} {i : Nat} {l : Line} (h : ls[i]? = some l) : lnAt ls i = ((wordB l.1 && svB l.2) && (decide (i = 0) || lnPrev ls[i - 1]? l)) := by unfold lnAt; rw [h]
theorem lnAt_ok {ls : List Line} {i : Nat} {l : Line} (h : ls[i]? = some l) (h1 : wordB l.1 = true) (h2 : svB l.2 = true) (h3 : i = 0 ∨ ∃ a, ls[i - 1]? = some a ∧ a.1 < l.1) : lnAt ls i = true := by
  rw [lnAt_eq h, h1, h2]
  rcases h3 with h3 | ⟨a, ha, h4⟩
  · simp [h3]
  · rw [ha]; simp [lnPrev, h4]
theorem lnAt_no {ls : List Line} {i : Nat} {l : Line} (h : ls[i]? = some l) (h1 : wordB l.1 = false ∨ svB l.2 = false ∨ (0 < i ∧ ∃ a, ls[i - 1]? = some a ∧ ¬ a.1 < l.1)) : lnAt ls i = false := by
  rw [lnAt_eq h]
  rcases h1 with h1 | h1 | ⟨hi, a, ha, h2⟩
  · rw [h1, Bool.false_and, Bool.false_and]
  · rw [h1, Bool.and_false, Bool.false_and]
  · have e2 : decide (i = 0) = false := by simp; omega
    rw [ha, e2]; simp [lnPrev, h2]
theorem shB_no {ls : List Line} {i : Nat} {l : Line} (h : ls[i]? = some l) (h1 : lnAt ls i = false) : shB ls = false := by unfold shB; rw [upB_bad (List.getElem?_eq_some_iff.1 h).1 h1, Bool.and_false]
theorem shB_big {ls : List Line} (h : 8 < ls.length) : shB ls = false := by unfold shB; rw [decide_eq_false (by omega), Bool.false_and]
theorem shB_up {ls : List Line} (h : upB (lnAt ls) ls.length = true) : shB ls = decide (ls.length ≤ 8) := by unfold shB; rw [h, Bool.and_true]
theorem shB_len {ls : List Line} (h : shB ls = true) : ls.length ≤ 8 := by unfold shB at h; simp only [Bool.and_eq_true, decide_eq_true_eq] at h; exact h.1
theorem sv_bd {v : Int} (h : svB v = true) : 0 ≤ v ∧ v ≤ 1000000 := by unfold svB at h; simpa using h
theorem shB_at {ls : List Line} (h : shB ls = true) {i : Nat} {l : Line} (hl : ls[i]? = some l) : wordB l.1 = true ∧ svB l.2 = true ∧ ∀ a, 0 < i → ls[i - 1]? = some a → a.1 < l.1 := by
  unfold shB at h; simp only [Bool.and_eq_true] at h
  have := upB_get h.2 (List.getElem?_eq_some_iff.1 hl).1
  rw [lnAt_eq hl] at this
  simp only [Bool.and_eq_true, Bool.or_eq_true, decide_eq_true_eq] at this
  refine ⟨this.1.1, this.1.2, fun a hi ha => ?_⟩
  rcases this.2 with q | q
  · omega
  · rw [ha] at q; simpa [lnPrev] using q
theorem shB_el {ls : List Line} (h : shB ls = true) : ∀ l ∈ ls, wordB l.1 = true ∧ 0 ≤ l.2 ∧ l.2 ≤ 1000000 := by
  intro l hl
  obtain ⟨j, hj⟩ := List.getElem?_of_mem hl
  have := shB_at h hj
  exact ⟨this.1, sv_bd this.2.1⟩
def vrAt (vs : List Ver) (i : Nat) : Bool := match vs[i]? with
  | none => false
  | some v => shB v.2 && (if i = 0 then decide (v.1 = -1) else decide (0 ≤ v.1) && decide (v.1 ≤ (i : Int) - 1))
/-- Are these versions? -/
def veB (vs : List Ver) : Bool := (decide (1 ≤ vs.length) && decide (vs.length ≤ 20)) && upB (vrAt vs) vs.length
theorem vrAt_eq {vs : List Ver} {i : Nat} {v : Ver} (h : vs[i]? = some v) : vrAt vs i = (shB v.2 && (if i = 0 then decide (v.1 = -1) else decide (0 ≤ v.1) && decide (v.1 ≤ (i : Int) - 1))) := by unfold vrAt; rw [h]
theorem vrAt_ok {vs : List Ver} {i : Nat} {v : Ver} (h : vs[i]? = some v) (h1 : shB v.2 = true) (h2 : (i = 0 ∧ v.1 = -1) ∨ (0 < i ∧ 0 ≤ v.1 ∧ v.1 ≤ (i : Int) - 1)) : vrAt vs i = true := by
  rw [vrAt_eq h, h1]
  rcases h2 with ⟨e, h2⟩ | ⟨e, h2, h3⟩
  · rw [if_pos e]; simp [h2]
  · rw [if_neg (by omega)]; simp [h2, h3]
theorem vrAt_no {vs : List Ver} {i : Nat} {v : Ver} (h : vs[i]? = some v) (h1 : shB v.2 = false ∨ (i = 0 ∧ v.1 ≠ -1) ∨ (0 < i ∧ ¬ (0 ≤ v.1 ∧ v.1 ≤ (i : Int) - 1))) : vrAt vs i = false := by
  rw [vrAt_eq h]
  rcases h1 with h1 | ⟨e, h1⟩ | ⟨e, h1⟩
  · rw [h1, Bool.false_and]
  · rw [if_pos e, decide_eq_false h1, Bool.and_false]
  · rw [if_neg (by omega)]
    have : (decide (0 ≤ v.1) && decide (v.1 ≤ (i : Int) - 1)) = false := by
      rw [Bool.eq_false_iff]; intro q; simp only [Bool.and_eq_true, decide_eq_true_eq] at q; exact h1 q
    rw [this, Bool.and_false]
theorem veB_no {vs : List Ver} {i : Nat} {v : Ver} (h : vs[i]? = some v) (h1 : vrAt vs i = false) : veB vs = false := by unfold veB; rw [upB_bad (List.getElem?_eq_some_iff.1 h).1 h1, Bool.and_false]
theorem veB_n {vs : List Ver} (h : vs.length < 1 ∨ 20 < vs.length) : veB vs = false := by
  unfold veB
  have : (decide (1 ≤ vs.length) && decide (vs.length ≤ 20)) = false := by rw [Bool.eq_false_iff]; simp; omega
  rw [this, Bool.false_and]
theorem veB_up {vs : List Ver} (h : upB (vrAt vs) vs.length = true) : veB vs = (decide (1 ≤ vs.length) && decide (vs.length ≤ 20)) := by unfold veB; rw [h, Bool.and_true]
theorem veB_len {vs : List Ver} (h : veB vs = true) : 1 ≤ vs.length ∧ vs.length ≤ 20 := by unfold veB at h; simp only [Bool.and_eq_true, decide_eq_true_eq] at h; exact h.1
theorem veB_at {vs : List Ver} (h : veB vs = true) {i : Nat} {v : Ver} (hv : vs[i]? = some v) : shB v.2 = true ∧ (i = 0 → v.1 = -1) ∧ (0 < i → 0 ≤ v.1 ∧ v.1 ≤ (i : Int) - 1) := by
  unfold veB at h; simp only [Bool.and_eq_true] at h
  have := upB_get h.2 (List.getElem?_eq_some_iff.1 hv).1
  rw [vrAt_eq hv, Bool.and_eq_true] at this
  refine ⟨this.1, fun e => ?_, fun e => ?_⟩
  · have q := this.2; rw [if_pos e] at q; simpa using q
  · have q := this.2; rw [if_neg (by omega)] at q; simpa using q
def inV (vs : List Ver) (v : Int) : Bool := decide (0 ≤ v) && decide (v ≤ (vs.length : Nat) - 1)
theorem in_bd {vs : List Ver} {v : Int} (h : inV vs v = true) : 0 ≤ v ∧ v < (vs.length : Nat) := by unfold inV at h; simp only [Bool.and_eq_true, decide_eq_true_eq] at h; omega
def cdV (vs : List Ver) (a b : Int) : Int := if veB vs then (if inV vs a && inV vs b then 0 else 2) else 1
theorem cdV_ok {vs : List Ver} {a b : Int} (h : cdV vs a b = 0) : veB vs = true ∧ inV vs a = true ∧ inV vs b = true := by
  unfold cdV at h
  split at h
  · split at h
    · rename_i h1 h2; rw [Bool.and_eq_true] at h2; exact ⟨h1, h2.1, h2.2⟩
    · cases h
  · cases h
def valV (k : Str) : List Line → Int
  | [] => -1
  | l :: ls => if l.1 = k then l.2 else valV k ls
theorem valV_bd {k : Str} : ∀ {ls : List Line}, (∀ l ∈ ls, 0 ≤ l.2 ∧ l.2 ≤ 1000000) → -1 ≤ valV k ls ∧ valV k ls ≤ 1000000
  | [], _ => by simp [valV]
  | l :: ls, h => by
    rw [valV]; split
    · have := h l (by simp); omega
    · exact valV_bd fun x hx => h x (by simp [hx])
theorem valI {k : Str} {ls : List Line} (h : shB ls = true) : I64 (valV k ls) := by have := valV_bd (k := k) fun l hl => (shB_el h l hl).2; omega
/-- All keys of some sheets, each once, in order. -/
def keG : List Line → List Str → List Str
  | [], acc => acc
  | l :: ls, acc => keG ls (insU l.1 acc)
def keS : List (List Line) → List Str → List Str
  | [], acc => acc
  | s :: ss, acc => keS ss (keG s acc)
def allK (ss : List (List Line)) : List Str := keS ss []
theorem keG_up : ∀ {ls : List Line} {acc : List Str}, UpS acc → UpS (keG ls acc)
  | [], _, h => h
  | l :: ls, acc, h => keG_up (ls := ls) (insU_up h)
theorem keS_up : ∀ {ss : List (List Line)} {acc : List Str}, UpS acc → UpS (keS ss acc)
  | [], _, h => h
  | s :: ss, acc, h => keS_up (ss := ss) (keG_up h)
theorem keG_mem {z : Str} : ∀ {ls : List Line} {acc : List Str}, z ∈ keG ls acc ↔ z ∈ acc ∨ ∃ l ∈ ls, l.1 = z
  | [], acc => by simp [keG]
  | l :: ls, acc => by
    rw [keG, keG_mem, insU_mem]
    constructor
    · rintro ((e | e) | ⟨x, hx, e⟩)
      · exact .inr ⟨l, by simp, e.symm⟩
      · exact .inl e
      · exact .inr ⟨x, by simp [hx], e⟩
    · rintro (e | ⟨x, hx, e⟩)
      · exact .inl (.inr e)
      · rcases List.mem_cons.1 hx with q | q
        · subst q; exact .inl (.inl e.symm)
        · exact .inr ⟨x, q, e⟩
theorem keS_mem {z : Str} : ∀ {ss : List (List Line)} {acc : List Str}, z ∈ keS ss acc ↔ z ∈ acc ∨ ∃ s ∈ ss, ∃ l ∈ s, l.1 = z
  | [], acc => by simp [keS]
  | s :: ss, acc => by
    rw [keS, keS_mem, keG_mem]
    constructor
    · rintro ((e | ⟨x, hx, e⟩) | ⟨q, hq, e⟩)
      · exact .inl e
      · exact .inr ⟨s, by simp, x, hx, e⟩
      · exact .inr ⟨q, by simp [hq], e⟩
    · rintro (e | ⟨q, hq, e⟩)
      · exact .inl (.inl e)
      · rcases List.mem_cons.1 hq with r | r
        · subst r; exact .inl (.inr e)
        · exact .inr ⟨q, r, e⟩
theorem keG_len : ∀ (ls : List Line) (acc : List Str), (keG ls acc).length ≤ acc.length + ls.length
  | [], acc => by simp [keG]
  | l :: ls, acc => by
    have h1 := keG_len ls (insU l.1 acc); have h2 := insU_len l.1 acc
    rw [keG, List.length_cons]; omega
theorem keS_len : ∀ (ss : List (List Line)) (acc : List Str), (∀ s ∈ ss, s.length ≤ 8) → (keS ss acc).length ≤ acc.length + 8 * ss.length
  | [], acc, _ => by simp [keS]
  | s :: ss, acc, h => by
    have h1 := keS_len ss (keG s acc) fun q hq => h q (by simp [hq]); have h2 := keG_len s acc; have h3 := h s (by simp)
    rw [keS, List.length_cons]; omega
theorem allK_up (ss : List (List Line)) : UpS (allK ss) := keS_up List.Pairwise.nil
theorem allK_mem {z : Str} {ss : List (List Line)} : z ∈ allK ss ↔ ∃ s ∈ ss, ∃ l ∈ s, l.1 = z := by
  unfold allK; rw [keS_mem]; exact ⟨fun h => h.resolve_left (by simp), .inr⟩
/-- The parent, the way to the first one, the last version that two come from. -/
def parV (vs : List Ver) (v : Int) : Int := match vs[v.toNat]? with
  | none => -1
  | some x => x.1
theorem parV_eq {vs : List Ver} {v : Int} {x : Ver} (h : vs[v.toNat]? = some x) : parV vs v = x.1 := by unfold parV; rw [h]
def wayF (vs : List Ver) : Nat → Int → List Int
  | 0, _ => []
  | n + 1, v => if v < 0 then [] else v :: wayF vs n (parV vs v)
def wayV (vs : List Ver) (v : Int) : List Int := wayF vs (v + 1).toNat v
def ParOk (vs : List Ver) : Prop := ∀ u, 0 ≤ u → parV vs u < u ∧ -1 ≤ parV vs u
theorem par_ok {vs : List Ver} (h : veB vs = true) : ParOk vs := by
  intro u hu
  unfold parV
  cases e : vs[u.toNat]? with
  | none => show (-1 : Int) < u ∧ -1 ≤ -1; omega
  | some x =>
    have := veB_at h e
    show x.1 < u ∧ -1 ≤ x.1
    by_cases q : u = 0
    · have := this.2.1 (by omega); omega
    · have := this.2.2 (by omega); omega
theorem wayF_eq {vs : List Ver} (h : ParOk vs) : ∀ (n : Nat) (v : Int), v < n → wayF vs n v = wayV vs v := by
  intro n
  induction n using Nat.strongRecOn with
  | ind n ih =>
    intro v hv
    cases n with
    | zero => unfold wayV; rw [show (v + 1).toNat = 0 by omega]
    | succ n =>
      by_cases q : v < 0
      · unfold wayV; rw [show (v + 1).toNat = 0 by omega, wayF, wayF, if_pos q]
      · have hp := h v (by omega)
        unfold wayV
        obtain ⟨m, hm⟩ : ∃ m, (v + 1).toNat = m + 1 := ⟨v.toNat, by omega⟩
        rw [hm, wayF, wayF, if_neg q, if_neg q, ih n (by omega) _ (by omega), ih m (by omega) _ (by omega)]
theorem wayV_step {vs : List Ver} (h : ParOk vs) {v : Int} (hv : 0 ≤ v) : wayV vs v = v :: wayV vs (parV vs v) := by
  have hp := h v hv
  obtain ⟨m, hm⟩ : ∃ m, (v + 1).toNat = m + 1 := ⟨v.toNat, by omega⟩
  conv => lhs; unfold wayV
  rw [hm, wayF, if_neg (by omega), wayF_eq h m _ (by omega)]
theorem wayV_neg {vs : List Ver} {v : Int} (hv : v < 0) : wayV vs v = [] := by unfold wayV; rw [show (v + 1).toNat = 0 by omega]; rfl
theorem wayV_le {vs : List Ver} (h : ParOk vs) : ∀ (n : Nat) (v : Int), v < n → ∀ x ∈ wayV vs v, 0 ≤ x ∧ x ≤ v
  | 0, v, hv, x, hx => by rw [wayV_neg (by omega)] at hx; cases hx
  | n + 1, v, hv, x, hx => by
    by_cases q : v < 0
    · rw [wayV_neg q] at hx; cases hx
    · have hp := h v (by omega)
      rw [wayV_step h (by omega)] at hx
      rcases List.mem_cons.1 hx with e | e
      · subst e; omega
      · have := wayV_le h n _ (by omega) x e; omega
theorem wayV_mem {vs : List Ver} (h : ParOk vs) {v x : Int} (hx : x ∈ wayV vs v) : 0 ≤ x ∧ x ≤ v := wayV_le h (v + 1).toNat v (by omega) x hx
theorem wayV_len {vs : List Ver} (h : ParOk vs) : ∀ (n : Nat) (v : Int), v < n → (wayV vs v).length ≤ n
  | 0, v, hv => by rw [wayV_neg (by omega)]; simp
  | n + 1, v, hv => by
    by_cases q : v < 0
    · rw [wayV_neg q]; simp
    · have hp := h v (by omega)
      have := wayV_len h n (parV vs v) (by omega)
      rw [wayV_step h (by omega), List.length_cons]; omega
def cmF (ys : List Int) : List Int → Int
  | [] => 0
  | x :: xs => if x ∈ ys then x else cmF ys xs
def cmV (vs : List Ver) (a b : Int) : Int := cmF (wayV vs b) (wayV vs a)
theorem cmF_congr {ys zs : List Int} : ∀ {xs : List Int}, (∀ x ∈ xs, x ∈ ys ↔ x ∈ zs) → cmF ys xs = cmF zs xs
  | [], _ => rfl
  | x :: xs, h => by
    rw [cmF, cmF, cmF_congr fun y hy => h y (by simp [hy])]
    by_cases q : x ∈ ys
    · rw [if_pos q, if_pos ((h x (by simp)).1 q)]
    · rw [if_neg q, if_neg fun r => q ((h x (by simp)).2 r)]
theorem cmF_bd {ys : List Int} : ∀ {xs : List Int} {m : Int}, 0 ≤ m → (∀ x ∈ xs, 0 ≤ x ∧ x ≤ m) → 0 ≤ cmF ys xs ∧ cmF ys xs ≤ m
  | [], m, hm, _ => by simp [cmF]; exact hm
  | x :: xs, m, hm, h => by
    rw [cmF]; split
    · exact h x (by simp)
    · exact cmF_bd hm fun y hy => h y (by simp [hy])
theorem cmV_bd {vs : List Ver} (h : ParOk vs) {a : Int} (b : Int) (ha : 0 ≤ a) : 0 ≤ cmV vs a b ∧ cmV vs a b ≤ a := cmF_bd ha fun _ hx => wayV_mem h hx
theorem cmV_eq {vs : List Ver} (h : ParOk vs) {a : Int} (ha : 0 ≤ a) : cmV vs a a = a := by
  unfold cmV; rw [wayV_step h ha, cmF, if_pos (by simp)]
theorem cmV_a {vs : List Ver} (h : ParOk vs) {a b : Int} (ha : 0 ≤ a) (hb : b < a) : cmV vs a b = cmV vs (parV vs a) b := by
  unfold cmV; rw [wayV_step h ha, cmF, if_neg fun q => by have := wayV_mem h q; omega]
theorem cmV_b {vs : List Ver} (h : ParOk vs) {a b : Int} (hb : 0 ≤ b) (hab : a < b) : cmV vs a b = cmV vs a (parV vs b) := by
  unfold cmV
  refine cmF_congr fun x hx => ?_
  rw [wayV_step h hb, List.mem_cons]
  have := wayV_mem h hx
  constructor
  · rintro (e | e)
    · omega
    · exact e
  · exact .inr
/-- What two sheets with a common one are merged to: a value, a conflict, the lines, the keys of conflicts. -/
def mgv (x y z : Int) : Int := if x = y ∨ y = z then x else y
def mgc (x y z : Int) : Bool := !(decide (x = y) || decide (y = z) || decide (x = z))
def mgL (X Y Z : List Line) : List Str → List Line
  | [] => []
  | k :: ks => if mgc (valV k X) (valV k Y) (valV k Z) then mgL X Y Z ks else if mgv (valV k X) (valV k Y) (valV k Z) = -1 then mgL X Y Z ks else (k, mgv (valV k X) (valV k Y) (valV k Z)) :: mgL X Y Z ks
def mgC (X Y Z : List Line) : List Str → List Str
  | [] => []
  | k :: ks => if mgc (valV k X) (valV k Y) (valV k Z) then k :: mgC X Y Z ks else mgC X Y Z ks
def kcL (X Y : List Line) : List Str → List Str
  | [] => []
  | k :: ks => if valV k X = valV k Y then kcL X Y ks else k :: kcL X Y ks
theorem mgL_len (X Y Z : List Line) : ∀ ks, (mgL X Y Z ks).length ≤ ks.length
  | [] => Nat.le_refl _
  | k :: ks => by
    have := mgL_len X Y Z ks
    rw [mgL]; split
    · rw [List.length_cons]; omega
    · split <;> simp only [List.length_cons] <;> omega
theorem mgC_len (X Y Z : List Line) : ∀ ks, (mgC X Y Z ks).length ≤ ks.length
  | [] => Nat.le_refl _
  | k :: ks => by have := mgC_len X Y Z ks; rw [mgC]; split <;> simp only [List.length_cons] <;> omega
theorem kcL_len (X Y : List Line) : ∀ ks, (kcL X Y ks).length ≤ ks.length
  | [] => Nat.le_refl _
  | k :: ks => by have := kcL_len X Y ks; rw [kcL]; split <;> simp only [List.length_cons] <;> omega
theorem mgL_mem {X Y Z : List Line} {l : Line} : ∀ {ks : List Str}, l ∈ mgL X Y Z ks → l.1 ∈ ks ∧ l.2 ≠ -1 ∧ l.2 = mgv (valV l.1 X) (valV l.1 Y) (valV l.1 Z) ∧ mgc (valV l.1 X) (valV l.1 Y) (valV l.1 Z) = false
  | [], h => by cases h
  | k :: ks, h => by
    rw [mgL] at h; split at h
    · have := mgL_mem h; exact ⟨by simp [this.1], this.2⟩
    · split at h
      · have := mgL_mem h; exact ⟨by simp [this.1], this.2⟩
      · rcases List.mem_cons.1 h with e | e
        · subst e; refine ⟨by simp, ‹_›, rfl, ?_⟩; simpa using ‹¬ mgc _ _ _ = true›
        · have := mgL_mem e; exact ⟨by simp [this.1], this.2⟩
theorem mgL_up {X Y Z : List Line} : ∀ {ks : List Str}, UpS ks → (mgL X Y Z ks).Pairwise fun x y => x.1 < y.1
  | [], _ => List.Pairwise.nil
  | k :: ks, h => by
    have h' := List.pairwise_cons.1 h
    rw [mgL]; split
    · exact mgL_up h'.2
    · split
      · exact mgL_up h'.2
      · exact List.Pairwise.cons (fun z hz => h'.1 z.1 (mgL_mem hz).1) (mgL_up h'.2)
theorem sh_pw {ls : List Line} (h : ls.Pairwise fun x y => x.1 < y.1) (h2 : ∀ l ∈ ls, wordB l.1 = true ∧ svB l.2 = true) : shB ls = decide (ls.length ≤ 8) := by
  refine shB_up (upB_iff.2 fun i hi => ?_)
  obtain ⟨l, hl⟩ := get_ex hi
  have hw := h2 l (List.mem_of_getElem? hl)
  refine lnAt_ok hl hw.1 hw.2 ?_
  rcases Nat.eq_zero_or_pos i with e | e
  · exact .inl e
  · obtain ⟨a, ha⟩ := get_ex (show i - 1 < ls.length by omega)
    refine .inr ⟨a, ha, ?_⟩
    obtain ⟨q1, rfl⟩ := List.getElem?_eq_some_iff.1 ha
    obtain ⟨q2, rfl⟩ := List.getElem?_eq_some_iff.1 hl
    exact List.pairwise_iff_getElem.1 h _ _ q1 q2 (by omega)
theorem mgv_or (x y z : Int) : mgv x y z = x ∨ mgv x y z = y := by unfold mgv; split; exact .inl rfl; exact .inr rfl
theorem mgL_sh {X Y Z : List Line} (hX : shB X = true) (hY : shB Y = true) (hZ : shB Z = true) : shB (mgL X Y Z (allK [X, Y, Z])) = decide ((mgL X Y Z (allK [X, Y, Z])).length ≤ 8) := by
  refine sh_pw (mgL_up (allK_up _)) fun l hl => ?_
  obtain ⟨h1, h2, h3, _⟩ := mgL_mem hl
  constructor
  · obtain ⟨s, hs, x, hx, e⟩ := allK_mem.1 h1
    rw [← e]
    simp only [List.mem_cons, List.not_mem_nil, or_false] at hs
    rcases hs with rfl | rfl | rfl
    · exact (shB_el hX x hx).1
    · exact (shB_el hY x hx).1
    · exact (shB_el hZ x hx).1
  · have a1 := valV_bd (k := l.1) fun q hq => (shB_el hX q hq).2
    have a2 := valV_bd (k := l.1) fun q hq => (shB_el hY q hq).2
    rcases mgv_or (valV l.1 X) (valV l.1 Y) (valV l.1 Z) with q | q
    · rw [q] at h3; unfold svB; simp only [Bool.and_eq_true, decide_eq_true_eq]; omega
    · rw [q] at h3; unfold svB; simp only [Bool.and_eq_true, decide_eq_true_eq]; omega
def lnV (vs : List Ver) (a : Int) : List Line := match vs[a.toNat]? with
  | none => []
  | some x => x.2
theorem lnV_eq {vs : List Ver} {a : Int} {x : Ver} (h : vs[a.toNat]? = some x) : lnV vs a = x.2 := by unfold lnV; rw [h]
theorem shB_nil : shB [] = true := rfl
theorem lnV_sh {vs : List Ver} (h : veB vs = true) (a : Int) : shB (lnV vs a) = true := by
  unfold lnV
  cases e : vs[a.toNat]? with
  | none => exact shB_nil
  | some x => exact (veB_at h e).1
def mgKs (vs : List Ver) (a b : Int) : List Str := allK [lnV vs a, lnV vs b, lnV vs (cmV vs a b)]
def mgLV (vs : List Ver) (a b : Int) : List Line := mgL (lnV vs a) (lnV vs b) (lnV vs (cmV vs a b)) (mgKs vs a b)
def mgCV (vs : List Ver) (a b : Int) : List Str := mgC (lnV vs a) (lnV vs b) (lnV vs (cmV vs a b)) (mgKs vs a b)
theorem mgKs_len {vs : List Ver} (h : veB vs = true) (a b : Int) : (mgKs vs a b).length ≤ 24 := by
  have := keS_len [lnV vs a, lnV vs b, lnV vs (cmV vs a b)] [] fun s hs => by
    simp only [List.mem_cons, List.not_mem_nil, or_false] at hs
    rcases hs with rfl | rfl | rfl <;> exact shB_len (lnV_sh h _)
  simpa [mgKs, allK] using this
theorem mgLV_len {vs : List Ver} (h : veB vs = true) (a b : Int) : (mgLV vs a b).length ≤ 24 := Nat.le_trans (mgL_len _ _ _ _) (mgKs_len h a b)
theorem mgCV_len {vs : List Ver} (h : veB vs = true) (a b : Int) : (mgCV vs a b).length ≤ 24 := Nat.le_trans (mgC_len _ _ _ _) (mgKs_len h a b)
theorem mgLV_sh {vs : List Ver} (h : veB vs = true) (a b : Int) : shB (mgLV vs a b) = decide ((mgLV vs a b).length ≤ 8) := mgL_sh (lnV_sh h a) (lnV_sh h b) (lnV_sh h _)
def kcV (vs : List Ver) (a b : Int) : List Str := if cdV vs a b = 0 then kcL (lnV vs a) (lnV vs b) (allK [lnV vs a, lnV vs b]) else []
def cfV (vs : List Ver) (a b : Int) : List Str := if cdV vs a b = 0 then mgCV vs a b else []
def mvC (vs : List Ver) (a b : Int) : Int := if cdV vs a b = 0 then (if 0 < (mgCV vs a b).length then 5 else if 8 < (mgLV vs a b).length then 3 else 0) else cdV vs a b
def mvL (vs : List Ver) (a b : Int) : List Line := if mvC vs a b = 0 then mgLV vs a b else []
theorem kcV_len (vs : List Ver) (a b : Int) : (kcV vs a b).length ≤ 24 := by
  unfold kcV; split
  · have hv := (cdV_ok ‹_›).1
    have h1 := kcL_len (lnV vs a) (lnV vs b) (allK [lnV vs a, lnV vs b])
    have h2 := keS_len [lnV vs a, lnV vs b] [] fun s hs => by
      simp only [List.mem_cons, List.not_mem_nil, or_false] at hs
      rcases hs with rfl | rfl <;> exact shB_len (lnV_sh hv _)
    simp only [List.length_nil, List.length_cons] at h2
    unfold allK at h1 ⊢; omega
  · simp
theorem cfV_len (vs : List Ver) (a b : Int) : (cfV vs a b).length ≤ 24 := by
  unfold cfV; split
  · exact mgCV_len (cdV_ok ‹_›).1 a b
  · simp
theorem mvL_len (vs : List Ver) (a b : Int) : (mvL vs a b).length ≤ 8 := by
  unfold mvL mvC
  by_cases h : cdV vs a b = 0
  · rw [if_pos h]
    by_cases h1 : 0 < (mgCV vs a b).length
    · rw [if_pos h1]; simp
    · rw [if_neg h1]
      by_cases h2 : 8 < (mgLV vs a b).length
      · rw [if_pos h2]; simp
      · rw [if_neg h2]; simp; omega
  · rw [if_neg h, if_neg h]; simp

theorem c_impl_isSheetValue (w0 : World) (value : Int)  :
  Calls Try.prog 68 #[.int .i64 value] w0 (Ret w0 (fun v _ => v = .bool (svB value))) := by
 refine enter (N := 5) Try.func68 rfl rfl rfl ?_
 intro a0 ha0
 have hx0 := Ext.rfl' w0
 refine wp_seq ?_
 refine wp_region_lit ?_
 refine wl_val ha0 rfl rfl rfl (op_assign ha0 rfl rfl) ?_
 intro a1 ha1; clear ha0 a0
 refine wpList_nil ?_
 refine then_n ?_
 refine wp_seq ?_
 refine wp_region_lit ?_
 refine wl_val ha1 rfl rfl rfl (op_move ha1 rfl rfl) ?_
 intro a2 ha2; clear ha1 a1
 refine wl_callR ha2 rfl rfl rfl (op_call ha2 rfl cb79 rfl) (c_impl_within _ value (0 : Int) (1000000 : Int) ) ?_
 rintro v3 w4 he5 rfl a6 ha6; clear ha2 a2
 have hx7 := hx0.trans' he5
 have hzhx7 := he5.size
 refine wl_val ha6 rfl rfl rfl (op_assign ha6 rfl rfl) ?_
 intro a8 ha8; clear ha6 a6
 refine wpList_nil ?_
 refine then_n ?_
 refine wp_ret ?_
 refine ret1 ha8 rfl rfl ?_
 clear ha8 a8
 exact ret_mk hx7 (congrArg Value.bool (by rfl))

set_option maxHeartbeats 4000000 in
theorem c_spec_l29Sheet (w0 : World) (v_lines : Value) (lines : List (Str × Int)) {S_lines : Nat → Prop} (h_lines : Rds shLine S_lines w0 v_lines lines) :
  Calls Try.prog 60 #[v_lines] w0 (Ret w0 (fun v _ => v = .bool (shB lines))) := by
 refine enter (N := 47) Try.func60 rfl rfl rfl ?_
 intro a0 ha0
 have hx0 := Ext.rfl' w0
 have hl_lines := h_lines.length_le
 refine wp_seq ?_
 refine wp_region_lit ?_
 refine wl_val ha0 rfl rfl rfl (op_assign ha0 rfl rfl) ?_
 intro a1 ha1; clear ha0 a0
 refine wpList_nil ?_
 refine then_n ?_
 refine wp_seq ?_
 refine wp_seq ?_
 refine wp_region_lit ?_
 refine wl_val ha1 rfl rfl rfl (op_assign ha1 rfl rfl) ?_
 intro a2 ha2; clear ha1 a1
 refine wpList_nil ?_
 refine then_n ?_
 refine wp_block ?_
 refine loop_inv (X := Nat) (fun (i : Nat) fr wl => Sl 47 fr [(0, v_lines), (3, .int .i64 ((i : Nat) : Int))] ∧ Ext w0 wl ∧ w0.heap.size ≤ wl.heap.size ∧ (i ≤ lines.length) ∧ (upB (lnAt lines) i = true)) (fun (i : Nat) => lines.length - i) (0) ?_ ?_
 ·
  exact ⟨(Sl.cons_ ha2 rfl rfl (Sl.cons_ ha2 rfl (int_eq (by omega)) (Sl.nil_ ha2))), hx0, (by omega), (by omega), (by rfl)⟩
 ·
  clear ha2 a2
  rintro i a5 w3 ⟨ha5, hx4, hzl6, hi, hA⟩
  have hzhx4 := hx4.size
  refine wp_seq ?_
  refine wp_seq ?_
  refine wp_region_lit ?_
  refine wl_val ha5 rfl rfl rfl (op_move ha5 rfl rfl) ?_
  intro a7 ha7; clear ha5 a5
  refine wl_val ha7 rfl rfl rfl (op_move ha7 rfl rfl) ?_
  intro a8 ha8; clear ha7 a7
  refine wl_val ha8 rfl rfl rfl (op_len_sl ha8 rfl Try.underlying34 rfl h_lines) ?_
  intro a9 ha9; clear ha8 a8
  refine wl_val ha9 rfl rfl rfl (op_lss ha9 rfl rfl rfl) ?_
  intro a10 ha10; clear ha9 a9
  refine wpList_nil ?_
  refine then_n ?_
  by_cases c11 : ((i : Nat) : Int) < ((lines.length : Nat) : Int)
  ·
   rw [decide_eq_true c11] at ha10
   refine cond_t ha10 rfl ?_
   refine wp_skip ?_
   refine then_n ?_
   refine wp_seq ?_
   refine wp_block ?_
   refine wp_seq ?_
   refine dr_enter Ext follows_mixed ?_
   intro w12 he13
   have hx14 := hx4.trans' he13
   have hzhx14 := he13.size
   have hs15 : Ext w12 w12 := Ext.rfl' _
   refine dr_val (i := 0) ha10 rfl (by kernel_rfl) (by kernel_rfl) (by kernel_rfl) rfl rfl rfl hs15 (fun w' hw' => op_move ha10 rfl rfl) ?_
   intro a16 ha16; clear ha10 a10
   refine dr_val (i := 1) ha16 rfl (by kernel_rfl) (by kernel_rfl) (by kernel_rfl) rfl rfl rfl hs15 (fun w' hw' => op_move ha16 rfl rfl) ?_
   intro a17 ha17; clear ha16 a16
   obtain ⟨x18, hx18⟩ := get_ex (xs := lines) (j := i) (by omega)
   obtain ⟨p19, c20, hi21, hc22, hr23, hs24⟩ := Rds.at_ h_lines hx18
   obtain ⟨rfl, b25, b26⟩ := inv_shLine hr23
   refine dr_val (i := 2) ha17 rfl (by kernel_rfl) (by kernel_rfl) (by kernel_rfl) rfl rfl rfl hs15 (fun w' hw' => op_indexAddr ha17 rfl Try.underlying34 ti83 rfl rfl (by omega) hi21) ?_
   intro a27 ha27; clear ha17 a17
   refine dr_val (i := 3) ha27 rfl (by kernel_rfl) (by kernel_rfl) (by kernel_rfl) rfl rfl rfl hs15 (fun w' hw' => op_fieldAddr (sz := 0) ha27 rfl Try.underlying83 rfl rfl ti9 rfl) ?_
   intro a28 ha28; clear ha27 a27
   refine dr_val (i := 4) ha28 rfl (by kernel_rfl) (by kernel_rfl) (by kernel_rfl) rfl rfl rfl hs15 (fun w' hw' => op_loadF (off := 0) ha28 rfl Try.underlying9 rfl rfl (hc22.ext (hx14.trans' hw')) rfl) ?_
   intro a29 ha29; clear ha28 a28
   refine dr_one (i := 5) (by kernel_rfl) ?_
   refine po_callR ha29 rfl rfl rfl rfl (op_call ha29 rfl cb70 rfl) (c_spec_IsWord _ x18.1 (by first | assumption | omega | (simp; omega) | (simp [mkN_length]; omega))) ?_
   rintro v30 w31 he32 rfl a33 ha33; clear ha29 a29
   have hs34 := hs15.trans' he32
   have hx35 := hx14.trans' he32
   have hzhx35 := he32.size
   refine ⟨hs34, ?_⟩
   refine dr_val (i := 6) ha33 rfl (by kernel_rfl) (by kernel_rfl) (by kernel_rfl) rfl rfl rfl hs34 (fun w' hw' => op_not ha33 rfl rfl) ?_
   intro a36 ha36; clear ha33 a33
   refine dr_val (i := 7) ha36 rfl (by kernel_rfl) (by kernel_rfl) (by kernel_rfl) rfl rfl rfl hs34 (fun w' hw' => op_move ha36 rfl rfl) ?_
   intro a37 ha37; clear ha36 a36
   rcases Bool.eq_false_or_eq_true (wordB x18.1) with c38 | c38
   ·
    rw [c38] at ha37
    refine dr_val (i := 8) ha37 rfl (by kernel_rfl) (by kernel_rfl) (by kernel_rfl) rfl rfl rfl hs34 (fun w' hw' => op_move ha37 rfl rfl) ?_
    intro a39 ha39; clear ha37 a37
    refine dr_val (i := 9) ha39 rfl (by kernel_rfl) (by kernel_rfl) (by kernel_rfl) rfl rfl rfl hs34 (fun w' hw' => op_move ha39 rfl rfl) ?_
    intro a40 ha40; clear ha39 a39
    refine dr_val (i := 10) ha40 rfl (by kernel_rfl) (by kernel_rfl) (by kernel_rfl) rfl rfl rfl hs34 (fun w' hw' => op_indexAddr ha40 rfl Try.underlying34 ti83 rfl rfl (by omega) hi21) ?_
    intro a41 ha41; clear ha40 a40
    refine dr_val (i := 11) ha41 rfl (by kernel_rfl) (by kernel_rfl) (by kernel_rfl) rfl rfl rfl hs34 (fun w' hw' => op_fieldAddr (sz := 0) ha41 rfl Try.underlying83 rfl rfl ti2 rfl) ?_
    intro a42 ha42; clear ha41 a41
    refine dr_val (i := 12) ha42 rfl (by kernel_rfl) (by kernel_rfl) (by kernel_rfl) rfl rfl rfl hs34 (fun w' hw' => op_loadF (off := 1) ha42 rfl Try.underlying2 rfl rfl (hc22.ext (hx14.trans' hw')) rfl) ?_
    intro a43 ha43; clear ha42 a42
    refine dr_one (i := 13) (by kernel_rfl) ?_
    refine po_callR ha43 rfl rfl rfl rfl (op_call ha43 rfl cb71 rfl) (c_spec_l01In _ x18.2 (0 : Int) (1000000 : Int) ) ?_
    rintro v44 w45 he46 rfl a47 ha47; clear ha43 a43
    have hs48 := hs34.trans' he46
    have hx49 := hx35.trans' he46
    have hzhx49 := he46.size
    refine ⟨hs48, ?_⟩
    refine dr_val (i := 14) ha47 rfl (by kernel_rfl) (by kernel_rfl) (by kernel_rfl) rfl rfl rfl hs48 (fun w' hw' => op_not ha47 rfl rfl) ?_
    intro a50 ha50; clear ha47 a47
    refine dr_val (i := 15) ha50 rfl (by kernel_rfl) (by kernel_rfl) (by kernel_rfl) rfl rfl rfl hs48 (fun w' hw' => op_pick_f ha50 rfl rfl rfl) ?_
    intro a51 ha51; clear ha50 a50
    refine dr_val (i := 16) ha51 rfl (by kernel_rfl) (by kernel_rfl) (by kernel_rfl) rfl rfl rfl hs48 (fun w' hw' => op_move ha51 rfl rfl) ?_
    intro a52 ha52; clear ha51 a51
    rcases Bool.eq_false_or_eq_true (decide ((0 : Int) ≤ x18.2) && decide (x18.2 ≤ (1000000 : Int))) with c53 | c53
    ·
     rw [c53] at ha52
     refine dr_val (i := 17) ha52 rfl (by kernel_rfl) (by kernel_rfl) (by kernel_rfl) rfl rfl rfl hs48 (fun w' hw' => op_move ha52 rfl rfl) ?_
     intro a54 ha54; clear ha52 a52
     refine dr_val (i := 18) ha54 rfl (by kernel_rfl) (by kernel_rfl) (by kernel_rfl) rfl rfl rfl hs48 (fun w' hw' => op_gtr ha54 rfl rfl rfl) ?_
     intro a55 ha55; clear ha54 a54
     refine dr_val (i := 19) ha55 rfl (by kernel_rfl) (by kernel_rfl) (by kernel_rfl) rfl rfl rfl hs48 (fun w' hw' => op_move ha55 rfl rfl) ?_
     intro a56 ha56; clear ha55 a55
     by_cases c57 : (0 : Int) < ((i : Nat) : Int)
     ·
      rw [decide_eq_true c57] at ha56
      refine dr_val (i := 20) ha56 rfl (by kernel_rfl) (by kernel_rfl) (by kernel_rfl) rfl rfl rfl hs48 (fun w' hw' => op_move ha56 rfl rfl) ?_
      intro a58 ha58; clear ha56 a56
      refine dr_val (i := 21) ha58 rfl (by kernel_rfl) (by kernel_rfl) (by kernel_rfl) rfl rfl rfl hs48 (fun w' hw' => op_move ha58 rfl rfl) ?_
      intro a59 ha59; clear ha58 a58
      refine dr_val (i := 22) ha59 rfl (by kernel_rfl) (by kernel_rfl) (by kernel_rfl) rfl rfl rfl hs48 (fun w' hw' => (op_sub ha59 rfl rfl rfl).int (IntWalk.i64_in _ (by omega))) ?_
      intro a60 ha60; clear ha59 a59
      obtain ⟨x61, hx61⟩ := get_ex (xs := lines) (j := (i - 1)) (by omega)
      obtain ⟨p62, c63, hi64, hc65, hr66, hs67⟩ := Rds.at_ h_lines hx61
      obtain ⟨rfl, b68, b69⟩ := inv_shLine hr66
      refine dr_val (i := 23) ha60 rfl (by kernel_rfl) (by kernel_rfl) (by kernel_rfl) rfl rfl rfl hs48 (fun w' hw' => op_indexAddr ha60 rfl Try.underlying34 ti83 rfl rfl (by omega) hi64) ?_
      intro a70 ha70; clear ha60 a60
      refine dr_val (i := 24) ha70 rfl (by kernel_rfl) (by kernel_rfl) (by kernel_rfl) rfl rfl rfl hs48 (fun w' hw' => op_fieldAddr (sz := 0) ha70 rfl Try.underlying83 rfl rfl ti9 rfl) ?_
      intro a71 ha71; clear ha70 a70
      refine dr_val (i := 25) ha71 rfl (by kernel_rfl) (by kernel_rfl) (by kernel_rfl) rfl rfl rfl hs48 (fun w' hw' => op_loadF (off := 0) ha71 rfl Try.underlying9 rfl rfl (hc65.ext (hx14.trans' hw')) rfl) ?_
      intro a72 ha72; clear ha71 a71
      refine dr_val (i := 26) ha72 rfl (by kernel_rfl) (by kernel_rfl) (by kernel_rfl) rfl rfl rfl hs48 (fun w' hw' => op_move ha72 rfl rfl) ?_
      intro a73 ha73; clear ha72 a72
      refine dr_val (i := 27) ha73 rfl (by kernel_rfl) (by kernel_rfl) (by kernel_rfl) rfl rfl rfl hs48 (fun w' hw' => op_move ha73 rfl rfl) ?_
      intro a74 ha74; clear ha73 a73
      refine dr_val (i := 28) ha74 rfl (by kernel_rfl) (by kernel_rfl) (by kernel_rfl) rfl rfl rfl hs48 (fun w' hw' => op_indexAddr ha74 rfl Try.underlying34 ti83 rfl rfl (by omega) hi21) ?_
      intro a75 ha75; clear ha74 a74
      refine dr_val (i := 29) ha75 rfl (by kernel_rfl) (by kernel_rfl) (by kernel_rfl) rfl rfl rfl hs48 (fun w' hw' => op_fieldAddr (sz := 0) ha75 rfl Try.underlying83 rfl rfl ti9 rfl) ?_
      intro a76 ha76; clear ha75 a75
      refine dr_val (i := 30) ha76 rfl (by kernel_rfl) (by kernel_rfl) (by kernel_rfl) rfl rfl rfl hs48 (fun w' hw' => op_loadF (off := 0) ha76 rfl Try.underlying9 rfl rfl (hc22.ext (hx14.trans' hw')) rfl) ?_
      intro a77 ha77; clear ha76 a76
      refine dr_val (i := 31) ha77 rfl (by kernel_rfl) (by kernel_rfl) (by kernel_rfl) rfl rfl rfl hs48 (fun w' hw' => (op_sgeq ha77 rfl rfl rfl).to (congrArg (fun b => Value.bool (!b)) (bytesLess_lt _ _))) ?_
      intro a78 ha78; clear ha77 a77
      refine dr_val (i := 32) ha78 rfl (by kernel_rfl) (by kernel_rfl) (by kernel_rfl) rfl rfl rfl hs48 (fun w' hw' => op_pick_t ha78 rfl rfl rfl) ?_
      intro a79 ha79; clear ha78 a78
      refine dr_val (i := 33) ha79 rfl (by kernel_rfl) (by kernel_rfl) (by kernel_rfl) rfl rfl rfl hs48 (fun w' hw' => op_pick_f ha79 rfl rfl rfl) ?_
      intro a80 ha80; clear ha79 a79
      refine dr_end (by kernel_rfl) ?_
      refine then_n ?_
      by_cases c81 : x61.1 < x18.1
      ·
       rw [decide_eq_true c81] at ha80
       refine cond_f ha80 rfl ?_
       refine wp_skip ?_
       refine block_n ?_
       refine then_n ?_
       refine wp_region_lit ?_
       refine wl_val ha80 rfl rfl rfl (op_move ha80 rfl rfl) ?_
       intro a82 ha82; clear ha80 a80
       refine wl_val ha82 rfl rfl rfl ((op_add ha82 rfl rfl rfl).int (IntWalk.i64_in _ (by omega))) ?_
       intro a83 ha83; clear ha82 a82
       refine wl_val ha83 rfl rfl rfl (op_assign ha83 rfl rfl) ?_
       intro a84 ha84; clear ha83 a83
       refine wpList_nil ?_
       refine round_end (x := i) ((i + 1)) ?_ ?_
       ·
        refine ⟨(Sl.cons_ ha84 rfl rfl (Sl.cons_ ha84 rfl (int_eq (by omega)) (Sl.nil_ ha84))), hx49, (by omega), (by omega), (by exact upB_step hA (lnAt_ok hx18 (by assumption) (by first | assumption | (unfold svB; assumption)) (by first | (left; omega) | (right; exact ⟨_, hx61, by assumption⟩))))⟩
       ·show (lines.length - ((i + 1)) : Nat) < lines.length - i; omega
      ·
       rw [decide_eq_false c81] at ha80
       refine cond_t ha80 rfl ?_
       refine wp_seq ?_
       refine wp_region_lit ?_
       refine wl_val ha80 rfl rfl rfl (op_assign ha80 rfl rfl) ?_
       intro a85 ha85; clear ha80 a80
       refine wpList_nil ?_
       refine then_n ?_
       refine wp_ret ?_
       refine block_r ?_
       refine then_r ?_
       refine then_r ?_
       refine block_r ?_
       refine then_r ?_
       refine ret1 ha85 rfl rfl ?_
       clear ha85 a85
       exact ret_mk hx49 (congrArg Value.bool (by rw [shB_no hx18 (lnAt_no hx18 (by first | (left; assumption) | (right; left; (first | assumption | (unfold svB; assumption))) | (right; right; exact ⟨by omega, _, hx61, by assumption⟩)))]))
     ·
      rw [decide_eq_false c57] at ha56
      refine dr_skip (i := 20) ha56 rfl (by kernel_rfl) (by kernel_rfl) (by kernel_rfl) rfl rfl rfl hs48 ?_
      intro a86 ha86; clear ha56 a56
      refine dr_skip (i := 21) ha86 rfl (by kernel_rfl) (by kernel_rfl) (by kernel_rfl) rfl rfl rfl hs48 ?_
      intro a87 ha87; clear ha86 a86
      refine dr_skip (i := 22) ha87 rfl (by kernel_rfl) (by kernel_rfl) (by kernel_rfl) rfl rfl rfl hs48 ?_
      intro a88 ha88; clear ha87 a87
      refine dr_skip (i := 23) ha88 rfl (by kernel_rfl) (by kernel_rfl) (by kernel_rfl) rfl rfl rfl hs48 ?_
      intro a89 ha89; clear ha88 a88
      refine dr_skip (i := 24) ha89 rfl (by kernel_rfl) (by kernel_rfl) (by kernel_rfl) rfl rfl rfl hs48 ?_
      intro a90 ha90; clear ha89 a89
      refine dr_skip (i := 25) ha90 rfl (by kernel_rfl) (by kernel_rfl) (by kernel_rfl) rfl rfl rfl hs48 ?_
      intro a91 ha91; clear ha90 a90
      refine dr_skip (i := 26) ha91 rfl (by kernel_rfl) (by kernel_rfl) (by kernel_rfl) rfl rfl rfl hs48 ?_
      intro a92 ha92; clear ha91 a91
      refine dr_skip (i := 27) ha92 rfl (by kernel_rfl) (by kernel_rfl) (by kernel_rfl) rfl rfl rfl hs48 ?_
      intro a93 ha93; clear ha92 a92
      refine dr_skip (i := 28) ha93 rfl (by kernel_rfl) (by kernel_rfl) (by kernel_rfl) rfl rfl rfl hs48 ?_
      intro a94 ha94; clear ha93 a93
      refine dr_skip (i := 29) ha94 rfl (by kernel_rfl) (by kernel_rfl) (by kernel_rfl) rfl rfl rfl hs48 ?_
      intro a95 ha95; clear ha94 a94
      refine dr_skip (i := 30) ha95 rfl (by kernel_rfl) (by kernel_rfl) (by kernel_rfl) rfl rfl rfl hs48 ?_
      intro a96 ha96; clear ha95 a95
      refine dr_skip (i := 31) ha96 rfl (by kernel_rfl) (by kernel_rfl) (by kernel_rfl) rfl rfl rfl hs48 ?_
      intro a97 ha97; clear ha96 a96
      refine dr_val (i := 32) ha97 rfl (by kernel_rfl) (by kernel_rfl) (by kernel_rfl) rfl rfl rfl hs48 (fun w' hw' => op_pick_f ha97 rfl rfl rfl) ?_
      intro a98 ha98; clear ha97 a97
      refine dr_val (i := 33) ha98 rfl (by kernel_rfl) (by kernel_rfl) (by kernel_rfl) rfl rfl rfl hs48 (fun w' hw' => op_pick_f ha98 rfl rfl rfl) ?_
      intro a99 ha99; clear ha98 a98
      refine dr_end (by kernel_rfl) ?_
      refine then_n ?_
      refine cond_f ha99 rfl ?_
      refine wp_skip ?_
      refine block_n ?_
      refine then_n ?_
      refine wp_region_lit ?_
      refine wl_val ha99 rfl rfl rfl (op_move ha99 rfl rfl) ?_
      intro a100 ha100; clear ha99 a99
      refine wl_val ha100 rfl rfl rfl ((op_add ha100 rfl rfl rfl).int (IntWalk.i64_in _ (by omega))) ?_
      intro a101 ha101; clear ha100 a100
      refine wl_val ha101 rfl rfl rfl (op_assign ha101 rfl rfl) ?_
      intro a102 ha102; clear ha101 a101
      refine wpList_nil ?_
      refine round_end (x := i) ((i + 1)) ?_ ?_
      ·
       refine ⟨(Sl.cons_ ha102 rfl rfl (Sl.cons_ ha102 rfl (int_eq (by omega)) (Sl.nil_ ha102))), hx49, (by omega), (by omega), (by exact upB_step hA (lnAt_ok hx18 (by assumption) (by first | assumption | (unfold svB; assumption)) (by first | (left; omega) | (right; exact ⟨_, hx18, by assumption⟩))))⟩
      ·show (lines.length - ((i + 1)) : Nat) < lines.length - i; omega
    ·
     rw [c53] at ha52
     refine dr_skip (i := 17) ha52 rfl (by kernel_rfl) (by kernel_rfl) (by kernel_rfl) rfl rfl rfl hs48 ?_
     intro a103 ha103; clear ha52 a52
     refine dr_skip (i := 18) ha103 rfl (by kernel_rfl) (by kernel_rfl) (by kernel_rfl) rfl rfl rfl hs48 ?_
     intro a104 ha104; clear ha103 a103
     refine dr_skip (i := 19) ha104 rfl (by kernel_rfl) (by kernel_rfl) (by kernel_rfl) rfl rfl rfl hs48 ?_
     intro a105 ha105; clear ha104 a104
     refine dr_skip (i := 20) ha105 rfl (by kernel_rfl) (by kernel_rfl) (by kernel_rfl) rfl rfl rfl hs48 ?_
     intro a106 ha106; clear ha105 a105
     refine dr_skip (i := 21) ha106 rfl (by kernel_rfl) (by kernel_rfl) (by kernel_rfl) rfl rfl rfl hs48 ?_
     intro a107 ha107; clear ha106 a106
     refine dr_skip (i := 22) ha107 rfl (by kernel_rfl) (by kernel_rfl) (by kernel_rfl) rfl rfl rfl hs48 ?_
     intro a108 ha108; clear ha107 a107
     refine dr_skip (i := 23) ha108 rfl (by kernel_rfl) (by kernel_rfl) (by kernel_rfl) rfl rfl rfl hs48 ?_
     intro a109 ha109; clear ha108 a108
     refine dr_skip (i := 24) ha109 rfl (by kernel_rfl) (by kernel_rfl) (by kernel_rfl) rfl rfl rfl hs48 ?_
     intro a110 ha110; clear ha109 a109
     refine dr_skip (i := 25) ha110 rfl (by kernel_rfl) (by kernel_rfl) (by kernel_rfl) rfl rfl rfl hs48 ?_
     intro a111 ha111; clear ha110 a110
     refine dr_skip (i := 26) ha111 rfl (by kernel_rfl) (by kernel_rfl) (by kernel_rfl) rfl rfl rfl hs48 ?_
     intro a112 ha112; clear ha111 a111
     refine dr_skip (i := 27) ha112 rfl (by kernel_rfl) (by kernel_rfl) (by kernel_rfl) rfl rfl rfl hs48 ?_
     intro a113 ha113; clear ha112 a112
     refine dr_skip (i := 28) ha113 rfl (by kernel_rfl) (by kernel_rfl) (by kernel_rfl) rfl rfl rfl hs48 ?_
     intro a114 ha114; clear ha113 a113
     refine dr_skip (i := 29) ha114 rfl (by kernel_rfl) (by kernel_rfl) (by kernel_rfl) rfl rfl rfl hs48 ?_
     intro a115 ha115; clear ha114 a114
     refine dr_skip (i := 30) ha115 rfl (by kernel_rfl) (by kernel_rfl) (by kernel_rfl) rfl rfl rfl hs48 ?_
     intro a116 ha116; clear ha115 a115
     refine dr_skip (i := 31) ha116 rfl (by kernel_rfl) (by kernel_rfl) (by kernel_rfl) rfl rfl rfl hs48 ?_
     intro a117 ha117; clear ha116 a116
     refine dr_skip (i := 32) ha117 rfl (by kernel_rfl) (by kernel_rfl) (by kernel_rfl) rfl rfl rfl hs48 ?_
     intro a118 ha118; clear ha117 a117
     refine dr_val (i := 33) ha118 rfl (by kernel_rfl) (by kernel_rfl) (by kernel_rfl) rfl rfl rfl hs48 (fun w' hw' => op_pick_t ha118 rfl rfl rfl) ?_
     intro a119 ha119; clear ha118 a118
     refine dr_end (by kernel_rfl) ?_
     refine then_n ?_
     refine cond_t ha119 rfl ?_
     refine wp_seq ?_
     refine wp_region_lit ?_
     refine wl_val ha119 rfl rfl rfl (op_assign ha119 rfl rfl) ?_
     intro a120 ha120; clear ha119 a119
     refine wpList_nil ?_
     refine then_n ?_
     refine wp_ret ?_
     refine block_r ?_
     refine then_r ?_
     refine then_r ?_
     refine block_r ?_
     refine then_r ?_
     refine ret1 ha120 rfl rfl ?_
     clear ha120 a120
     exact ret_mk hx49 (congrArg Value.bool (by rw [shB_no hx18 (lnAt_no hx18 (by first | (left; assumption) | (right; left; (first | assumption | (unfold svB; assumption))) | (right; right; exact ⟨by omega, _, hx18, by assumption⟩)))]))
   ·
    rw [c38] at ha37
    refine dr_skip (i := 8) ha37 rfl (by kernel_rfl) (by kernel_rfl) (by kernel_rfl) rfl rfl rfl hs34 ?_
    intro a121 ha121; clear ha37 a37
    refine dr_skip (i := 9) ha121 rfl (by kernel_rfl) (by kernel_rfl) (by kernel_rfl) rfl rfl rfl hs34 ?_
    intro a122 ha122; clear ha121 a121
    refine dr_skip (i := 10) ha122 rfl (by kernel_rfl) (by kernel_rfl) (by kernel_rfl) rfl rfl rfl hs34 ?_
    intro a123 ha123; clear ha122 a122
    refine dr_skip (i := 11) ha123 rfl (by kernel_rfl) (by kernel_rfl) (by kernel_rfl) rfl rfl rfl hs34 ?_
    intro a124 ha124; clear ha123 a123
    refine dr_skip (i := 12) ha124 rfl (by kernel_rfl) (by kernel_rfl) (by kernel_rfl) rfl rfl rfl hs34 ?_
    intro a125 ha125; clear ha124 a124
    refine dr_skip (i := 13) ha125 rfl (by kernel_rfl) (by kernel_rfl) (by kernel_rfl) rfl rfl rfl hs34 ?_
    intro a126 ha126; clear ha125 a125
    refine dr_skip (i := 14) ha126 rfl (by kernel_rfl) (by kernel_rfl) (by kernel_rfl) rfl rfl rfl hs34 ?_
    intro a127 ha127; clear ha126 a126
    refine dr_val (i := 15) ha127 rfl (by kernel_rfl) (by kernel_rfl) (by kernel_rfl) rfl rfl rfl hs34 (fun w' hw' => op_pick_t ha127 rfl rfl rfl) ?_
    intro a128 ha128; clear ha127 a127
    refine dr_val (i := 16) ha128 rfl (by kernel_rfl) (by kernel_rfl) (by kernel_rfl) rfl rfl rfl hs34 (fun w' hw' => op_move ha128 rfl rfl) ?_
    intro a129 ha129; clear ha128 a128
    refine dr_skip (i := 17) ha129 rfl (by kernel_rfl) (by kernel_rfl) (by kernel_rfl) rfl rfl rfl hs34 ?_
    intro a130 ha130; clear ha129 a129
    refine dr_skip (i := 18) ha130 rfl (by kernel_rfl) (by kernel_rfl) (by kernel_rfl) rfl rfl rfl hs34 ?_
    intro a131 ha131; clear ha130 a130
    refine dr_skip (i := 19) ha131 rfl (by kernel_rfl) (by kernel_rfl) (by kernel_rfl) rfl rfl rfl hs34 ?_
    intro a132 ha132; clear ha131 a131
    refine dr_skip (i := 20) ha132 rfl (by kernel_rfl) (by kernel_rfl) (by kernel_rfl) rfl rfl rfl hs34 ?_
    intro a133 ha133; clear ha132 a132
    refine dr_skip (i := 21) ha133 rfl (by kernel_rfl) (by kernel_rfl) (by kernel_rfl) rfl rfl rfl hs34 ?_
    intro a134 ha134; clear ha133 a133
    refine dr_skip (i := 22) ha134 rfl (by kernel_rfl) (by kernel_rfl) (by kernel_rfl) rfl rfl rfl hs34 ?_
    intro a135 ha135; clear ha134 a134
    refine dr_skip (i := 23) ha135 rfl (by kernel_rfl) (by kernel_rfl) (by kernel_rfl) rfl rfl rfl hs34 ?_
    intro a136 ha136; clear ha135 a135
    refine dr_skip (i := 24) ha136 rfl (by kernel_rfl) (by kernel_rfl) (by kernel_rfl) rfl rfl rfl hs34 ?_
    intro a137 ha137; clear ha136 a136
    refine dr_skip (i := 25) ha137 rfl (by kernel_rfl) (by kernel_rfl) (by kernel_rfl) rfl rfl rfl hs34 ?_
    intro a138 ha138; clear ha137 a137
    refine dr_skip (i := 26) ha138 rfl (by kernel_rfl) (by kernel_rfl) (by kernel_rfl) rfl rfl rfl hs34 ?_
    intro a139 ha139; clear ha138 a138
    refine dr_skip (i := 27) ha139 rfl (by kernel_rfl) (by kernel_rfl) (by kernel_rfl) rfl rfl rfl hs34 ?_
    intro a140 ha140; clear ha139 a139
    refine dr_skip (i := 28) ha140 rfl (by kernel_rfl) (by kernel_rfl) (by kernel_rfl) rfl rfl rfl hs34 ?_
    intro a141 ha141; clear ha140 a140
    refine dr_skip (i := 29) ha141 rfl (by kernel_rfl) (by kernel_rfl) (by kernel_rfl) rfl rfl rfl hs34 ?_
    intro a142 ha142; clear ha141 a141
    refine dr_skip (i := 30) ha142 rfl (by kernel_rfl) (by kernel_rfl) (by kernel_rfl) rfl rfl rfl hs34 ?_
    intro a143 ha143; clear ha142 a142
    refine dr_skip (i := 31) ha143 rfl (by kernel_rfl) (by kernel_rfl) (by kernel_rfl) rfl rfl rfl hs34 ?_
    intro a144 ha144; clear ha143 a143
    refine dr_skip (i := 32) ha144 rfl (by kernel_rfl) (by kernel_rfl) (by kernel_rfl) rfl rfl rfl hs34 ?_
    intro a145 ha145; clear ha144 a144
    refine dr_val (i := 33) ha145 rfl (by kernel_rfl) (by kernel_rfl) (by kernel_rfl) rfl rfl rfl hs34 (fun w' hw' => op_pick_t ha145 rfl rfl rfl) ?_
    intro a146 ha146; clear ha145 a145
    refine dr_end (by kernel_rfl) ?_
    refine then_n ?_
    refine cond_t ha146 rfl ?_
    refine wp_seq ?_
    refine wp_region_lit ?_
    refine wl_val ha146 rfl rfl rfl (op_assign ha146 rfl rfl) ?_
    intro a147 ha147; clear ha146 a146
    refine wpList_nil ?_
    refine then_n ?_
    refine wp_ret ?_
    refine block_r ?_
    refine then_r ?_
    refine then_r ?_
    refine block_r ?_
    refine then_r ?_
    refine ret1 ha147 rfl rfl ?_
    clear ha147 a147
    exact ret_mk hx35 (congrArg Value.bool (by rw [shB_no hx18 (lnAt_no hx18 (by first | (left; assumption) | (right; left; (first | assumption | (unfold svB; assumption))) | (right; right; exact ⟨by omega, _, hx18, by assumption⟩)))]))
  ·
   rw [decide_eq_false c11] at ha10
   refine cond_f ha10 rfl ?_
   refine wp_exit ?_
   refine then_e ?_
   refine then_e ?_
   refine block_hit ?_
   refine then_n ?_
   refine wp_seq ?_
   refine wp_region_lit ?_
   refine wl_val ha10 rfl rfl rfl (op_move ha10 rfl rfl) ?_
   intro a148 ha148; clear ha10 a10
   refine wl_val ha148 rfl rfl rfl (op_len_sl ha148 rfl Try.underlying34 rfl h_lines) ?_
   intro a149 ha149; clear ha148 a148
   refine wl_val ha149 rfl rfl rfl (op_leq ha149 rfl rfl rfl) ?_
   intro a150 ha150; clear ha149 a149
   refine wl_val ha150 rfl rfl rfl (op_assign ha150 rfl rfl) ?_
   intro a151 ha151; clear ha150 a150
   refine wpList_nil ?_
   refine then_n ?_
   refine wp_ret ?_
   refine ret1 ha151 rfl rfl ?_
   clear ha151 a151
   exact ret_mk hx4 (congrArg Value.bool (by have e : i = lines.length := (by omega); rw [e] at hA; rw [shB_up hA]; first | (symm; rw [decide_eq_true_eq]; omega) | (rw [Bool.eq_iff_iff]; simp; done) | (rw [Bool.eq_iff_iff]; simp; omega)))

set_option maxHeartbeats 4000000 in
theorem c_impl_isSheet (w0 : World) (v_lines : Value) (lines : List (Str × Int)) {S_lines : Nat → Prop} (h_lines : Rds shLine S_lines w0 v_lines lines) :
  Calls Try.prog 78 #[v_lines] w0 (Ret w0 (fun v _ => v = .bool (shB lines))) := by
 refine enter (N := 41) Try.func78 rfl rfl rfl ?_
 intro a0 ha0
 have hx0 := Ext.rfl' w0
 have hl_lines := h_lines.length_le
 refine wp_seq ?_
 refine wp_region_lit ?_
 refine wl_val ha0 rfl rfl rfl (op_assign ha0 rfl rfl) ?_
 intro a1 ha1; clear ha0 a0
 refine wpList_nil ?_
 refine then_n ?_
 refine wp_seq ?_
 refine wp_seq ?_
 refine wp_region_lit ?_
 refine wl_val ha1 rfl rfl rfl (op_move ha1 rfl rfl) ?_
 intro a2 ha2; clear ha1 a1
 refine wl_val ha2 rfl rfl rfl (op_len_sl ha2 rfl Try.underlying34 rfl h_lines) ?_
 intro a3 ha3; clear ha2 a2
 refine wl_val ha3 rfl rfl rfl (op_gtr ha3 rfl rfl rfl) ?_
 intro a4 ha4; clear ha3 a3
 refine wpList_nil ?_
 refine then_n ?_
 by_cases c5 : (8 : Int) < ((lines.length : Nat) : Int)
 ·
  rw [decide_eq_true c5] at ha4
  refine cond_t ha4 rfl ?_
  refine wp_seq ?_
  refine wp_region_lit ?_
  refine wl_val ha4 rfl rfl rfl (op_assign ha4 rfl rfl) ?_
  intro a6 ha6; clear ha4 a4
  refine wpList_nil ?_
  refine then_n ?_
  refine wp_ret ?_
  refine then_r ?_
  refine ret1 ha6 rfl rfl ?_
  clear ha6 a6
  exact ret_mk hx0 (congrArg Value.bool (by rw [shB_big (by omega)]))
 ·
  rw [decide_eq_false c5] at ha4
  refine cond_f ha4 rfl ?_
  refine wp_skip ?_
  refine then_n ?_
  refine wp_seq ?_
  refine wp_seq ?_
  refine wp_region_lit ?_
  refine wl_val ha4 rfl rfl rfl (op_move ha4 rfl rfl) ?_
  intro a7 ha7; clear ha4 a4
  refine wl_val ha7 rfl rfl rfl (op_len_sl ha7 rfl Try.underlying34 rfl h_lines) ?_
  intro a8 ha8; clear ha7 a7
  refine wl_val ha8 rfl rfl rfl (op_move ha8 rfl rfl) ?_
  intro a9 ha9; clear ha8 a8
  refine wpList_nil ?_
  refine then_n ?_
  refine wp_block ?_
  refine loop_inv (X := Nat) (fun (i : Nat) fr wl => Sl 41 fr [(0, v_lines), (8, v_lines), (9, .int .i64 ((lines.length : Nat) : Int)), (10, .int .i64 ((i : Nat) : Int))] ∧ Ext w0 wl ∧ w0.heap.size ≤ wl.heap.size ∧ (i ≤ lines.length) ∧ (upB (lnAt lines) i = true) ∧ (lines.length ≤ 8)) (fun (i : Nat) => lines.length - i) (0) ?_ ?_
  ·
   exact ⟨(Sl.cons_ ha9 rfl rfl (Sl.cons_ ha9 rfl rfl (Sl.cons_ ha9 rfl rfl (Sl.cons_ ha9 rfl (int_eq (by omega)) (Sl.nil_ ha9))))), hx0, (by omega), (by omega), (by rfl), (by omega)⟩
  ·
   clear ha9 a9
   rintro i a12 w10 ⟨ha12, hx11, hzl13, hi, hA, hn⟩
   have hzhx11 := hx11.size
   refine wp_seq ?_
   refine wp_region_lit ?_
   refine wl_val ha12 rfl rfl rfl (op_lss ha12 rfl rfl rfl) ?_
   intro a14 ha14; clear ha12 a12
   refine wpList_nil ?_
   refine then_n ?_
   refine wp_seq ?_
   by_cases c15 : ((i : Nat) : Int) < ((lines.length : Nat) : Int)
   ·
    rw [decide_eq_true c15] at ha14
    refine cond_t ha14 rfl ?_
    refine wp_skip ?_
    refine then_n ?_
    refine wp_seq ?_
    refine wp_block ?_
    refine wp_seq ?_
    refine wp_region_lit ?_
    refine wl_val ha14 rfl rfl rfl (op_move ha14 rfl rfl) ?_
    intro a16 ha16; clear ha14 a14
    obtain ⟨x17, hx17⟩ := get_ex (xs := lines) (j := i) (by omega)
    obtain ⟨p18, c19, hi20, hc21, hr22, hs23⟩ := Rds.at_ h_lines hx17
    obtain ⟨rfl, b24, b25⟩ := inv_shLine hr22
    refine wl_val ha16 rfl rfl rfl (op_indexAddr ha16 rfl Try.underlying34 ti83 rfl rfl (by omega) hi20) ?_
    intro a26 ha26; clear ha16 a16
    refine wl_val ha26 rfl rfl rfl (op_loadS ha26 rfl Try.underlying83 ti83 rfl rfl (hc21.ext hx11)) ?_
    intro a27 ha27; clear ha26 a26
    refine wl_eff ha27 rfl rfl rfl (op_alloc' rfl ti83 rfl) ?_
    rintro _ w29 ⟨rfl, he30, hb31, hz32⟩ a33 ha33; clear ha27 a27
    have hx34 := hx11.trans' he30
    have hzhx34 := he30.size
    refine wl_val ha33 rfl rfl rfl (op_assign ha33 rfl rfl) ?_
    intro a35 ha35; clear ha33 a33
    refine wl_effS ha35 rfl rfl (op_storeAll' ha35 rfl ti83 rfl rfl hb31 rfl rfl (by simp [Value.oneCell']) rfl) ?_
    rintro w36 ⟨hb38, hst37, hz39⟩
    have hx40 := hx34.stp hst37 (by intro q hq; cases hq; exact (by omega))
    have hzhx40 := hst37.size
    clear hb31
    refine wpList_nil ?_
    refine then_n ?_
    refine wp_seq ?_
    refine dr_enter Ext follows_mixed ?_
    intro w41 he42
    have hx43 := hx40.trans' he42
    have hzhx43 := he42.size
    replace hb38 := hb38.ext he42
    have hs44 : Ext w41 w41 := Ext.rfl' _
    refine dr_val (i := 0) ha35 rfl (by kernel_rfl) (by kernel_rfl) (by kernel_rfl) rfl rfl rfl hs44 (fun w' hw' => op_fieldAddr (sz := 0) ha35 rfl Try.underlying83 rfl rfl ti9 rfl) ?_
    intro a45 ha45; clear ha35 a35
    refine dr_val (i := 1) ha45 rfl (by kernel_rfl) (by kernel_rfl) (by kernel_rfl) rfl rfl rfl hs44 (fun w' hw' => op_loadF (off := 0) ha45 rfl Try.underlying9 rfl rfl (hb38.ext hw').cells rfl) ?_
    intro a46 ha46; clear ha45 a45
    refine dr_one (i := 2) (by kernel_rfl) ?_
    refine po_callR ha46 rfl rfl rfl rfl (op_call ha46 rfl cb66 rfl) (c_impl_IsWord _ x17.1 (by first | assumption | omega | (simp; omega) | (simp [mkN_length]; omega))) ?_
    rintro v47 w48 he49 rfl a50 ha50; clear ha46 a46
    have hs51 := hs44.trans' he49
    have hx52 := hx43.trans' he49
    have hzhx52 := he49.size
    refine ⟨hs51, ?_⟩
    refine dr_val (i := 3) ha50 rfl (by kernel_rfl) (by kernel_rfl) (by kernel_rfl) rfl rfl rfl hs51 (fun w' hw' => op_not ha50 rfl rfl) ?_
    intro a53 ha53; clear ha50 a50
    refine dr_val (i := 4) ha53 rfl (by kernel_rfl) (by kernel_rfl) (by kernel_rfl) rfl rfl rfl hs51 (fun w' hw' => op_move ha53 rfl rfl) ?_
    intro a54 ha54; clear ha53 a53
    rcases Bool.eq_false_or_eq_true (wordB x17.1) with c55 | c55
    ·
     rw [c55] at ha54
     refine dr_val (i := 5) ha54 rfl (by kernel_rfl) (by kernel_rfl) (by kernel_rfl) rfl rfl rfl hs51 (fun w' hw' => op_fieldAddr (sz := 0) ha54 rfl Try.underlying83 rfl rfl ti2 rfl) ?_
     intro a56 ha56; clear ha54 a54
     refine dr_val (i := 6) ha56 rfl (by kernel_rfl) (by kernel_rfl) (by kernel_rfl) rfl rfl rfl hs51 (fun w' hw' => op_loadF (off := 1) ha56 rfl Try.underlying2 rfl rfl (hb38.ext hw').cells rfl) ?_
     intro a57 ha57; clear ha56 a56
     refine dr_one (i := 7) (by kernel_rfl) ?_
     refine po_callR ha57 rfl rfl rfl rfl (op_call ha57 rfl cb68 rfl) (c_impl_isSheetValue _ x17.2 ) ?_
     rintro v58 w59 he60 rfl a61 ha61; clear ha57 a57
     have hs62 := hs51.trans' he60
     have hx63 := hx52.trans' he60
     have hzhx63 := he60.size
     refine ⟨hs62, ?_⟩
     refine dr_val (i := 8) ha61 rfl (by kernel_rfl) (by kernel_rfl) (by kernel_rfl) rfl rfl rfl hs62 (fun w' hw' => op_not ha61 rfl rfl) ?_
     intro a64 ha64; clear ha61 a61
     refine dr_val (i := 9) ha64 rfl (by kernel_rfl) (by kernel_rfl) (by kernel_rfl) rfl rfl rfl hs62 (fun w' hw' => op_pick_f ha64 rfl rfl rfl) ?_
     intro a65 ha65; clear ha64 a64
     refine dr_val (i := 10) ha65 rfl (by kernel_rfl) (by kernel_rfl) (by kernel_rfl) rfl rfl rfl hs62 (fun w' hw' => op_move ha65 rfl rfl) ?_
     intro a66 ha66; clear ha65 a65
     rcases Bool.eq_false_or_eq_true (svB x17.2) with c67 | c67
     ·
      rw [c67] at ha66
      refine dr_val (i := 11) ha66 rfl (by kernel_rfl) (by kernel_rfl) (by kernel_rfl) rfl rfl rfl hs62 (fun w' hw' => op_move ha66 rfl rfl) ?_
      intro a68 ha68; clear ha66 a66
      refine dr_val (i := 12) ha68 rfl (by kernel_rfl) (by kernel_rfl) (by kernel_rfl) rfl rfl rfl hs62 (fun w' hw' => op_gtr ha68 rfl rfl rfl) ?_
      intro a69 ha69; clear ha68 a68
      refine dr_val (i := 13) ha69 rfl (by kernel_rfl) (by kernel_rfl) (by kernel_rfl) rfl rfl rfl hs62 (fun w' hw' => op_move ha69 rfl rfl) ?_
      intro a70 ha70; clear ha69 a69
      by_cases c71 : (0 : Int) < ((i : Nat) : Int)
      ·
       rw [decide_eq_true c71] at ha70
       refine dr_val (i := 14) ha70 rfl (by kernel_rfl) (by kernel_rfl) (by kernel_rfl) rfl rfl rfl hs62 (fun w' hw' => op_move ha70 rfl rfl) ?_
       intro a72 ha72; clear ha70 a70
       refine dr_val (i := 15) ha72 rfl (by kernel_rfl) (by kernel_rfl) (by kernel_rfl) rfl rfl rfl hs62 (fun w' hw' => op_move ha72 rfl rfl) ?_
       intro a73 ha73; clear ha72 a72
       refine dr_val (i := 16) ha73 rfl (by kernel_rfl) (by kernel_rfl) (by kernel_rfl) rfl rfl rfl hs62 (fun w' hw' => (op_sub ha73 rfl rfl rfl).int (IntWalk.i64_in _ (by omega))) ?_
       intro a74 ha74; clear ha73 a73
       obtain ⟨x75, hx75⟩ := get_ex (xs := lines) (j := (i - 1)) (by omega)
       obtain ⟨p76, c77, hi78, hc79, hr80, hs81⟩ := Rds.at_ h_lines hx75
       obtain ⟨rfl, b82, b83⟩ := inv_shLine hr80
       refine dr_val (i := 17) ha74 rfl (by kernel_rfl) (by kernel_rfl) (by kernel_rfl) rfl rfl rfl hs62 (fun w' hw' => op_indexAddr ha74 rfl Try.underlying34 ti83 rfl rfl (by omega) hi78) ?_
       intro a84 ha84; clear ha74 a74
       refine dr_val (i := 18) ha84 rfl (by kernel_rfl) (by kernel_rfl) (by kernel_rfl) rfl rfl rfl hs62 (fun w' hw' => op_fieldAddr (sz := 0) ha84 rfl Try.underlying83 rfl rfl ti9 rfl) ?_
       intro a85 ha85; clear ha84 a84
       refine dr_val (i := 19) ha85 rfl (by kernel_rfl) (by kernel_rfl) (by kernel_rfl) rfl rfl rfl hs62 (fun w' hw' => op_loadF (off := 0) ha85 rfl Try.underlying9 rfl rfl (hc79.ext (hx43.trans' hw')) rfl) ?_
       intro a86 ha86; clear ha85 a85
       refine dr_val (i := 20) ha86 rfl (by kernel_rfl) (by kernel_rfl) (by kernel_rfl) rfl rfl rfl hs62 (fun w' hw' => op_fieldAddr (sz := 0) ha86 rfl Try.underlying83 rfl rfl ti9 rfl) ?_
       intro a87 ha87; clear ha86 a86
       refine dr_val (i := 21) ha87 rfl (by kernel_rfl) (by kernel_rfl) (by kernel_rfl) rfl rfl rfl hs62 (fun w' hw' => op_loadF (off := 0) ha87 rfl Try.underlying9 rfl rfl (hb38.ext hw').cells rfl) ?_
       intro a88 ha88; clear ha87 a87
       refine dr_val (i := 22) ha88 rfl (by kernel_rfl) (by kernel_rfl) (by kernel_rfl) rfl rfl rfl hs62 (fun w' hw' => (op_sgeq ha88 rfl rfl rfl).to (congrArg (fun b => Value.bool (!b)) (bytesLess_lt _ _))) ?_
       intro a89 ha89; clear ha88 a88
       refine dr_val (i := 23) ha89 rfl (by kernel_rfl) (by kernel_rfl) (by kernel_rfl) rfl rfl rfl hs62 (fun w' hw' => op_pick_t ha89 rfl rfl rfl) ?_
       intro a90 ha90; clear ha89 a89
       refine dr_val (i := 24) ha90 rfl (by kernel_rfl) (by kernel_rfl) (by kernel_rfl) rfl rfl rfl hs62 (fun w' hw' => op_pick_f ha90 rfl rfl rfl) ?_
       intro a91 ha91; clear ha90 a90
       refine dr_end (by kernel_rfl) ?_
       replace hb38 := hb38.ext hs62
       refine then_n ?_
       by_cases c92 : x75.1 < x17.1
       ·
        rw [decide_eq_true c92] at ha91
        refine cond_f ha91 rfl ?_
        refine wp_skip ?_
        refine block_n ?_
        refine then_n ?_
        refine wp_region_lit ?_
        refine wl_val ha91 rfl rfl rfl ((op_add ha91 rfl rfl rfl).int (IntWalk.i64_in _ (by omega))) ?_
        intro a93 ha93; clear ha91 a91
        refine wl_val ha93 rfl rfl rfl (op_move ha93 rfl rfl) ?_
        intro a94 ha94; clear ha93 a93
        refine wpList_nil ?_
        refine round_end (x := i) ((i + 1)) ?_ ?_
        ·
         refine ⟨(Sl.cons_ ha94 rfl rfl (Sl.cons_ ha94 rfl rfl (Sl.cons_ ha94 rfl rfl (Sl.cons_ ha94 rfl (int_eq (by omega)) (Sl.nil_ ha94))))), hx63, (by omega), (by omega), (by exact upB_step hA (lnAt_ok hx17 (by assumption) (by first | assumption | (unfold svB; assumption)) (by first | (left; omega) | (right; exact ⟨_, hx75, by assumption⟩)))), (by omega)⟩
        ·show (lines.length - ((i + 1)) : Nat) < lines.length - i; omega
       ·
        rw [decide_eq_false c92] at ha91
        refine cond_t ha91 rfl ?_
        refine wp_seq ?_
        refine wp_region_lit ?_
        refine wl_val ha91 rfl rfl rfl (op_assign ha91 rfl rfl) ?_
        intro a95 ha95; clear ha91 a91
        refine wpList_nil ?_
        refine then_n ?_
        refine wp_ret ?_
        refine block_r ?_
        refine then_r ?_
        refine then_r ?_
        refine block_r ?_
        refine then_r ?_
        refine ret1 ha95 rfl rfl ?_
        clear ha95 a95
        exact ret_mk hx63 (congrArg Value.bool (by rw [shB_no hx17 (lnAt_no hx17 (by first | (left; assumption) | (right; left; (first | assumption | (unfold svB; assumption))) | (right; right; exact ⟨by omega, _, hx75, by assumption⟩)))]))
      ·
       rw [decide_eq_false c71] at ha70
       refine dr_skip (i := 14) ha70 rfl (by kernel_rfl) (by kernel_rfl) (by kernel_rfl) rfl rfl rfl hs62 ?_
       intro a96 ha96; clear ha70 a70
       refine dr_skip (i := 15) ha96 rfl (by kernel_rfl) (by kernel_rfl) (by kernel_rfl) rfl rfl rfl hs62 ?_
       intro a97 ha97; clear ha96 a96
       refine dr_skip (i := 16) ha97 rfl (by kernel_rfl) (by kernel_rfl) (by kernel_rfl) rfl rfl rfl hs62 ?_
       intro a98 ha98; clear ha97 a97
       refine dr_skip (i := 17) ha98 rfl (by kernel_rfl) (by kernel_rfl) (by kernel_rfl) rfl rfl rfl hs62 ?_
       intro a99 ha99; clear ha98 a98
       refine dr_skip (i := 18) ha99 rfl (by kernel_rfl) (by kernel_rfl) (by kernel_rfl) rfl rfl rfl hs62 ?_
       intro a100 ha100; clear ha99 a99
       refine dr_skip (i := 19) ha100 rfl (by kernel_rfl) (by kernel_rfl) (by kernel_rfl) rfl rfl rfl hs62 ?_
       intro a101 ha101; clear ha100 a100
       refine dr_skip (i := 20) ha101 rfl (by kernel_rfl) (by kernel_rfl) (by kernel_rfl) rfl rfl rfl hs62 ?_
       intro a102 ha102; clear ha101 a101
       refine dr_skip (i := 21) ha102 rfl (by kernel_rfl) (by kernel_rfl) (by kernel_rfl) rfl rfl rfl hs62 ?_
       intro a103 ha103; clear ha102 a102
       refine dr_skip (i := 22) ha103 rfl (by kernel_rfl) (by kernel_rfl) (by kernel_rfl) rfl rfl rfl hs62 ?_
       intro a104 ha104; clear ha103 a103
       refine dr_val (i := 23) ha104 rfl (by kernel_rfl) (by kernel_rfl) (by kernel_rfl) rfl rfl rfl hs62 (fun w' hw' => op_pick_f ha104 rfl rfl rfl) ?_
       intro a105 ha105; clear ha104 a104
       refine dr_val (i := 24) ha105 rfl (by kernel_rfl) (by kernel_rfl) (by kernel_rfl) rfl rfl rfl hs62 (fun w' hw' => op_pick_f ha105 rfl rfl rfl) ?_
       intro a106 ha106; clear ha105 a105
       refine dr_end (by kernel_rfl) ?_
       replace hb38 := hb38.ext hs62
       refine then_n ?_
       refine cond_f ha106 rfl ?_
       refine wp_skip ?_
       refine block_n ?_
       refine then_n ?_
       refine wp_region_lit ?_
       refine wl_val ha106 rfl rfl rfl ((op_add ha106 rfl rfl rfl).int (IntWalk.i64_in _ (by omega))) ?_
       intro a107 ha107; clear ha106 a106
       refine wl_val ha107 rfl rfl rfl (op_move ha107 rfl rfl) ?_
       intro a108 ha108; clear ha107 a107
       refine wpList_nil ?_
       refine round_end (x := i) ((i + 1)) ?_ ?_
       ·
        refine ⟨(Sl.cons_ ha108 rfl rfl (Sl.cons_ ha108 rfl rfl (Sl.cons_ ha108 rfl rfl (Sl.cons_ ha108 rfl (int_eq (by omega)) (Sl.nil_ ha108))))), hx63, (by omega), (by omega), (by exact upB_step hA (lnAt_ok hx17 (by assumption) (by first | assumption | (unfold svB; assumption)) (by first | (left; omega) | (right; exact ⟨_, hx17, by assumption⟩)))), (by omega)⟩
       ·show (lines.length - ((i + 1)) : Nat) < lines.length - i; omega
     ·
      rw [c67] at ha66
      refine dr_skip (i := 11) ha66 rfl (by kernel_rfl) (by kernel_rfl) (by kernel_rfl) rfl rfl rfl hs62 ?_
      intro a109 ha109; clear ha66 a66
      refine dr_skip (i := 12) ha109 rfl (by kernel_rfl) (by kernel_rfl) (by kernel_rfl) rfl rfl rfl hs62 ?_
      intro a110 ha110; clear ha109 a109
      refine dr_skip (i := 13) ha110 rfl (by kernel_rfl) (by kernel_rfl) (by kernel_rfl) rfl rfl rfl hs62 ?_
      intro a111 ha111; clear ha110 a110
      refine dr_skip (i := 14) ha111 rfl (by kernel_rfl) (by kernel_rfl) (by kernel_rfl) rfl rfl rfl hs62 ?_
      intro a112 ha112; clear ha111 a111
      refine dr_skip (i := 15) ha112 rfl (by kernel_rfl) (by kernel_rfl) (by kernel_rfl) rfl rfl rfl hs62 ?_
      intro a113 ha113; clear ha112 a112
      refine dr_skip (i := 16) ha113 rfl (by kernel_rfl) (by kernel_rfl) (by kernel_rfl) rfl rfl rfl hs62 ?_
      intro a114 ha114; clear ha113 a113
      refine dr_skip (i := 17) ha114 rfl (by kernel_rfl) (by kernel_rfl) (by kernel_rfl) rfl rfl rfl hs62 ?_
      intro a115 ha115; clear ha114 a114
      refine dr_skip (i := 18) ha115 rfl (by kernel_rfl) (by kernel_rfl) (by kernel_rfl) rfl rfl rfl hs62 ?_
      intro a116 ha116; clear ha115 a115
      refine dr_skip (i := 19) ha116 rfl (by kernel_rfl) (by kernel_rfl) (by kernel_rfl) rfl rfl rfl hs62 ?_
      intro a117 ha117; clear ha116 a116
      refine dr_skip (i := 20) ha117 rfl (by kernel_rfl) (by kernel_rfl) (by kernel_rfl) rfl rfl rfl hs62 ?_
      intro a118 ha118; clear ha117 a117
      refine dr_skip (i := 21) ha118 rfl (by kernel_rfl) (by kernel_rfl) (by kernel_rfl) rfl rfl rfl hs62 ?_
      intro a119 ha119; clear ha118 a118
      refine dr_skip (i := 22) ha119 rfl (by kernel_rfl) (by kernel_rfl) (by kernel_rfl) rfl rfl rfl hs62 ?_
      intro a120 ha120; clear ha119 a119
      refine dr_skip (i := 23) ha120 rfl (by kernel_rfl) (by kernel_rfl) (by kernel_rfl) rfl rfl rfl hs62 ?_
      intro a121 ha121; clear ha120 a120
      refine dr_val (i := 24) ha121 rfl (by kernel_rfl) (by kernel_rfl) (by kernel_rfl) rfl rfl rfl hs62 (fun w' hw' => op_pick_t ha121 rfl rfl rfl) ?_
      intro a122 ha122; clear ha121 a121
      refine dr_end (by kernel_rfl) ?_
      replace hb38 := hb38.ext hs62
      refine then_n ?_
      refine cond_t ha122 rfl ?_
      refine wp_seq ?_
      refine wp_region_lit ?_
      refine wl_val ha122 rfl rfl rfl (op_assign ha122 rfl rfl) ?_
      intro a123 ha123; clear ha122 a122
      refine wpList_nil ?_
      refine then_n ?_
      refine wp_ret ?_
      refine block_r ?_
      refine then_r ?_
      refine then_r ?_
      refine block_r ?_
      refine then_r ?_
      refine ret1 ha123 rfl rfl ?_
      clear ha123 a123
      exact ret_mk hx63 (congrArg Value.bool (by rw [shB_no hx17 (lnAt_no hx17 (by first | (left; assumption) | (right; left; (first | assumption | (unfold svB; assumption))) | (right; right; exact ⟨by omega, _, hx17, by assumption⟩)))]))
    ·
     rw [c55] at ha54
     refine dr_skip (i := 5) ha54 rfl (by kernel_rfl) (by kernel_rfl) (by kernel_rfl) rfl rfl rfl hs51 ?_
     intro a124 ha124; clear ha54 a54
     refine dr_skip (i := 6) ha124 rfl (by kernel_rfl) (by kernel_rfl) (by kernel_rfl) rfl rfl rfl hs51 ?_
     intro a125 ha125; clear ha124 a124
     refine dr_skip (i := 7) ha125 rfl (by kernel_rfl) (by kernel_rfl) (by kernel_rfl) rfl rfl rfl hs51 ?_
     intro a126 ha126; clear ha125 a125
     refine dr_skip (i := 8) ha126 rfl (by kernel_rfl) (by kernel_rfl) (by kernel_rfl) rfl rfl rfl hs51 ?_
     intro a127 ha127; clear ha126 a126
     refine dr_val (i := 9) ha127 rfl (by kernel_rfl) (by kernel_rfl) (by kernel_rfl) rfl rfl rfl hs51 (fun w' hw' => op_pick_t ha127 rfl rfl rfl) ?_
     intro a128 ha128; clear ha127 a127
     refine dr_val (i := 10) ha128 rfl (by kernel_rfl) (by kernel_rfl) (by kernel_rfl) rfl rfl rfl hs51 (fun w' hw' => op_move ha128 rfl rfl) ?_
     intro a129 ha129; clear ha128 a128
     refine dr_skip (i := 11) ha129 rfl (by kernel_rfl) (by kernel_rfl) (by kernel_rfl) rfl rfl rfl hs51 ?_
     intro a130 ha130; clear ha129 a129
     refine dr_skip (i := 12) ha130 rfl (by kernel_rfl) (by kernel_rfl) (by kernel_rfl) rfl rfl rfl hs51 ?_
     intro a131 ha131; clear ha130 a130
     refine dr_skip (i := 13) ha131 rfl (by kernel_rfl) (by kernel_rfl) (by kernel_rfl) rfl rfl rfl hs51 ?_
     intro a132 ha132; clear ha131 a131
     refine dr_skip (i := 14) ha132 rfl (by kernel_rfl) (by kernel_rfl) (by kernel_rfl) rfl rfl rfl hs51 ?_
     intro a133 ha133; clear ha132 a132
     refine dr_skip (i := 15) ha133 rfl (by kernel_rfl) (by kernel_rfl) (by kernel_rfl) rfl rfl rfl hs51 ?_
     intro a134 ha134; clear ha133 a133
     refine dr_skip (i := 16) ha134 rfl (by kernel_rfl) (by kernel_rfl) (by kernel_rfl) rfl rfl rfl hs51 ?_
     intro a135 ha135; clear ha134 a134
     refine dr_skip (i := 17) ha135 rfl (by kernel_rfl) (by kernel_rfl) (by kernel_rfl) rfl rfl rfl hs51 ?_
     intro a136 ha136; clear ha135 a135
     refine dr_skip (i := 18) ha136 rfl (by kernel_rfl) (by kernel_rfl) (by kernel_rfl) rfl rfl rfl hs51 ?_
     intro a137 ha137; clear ha136 a136
     refine dr_skip (i := 19) ha137 rfl (by kernel_rfl) (by kernel_rfl) (by kernel_rfl) rfl rfl rfl hs51 ?_
     intro a138 ha138; clear ha137 a137
     refine dr_skip (i := 20) ha138 rfl (by kernel_rfl) (by kernel_rfl) (by kernel_rfl) rfl rfl rfl hs51 ?_
     intro a139 ha139; clear ha138 a138
     refine dr_skip (i := 21) ha139 rfl (by kernel_rfl) (by kernel_rfl) (by kernel_rfl) rfl rfl rfl hs51 ?_
     intro a140 ha140; clear ha139 a139
     refine dr_skip (i := 22) ha140 rfl (by kernel_rfl) (by kernel_rfl) (by kernel_rfl) rfl rfl rfl hs51 ?_
     intro a141 ha141; clear ha140 a140
     refine dr_skip (i := 23) ha141 rfl (by kernel_rfl) (by kernel_rfl) (by kernel_rfl) rfl rfl rfl hs51 ?_
     intro a142 ha142; clear ha141 a141
     refine dr_val (i := 24) ha142 rfl (by kernel_rfl) (by kernel_rfl) (by kernel_rfl) rfl rfl rfl hs51 (fun w' hw' => op_pick_t ha142 rfl rfl rfl) ?_
     intro a143 ha143; clear ha142 a142
     refine dr_end (by kernel_rfl) ?_
     replace hb38 := hb38.ext hs51
     refine then_n ?_
     refine cond_t ha143 rfl ?_
     refine wp_seq ?_
     refine wp_region_lit ?_
     refine wl_val ha143 rfl rfl rfl (op_assign ha143 rfl rfl) ?_
     intro a144 ha144; clear ha143 a143
     refine wpList_nil ?_
     refine then_n ?_
     refine wp_ret ?_
     refine block_r ?_
     refine then_r ?_
     refine then_r ?_
     refine block_r ?_
     refine then_r ?_
     refine ret1 ha144 rfl rfl ?_
     clear ha144 a144
     exact ret_mk hx52 (congrArg Value.bool (by rw [shB_no hx17 (lnAt_no hx17 (by first | (left; assumption) | (right; left; (first | assumption | (unfold svB; assumption))) | (right; right; exact ⟨by omega, _, hx17, by assumption⟩)))]))
   ·
    rw [decide_eq_false c15] at ha14
    refine cond_f ha14 rfl ?_
    refine wp_exit ?_
    refine then_e ?_
    refine then_e ?_
    refine block_hit ?_
    refine then_n ?_
    refine wp_seq ?_
    refine wp_region_lit ?_
    refine wl_val ha14 rfl rfl rfl (op_assign ha14 rfl rfl) ?_
    intro a145 ha145; clear ha14 a14
    refine wpList_nil ?_
    refine then_n ?_
    refine wp_ret ?_
    refine ret1 ha145 rfl rfl ?_
    clear ha145 a145
    exact ret_mk hx11 (congrArg Value.bool (by have e : i = lines.length := (by omega); rw [e] at hA; rw [shB_up hA]; first | (symm; rw [decide_eq_true_eq]; omega) | (rw [Bool.eq_iff_iff]; simp; done) | (rw [Bool.eq_iff_iff]; simp; omega)))

set_option maxHeartbeats 4000000 in
theorem c_spec_AreVersions (w0 : World) (v_list : Value) (list : List (Int × List (Str × Int))) {S_list : Nat → Prop} (h_list : Rds shVer S_list w0 v_list list) :
  Calls Try.prog 85 #[v_list] w0 (Ret w0 (fun v _ => v = .bool (veB list))) := by
 refine enter (N := 47) Try.func85 rfl rfl rfl ?_
 intro a0 ha0
 have hx0 := Ext.rfl' w0
 have hl_list := h_list.length_le
 refine wp_seq ?_
 refine wp_region_lit ?_
 refine wl_val ha0 rfl rfl rfl (op_assign ha0 rfl rfl) ?_
 intro a1 ha1; clear ha0 a0
 refine wpList_nil ?_
 refine then_n ?_
 refine wp_seq ?_
 refine wp_seq ?_
 refine wp_region_lit ?_
 refine wl_val ha1 rfl rfl rfl (op_assign ha1 rfl rfl) ?_
 intro a2 ha2; clear ha1 a1
 refine wpList_nil ?_
 refine then_n ?_
 refine wp_block ?_
 refine loop_inv (X := Nat) (fun (i : Nat) fr wl => Sl 47 fr [(0, v_list), (3, .int .i64 ((i : Nat) : Int))] ∧ Ext w0 wl ∧ w0.heap.size ≤ wl.heap.size ∧ (i ≤ list.length) ∧ (upB (vrAt list) i = true)) (fun (i : Nat) => list.length - i) (0) ?_ ?_
 ·
  exact ⟨(Sl.cons_ ha2 rfl rfl (Sl.cons_ ha2 rfl (int_eq (by omega)) (Sl.nil_ ha2))), hx0, (by omega), (by omega), (by rfl)⟩
 ·
  clear ha2 a2
  rintro i a5 w3 ⟨ha5, hx4, hzl6, hi, hA⟩
  have hzhx4 := hx4.size
  refine wp_seq ?_
  refine wp_seq ?_
  refine wp_region_lit ?_
  refine wl_val ha5 rfl rfl rfl (op_move ha5 rfl rfl) ?_
  intro a7 ha7; clear ha5 a5
  refine wl_val ha7 rfl rfl rfl (op_move ha7 rfl rfl) ?_
  intro a8 ha8; clear ha7 a7
  refine wl_val ha8 rfl rfl rfl (op_len_sl ha8 rfl Try.underlying27 rfl h_list) ?_
  intro a9 ha9; clear ha8 a8
  refine wl_val ha9 rfl rfl rfl (op_lss ha9 rfl rfl rfl) ?_
  intro a10 ha10; clear ha9 a9
  refine wpList_nil ?_
  refine then_n ?_
  by_cases c11 : ((i : Nat) : Int) < ((list.length : Nat) : Int)
  ·
   rw [decide_eq_true c11] at ha10
   refine cond_t ha10 rfl ?_
   refine wp_skip ?_
   refine then_n ?_
   refine wp_seq ?_
   refine wp_block ?_
   refine wp_seq ?_
   refine wp_region_lit ?_
   refine wl_val ha10 rfl rfl rfl (op_move ha10 rfl rfl) ?_
   intro a12 ha12; clear ha10 a10
   refine wl_val ha12 rfl rfl rfl (op_move ha12 rfl rfl) ?_
   intro a13 ha13; clear ha12 a12
   obtain ⟨x14, hx14⟩ := get_ex (xs := list) (j := i) (by omega)
   obtain ⟨p15, c16, hi17, hc18, hr19, hs20⟩ := Rds.at_ h_list hx14
   obtain ⟨v21, rfl, b22, b23⟩ := inv_shVer hr19
   have hlb23 := b23.length_le
   refine wl_val ha13 rfl rfl rfl (op_indexAddr ha13 rfl Try.underlying27 ti56 rfl rfl (by omega) hi17) ?_
   intro a24 ha24; clear ha13 a13
   refine wl_val ha24 rfl rfl rfl (op_fieldAddr (sz := 0) ha24 rfl Try.underlying56 rfl rfl ti34 rfl) ?_
   intro a25 ha25; clear ha24 a24
   refine wl_val ha25 rfl rfl rfl (op_loadF (off := 1) ha25 rfl Try.underlying34 rfl rfl (hc18.ext hx4) rfl) ?_
   intro a26 ha26; clear ha25 a25
   refine wl_callR ha26 rfl rfl rfl (op_call ha26 rfl cb60 rfl) (c_spec_l29Sheet _ v21 x14.2 (b23.ext pos_shLine hx4)) ?_
   rintro v27 w28 he29 rfl a30 ha30; clear ha26 a26
   have hx31 := hx4.trans' he29
   have hzhx31 := he29.size
   refine wl_val ha30 rfl rfl rfl (op_not ha30 rfl rfl) ?_
   intro a32 ha32; clear ha30 a30
   refine wl_val ha32 rfl rfl rfl (op_move ha32 rfl rfl) ?_
   intro a33 ha33; clear ha32 a32
   rcases Bool.eq_false_or_eq_true (shB x14.2) with c34 | c34
   ·
    rw [c34] at ha33
    refine wl_val ha33 rfl rfl rfl (op_move ha33 rfl rfl) ?_
    intro a35 ha35; clear ha33 a33
    refine wl_val ha35 rfl rfl rfl (op_eql ha35 rfl rfl rfl) ?_
    intro a36 ha36; clear ha35 a35
    refine wl_val ha36 rfl rfl rfl (op_move ha36 rfl rfl) ?_
    intro a37 ha37; clear ha36 a36
    by_cases c38 : ((i : Nat) : Int) = (0 : Int)
    ·
     rw [decide_eq_true c38] at ha37
     refine wl_val ha37 rfl rfl rfl (op_move ha37 rfl rfl) ?_
     intro a39 ha39; clear ha37 a37
     refine wl_val ha39 rfl rfl rfl (op_move ha39 rfl rfl) ?_
     intro a40 ha40; clear ha39 a39
     refine wl_val ha40 rfl rfl rfl (op_indexAddr ha40 rfl Try.underlying27 ti56 rfl rfl (by omega) hi17) ?_
     intro a41 ha41; clear ha40 a40
     refine wl_val ha41 rfl rfl rfl (op_fieldAddr (sz := 0) ha41 rfl Try.underlying56 rfl rfl ti2 rfl) ?_
     intro a42 ha42; clear ha41 a41
     refine wl_val ha42 rfl rfl rfl (op_loadF (off := 0) ha42 rfl Try.underlying2 rfl rfl (hc18.ext hx31) rfl) ?_
     intro a43 ha43; clear ha42 a42
     refine wl_val ha43 rfl rfl rfl ((op_neq ha43 rfl rfl rfl).to (congrArg Value.bool decide_not)) ?_
     intro a44 ha44; clear ha43 a43
     refine wl_val ha44 rfl rfl rfl (op_pick_t ha44 rfl rfl rfl) ?_
     intro a45 ha45; clear ha44 a44
     refine wl_val ha45 rfl rfl rfl (op_pick_f ha45 rfl rfl rfl) ?_
     intro a46 ha46; clear ha45 a45
     refine wl_val ha46 rfl rfl rfl (op_move ha46 rfl rfl) ?_
     intro a47 ha47; clear ha46 a46
     by_cases c48 : x14.1 = (-1 : Int)
     ·
      rw [decide_eq_true c48] at ha47
      refine wl_val ha47 rfl rfl rfl (op_move ha47 rfl rfl) ?_
      intro a49 ha49; clear ha47 a47
      refine wl_val ha49 rfl rfl rfl (op_gtr ha49 rfl rfl rfl) ?_
      intro a50 ha50; clear ha49 a49
      refine wl_val ha50 rfl rfl rfl (op_move ha50 rfl rfl) ?_
      intro a51 ha51; clear ha50 a50
      by_cases c52 : (0 : Int) < ((i : Nat) : Int)
      ·
       rw [decide_eq_true c52] at ha51
       refine wl_val ha51 rfl rfl rfl (op_move ha51 rfl rfl) ?_
       intro a53 ha53; clear ha51 a51
       refine wl_val ha53 rfl rfl rfl (op_move ha53 rfl rfl) ?_
       intro a54 ha54; clear ha53 a53
       refine wl_val ha54 rfl rfl rfl (op_indexAddr ha54 rfl Try.underlying27 ti56 rfl rfl (by omega) hi17) ?_
       intro a55 ha55; clear ha54 a54
       refine wl_val ha55 rfl rfl rfl (op_fieldAddr (sz := 0) ha55 rfl Try.underlying56 rfl rfl ti2 rfl) ?_
       intro a56 ha56; clear ha55 a55
       refine wl_val ha56 rfl rfl rfl (op_loadF (off := 0) ha56 rfl Try.underlying2 rfl rfl (hc18.ext hx31) rfl) ?_
       intro a57 ha57; clear ha56 a56
       refine wl_val ha57 rfl rfl rfl (op_move ha57 rfl rfl) ?_
       intro a58 ha58; clear ha57 a57
       refine wl_val ha58 rfl rfl rfl ((op_sub ha58 rfl rfl rfl).int (IntWalk.i64_in _ (by omega))) ?_
       intro a59 ha59; clear ha58 a58
       refine wl_callR ha59 rfl rfl rfl (op_call ha59 rfl cb71 rfl) (c_spec_l01In _ x14.1 (0 : Int) (((i : Nat) : Int) - (1 : Int)) ) ?_
       rintro v60 w61 he62 rfl a63 ha63; clear ha59 a59
       have hx64 := hx31.trans' he62
       have hzhx64 := he62.size
       refine wl_val ha63 rfl rfl rfl (op_not ha63 rfl rfl) ?_
       intro a65 ha65; clear ha63 a63
       refine wl_val ha65 rfl rfl rfl (op_pick_t ha65 rfl rfl rfl) ?_
       intro a66 ha66; clear ha65 a65
       refine wl_val ha66 rfl rfl rfl (op_pick_f ha66 rfl rfl rfl) ?_
       intro a67 ha67; clear ha66 a66
       refine wpList_nil ?_
       refine then_n ?_
       rcases Bool.eq_false_or_eq_true (decide ((0 : Int) ≤ x14.1) && decide (x14.1 ≤ (((i : Nat) : Int) - (1 : Int)))) with c68 | c68
       ·
        rw [c68] at ha67
        refine cond_f ha67 rfl ?_
        refine wp_skip ?_
        refine block_n ?_
        refine then_n ?_
        refine wp_region_lit ?_
        refine wl_val ha67 rfl rfl rfl (op_move ha67 rfl rfl) ?_
        intro a69 ha69; clear ha67 a67
        refine wl_val ha69 rfl rfl rfl ((op_add ha69 rfl rfl rfl).int (IntWalk.i64_in _ (by omega))) ?_
        intro a70 ha70; clear ha69 a69
        refine wl_val ha70 rfl rfl rfl (op_assign ha70 rfl rfl) ?_
        intro a71 ha71; clear ha70 a70
        refine wpList_nil ?_
        refine round_end (x := i) ((i + 1)) ?_ ?_
        ·
         refine ⟨(Sl.cons_ ha71 rfl rfl (Sl.cons_ ha71 rfl (int_eq (by omega)) (Sl.nil_ ha71))), hx64, (by omega), (by omega), (by exact upB_step hA (vrAt_ok hx14 (by assumption) (by first | (left; exact ⟨by omega, by assumption⟩) | (right; refine ⟨by omega, ?_⟩; simp_all; done) | (right; refine ⟨by omega, ?_⟩; simp_all; omega))))⟩
        ·show (list.length - ((i + 1)) : Nat) < list.length - i; omega
       ·
        rw [c68] at ha67
        refine cond_t ha67 rfl ?_
        refine wp_seq ?_
        refine wp_region_lit ?_
        refine wl_val ha67 rfl rfl rfl (op_assign ha67 rfl rfl) ?_
        intro a72 ha72; clear ha67 a67
        refine wpList_nil ?_
        refine then_n ?_
        refine wp_ret ?_
        refine block_r ?_
        refine then_r ?_
        refine then_r ?_
        refine block_r ?_
        refine then_r ?_
        refine ret1 ha72 rfl rfl ?_
        clear ha72 a72
        refine ret_mk hx64 (congrArg Value.bool (by rw [veB_no hx14 (vrAt_no hx14 (by first | (left; assumption) | (right; left; exact ⟨by omega, by assumption⟩) | (right; right; refine ⟨by omega, fun q => ?_⟩; simp [q.1, q.2] at * <;> omega) | (right; right; refine ⟨by omega, fun q => ?_⟩; simp_all <;> omega)))]))
      ·
       rw [decide_eq_false c52] at ha51
       refine wl_skip ha51 rfl rfl rfl ?_
       intro a73 ha73; clear ha51 a51
       refine wl_skip ha73 rfl rfl rfl ?_
       intro a74 ha74; clear ha73 a73
       refine wl_skip ha74 rfl rfl rfl ?_
       intro a75 ha75; clear ha74 a74
       refine wl_skip ha75 rfl rfl rfl ?_
       intro a76 ha76; clear ha75 a75
       refine wl_skip ha76 rfl rfl rfl ?_
       intro a77 ha77; clear ha76 a76
       refine wl_skip ha77 rfl rfl rfl ?_
       intro a78 ha78; clear ha77 a77
       refine wl_skip ha78 rfl rfl rfl ?_
       intro a79 ha79; clear ha78 a78
       refine wl_skip ha79 rfl rfl rfl ?_
       intro a80 ha80; clear ha79 a79
       refine wl_skip ha80 rfl rfl rfl ?_
       intro a81 ha81; clear ha80 a80
       refine wl_val ha81 rfl rfl rfl (op_pick_f ha81 rfl rfl rfl) ?_
       intro a82 ha82; clear ha81 a81
       refine wl_val ha82 rfl rfl rfl (op_pick_f ha82 rfl rfl rfl) ?_
       intro a83 ha83; clear ha82 a82
       refine wpList_nil ?_
       refine then_n ?_
       refine cond_f ha83 rfl ?_
       refine wp_skip ?_
       refine block_n ?_
       refine then_n ?_
       refine wp_region_lit ?_
       refine wl_val ha83 rfl rfl rfl (op_move ha83 rfl rfl) ?_
       intro a84 ha84; clear ha83 a83
       refine wl_val ha84 rfl rfl rfl ((op_add ha84 rfl rfl rfl).int (IntWalk.i64_in _ (by omega))) ?_
       intro a85 ha85; clear ha84 a84
       refine wl_val ha85 rfl rfl rfl (op_assign ha85 rfl rfl) ?_
       intro a86 ha86; clear ha85 a85
       refine wpList_nil ?_
       refine round_end (x := i) ((i + 1)) ?_ ?_
       ·
        refine ⟨(Sl.cons_ ha86 rfl rfl (Sl.cons_ ha86 rfl (int_eq (by omega)) (Sl.nil_ ha86))), hx31, (by omega), (by omega), (by exact upB_step hA (vrAt_ok hx14 (by assumption) (by first | (left; exact ⟨by omega, by assumption⟩) | (right; refine ⟨by omega, ?_⟩; simp_all; done) | (right; refine ⟨by omega, ?_⟩; simp_all; omega))))⟩
       ·show (list.length - ((i + 1)) : Nat) < list.length - i; omega
     ·
      rw [decide_eq_false c48] at ha47
      refine wl_skip ha47 rfl rfl rfl ?_
      intro a87 ha87; clear ha47 a47
      refine wl_skip ha87 rfl rfl rfl ?_
      intro a88 ha88; clear ha87 a87
      refine wl_skip ha88 rfl rfl rfl ?_
      intro a89 ha89; clear ha88 a88
      refine wl_skip ha89 rfl rfl rfl ?_
      intro a90 ha90; clear ha89 a89
      refine wl_skip ha90 rfl rfl rfl ?_
      intro a91 ha91; clear ha90 a90
      refine wl_skip ha91 rfl rfl rfl ?_
      intro a92 ha92; clear ha91 a91
      refine wl_skip ha92 rfl rfl rfl ?_
      intro a93 ha93; clear ha92 a92
      refine wl_skip ha93 rfl rfl rfl ?_
      intro a94 ha94; clear ha93 a93
      refine wl_skip ha94 rfl rfl rfl ?_
      intro a95 ha95; clear ha94 a94
      refine wl_skip ha95 rfl rfl rfl ?_
      intro a96 ha96; clear ha95 a95
      refine wl_skip ha96 rfl rfl rfl ?_
      intro a97 ha97; clear ha96 a96
      refine wl_skip ha97 rfl rfl rfl ?_
      intro a98 ha98; clear ha97 a97
      refine wl_skip ha98 rfl rfl rfl ?_
      intro a99 ha99; clear ha98 a98
      refine wl_val ha99 rfl rfl rfl (op_pick_t ha99 rfl rfl rfl) ?_
      intro a100 ha100; clear ha99 a99
      refine wpList_nil ?_
      refine then_n ?_
      refine cond_t ha100 rfl ?_
      refine wp_seq ?_
      refine wp_region_lit ?_
      refine wl_val ha100 rfl rfl rfl (op_assign ha100 rfl rfl) ?_
      intro a101 ha101; clear ha100 a100
      refine wpList_nil ?_
      refine then_n ?_
      refine wp_ret ?_
      refine block_r ?_
      refine then_r ?_
      refine then_r ?_
      refine block_r ?_
      refine then_r ?_
      refine ret1 ha101 rfl rfl ?_
      clear ha101 a101
      refine ret_mk hx31 (congrArg Value.bool (by rw [veB_no hx14 (vrAt_no hx14 (by first | (left; assumption) | (right; left; exact ⟨by omega, by assumption⟩) | (right; right; refine ⟨by omega, fun q => ?_⟩; simp [q.1, q.2] at * <;> omega) | (right; right; refine ⟨by omega, fun q => ?_⟩; simp_all <;> omega)))]))
    ·
     rw [decide_eq_false c38] at ha37
     refine wl_skip ha37 rfl rfl rfl ?_
     intro a102 ha102; clear ha37 a37
     refine wl_skip ha102 rfl rfl rfl ?_
     intro a103 ha103; clear ha102 a102
     refine wl_skip ha103 rfl rfl rfl ?_
     intro a104 ha104; clear ha103 a103
     refine wl_skip ha104 rfl rfl rfl ?_
     intro a105 ha105; clear ha104 a104
     refine wl_skip ha105 rfl rfl rfl ?_
     intro a106 ha106; clear ha105 a105
     refine wl_skip ha106 rfl rfl rfl ?_
     intro a107 ha107; clear ha106 a106
     refine wl_val ha107 rfl rfl rfl (op_pick_f ha107 rfl rfl rfl) ?_
     intro a108 ha108; clear ha107 a107
     refine wl_val ha108 rfl rfl rfl (op_pick_f ha108 rfl rfl rfl) ?_
     intro a109 ha109; clear ha108 a108
     refine wl_val ha109 rfl rfl rfl (op_move ha109 rfl rfl) ?_
     intro a110 ha110; clear ha109 a109
     refine wl_val ha110 rfl rfl rfl (op_move ha110 rfl rfl) ?_
     intro a111 ha111; clear ha110 a110
     refine wl_val ha111 rfl rfl rfl (op_gtr ha111 rfl rfl rfl) ?_
     intro a112 ha112; clear ha111 a111
     refine wl_val ha112 rfl rfl rfl (op_move ha112 rfl rfl) ?_
     intro a113 ha113; clear ha112 a112
     by_cases c114 : (0 : Int) < ((i : Nat) : Int)
     ·
      rw [decide_eq_true c114] at ha113
      refine wl_val ha113 rfl rfl rfl (op_move ha113 rfl rfl) ?_
      intro a115 ha115; clear ha113 a113
      refine wl_val ha115 rfl rfl rfl (op_move ha115 rfl rfl) ?_
      intro a116 ha116; clear ha115 a115
      refine wl_val ha116 rfl rfl rfl (op_indexAddr ha116 rfl Try.underlying27 ti56 rfl rfl (by omega) hi17) ?_
      intro a117 ha117; clear ha116 a116
      refine wl_val ha117 rfl rfl rfl (op_fieldAddr (sz := 0) ha117 rfl Try.underlying56 rfl rfl ti2 rfl) ?_
      intro a118 ha118; clear ha117 a117
      refine wl_val ha118 rfl rfl rfl (op_loadF (off := 0) ha118 rfl Try.underlying2 rfl rfl (hc18.ext hx31) rfl) ?_
      intro a119 ha119; clear ha118 a118
      refine wl_val ha119 rfl rfl rfl (op_move ha119 rfl rfl) ?_
      intro a120 ha120; clear ha119 a119
      refine wl_val ha120 rfl rfl rfl ((op_sub ha120 rfl rfl rfl).int (IntWalk.i64_in _ (by omega))) ?_
      intro a121 ha121; clear ha120 a120
      refine wl_callR ha121 rfl rfl rfl (op_call ha121 rfl cb71 rfl) (c_spec_l01In _ x14.1 (0 : Int) (((i : Nat) : Int) - (1 : Int)) ) ?_
      rintro v122 w123 he124 rfl a125 ha125; clear ha121 a121
      have hx126 := hx31.trans' he124
      have hzhx126 := he124.size
      refine wl_val ha125 rfl rfl rfl (op_not ha125 rfl rfl) ?_
      intro a127 ha127; clear ha125 a125
      refine wl_val ha127 rfl rfl rfl (op_pick_t ha127 rfl rfl rfl) ?_
      intro a128 ha128; clear ha127 a127
      refine wl_val ha128 rfl rfl rfl (op_pick_f ha128 rfl rfl rfl) ?_
      intro a129 ha129; clear ha128 a128
      refine wpList_nil ?_
      refine then_n ?_
      rcases Bool.eq_false_or_eq_true (decide ((0 : Int) ≤ x14.1) && decide (x14.1 ≤ (((i : Nat) : Int) - (1 : Int)))) with c130 | c130
      ·
       rw [c130] at ha129
       refine cond_f ha129 rfl ?_
       refine wp_skip ?_
       refine block_n ?_
       refine then_n ?_
       refine wp_region_lit ?_
       refine wl_val ha129 rfl rfl rfl (op_move ha129 rfl rfl) ?_
       intro a131 ha131; clear ha129 a129
       refine wl_val ha131 rfl rfl rfl ((op_add ha131 rfl rfl rfl).int (IntWalk.i64_in _ (by omega))) ?_
       intro a132 ha132; clear ha131 a131
       refine wl_val ha132 rfl rfl rfl (op_assign ha132 rfl rfl) ?_
       intro a133 ha133; clear ha132 a132
       refine wpList_nil ?_
       refine round_end (x := i) ((i + 1)) ?_ ?_
       ·
        refine ⟨(Sl.cons_ ha133 rfl rfl (Sl.cons_ ha133 rfl (int_eq (by omega)) (Sl.nil_ ha133))), hx126, (by omega), (by omega), (by exact upB_step hA (vrAt_ok hx14 (by assumption) (by first | (left; exact ⟨by omega, by assumption⟩) | (right; refine ⟨by omega, ?_⟩; simp_all; done) | (right; refine ⟨by omega, ?_⟩; simp_all; omega))))⟩
       ·show (list.length - ((i + 1)) : Nat) < list.length - i; omega
      ·
       rw [c130] at ha129
       refine cond_t ha129 rfl ?_
       refine wp_seq ?_
       refine wp_region_lit ?_
       refine wl_val ha129 rfl rfl rfl (op_assign ha129 rfl rfl) ?_
       intro a134 ha134; clear ha129 a129
       refine wpList_nil ?_
       refine then_n ?_
       refine wp_ret ?_
       refine block_r ?_
       refine then_r ?_
       refine then_r ?_
       refine block_r ?_
       refine then_r ?_
       refine ret1 ha134 rfl rfl ?_
       clear ha134 a134
       refine ret_mk hx126 (congrArg Value.bool (by rw [veB_no hx14 (vrAt_no hx14 (by first | (left; assumption) | (right; left; exact ⟨by omega, by assumption⟩) | (right; right; refine ⟨by omega, fun q => ?_⟩; simp [q.1, q.2] at * <;> omega) | (right; right; refine ⟨by omega, fun q => ?_⟩; simp_all <;> omega)))]))
     ·
      rw [decide_eq_false c114] at ha113
      refine wl_skip ha113 rfl rfl rfl ?_
      intro a135 ha135; clear ha113 a113
      refine wl_skip ha135 rfl rfl rfl ?_
      intro a136 ha136; clear ha135 a135
      refine wl_skip ha136 rfl rfl rfl ?_
      intro a137 ha137; clear ha136 a136
      refine wl_skip ha137 rfl rfl rfl ?_
      intro a138 ha138; clear ha137 a137
      refine wl_skip ha138 rfl rfl rfl ?_
      intro a139 ha139; clear ha138 a138
      refine wl_skip ha139 rfl rfl rfl ?_
      intro a140 ha140; clear ha139 a139
      refine wl_skip ha140 rfl rfl rfl ?_
      intro a141 ha141; clear ha140 a140
      refine wl_skip ha141 rfl rfl rfl ?_
      intro a142 ha142; clear ha141 a141
      refine wl_skip ha142 rfl rfl rfl ?_
      intro a143 ha143; clear ha142 a142
      refine wl_val ha143 rfl rfl rfl (op_pick_f ha143 rfl rfl rfl) ?_
      intro a144 ha144; clear ha143 a143
      refine wl_val ha144 rfl rfl rfl (op_pick_f ha144 rfl rfl rfl) ?_
      intro a145 ha145; clear ha144 a144
      refine wpList_nil ?_
      refine then_n ?_
      refine cond_f ha145 rfl ?_
      refine wp_skip ?_
      refine block_n ?_
      refine then_n ?_
      refine wp_region_lit ?_
      refine wl_val ha145 rfl rfl rfl (op_move ha145 rfl rfl) ?_
      intro a146 ha146; clear ha145 a145
      refine wl_val ha146 rfl rfl rfl ((op_add ha146 rfl rfl rfl).int (IntWalk.i64_in _ (by omega))) ?_
      intro a147 ha147; clear ha146 a146
      refine wl_val ha147 rfl rfl rfl (op_assign ha147 rfl rfl) ?_
      intro a148 ha148; clear ha147 a147
      refine wpList_nil ?_
      refine round_end (x := i) ((i + 1)) ?_ ?_
      ·
       refine ⟨(Sl.cons_ ha148 rfl rfl (Sl.cons_ ha148 rfl (int_eq (by omega)) (Sl.nil_ ha148))), hx31, (by omega), (by omega), (by exact upB_step hA (vrAt_ok hx14 (by assumption) (by first | (left; exact ⟨by omega, by assumption⟩) | (right; refine ⟨by omega, ?_⟩; simp_all; done) | (right; refine ⟨by omega, ?_⟩; simp_all; omega))))⟩
      ·show (list.length - ((i + 1)) : Nat) < list.length - i; omega
   ·
    rw [c34] at ha33
    refine wl_skip ha33 rfl rfl rfl ?_
    intro a149 ha149; clear ha33 a33
    refine wl_skip ha149 rfl rfl rfl ?_
    intro a150 ha150; clear ha149 a149
    refine wl_skip ha150 rfl rfl rfl ?_
    intro a151 ha151; clear ha150 a150
    refine wl_skip ha151 rfl rfl rfl ?_
    intro a152 ha152; clear ha151 a151
    refine wl_skip ha152 rfl rfl rfl ?_
    intro a153 ha153; clear ha152 a152
    refine wl_skip ha153 rfl rfl rfl ?_
    intro a154 ha154; clear ha153 a153
    refine wl_skip ha154 rfl rfl rfl ?_
    intro a155 ha155; clear ha154 a154
    refine wl_skip ha155 rfl rfl rfl ?_
    intro a156 ha156; clear ha155 a155
    refine wl_skip ha156 rfl rfl rfl ?_
    intro a157 ha157; clear ha156 a156
    refine wl_skip ha157 rfl rfl rfl ?_
    intro a158 ha158; clear ha157 a157
    refine wl_val ha158 rfl rfl rfl (op_pick_t ha158 rfl rfl rfl) ?_
    intro a159 ha159; clear ha158 a158
    refine wl_val ha159 rfl rfl rfl (op_move ha159 rfl rfl) ?_
    intro a160 ha160; clear ha159 a159
    refine wl_skip ha160 rfl rfl rfl ?_
    intro a161 ha161; clear ha160 a160
    refine wl_skip ha161 rfl rfl rfl ?_
    intro a162 ha162; clear ha161 a161
    refine wl_skip ha162 rfl rfl rfl ?_
    intro a163 ha163; clear ha162 a162
    refine wl_skip ha163 rfl rfl rfl ?_
    intro a164 ha164; clear ha163 a163
    refine wl_skip ha164 rfl rfl rfl ?_
    intro a165 ha165; clear ha164 a164
    refine wl_skip ha165 rfl rfl rfl ?_
    intro a166 ha166; clear ha165 a165
    refine wl_skip ha166 rfl rfl rfl ?_
    intro a167 ha167; clear ha166 a166
    refine wl_skip ha167 rfl rfl rfl ?_
    intro a168 ha168; clear ha167 a167
    refine wl_skip ha168 rfl rfl rfl ?_
    intro a169 ha169; clear ha168 a168
    refine wl_skip ha169 rfl rfl rfl ?_
    intro a170 ha170; clear ha169 a169
    refine wl_skip ha170 rfl rfl rfl ?_
    intro a171 ha171; clear ha170 a170
    refine wl_skip ha171 rfl rfl rfl ?_
    intro a172 ha172; clear ha171 a171
    refine wl_skip ha172 rfl rfl rfl ?_
    intro a173 ha173; clear ha172 a172
    refine wl_val ha173 rfl rfl rfl (op_pick_t ha173 rfl rfl rfl) ?_
    intro a174 ha174; clear ha173 a173
    refine wpList_nil ?_
    refine then_n ?_
    refine cond_t ha174 rfl ?_
    refine wp_seq ?_
    refine wp_region_lit ?_
    refine wl_val ha174 rfl rfl rfl (op_assign ha174 rfl rfl) ?_
    intro a175 ha175; clear ha174 a174
    refine wpList_nil ?_
    refine then_n ?_
    refine wp_ret ?_
    refine block_r ?_
    refine then_r ?_
    refine then_r ?_
    refine block_r ?_
    refine then_r ?_
    refine ret1 ha175 rfl rfl ?_
    clear ha175 a175
    refine ret_mk hx31 (congrArg Value.bool (by rw [veB_no hx14 (vrAt_no hx14 (by first | (left; assumption) | (right; left; exact ⟨by omega, by assumption⟩) | (right; right; refine ⟨by omega, fun q => ?_⟩; simp [q.1, q.2] at * <;> omega) | (right; right; refine ⟨by omega, fun q => ?_⟩; simp_all <;> omega)))]))
  ·
   rw [decide_eq_false c11] at ha10
   refine cond_f ha10 rfl ?_
   refine wp_exit ?_
   refine then_e ?_
   refine then_e ?_
   refine block_hit ?_
   refine then_n ?_
   refine wp_seq ?_
   refine wp_region_lit ?_
   refine wl_val ha10 rfl rfl rfl (op_move ha10 rfl rfl) ?_
   intro a176 ha176; clear ha10 a10
   refine wl_val ha176 rfl rfl rfl (op_len_sl ha176 rfl Try.underlying27 rfl h_list) ?_
   intro a177 ha177; clear ha176 a176
   refine wl_callR ha177 rfl rfl rfl (op_call ha177 rfl cb71 rfl) (c_spec_l01In _ ((list.length : Nat) : Int) (1 : Int) (20 : Int) ) ?_
   rintro v178 w179 he180 rfl a181 ha181; clear ha177 a177
   have hx182 := hx4.trans' he180
   have hzhx182 := he180.size
   refine wl_val ha181 rfl rfl rfl (op_assign ha181 rfl rfl) ?_
   intro a183 ha183; clear ha181 a181
   refine wpList_nil ?_
   refine then_n ?_
   refine wp_ret ?_
   refine ret1 ha183 rfl rfl ?_
   clear ha183 a183
   exact ret_mk hx182 (congrArg Value.bool (by have e : i = list.length := (by omega); rw [e] at hA; rw [veB_up hA]; first | (symm; simp only [Bool.and_eq_true, decide_eq_true_eq]; omega) | (rw [Bool.eq_iff_iff]; simp; done) | (rw [Bool.eq_iff_iff]; simp; omega)))

set_option maxHeartbeats 4000000 in
theorem c_impl_AreVersions (w0 : World) (v_list : Value) (list : List (Int × List (Str × Int))) {S_list : Nat → Prop} (h_list : Rds shVer S_list w0 v_list list) :
  Calls Try.prog 38 #[v_list] w0 (Ret w0 (fun v _ => v = .bool (veB list))) := by
 refine enter (N := 44) Try.func38 rfl rfl rfl ?_
 intro a0 ha0
 have hx0 := Ext.rfl' w0
 have hl_list := h_list.length_le
 refine wp_seq ?_
 refine wp_region_lit ?_
 refine wl_val ha0 rfl rfl rfl (op_assign ha0 rfl rfl) ?_
 intro a1 ha1; clear ha0 a0
 refine wpList_nil ?_
 refine then_n ?_
 refine wp_seq ?_
 refine wp_seq ?_
 refine wp_region_lit ?_
 refine wl_val ha1 rfl rfl rfl (op_move ha1 rfl rfl) ?_
 intro a2 ha2; clear ha1 a1
 refine wl_val ha2 rfl rfl rfl (op_len_sl ha2 rfl Try.underlying27 rfl h_list) ?_
 intro a3 ha3; clear ha2 a2
 refine wl_val ha3 rfl rfl rfl (op_lss ha3 rfl rfl rfl) ?_
 intro a4 ha4; clear ha3 a3
 refine wl_val ha4 rfl rfl rfl (op_move ha4 rfl rfl) ?_
 intro a5 ha5; clear ha4 a4
 by_cases c6 : ((list.length : Nat) : Int) < (1 : Int)
 ·
  rw [decide_eq_true c6] at ha5
  refine wl_skip ha5 rfl rfl rfl ?_
  intro a7 ha7; clear ha5 a5
  refine wl_skip ha7 rfl rfl rfl ?_
  intro a8 ha8; clear ha7 a7
  refine wl_skip ha8 rfl rfl rfl ?_
  intro a9 ha9; clear ha8 a8
  refine wl_val ha9 rfl rfl rfl (op_pick_t ha9 rfl rfl rfl) ?_
  intro a10 ha10; clear ha9 a9
  refine wl_val ha10 rfl rfl rfl (op_move ha10 rfl rfl) ?_
  intro a11 ha11; clear ha10 a10
  refine wl_skip ha11 rfl rfl rfl ?_
  intro a12 ha12; clear ha11 a11
  refine wl_skip ha12 rfl rfl rfl ?_
  intro a13 ha13; clear ha12 a12
  refine wl_skip ha13 rfl rfl rfl ?_
  intro a14 ha14; clear ha13 a13
  refine wl_skip ha14 rfl rfl rfl ?_
  intro a15 ha15; clear ha14 a14
  refine wl_skip ha15 rfl rfl rfl ?_
  intro a16 ha16; clear ha15 a15
  refine wl_val ha16 rfl rfl rfl (op_pick_t ha16 rfl rfl rfl) ?_
  intro a17 ha17; clear ha16 a16
  refine wpList_nil ?_
  refine then_n ?_
  refine cond_t ha17 rfl ?_
  refine wp_seq ?_
  refine wp_region_lit ?_
  refine wl_val ha17 rfl rfl rfl (op_assign ha17 rfl rfl) ?_
  intro a18 ha18; clear ha17 a17
  refine wpList_nil ?_
  refine then_n ?_
  refine wp_ret ?_
  refine then_r ?_
  refine ret1 ha18 rfl rfl ?_
  clear ha18 a18
  exact ret_mk hx0 (congrArg Value.bool (by rw [veB_n (by omega)]))
 ·
  rw [decide_eq_false c6] at ha5
  refine wl_val ha5 rfl rfl rfl (op_move ha5 rfl rfl) ?_
  intro a19 ha19; clear ha5 a5
  refine wl_val ha19 rfl rfl rfl (op_len_sl ha19 rfl Try.underlying27 rfl h_list) ?_
  intro a20 ha20; clear ha19 a19
  refine wl_val ha20 rfl rfl rfl (op_gtr ha20 rfl rfl rfl) ?_
  intro a21 ha21; clear ha20 a20
  refine wl_val ha21 rfl rfl rfl (op_pick_f ha21 rfl rfl rfl) ?_
  intro a22 ha22; clear ha21 a21
  refine wl_val ha22 rfl rfl rfl (op_move ha22 rfl rfl) ?_
  intro a23 ha23; clear ha22 a22
  by_cases c24 : (20 : Int) < ((list.length : Nat) : Int)
  ·
   rw [decide_eq_true c24] at ha23
   refine wl_skip ha23 rfl rfl rfl ?_
   intro a25 ha25; clear ha23 a23
   refine wl_skip ha25 rfl rfl rfl ?_
   intro a26 ha26; clear ha25 a25
   refine wl_skip ha26 rfl rfl rfl ?_
   intro a27 ha27; clear ha26 a26
   refine wl_skip ha27 rfl rfl rfl ?_
   intro a28 ha28; clear ha27 a27
   refine wl_skip ha28 rfl rfl rfl ?_
   intro a29 ha29; clear ha28 a28
   refine wl_val ha29 rfl rfl rfl (op_pick_t ha29 rfl rfl rfl) ?_
   intro a30 ha30; clear ha29 a29
   refine wpList_nil ?_
   refine then_n ?_
   refine cond_t ha30 rfl ?_
   refine wp_seq ?_
   refine wp_region_lit ?_
   refine wl_val ha30 rfl rfl rfl (op_assign ha30 rfl rfl) ?_
   intro a31 ha31; clear ha30 a30
   refine wpList_nil ?_
   refine then_n ?_
   refine wp_ret ?_
   refine then_r ?_
   refine ret1 ha31 rfl rfl ?_
   clear ha31 a31
   exact ret_mk hx0 (congrArg Value.bool (by rw [veB_n (by omega)]))
  ·
   rw [decide_eq_false c24] at ha23
   refine wl_val ha23 rfl rfl rfl (op_move ha23 rfl rfl) ?_
   intro a32 ha32; clear ha23 a23
   obtain ⟨x33, hx33⟩ := get_ex (xs := list) (j := 0) (by omega)
   obtain ⟨p34, c35, hi36, hc37, hr38, hs39⟩ := Rds.at_ h_list hx33
   obtain ⟨v40, rfl, b41, b42⟩ := inv_shVer hr38
   have hlb42 := b42.length_le
   refine wl_val ha32 rfl rfl rfl (op_indexAddr ha32 rfl Try.underlying27 ti56 rfl rfl (by omega) hi36) ?_
   intro a43 ha43; clear ha32 a32
   refine wl_val ha43 rfl rfl rfl (op_fieldAddr (sz := 0) ha43 rfl Try.underlying56 rfl rfl ti2 rfl) ?_
   intro a44 ha44; clear ha43 a43
   refine wl_val ha44 rfl rfl rfl (op_loadF (off := 0) ha44 rfl Try.underlying2 rfl rfl (hc37.ext hx0) rfl) ?_
   intro a45 ha45; clear ha44 a44
   refine wl_val ha45 rfl rfl rfl ((op_neq ha45 rfl rfl rfl).to (congrArg Value.bool decide_not)) ?_
   intro a46 ha46; clear ha45 a45
   refine wl_val ha46 rfl rfl rfl (op_pick_f ha46 rfl rfl rfl) ?_
   intro a47 ha47; clear ha46 a46
   refine wpList_nil ?_
   refine then_n ?_
   by_cases c48 : x33.1 = (-1 : Int)
   ·
    rw [decide_eq_true c48] at ha47
    refine cond_f ha47 rfl ?_
    refine wp_skip ?_
    refine then_n ?_
    refine wp_seq ?_
    refine wp_seq ?_
    refine wp_region_lit ?_
    refine wl_val ha47 rfl rfl rfl (op_move ha47 rfl rfl) ?_
    intro a49 ha49; clear ha47 a47
    refine wl_val ha49 rfl rfl rfl (op_len_sl ha49 rfl Try.underlying27 rfl h_list) ?_
    intro a50 ha50; clear ha49 a49
    refine wl_val ha50 rfl rfl rfl (op_move ha50 rfl rfl) ?_
    intro a51 ha51; clear ha50 a50
    refine wpList_nil ?_
    refine then_n ?_
    refine wp_block ?_
    refine loop_inv (X := Nat) (fun (i : Nat) fr wl => Sl 44 fr [(20, v_list), (21, .int .i64 ((list.length : Nat) : Int)), (22, .int .i64 ((i : Nat) : Int))] ∧ Ext w0 wl ∧ w0.heap.size ≤ wl.heap.size ∧ (i ≤ list.length) ∧ (upB (vrAt list) i = true) ∧ (1 ≤ list.length ∧ list.length ≤ 20)) (fun (i : Nat) => list.length - i) (0) ?_ ?_
    ·
     exact ⟨(Sl.cons_ ha51 rfl rfl (Sl.cons_ ha51 rfl rfl (Sl.cons_ ha51 rfl (int_eq (by omega)) (Sl.nil_ ha51)))), hx0, (by omega), (by omega), (by rfl), (by omega)⟩
    ·
     clear ha51 a51
     rintro i a54 w52 ⟨ha54, hx53, hzl55, hi, hA, hn⟩
     have hzhx53 := hx53.size
     refine wp_seq ?_
     refine wp_region_lit ?_
     refine wl_val ha54 rfl rfl rfl (op_lss ha54 rfl rfl rfl) ?_
     intro a56 ha56; clear ha54 a54
     refine wpList_nil ?_
     refine then_n ?_
     refine wp_seq ?_
     by_cases c57 : ((i : Nat) : Int) < ((list.length : Nat) : Int)
     ·
      rw [decide_eq_true c57] at ha56
      refine cond_t ha56 rfl ?_
      refine wp_skip ?_
      refine then_n ?_
      refine wp_seq ?_
      refine wp_block ?_
      refine wp_seq ?_
      refine wp_region_lit ?_
      refine wl_val ha56 rfl rfl rfl (op_move ha56 rfl rfl) ?_
      intro a58 ha58; clear ha56 a56
      obtain ⟨x59, hx59⟩ := get_ex (xs := list) (j := i) (by omega)
      obtain ⟨p60, c61, hi62, hc63, hr64, hs65⟩ := Rds.at_ h_list hx59
      obtain ⟨v66, rfl, b67, b68⟩ := inv_shVer hr64
      have hlb68 := b68.length_le
      refine wl_val ha58 rfl rfl rfl (op_indexAddr ha58 rfl Try.underlying27 ti56 rfl rfl (by omega) hi62) ?_
      intro a69 ha69; clear ha58 a58
      refine wl_val ha69 rfl rfl rfl (op_loadS ha69 rfl Try.underlying56 ti56 rfl rfl (hc63.ext hx53)) ?_
      intro a70 ha70; clear ha69 a69
      refine wl_eff ha70 rfl rfl rfl (op_alloc' rfl ti56 rfl) ?_
      rintro _ w72 ⟨rfl, he73, hb74, hz75⟩ a76 ha76; clear ha70 a70
      have hx77 := hx53.trans' he73
      have hzhx77 := he73.size
      refine wl_val ha76 rfl rfl rfl (op_assign ha76 rfl rfl) ?_
      intro a78 ha78; clear ha76 a76
      refine wl_effS ha78 rfl rfl (op_storeAll' ha78 rfl ti56 rfl rfl hb74 rfl rfl (by intro u hu; have hu : u ∈ ([.int .i64 x59.1, v66] : List Value) := hu; simp only [List.mem_cons, List.mem_nil_iff, or_false] at hu; rcases hu with rfl | rfl <;> first | rfl | exact b68.one) rfl) ?_
      rintro w79 ⟨hb81, hst80, hz82⟩
      have hx83 := hx77.stp hst80 (by intro q hq; cases hq; exact (by omega))
      have hzhx83 := hst80.size
      clear hb74
      refine wpList_nil ?_
      refine then_n ?_
      refine wp_seq ?_
      refine wp_region_lit ?_
      refine wl_val ha78 rfl rfl rfl (op_fieldAddr (sz := 0) ha78 rfl Try.underlying56 rfl rfl ti34 rfl) ?_
      intro a84 ha84; clear ha78 a78
      refine wl_val ha84 rfl rfl rfl (op_loadF (off := 1) ha84 rfl Try.underlying34 rfl rfl hb81.cells rfl) ?_
      intro a85 ha85; clear ha84 a84
      refine wl_callR ha85 rfl rfl rfl (op_call ha85 rfl cb78 rfl) (c_impl_isSheet _ v66 x59.2 (b68.ext pos_shLine hx83)) ?_
      rintro v86 w87 he88 rfl a89 ha89; clear ha85 a85
      have hx90 := hx83.trans' he88
      have hzhx90 := he88.size
      replace hb81 := hb81.ext he88
      refine wl_val ha89 rfl rfl rfl (op_not ha89 rfl rfl) ?_
      intro a91 ha91; clear ha89 a89
      refine wl_val ha91 rfl rfl rfl (op_move ha91 rfl rfl) ?_
      intro a92 ha92; clear ha91 a91
      rcases Bool.eq_false_or_eq_true (shB x59.2) with c93 | c93
      ·
       rw [c93] at ha92
       refine wl_val ha92 rfl rfl rfl (op_move ha92 rfl rfl) ?_
       intro a94 ha94; clear ha92 a92
       refine wl_val ha94 rfl rfl rfl (op_gtr ha94 rfl rfl rfl) ?_
       intro a95 ha95; clear ha94 a94
       refine wl_val ha95 rfl rfl rfl (op_move ha95 rfl rfl) ?_
       intro a96 ha96; clear ha95 a95
       by_cases c97 : (0 : Int) < ((i : Nat) : Int)
       ·
        rw [decide_eq_true c97] at ha96
        refine wl_val ha96 rfl rfl rfl (op_fieldAddr (sz := 0) ha96 rfl Try.underlying56 rfl rfl ti2 rfl) ?_
        intro a98 ha98; clear ha96 a96
        refine wl_val ha98 rfl rfl rfl (op_loadF (off := 0) ha98 rfl Try.underlying2 rfl rfl hb81.cells rfl) ?_
        intro a99 ha99; clear ha98 a98
        refine wl_val ha99 rfl rfl rfl (op_move ha99 rfl rfl) ?_
        intro a100 ha100; clear ha99 a99
        refine wl_val ha100 rfl rfl rfl ((op_sub ha100 rfl rfl rfl).int (IntWalk.i64_in _ (by omega))) ?_
        intro a101 ha101; clear ha100 a100
        refine wl_callR ha101 rfl rfl rfl (op_call ha101 rfl cb79 rfl) (c_impl_within _ x59.1 (0 : Int) (((i : Nat) : Int) - (1 : Int)) ) ?_
        rintro v102 w103 he104 rfl a105 ha105; clear ha101 a101
        have hx106 := hx90.trans' he104
        have hzhx106 := he104.size
        replace hb81 := hb81.ext he104
        refine wl_val ha105 rfl rfl rfl (op_not ha105 rfl rfl) ?_
        intro a107 ha107; clear ha105 a105
        refine wl_val ha107 rfl rfl rfl (op_pick_t ha107 rfl rfl rfl) ?_
        intro a108 ha108; clear ha107 a107
        refine wl_val ha108 rfl rfl rfl (op_pick_f ha108 rfl rfl rfl) ?_
        intro a109 ha109; clear ha108 a108
        refine wpList_nil ?_
        refine then_n ?_
        rcases Bool.eq_false_or_eq_true (decide ((0 : Int) ≤ x59.1) && decide (x59.1 ≤ (((i : Nat) : Int) - (1 : Int)))) with c110 | c110
        ·
         rw [c110] at ha109
         refine cond_f ha109 rfl ?_
         refine wp_skip ?_
         refine block_n ?_
         refine then_n ?_
         refine wp_region_lit ?_
         refine wl_val ha109 rfl rfl rfl ((op_add ha109 rfl rfl rfl).int (IntWalk.i64_in _ (by omega))) ?_
         intro a111 ha111; clear ha109 a109
         refine wl_val ha111 rfl rfl rfl (op_move ha111 rfl rfl) ?_
         intro a112 ha112; clear ha111 a111
         refine wpList_nil ?_
         refine round_end (x := i) ((i + 1)) ?_ ?_
         ·
          refine ⟨(Sl.cons_ ha112 rfl rfl (Sl.cons_ ha112 rfl rfl (Sl.cons_ ha112 rfl (int_eq (by omega)) (Sl.nil_ ha112)))), hx106, (by omega), (by omega), (by exact upB_step hA (vrAt_ok hx59 (by assumption) (by first | (left; exact ⟨by omega, by assumption⟩) | (left; exact ⟨by omega, by have e9 : i = 0 := (by omega); subst e9; rw [hx59] at hx33; cases hx33; assumption⟩) | (right; refine ⟨by omega, ?_⟩; simp_all; done) | (right; refine ⟨by omega, ?_⟩; simp_all; omega)))), (by omega)⟩
         ·show (list.length - ((i + 1)) : Nat) < list.length - i; omega
        ·
         rw [c110] at ha109
         refine cond_t ha109 rfl ?_
         refine wp_seq ?_
         refine wp_region_lit ?_
         refine wl_val ha109 rfl rfl rfl (op_assign ha109 rfl rfl) ?_
         intro a113 ha113; clear ha109 a109
         refine wpList_nil ?_
         refine then_n ?_
         refine wp_ret ?_
         refine block_r ?_
         refine then_r ?_
         refine then_r ?_
         refine block_r ?_
         refine then_r ?_
         refine ret1 ha113 rfl rfl ?_
         clear ha113 a113
         refine ret_mk hx106 (congrArg Value.bool (by rw [veB_no hx59 (vrAt_no hx59 (by first | (left; assumption) | (right; left; exact ⟨by omega, by assumption⟩) | (right; right; refine ⟨by omega, fun q => ?_⟩; simp [q.1, q.2] at * <;> omega) | (right; right; refine ⟨by omega, fun q => ?_⟩; simp_all <;> omega)))]))
       ·
        rw [decide_eq_false c97] at ha96
        refine wl_skip ha96 rfl rfl rfl ?_
        intro a114 ha114; clear ha96 a96
        refine wl_skip ha114 rfl rfl rfl ?_
        intro a115 ha115; clear ha114 a114
        refine wl_skip ha115 rfl rfl rfl ?_
        intro a116 ha116; clear ha115 a115
        refine wl_skip ha116 rfl rfl rfl ?_
        intro a117 ha117; clear ha116 a116
        refine wl_skip ha117 rfl rfl rfl ?_
        intro a118 ha118; clear ha117 a117
        refine wl_skip ha118 rfl rfl rfl ?_
        intro a119 ha119; clear ha118 a118
        refine wl_val ha119 rfl rfl rfl (op_pick_f ha119 rfl rfl rfl) ?_
        intro a120 ha120; clear ha119 a119
        refine wl_val ha120 rfl rfl rfl (op_pick_f ha120 rfl rfl rfl) ?_
        intro a121 ha121; clear ha120 a120
        refine wpList_nil ?_
        refine then_n ?_
        refine cond_f ha121 rfl ?_
        refine wp_skip ?_
        refine block_n ?_
        refine then_n ?_
        refine wp_region_lit ?_
        refine wl_val ha121 rfl rfl rfl ((op_add ha121 rfl rfl rfl).int (IntWalk.i64_in _ (by omega))) ?_
        intro a122 ha122; clear ha121 a121
        refine wl_val ha122 rfl rfl rfl (op_move ha122 rfl rfl) ?_
        intro a123 ha123; clear ha122 a122
        refine wpList_nil ?_
        refine round_end (x := i) ((i + 1)) ?_ ?_
        ·
         refine ⟨(Sl.cons_ ha123 rfl rfl (Sl.cons_ ha123 rfl rfl (Sl.cons_ ha123 rfl (int_eq (by omega)) (Sl.nil_ ha123)))), hx90, (by omega), (by omega), (by exact upB_step hA (vrAt_ok hx59 (by assumption) (by first | (left; exact ⟨by omega, by assumption⟩) | (left; exact ⟨by omega, by have e9 : i = 0 := (by omega); subst e9; rw [hx59] at hx33; cases hx33; assumption⟩) | (right; refine ⟨by omega, ?_⟩; simp_all; done) | (right; refine ⟨by omega, ?_⟩; simp_all; omega)))), (by omega)⟩
        ·show (list.length - ((i + 1)) : Nat) < list.length - i; omega
      ·
       rw [c93] at ha92
       refine wl_skip ha92 rfl rfl rfl ?_
       intro a124 ha124; clear ha92 a92
       refine wl_skip ha124 rfl rfl rfl ?_
       intro a125 ha125; clear ha124 a124
       refine wl_skip ha125 rfl rfl rfl ?_
       intro a126 ha126; clear ha125 a125
       refine wl_skip ha126 rfl rfl rfl ?_
       intro a127 ha127; clear ha126 a126
       refine wl_skip ha127 rfl rfl rfl ?_
       intro a128 ha128; clear ha127 a127
       refine wl_skip ha128 rfl rfl rfl ?_
       intro a129 ha129; clear ha128 a128
       refine wl_skip ha129 rfl rfl rfl ?_
       intro a130 ha130; clear ha129 a129
       refine wl_skip ha130 rfl rfl rfl ?_
       intro a131 ha131; clear ha130 a130
       refine wl_skip ha131 rfl rfl rfl ?_
       intro a132 ha132; clear ha131 a131
       refine wl_skip ha132 rfl rfl rfl ?_
       intro a133 ha133; clear ha132 a132
       refine wl_val ha133 rfl rfl rfl (op_pick_t ha133 rfl rfl rfl) ?_
       intro a134 ha134; clear ha133 a133
       refine wpList_nil ?_
       refine then_n ?_
       refine cond_t ha134 rfl ?_
       refine wp_seq ?_
       refine wp_region_lit ?_
       refine wl_val ha134 rfl rfl rfl (op_assign ha134 rfl rfl) ?_
       intro a135 ha135; clear ha134 a134
       refine wpList_nil ?_
       refine then_n ?_
       refine wp_ret ?_
       refine block_r ?_
       refine then_r ?_
       refine then_r ?_
       refine block_r ?_
       refine then_r ?_
       refine ret1 ha135 rfl rfl ?_
       clear ha135 a135
       refine ret_mk hx90 (congrArg Value.bool (by rw [veB_no hx59 (vrAt_no hx59 (by first | (left; assumption) | (right; left; exact ⟨by omega, by assumption⟩) | (right; right; refine ⟨by omega, fun q => ?_⟩; simp [q.1, q.2] at * <;> omega) | (right; right; refine ⟨by omega, fun q => ?_⟩; simp_all <;> omega)))]))
     ·
      rw [decide_eq_false c57] at ha56
      refine cond_f ha56 rfl ?_
      refine wp_exit ?_
      refine then_e ?_
      refine then_e ?_
      refine block_hit ?_
      refine then_n ?_
      refine wp_seq ?_
      refine wp_region_lit ?_
      refine wl_val ha56 rfl rfl rfl (op_assign ha56 rfl rfl) ?_
      intro a136 ha136; clear ha56 a56
      refine wpList_nil ?_
      refine then_n ?_
      refine wp_ret ?_
      refine ret1 ha136 rfl rfl ?_
      clear ha136 a136
      exact ret_mk hx53 (congrArg Value.bool (by have e : i = list.length := (by omega); rw [e] at hA; rw [veB_up hA]; first | (symm; simp only [Bool.and_eq_true, decide_eq_true_eq]; omega) | (rw [Bool.eq_iff_iff]; simp; done) | (rw [Bool.eq_iff_iff]; simp; omega)))
   ·
    rw [decide_eq_false c48] at ha47
    refine cond_t ha47 rfl ?_
    refine wp_seq ?_
    refine wp_region_lit ?_
    refine wl_val ha47 rfl rfl rfl (op_assign ha47 rfl rfl) ?_
    intro a137 ha137; clear ha47 a47
    refine wpList_nil ?_
    refine then_n ?_
    refine wp_ret ?_
    refine then_r ?_
    refine ret1 ha137 rfl rfl ?_
    clear ha137 a137
    exact ret_mk hx0 (congrArg Value.bool (by rw [veB_no hx33 (vrAt_no hx33 (.inr (.inl ⟨rfl, by assumption⟩)))]))

theorem c_impl_isVersion (w0 : World) (v_list : Value) (list : List (Int × List (Str × Int))) {S_list : Nat → Prop} (version : Int) (h_list : Rds shVer S_list w0 v_list list) :
  Calls Try.prog 67 #[v_list, .int .i64 version] w0 (Ret w0 (fun v _ => v = .bool (inV list version))) := by
 refine enter (N := 10) Try.func67 rfl rfl rfl ?_
 intro a0 ha0
 have hx0 := Ext.rfl' w0
 have hl_list := h_list.length_le
 refine wp_seq ?_
 refine wp_region_lit ?_
 refine wl_val ha0 rfl rfl rfl (op_assign ha0 rfl rfl) ?_
 intro a1 ha1; clear ha0 a0
 refine wpList_nil ?_
 refine then_n ?_
 refine wp_seq ?_
 refine wp_region_lit ?_
 refine wl_val ha1 rfl rfl rfl (op_move ha1 rfl rfl) ?_
 intro a2 ha2; clear ha1 a1
 refine wl_val ha2 rfl rfl rfl (op_move ha2 rfl rfl) ?_
 intro a3 ha3; clear ha2 a2
 refine wl_val ha3 rfl rfl rfl (op_len_sl ha3 rfl Try.underlying27 rfl h_list) ?_
 intro a4 ha4; clear ha3 a3
 refine wl_val ha4 rfl rfl rfl ((op_sub ha4 rfl rfl rfl).int (IntWalk.i64_in _ (by omega))) ?_
 intro a5 ha5; clear ha4 a4
 refine wl_callR ha5 rfl rfl rfl (op_call ha5 rfl cb79 rfl) (c_impl_within _ version (0 : Int) (((list.length : Nat) : Int) - (1 : Int)) ) ?_
 rintro v6 w7 he8 rfl a9 ha9; clear ha5 a5
 have hx10 := hx0.trans' he8
 have hzhx10 := he8.size
 refine wl_val ha9 rfl rfl rfl (op_assign ha9 rfl rfl) ?_
 intro a11 ha11; clear ha9 a9
 refine wpList_nil ?_
 refine then_n ?_
 refine wp_ret ?_
 refine ret1 ha11 rfl rfl ?_
 clear ha11 a11
 exact ret_mk hx10 (congrArg Value.bool (by rfl))

theorem c_impl_twoVersions (w0 : World) (v_list : Value) (list : List (Int × List (Str × Int))) {S_list : Nat → Prop} (ca : Int) (cb : Int) (h_list : Rds shVer S_list w0 v_list list) :
  Calls Try.prog 54 #[v_list, .int .i64 ca, .int .i64 cb] w0 (Ret w0 (fun v _ => v = .int .i64 (cdV list ca cb))) := by
 refine enter (N := 20) Try.func54 rfl rfl rfl ?_
 intro a0 ha0
 have hx0 := Ext.rfl' w0
 have hl_list := h_list.length_le
 refine wp_seq ?_
 refine wp_region_lit ?_
 refine wl_val ha0 rfl rfl rfl (op_assign ha0 rfl rfl) ?_
 intro a1 ha1; clear ha0 a0
 refine wpList_nil ?_
 refine then_n ?_
 refine wp_seq ?_
 refine wp_seq ?_
 refine wp_region_lit ?_
 refine wl_val ha1 rfl rfl rfl (op_move ha1 rfl rfl) ?_
 intro a2 ha2; clear ha1 a1
 refine wl_callR ha2 rfl rfl rfl (op_call ha2 rfl cb38 rfl) (c_impl_AreVersions _ v_list list (h_list.ext pos_shVer hx0)) ?_
 rintro v3 w4 he5 rfl a6 ha6; clear ha2 a2
 have hx7 := hx0.trans' he5
 have hzhx7 := he5.size
 refine wl_val ha6 rfl rfl rfl (op_not ha6 rfl rfl) ?_
 intro a8 ha8; clear ha6 a6
 refine wpList_nil ?_
 refine then_n ?_
 rcases Bool.eq_false_or_eq_true (veB list) with c9 | c9
 ·
  rw [c9] at ha8
  refine cond_f ha8 rfl ?_
  refine wp_skip ?_
  refine then_n ?_
  refine wp_seq ?_
  refine wp_seq ?_
  refine wp_region_lit ?_
  refine wl_val ha8 rfl rfl rfl (op_move ha8 rfl rfl) ?_
  intro a10 ha10; clear ha8 a8
  refine wl_val ha10 rfl rfl rfl (op_move ha10 rfl rfl) ?_
  intro a11 ha11; clear ha10 a10
  refine wl_callR ha11 rfl rfl rfl (op_call ha11 rfl cb67 rfl) (c_impl_isVersion _ v_list list ca (h_list.ext pos_shVer hx7)) ?_
  rintro v12 w13 he14 rfl a15 ha15; clear ha11 a11
  have hx16 := hx7.trans' he14
  have hzhx16 := he14.size
  refine wl_val ha15 rfl rfl rfl (op_not ha15 rfl rfl) ?_
  intro a17 ha17; clear ha15 a15
  refine wl_val ha17 rfl rfl rfl (op_move ha17 rfl rfl) ?_
  intro a18 ha18; clear ha17 a17
  rcases Bool.eq_false_or_eq_true (inV list ca) with c19 | c19
  ·
   rw [c19] at ha18
   refine wl_val ha18 rfl rfl rfl (op_move ha18 rfl rfl) ?_
   intro a20 ha20; clear ha18 a18
   refine wl_val ha20 rfl rfl rfl (op_move ha20 rfl rfl) ?_
   intro a21 ha21; clear ha20 a20
   refine wl_callR ha21 rfl rfl rfl (op_call ha21 rfl cb67 rfl) (c_impl_isVersion _ v_list list cb (h_list.ext pos_shVer hx16)) ?_
   rintro v22 w23 he24 rfl a25 ha25; clear ha21 a21
   have hx26 := hx16.trans' he24
   have hzhx26 := he24.size
   refine wl_val ha25 rfl rfl rfl (op_not ha25 rfl rfl) ?_
   intro a27 ha27; clear ha25 a25
   refine wl_val ha27 rfl rfl rfl (op_pick_f ha27 rfl rfl rfl) ?_
   intro a28 ha28; clear ha27 a27
   refine wpList_nil ?_
   refine then_n ?_
   rcases Bool.eq_false_or_eq_true (inV list cb) with c29 | c29
   ·
    rw [c29] at ha28
    refine cond_f ha28 rfl ?_
    refine wp_skip ?_
    refine then_n ?_
    refine wp_seq ?_
    refine wp_region_lit ?_
    refine wl_val ha28 rfl rfl rfl (op_assign ha28 rfl rfl) ?_
    intro a30 ha30; clear ha28 a28
    refine wpList_nil ?_
    refine then_n ?_
    refine wp_ret ?_
    refine ret1 ha30 rfl rfl ?_
    clear ha30 a30
    exact ret_mk hx26 (int_eq (by first | (unfold cdV; simp [c9, c19, c29]; done) | (unfold cdV inV; simp [c9, c19, c29]; done) | (unfold cdV inV; simp_all; done) | (unfold cdV; simp_all; done)))
   ·
    rw [c29] at ha28
    refine cond_t ha28 rfl ?_
    refine wp_seq ?_
    refine wp_region_lit ?_
    refine wl_val ha28 rfl rfl rfl (op_assign ha28 rfl rfl) ?_
    intro a31 ha31; clear ha28 a28
    refine wpList_nil ?_
    refine then_n ?_
    refine wp_ret ?_
    refine then_r ?_
    refine ret1 ha31 rfl rfl ?_
    clear ha31 a31
    exact ret_mk hx26 (int_eq (by first | (unfold cdV; simp [c9, c19, c29]; done) | (unfold cdV inV; simp [c9, c19, c29]; done) | (unfold cdV inV; simp_all; done) | (unfold cdV; simp_all; done)))
  ·
   rw [c19] at ha18
   refine wl_skip ha18 rfl rfl rfl ?_
   intro a32 ha32; clear ha18 a18
   refine wl_skip ha32 rfl rfl rfl ?_
   intro a33 ha33; clear ha32 a32
   refine wl_skip ha33 rfl rfl rfl ?_
   intro a34 ha34; clear ha33 a33
   refine wl_skip ha34 rfl rfl rfl ?_
   intro a35 ha35; clear ha34 a34
   refine wl_val ha35 rfl rfl rfl (op_pick_t ha35 rfl rfl rfl) ?_
   intro a36 ha36; clear ha35 a35
   refine wpList_nil ?_
   refine then_n ?_
   refine cond_t ha36 rfl ?_
   refine wp_seq ?_
   refine wp_region_lit ?_
   refine wl_val ha36 rfl rfl rfl (op_assign ha36 rfl rfl) ?_
   intro a37 ha37; clear ha36 a36
   refine wpList_nil ?_
   refine then_n ?_
   refine wp_ret ?_
   refine then_r ?_
   refine ret1 ha37 rfl rfl ?_
   clear ha37 a37
   exact ret_mk hx16 (int_eq (by first | (unfold cdV; simp [c9, c19]; done) | (unfold cdV inV; simp [c9, c19]; done) | (unfold cdV inV; simp_all; done) | (unfold cdV; simp_all; done)))
 ·
  rw [c9] at ha8
  refine cond_t ha8 rfl ?_
  refine wp_seq ?_
  refine wp_region_lit ?_
  refine wl_val ha8 rfl rfl rfl (op_assign ha8 rfl rfl) ?_
  intro a38 ha38; clear ha8 a8
  refine wpList_nil ?_
  refine then_n ?_
  refine wp_ret ?_
  refine then_r ?_
  refine ret1 ha38 rfl rfl ?_
  clear ha38 a38
  exact ret_mk hx7 (int_eq (by first | (unfold cdV; simp [c9]; done) | (unfold cdV inV; simp [c9]; done) | (unfold cdV inV; simp_all; done) | (unfold cdV; simp_all; done)))

theorem c_spec_l29Code (w0 : World) (v_list : Value) (list : List (Int × List (Str × Int))) {S_list : Nat → Prop} (ca : Int) (cb : Int) (h_list : Rds shVer S_list w0 v_list list) :
  Calls Try.prog 50 #[v_list, .int .i64 ca, .int .i64 cb] w0 (Ret w0 (fun v _ => v = .int .i64 (cdV list ca cb))) := by
 refine enter (N := 24) Try.func50 rfl rfl rfl ?_
 intro a0 ha0
 have hx0 := Ext.rfl' w0
 have hl_list := h_list.length_le
 refine wp_seq ?_
 refine wp_region_lit ?_
 refine wl_val ha0 rfl rfl rfl (op_assign ha0 rfl rfl) ?_
 intro a1 ha1; clear ha0 a0
 refine wpList_nil ?_
 refine then_n ?_
 refine wp_seq ?_
 refine wp_seq ?_
 refine wp_region_lit ?_
 refine wl_val ha1 rfl rfl rfl (op_move ha1 rfl rfl) ?_
 intro a2 ha2; clear ha1 a1
 refine wl_callR ha2 rfl rfl rfl (op_call ha2 rfl cb85 rfl) (c_spec_AreVersions _ v_list list (h_list.ext pos_shVer hx0)) ?_
 rintro v3 w4 he5 rfl a6 ha6; clear ha2 a2
 have hx7 := hx0.trans' he5
 have hzhx7 := he5.size
 refine wl_val ha6 rfl rfl rfl (op_not ha6 rfl rfl) ?_
 intro a8 ha8; clear ha6 a6
 refine wpList_nil ?_
 refine then_n ?_
 rcases Bool.eq_false_or_eq_true (veB list) with c9 | c9
 ·
  rw [c9] at ha8
  refine cond_f ha8 rfl ?_
  refine wp_skip ?_
  refine then_n ?_
  refine wp_seq ?_
  refine wp_region_lit ?_
  refine wl_val ha8 rfl rfl rfl (op_move ha8 rfl rfl) ?_
  intro a10 ha10; clear ha8 a8
  refine wl_val ha10 rfl rfl rfl (op_len_sl ha10 rfl Try.underlying27 rfl h_list) ?_
  intro a11 ha11; clear ha10 a10
  refine wl_val ha11 rfl rfl rfl ((op_sub ha11 rfl rfl rfl).int (IntWalk.i64_in _ (by omega))) ?_
  intro a12 ha12; clear ha11 a11
  refine wl_val ha12 rfl rfl rfl (op_assign ha12 rfl rfl) ?_
  intro a13 ha13; clear ha12 a12
  refine wpList_nil ?_
  refine then_n ?_
  refine wp_seq ?_
  refine wp_seq ?_
  refine wp_region_lit ?_
  refine wl_val ha13 rfl rfl rfl (op_move ha13 rfl rfl) ?_
  intro a14 ha14; clear ha13 a13
  refine wl_val ha14 rfl rfl rfl (op_move ha14 rfl rfl) ?_
  intro a15 ha15; clear ha14 a14
  refine wl_callR ha15 rfl rfl rfl (op_call ha15 rfl cb71 rfl) (c_spec_l01In _ ca (0 : Int) (((list.length : Nat) : Int) - (1 : Int)) ) ?_
  rintro v16 w17 he18 rfl a19 ha19; clear ha15 a15
  have hx20 := hx7.trans' he18
  have hzhx20 := he18.size
  refine wl_val ha19 rfl rfl rfl (op_not ha19 rfl rfl) ?_
  intro a21 ha21; clear ha19 a19
  refine wl_val ha21 rfl rfl rfl (op_move ha21 rfl rfl) ?_
  intro a22 ha22; clear ha21 a21
  rcases Bool.eq_false_or_eq_true (decide ((0 : Int) ≤ ca) && decide (ca ≤ (((list.length : Nat) : Int) - (1 : Int)))) with c23 | c23
  ·
   rw [c23] at ha22
   refine wl_val ha22 rfl rfl rfl (op_move ha22 rfl rfl) ?_
   intro a24 ha24; clear ha22 a22
   refine wl_val ha24 rfl rfl rfl (op_move ha24 rfl rfl) ?_
   intro a25 ha25; clear ha24 a24
   refine wl_callR ha25 rfl rfl rfl (op_call ha25 rfl cb71 rfl) (c_spec_l01In _ cb (0 : Int) (((list.length : Nat) : Int) - (1 : Int)) ) ?_
   rintro v26 w27 he28 rfl a29 ha29; clear ha25 a25
   have hx30 := hx20.trans' he28
   have hzhx30 := he28.size
   refine wl_val ha29 rfl rfl rfl (op_not ha29 rfl rfl) ?_
   intro a31 ha31; clear ha29 a29
   refine wl_val ha31 rfl rfl rfl (op_pick_f ha31 rfl rfl rfl) ?_
   intro a32 ha32; clear ha31 a31
   refine wpList_nil ?_
   refine then_n ?_
   rcases Bool.eq_false_or_eq_true (decide ((0 : Int) ≤ cb) && decide (cb ≤ (((list.length : Nat) : Int) - (1 : Int)))) with c33 | c33
   ·
    rw [c33] at ha32
    refine cond_f ha32 rfl ?_
    refine wp_skip ?_
    refine then_n ?_
    refine wp_seq ?_
    refine wp_region_lit ?_
    refine wl_val ha32 rfl rfl rfl (op_assign ha32 rfl rfl) ?_
    intro a34 ha34; clear ha32 a32
    refine wpList_nil ?_
    refine then_n ?_
    refine wp_ret ?_
    refine ret1 ha34 rfl rfl ?_
    clear ha34 a34
    exact ret_mk hx30 (int_eq (by first | (unfold cdV; simp [c9, c23, c33]; done) | (unfold cdV inV; simp [c9, c23, c33]; done) | (unfold cdV inV; simp_all; done) | (unfold cdV; simp_all; done)))
   ·
    rw [c33] at ha32
    refine cond_t ha32 rfl ?_
    refine wp_seq ?_
    refine wp_region_lit ?_
    refine wl_val ha32 rfl rfl rfl (op_assign ha32 rfl rfl) ?_
    intro a35 ha35; clear ha32 a32
    refine wpList_nil ?_
    refine then_n ?_
    refine wp_ret ?_
    refine then_r ?_
    refine ret1 ha35 rfl rfl ?_
    clear ha35 a35
    exact ret_mk hx30 (int_eq (by first | (unfold cdV; simp [c9, c23, c33]; done) | (unfold cdV inV; simp [c9, c23, c33]; done) | (unfold cdV inV; simp_all; done) | (unfold cdV; simp_all; done)))
  ·
   rw [c23] at ha22
   refine wl_skip ha22 rfl rfl rfl ?_
   intro a36 ha36; clear ha22 a22
   refine wl_skip ha36 rfl rfl rfl ?_
   intro a37 ha37; clear ha36 a36
   refine wl_skip ha37 rfl rfl rfl ?_
   intro a38 ha38; clear ha37 a37
   refine wl_skip ha38 rfl rfl rfl ?_
   intro a39 ha39; clear ha38 a38
   refine wl_val ha39 rfl rfl rfl (op_pick_t ha39 rfl rfl rfl) ?_
   intro a40 ha40; clear ha39 a39
   refine wpList_nil ?_
   refine then_n ?_
   refine cond_t ha40 rfl ?_
   refine wp_seq ?_
   refine wp_region_lit ?_
   refine wl_val ha40 rfl rfl rfl (op_assign ha40 rfl rfl) ?_
   intro a41 ha41; clear ha40 a40
   refine wpList_nil ?_
   refine then_n ?_
   refine wp_ret ?_
   refine then_r ?_
   refine ret1 ha41 rfl rfl ?_
   clear ha41 a41
   exact ret_mk hx20 (int_eq (by first | (unfold cdV; simp [c9, c23]; done) | (unfold cdV inV; simp [c9, c23]; done) | (unfold cdV inV; simp_all; done) | (unfold cdV; simp_all; done)))
 ·
  rw [c9] at ha8
  refine cond_t ha8 rfl ?_
  refine wp_seq ?_
  refine wp_region_lit ?_
  refine wl_val ha8 rfl rfl rfl (op_assign ha8 rfl rfl) ?_
  intro a42 ha42; clear ha8 a8
  refine wpList_nil ?_
  refine then_n ?_
  refine wp_ret ?_
  refine then_r ?_
  refine ret1 ha42 rfl rfl ?_
  clear ha42 a42
  exact ret_mk hx7 (int_eq (by first | (unfold cdV; simp [c9]; done) | (unfold cdV inV; simp [c9]; done) | (unfold cdV inV; simp_all; done) | (unfold cdV; simp_all; done)))

theorem c_impl_valueOf (w0 : World) (v_lines : Value) (lines : List (Str × Int)) {S_lines : Nat → Prop} (key : Str) (h_lines : Rds shLine S_lines w0 v_lines lines) :
  Calls Try.prog 56 #[v_lines, St key] w0 (Ret w0 (fun v _ => v = .int .i64 (valV key lines))) := by
 refine enter (N := 20) Try.func56 rfl rfl rfl ?_
 intro a0 ha0
 have hx0 := Ext.rfl' w0
 have hl_lines := h_lines.length_le
 refine wp_seq ?_
 refine wp_region_lit ?_
 refine wl_val ha0 rfl rfl rfl (op_assign ha0 rfl rfl) ?_
 intro a1 ha1; clear ha0 a0
 refine wpList_nil ?_
 refine then_n ?_
 refine wp_seq ?_
 refine wp_seq ?_
 refine wp_region_lit ?_
 refine wl_val ha1 rfl rfl rfl (op_move ha1 rfl rfl) ?_
 intro a2 ha2; clear ha1 a1
 refine wl_val ha2 rfl rfl rfl (op_len_sl ha2 rfl Try.underlying34 rfl h_lines) ?_
 intro a3 ha3; clear ha2 a2
 refine wl_val ha3 rfl rfl rfl (op_move ha3 rfl rfl) ?_
 intro a4 ha4; clear ha3 a3
 refine wpList_nil ?_
 refine then_n ?_
 refine wp_block ?_
 refine loop_inv (X := Nat) (fun (i : Nat) fr wl => Sl 20 fr [(1, St key), (7, v_lines), (8, .int .i64 ((lines.length : Nat) : Int)), (9, .int .i64 ((i : Nat) : Int))] ∧ Ext w0 wl ∧ w0.heap.size ≤ wl.heap.size ∧ (i ≤ lines.length) ∧ (valV key (lines.drop i) = valV key lines)) (fun (i : Nat) => lines.length - i) (0) ?_ ?_
 ·
  exact ⟨(Sl.cons_ ha4 rfl rfl (Sl.cons_ ha4 rfl rfl (Sl.cons_ ha4 rfl rfl (Sl.cons_ ha4 rfl (int_eq (by omega)) (Sl.nil_ ha4))))), hx0, (by omega), (by omega), (by rfl)⟩
 ·
  clear ha4 a4
  rintro i a7 w5 ⟨ha7, hx6, hzl8, hi, hF⟩
  have hzhx6 := hx6.size
  refine wp_seq ?_
  refine wp_region_lit ?_
  refine wl_val ha7 rfl rfl rfl (op_lss ha7 rfl rfl rfl) ?_
  intro a9 ha9; clear ha7 a7
  refine wpList_nil ?_
  refine then_n ?_
  refine wp_seq ?_
  by_cases c10 : ((i : Nat) : Int) < ((lines.length : Nat) : Int)
  ·
   rw [decide_eq_true c10] at ha9
   refine cond_t ha9 rfl ?_
   refine wp_skip ?_
   refine then_n ?_
   refine wp_seq ?_
   refine wp_block ?_
   refine wp_seq ?_
   refine wp_region_lit ?_
   obtain ⟨x11, hx11⟩ := get_ex (xs := lines) (j := i) (by omega)
   obtain ⟨p12, c13, hi14, hc15, hr16, hs17⟩ := Rds.at_ h_lines hx11
   obtain ⟨rfl, b18, b19⟩ := inv_shLine hr16
   refine wl_val ha9 rfl rfl rfl (op_indexAddr ha9 rfl Try.underlying34 ti83 rfl rfl (by omega) hi14) ?_
   intro a20 ha20; clear ha9 a9
   refine wl_val ha20 rfl rfl rfl (op_loadS ha20 rfl Try.underlying83 ti83 rfl rfl (hc15.ext hx6)) ?_
   intro a21 ha21; clear ha20 a20
   refine wl_eff ha21 rfl rfl rfl (op_alloc' rfl ti83 rfl) ?_
   rintro _ w23 ⟨rfl, he24, hb25, hz26⟩ a27 ha27; clear ha21 a21
   have hx28 := hx6.trans' he24
   have hzhx28 := he24.size
   refine wl_effS ha27 rfl rfl (op_storeAll' ha27 rfl ti83 rfl rfl hb25 rfl rfl (by simp [Value.oneCell']) rfl) ?_
   rintro w29 ⟨hb31, hst30, hz32⟩
   have hx33 := hx28.stp hst30 (by intro q hq; cases hq; exact (by omega))
   have hzhx33 := hst30.size
   clear hb25
   refine wpList_nil ?_
   refine then_n ?_
   refine wp_seq ?_
   refine wp_region_lit ?_
   refine wl_val ha27 rfl rfl rfl (op_fieldAddr (sz := 0) ha27 rfl Try.underlying83 rfl rfl ti9 rfl) ?_
   intro a34 ha34; clear ha27 a27
   refine wl_val ha34 rfl rfl rfl (op_loadF (off := 0) ha34 rfl Try.underlying9 rfl rfl hb31.cells rfl) ?_
   intro a35 ha35; clear ha34 a34
   refine wl_val ha35 rfl rfl rfl (op_move ha35 rfl rfl) ?_
   intro a36 ha36; clear ha35 a35
   refine wl_val ha36 rfl rfl rfl (op_seql ha36 rfl rfl rfl) ?_
   intro a37 ha37; clear ha36 a36
   refine wpList_nil ?_
   refine then_n ?_
   by_cases c38 : x11.1 = key
   ·
    rw [decide_eq_true c38] at ha37
    refine cond_t ha37 rfl ?_
    refine wp_seq ?_
    refine wp_region_lit ?_
    refine wl_val ha37 rfl rfl rfl (op_fieldAddr (sz := 0) ha37 rfl Try.underlying83 rfl rfl ti2 rfl) ?_
    intro a39 ha39; clear ha37 a37
    refine wl_val ha39 rfl rfl rfl (op_loadF (off := 1) ha39 rfl Try.underlying2 rfl rfl hb31.cells rfl) ?_
    intro a40 ha40; clear ha39 a39
    refine wl_val ha40 rfl rfl rfl (op_assign ha40 rfl rfl) ?_
    intro a41 ha41; clear ha40 a40
    refine wpList_nil ?_
    refine then_n ?_
    refine wp_ret ?_
    refine block_r ?_
    refine then_r ?_
    refine then_r ?_
    refine block_r ?_
    refine then_r ?_
    refine ret1 ha41 rfl rfl ?_
    clear ha41 a41
    exact ret_mk hx33 (int_eq (by rw [← hF, drop_cons hx11, valV, if_pos (by assumption)]))
   ·
    rw [decide_eq_false c38] at ha37
    refine cond_f ha37 rfl ?_
    refine wp_skip ?_
    refine block_n ?_
    refine then_n ?_
    refine wp_region_lit ?_
    refine wl_val ha37 rfl rfl rfl ((op_add ha37 rfl rfl rfl).int (IntWalk.i64_in _ (by omega))) ?_
    intro a42 ha42; clear ha37 a37
    refine wl_val ha42 rfl rfl rfl (op_move ha42 rfl rfl) ?_
    intro a43 ha43; clear ha42 a42
    refine wpList_nil ?_
    refine round_end (x := i) ((i + 1)) ?_ ?_
    ·
     refine ⟨(Sl.cons_ ha43 rfl rfl (Sl.cons_ ha43 rfl rfl (Sl.cons_ ha43 rfl rfl (Sl.cons_ ha43 rfl (int_eq (by omega)) (Sl.nil_ ha43))))), hx33, (by omega), (by omega), (by rw [drop_cons hx11, valV, if_neg (by assumption)] at hF; exact hF)⟩
    ·show (lines.length - ((i + 1)) : Nat) < lines.length - i; omega
  ·
   rw [decide_eq_false c10] at ha9
   refine cond_f ha9 rfl ?_
   refine wp_exit ?_
   refine then_e ?_
   refine then_e ?_
   refine block_hit ?_
   refine then_n ?_
   refine wp_seq ?_
   refine wp_region_lit ?_
   refine wl_val ha9 rfl rfl rfl (op_assign ha9 rfl rfl) ?_
   intro a44 ha44; clear ha9 a9
   refine wpList_nil ?_
   refine then_n ?_
   refine wp_ret ?_
   refine ret1 ha44 rfl rfl ?_
   clear ha44 a44
   exact ret_mk hx6 (int_eq (by rw [← hF, drop_nil (by omega)]; rfl))

theorem c_spec_l29Value (w0 : World) (v_lines : Value) (lines : List (Str × Int)) {S_lines : Nat → Prop} (key : Str) (h_lines : Rds shLine S_lines w0 v_lines lines) :
  Calls Try.prog 52 #[v_lines, St key] w0 (Ret w0 (fun v _ => v = .int .i64 (valV key lines))) := by
 refine enter (N := 24) Try.func52 rfl rfl rfl ?_
 intro a0 ha0
 have hx0 := Ext.rfl' w0
 have hl_lines := h_lines.length_le
 refine wp_seq ?_
 refine wp_region_lit ?_
 refine wl_val ha0 rfl rfl rfl (op_assign ha0 rfl rfl) ?_
 intro a1 ha1; clear ha0 a0
 refine wpList_nil ?_
 refine then_n ?_
 refine wp_seq ?_
 refine wp_seq ?_
 refine wp_region_lit ?_
 refine wl_val ha1 rfl rfl rfl (op_assign ha1 rfl rfl) ?_
 intro a2 ha2; clear ha1 a1
 refine wpList_nil ?_
 refine then_n ?_
 refine wp_block ?_
 refine loop_inv (X := Nat) (fun (i : Nat) fr wl => Sl 24 fr [(0, v_lines), (1, St key), (5, .int .i64 ((i : Nat) : Int))] ∧ Ext w0 wl ∧ w0.heap.size ≤ wl.heap.size ∧ (i ≤ lines.length) ∧ (valV key (lines.drop i) = valV key lines)) (fun (i : Nat) => lines.length - i) (0) ?_ ?_
 ·
  exact ⟨(Sl.cons_ ha2 rfl rfl (Sl.cons_ ha2 rfl rfl (Sl.cons_ ha2 rfl (int_eq (by omega)) (Sl.nil_ ha2)))), hx0, (by omega), (by omega), (by rfl)⟩
 ·
  clear ha2 a2
  rintro i a5 w3 ⟨ha5, hx4, hzl6, hi, hF⟩
  have hzhx4 := hx4.size
  refine wp_seq ?_
  refine wp_seq ?_
  refine wp_region_lit ?_
  refine wl_val ha5 rfl rfl rfl (op_move ha5 rfl rfl) ?_
  intro a7 ha7; clear ha5 a5
  refine wl_val ha7 rfl rfl rfl (op_move ha7 rfl rfl) ?_
  intro a8 ha8; clear ha7 a7
  refine wl_val ha8 rfl rfl rfl (op_len_sl ha8 rfl Try.underlying34 rfl h_lines) ?_
  intro a9 ha9; clear ha8 a8
  refine wl_val ha9 rfl rfl rfl (op_lss ha9 rfl rfl rfl) ?_
  intro a10 ha10; clear ha9 a9
  refine wpList_nil ?_
  refine then_n ?_
  by_cases c11 : ((i : Nat) : Int) < ((lines.length : Nat) : Int)
  ·
   rw [decide_eq_true c11] at ha10
   refine cond_t ha10 rfl ?_
   refine wp_skip ?_
   refine then_n ?_
   refine wp_seq ?_
   refine wp_block ?_
   refine wp_seq ?_
   refine wp_region_lit ?_
   refine wl_val ha10 rfl rfl rfl (op_move ha10 rfl rfl) ?_
   intro a12 ha12; clear ha10 a10
   refine wl_val ha12 rfl rfl rfl (op_move ha12 rfl rfl) ?_
   intro a13 ha13; clear ha12 a12
   obtain ⟨x14, hx14⟩ := get_ex (xs := lines) (j := i) (by omega)
   obtain ⟨p15, c16, hi17, hc18, hr19, hs20⟩ := Rds.at_ h_lines hx14
   obtain ⟨rfl, b21, b22⟩ := inv_shLine hr19
   refine wl_val ha13 rfl rfl rfl (op_indexAddr ha13 rfl Try.underlying34 ti83 rfl rfl (by omega) hi17) ?_
   intro a23 ha23; clear ha13 a13
   refine wl_val ha23 rfl rfl rfl (op_fieldAddr (sz := 0) ha23 rfl Try.underlying83 rfl rfl ti9 rfl) ?_
   intro a24 ha24; clear ha23 a23
   refine wl_val ha24 rfl rfl rfl (op_loadF (off := 0) ha24 rfl Try.underlying9 rfl rfl (hc18.ext hx4) rfl) ?_
   intro a25 ha25; clear ha24 a24
   refine wl_val ha25 rfl rfl rfl (op_move ha25 rfl rfl) ?_
   intro a26 ha26; clear ha25 a25
   refine wl_val ha26 rfl rfl rfl (op_seql ha26 rfl rfl rfl) ?_
   intro a27 ha27; clear ha26 a26
   refine wpList_nil ?_
   refine then_n ?_
   by_cases c28 : x14.1 = key
   ·
    rw [decide_eq_true c28] at ha27
    refine cond_t ha27 rfl ?_
    refine wp_seq ?_
    refine wp_region_lit ?_
    refine wl_val ha27 rfl rfl rfl (op_move ha27 rfl rfl) ?_
    intro a29 ha29; clear ha27 a27
    refine wl_val ha29 rfl rfl rfl (op_move ha29 rfl rfl) ?_
    intro a30 ha30; clear ha29 a29
    refine wl_val ha30 rfl rfl rfl (op_indexAddr ha30 rfl Try.underlying34 ti83 rfl rfl (by omega) hi17) ?_
    intro a31 ha31; clear ha30 a30
    refine wl_val ha31 rfl rfl rfl (op_fieldAddr (sz := 0) ha31 rfl Try.underlying83 rfl rfl ti2 rfl) ?_
    intro a32 ha32; clear ha31 a31
    refine wl_val ha32 rfl rfl rfl (op_loadF (off := 1) ha32 rfl Try.underlying2 rfl rfl (hc18.ext hx4) rfl) ?_
    intro a33 ha33; clear ha32 a32
    refine wl_val ha33 rfl rfl rfl (op_assign ha33 rfl rfl) ?_
    intro a34 ha34; clear ha33 a33
    refine wpList_nil ?_
    refine then_n ?_
    refine wp_ret ?_
    refine block_r ?_
    refine then_r ?_
    refine then_r ?_
    refine block_r ?_
    refine then_r ?_
    refine ret1 ha34 rfl rfl ?_
    clear ha34 a34
    exact ret_mk hx4 (int_eq (by rw [← hF, drop_cons hx14, valV, if_pos (by assumption)]))
   ·
    rw [decide_eq_false c28] at ha27
    refine cond_f ha27 rfl ?_
    refine wp_skip ?_
    refine block_n ?_
    refine then_n ?_
    refine wp_region_lit ?_
    refine wl_val ha27 rfl rfl rfl (op_move ha27 rfl rfl) ?_
    intro a35 ha35; clear ha27 a27
    refine wl_val ha35 rfl rfl rfl ((op_add ha35 rfl rfl rfl).int (IntWalk.i64_in _ (by omega))) ?_
    intro a36 ha36; clear ha35 a35
    refine wl_val ha36 rfl rfl rfl (op_assign ha36 rfl rfl) ?_
    intro a37 ha37; clear ha36 a36
    refine wpList_nil ?_
    refine round_end (x := i) ((i + 1)) ?_ ?_
    ·
     refine ⟨(Sl.cons_ ha37 rfl rfl (Sl.cons_ ha37 rfl rfl (Sl.cons_ ha37 rfl (int_eq (by omega)) (Sl.nil_ ha37)))), hx4, (by omega), (by omega), (by rw [drop_cons hx14, valV, if_neg (by assumption)] at hF; exact hF)⟩
    ·show (lines.length - ((i + 1)) : Nat) < lines.length - i; omega
  ·
   rw [decide_eq_false c11] at ha10
   refine cond_f ha10 rfl ?_
   refine wp_exit ?_
   refine then_e ?_
   refine then_e ?_
   refine block_hit ?_
   refine then_n ?_
   refine wp_seq ?_
   refine wp_region_lit ?_
   refine wl_val ha10 rfl rfl rfl (op_assign ha10 rfl rfl) ?_
   intro a38 ha38; clear ha10 a10
   refine wpList_nil ?_
   refine then_n ?_
   refine wp_ret ?_
   refine ret1 ha38 rfl rfl ?_
   clear ha38 a38
   exact ret_mk hx4 (int_eq (by rw [← hF, drop_nil (by omega)]; rfl))


end Go.Proofs.Ytllpdkidaldkiaa
