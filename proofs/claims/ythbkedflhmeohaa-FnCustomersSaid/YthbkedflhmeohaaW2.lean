/- Are these customers? -/
import Derived.Test.YthbkedflhmeohaaW1
namespace Go.Proofs.Ythbkedflhmeohaa
open Go Go.RowKit

/-- Texts that rise strictly. -/
abbrev UpS (xs : List Str) : Prop := xs.Pairwise (fun x y => x < y)
theorem ups_ext : ∀ {a b : List Str}, UpS a → UpS b → (∀ z, z ∈ a ↔ z ∈ b) → a = b
  | [], [], _, _, _ => rfl
  | [], y :: ys, _, _, h => by have := (h y).2 (by simp); simp at this
  | x :: xs, [], _, _, h => by have := (h x).1 (by simp); simp at this
  | x :: xs, y :: ys, ha, hb, h => by
    rw [UpS, List.pairwise_cons] at ha hb
    have e : x = y := by
      rcases List.mem_cons.1 ((h x).1 (by simp)) with e | hx
      · exact e
      · rcases List.mem_cons.1 ((h y).2 (by simp)) with e | hy
        · exact e.symm
        · exact absurd (ha.1 y hy) (str_as (hb.1 x hx))
    subst e
    rw [ups_ext ha.2 hb.2 fun z => ?_]
    constructor
    · intro hz
      rcases List.mem_cons.1 ((h z).1 (by simp [hz])) with e | hz2
      · subst e; exact absurd (ha.1 z hz) (str_irr z)
      · exact hz2
    · intro hz
      rcases List.mem_cons.1 ((h z).2 (by simp [hz])) with e | hz2
      · subst e; exact absurd (hb.1 z hz) (str_irr z)
      · exact hz2
/-- A text at its place, once. -/
def insU (x : Str) : List Str → List Str
  | [] => [x]
  | y :: ys => if y < x then y :: insU x ys else if y = x then y :: ys else x :: y :: ys
theorem insU_mem {x z : Str} : ∀ {xs : List Str}, z ∈ insU x xs ↔ z = x ∨ z ∈ xs
  | [] => by simp [insU]
  | y :: ys => by
    rw [insU]; split
    · rw [List.mem_cons, insU_mem, List.mem_cons]
      constructor
      · rintro (e | e | e) <;> simp [e]
      · rintro (e | e | e) <;> simp [e]
    · split
      · rename_i e; subst e; simp
      · simp
theorem insU_up {x : Str} : ∀ {xs : List Str}, UpS xs → UpS (insU x xs)
  | [], _ => by simp [insU, UpS]
  | y :: ys, h => by
    have h' := List.pairwise_cons.1 h
    rw [insU]; split
    · refine List.Pairwise.cons (fun z hz => ?_) (insU_up h'.2)
      rcases insU_mem.1 hz with e | e
      · subst e; assumption
      · exact h'.1 z e
    · split
      · exact h
      · have hxy := ((str_le ‹¬ y < x›).resolve_right fun e => ‹¬ y = x› e.symm)
        refine List.Pairwise.cons (fun z hz => ?_) h
        rcases List.mem_cons.1 hz with e | e
        · subst e; exact hxy
        · exact str_tr hxy (h'.1 z e)
theorem insU_len (x : Str) : ∀ (xs : List Str), (insU x xs).length ≤ xs.length + 1
  | [] => by simp [insU]
  | y :: ys => by
    have := insU_len x ys
    rw [insU]; split
    · simp only [List.length_cons]; omega
    · split <;> simp
theorem ups_at {xs : List Str} (h : UpS xs) {i j : Nat} {x y : Str} (hij : i < j) (hx : xs[i]? = some x) (hy : xs[j]? = some y) : x < y := by
  obtain ⟨hi, rfl⟩ := List.getElem?_eq_some_iff.1 hx
  obtain ⟨hj, rfl⟩ := List.getElem?_eq_some_iff.1 hy
  exact List.pairwise_iff_getElem.1 h _ _ hi hj hij
theorem insU_has {x : Str} : ∀ {xs : List Str}, UpS xs → x ∈ xs → insU x xs = xs
  | y :: ys, h, hm => by
    have h' := List.pairwise_cons.1 h
    rw [insU]
    rcases List.mem_cons.1 hm with e | e
    · subst e; rw [if_neg (str_irr x), if_pos rfl]
    · rw [if_pos (h'.1 x e), insU_has h'.2 e]
theorem insU_cut {x : Str} : ∀ {xs : List Str} {k : Nat}, (∀ j y, j < k → xs[j]? = some y → y < x) → (∀ j y, k ≤ j → xs[j]? = some y → x < y) → insU x xs = xs.take k ++ x :: xs.drop k
  | [], k, _, _ => by simp [insU]
  | y :: ys, 0, _, h => by
    have := h 0 y (Nat.le_refl _) rfl
    rw [insU, if_neg (str_as this), if_neg (fun e => str_ne this e.symm)]; rfl
  | y :: ys, k + 1, h, h' => by
    rw [insU, if_pos (h 0 y (by omega) rfl), insU_cut (k := k) (fun j z hj hz => h (j + 1) z (by omega) (by simpa using hz)) (fun j z hj hz => h' (j + 1) z (by omega) (by simpa using hz))]
    rfl
/-- Gone through from behind: what stands from k on is greater; what stands in front of it is not. -/
theorem insU_back {x : Str} {xs : List Str} {k : Nat} (h : UpS xs) (hk : ∀ j y, k ≤ j → xs[j]? = some y → x < y) (h0 : k = 0 ∨ ∃ b, xs[k - 1]? = some b ∧ ¬ x < b ∧ ¬ b = x) : insU x xs = xs.take k ++ x :: xs.drop k := by
  refine insU_cut (fun j y hj hy => ?_) hk
  rcases h0 with h0 | ⟨b, hb, h1, h2⟩
  · omega
  · have hbx := (str_le h1).resolve_right h2
    by_cases e : j = k - 1
    · subst e; rw [hb] at hy; cases hy; exact hbx
    · exact str_tr (ups_at h (by omega) hy hb) hbx
theorem insU_front {x : Str} {xs : List Str} {k : Nat} (h : UpS xs) (hk : ∀ j y, j < k → xs[j]? = some y → y < x) (h0 : xs.length ≤ k ∨ ∃ b, xs[k]? = some b ∧ ¬ b < x ∧ ¬ b = x) : insU x xs = xs.take k ++ x :: xs.drop k := by
  refine insU_cut hk (fun j y hj hy => ?_)
  rcases h0 with h0 | ⟨b, hb, h1, h2⟩
  · have := (List.getElem?_eq_some_iff.1 hy).1; omega
  · have hbx := (str_le h1).resolve_right (fun e => h2 e.symm)
    by_cases e : j = k
    · subst e; rw [hb] at hy; cases hy; exact hbx
    · exact str_tr hbx (ups_at h (by omega) hb hy)
/-- What 'append, copy, store' makes of a list. -/
theorem ins_eq {α : Type} {acc : List α} {k : Nat} {x z : α} (hk : k ≤ acc.length) :
    (((acc ++ [z]).take (k + 1) ++ ((acc ++ [z]).drop k).take (min ((acc ++ [z]).length - (k + 1)) ((acc ++ [z]).length - k)) ++ (acc ++ [z]).drop (k + 1 + min ((acc ++ [z]).length - (k + 1)) ((acc ++ [z]).length - k))).set k x) = acc.take k ++ x :: acc.drop k := by
  have hl : (acc ++ [z]).length = acc.length + 1 := by simp
  have e1 : min ((acc ++ [z]).length - (k + 1)) ((acc ++ [z]).length - k) = acc.length - k := by omega
  rw [e1]
  have e2 : (acc ++ [z]).drop (k + 1 + (acc.length - k)) = [] := List.drop_of_length_le (by omega)
  have e3 : ((acc ++ [z]).drop k).take (acc.length - k) = acc.drop k := by
    rw [List.drop_append_of_le_length hk, List.take_append_of_le_length (by rw [List.length_drop]; omega), List.take_of_length_le (by rw [List.length_drop]; omega)]
  rw [e2, e3, List.append_nil]
  have hlt : k < (acc ++ [z]).length := by omega
  obtain ⟨q, hq⟩ := get_ex hlt
  rw [take_snoc hq, List.take_append_of_le_length hk, List.append_assoc, List.set_append_right _ _ (by rw [List.length_take]; omega), List.length_take, Nat.min_eq_left hk, Nat.sub_self]
  rfl

theorem fdF_none {α : Type} {p : α → Bool} {xs : List α} (h : ∀ j y, j < xs.length → xs[j]? = some y → p y = false) : fdF p xs = -1 := by
  have h1 : fdF p xs < 0 := fdF_neg.2 fun x hx => by
    obtain ⟨j, hj⟩ := List.getElem?_of_mem hx
    exact h j x (List.getElem?_eq_some_iff.1 hj).1 hj
  have := fdF_bd p xs; omega
theorem all_snoc {α : Type} {xs : List α} {p : α → Prop} {i : Nat} {x : α} (h : ∀ j y, j < i → xs[j]? = some y → p y) (hx : xs[i]? = some x) (hp : p x) : ∀ j y, j < i + 1 → xs[j]? = some y → p y := by
  intro j y hj hy
  rcases Nat.lt_or_ge j i with q | q
  · exact h j y q hy
  · have e : j = i := by omega
    subst e; rw [hx] at hy; cases hy; exact hp
theorem all_mem {α : Type} {xs : List α} {p : α → Prop} {i : Nat} (h : ∀ j y, j < i → xs[j]? = some y → p y) (hi : xs.length ≤ i) : ∀ x ∈ xs, p x := by
  intro x hx
  obtain ⟨j, hj⟩ := List.getElem?_of_mem hx
  exact h j x (by have := (List.getElem?_eq_some_iff.1 hj).1; omega) hj
theorem all_zero {α : Type} {xs : List α} {p : α → Prop} : ∀ j y, j < 0 → xs[j]? = some y → p y := fun j y hj => absurd hj (by omega)

def bkPrev : Option Str → Str → Bool
  | none, _ => true
  | some a, b => decide (a < b)
def bkAt (bs : List Str) (i : Nat) : Bool := match bs[i]? with
  | none => false
  | some b => wordB b && (decide (i = 0) || bkPrev bs[i - 1]? b)
/-- Are these the bikes of a customer? -/
def bkB (bs : List Str) : Bool := decide (bs.length ≤ 5) && upB (bkAt bs) bs.length
theorem bkAt_eq {bs : List Str} {i : Nat} {b : Str} (h : bs[i]? = some b) : bkAt bs i = (wordB b && (decide (i = 0) || bkPrev bs[i - 1]? b)) := by unfold bkAt; rw [h]
theorem bkAt_ok {bs : List Str} {i : Nat} {b : Str} (h : bs[i]? = some b) (h1 : wordB b = true) (h2 : i = 0 ∨ ∃ a, bs[i - 1]? = some a ∧ a < b) : bkAt bs i = true := by
  rw [bkAt_eq h, h1]
  rcases h2 with h2 | ⟨a, ha, h3⟩
  · simp [h2]
  · rw [ha]; simp [bkPrev, h3]
theorem bkAt_no {bs : List Str} {i : Nat} {b : Str} (h : bs[i]? = some b) (h1 : wordB b = false ∨ (0 < i ∧ ∃ a, bs[i - 1]? = some a ∧ ¬ a < b)) : bkAt bs i = false := by
  rw [bkAt_eq h]
  rcases h1 with h1 | ⟨hi, a, ha, h2⟩
  · rw [h1, Bool.false_and]
  · have e2 : decide (i = 0) = false := by simp; omega
    rw [ha, e2]; simp [bkPrev, h2]
theorem bkB_no {bs : List Str} {i : Nat} {b : Str} (h : bs[i]? = some b) (h1 : bkAt bs i = false) : bkB bs = false := by unfold bkB; rw [upB_bad (List.getElem?_eq_some_iff.1 h).1 h1, Bool.and_false]
theorem bkB_big {bs : List Str} (h : 5 < bs.length) : bkB bs = false := by unfold bkB; rw [decide_eq_false (by omega), Bool.false_and]
theorem bkB_ok {bs : List Str} (h : bs.length ≤ 5) (h1 : upB (bkAt bs) bs.length = true) : bkB bs = true := by unfold bkB; rw [h1, decide_eq_true h]; rfl
theorem bkB_len {bs : List Str} (h : bkB bs = true) : bs.length ≤ 5 := by unfold bkB at h; simp only [Bool.and_eq_true, decide_eq_true_eq] at h; exact h.1
theorem bkB_word {bs : List Str} (h : bkB bs = true) : ∀ b ∈ bs, wordB b = true := by
  intro b hb
  obtain ⟨j, hj⟩ := List.getElem?_of_mem hb
  unfold bkB at h; simp only [Bool.and_eq_true] at h
  have := upB_get h.2 (List.getElem?_eq_some_iff.1 hj).1
  rw [bkAt_eq hj, Bool.and_eq_true] at this; exact this.1
theorem ups_of_next {bs : List Str} (h : ∀ i a b, bs[i]? = some a → bs[i + 1]? = some b → a < b) : UpS bs := by
  induction bs with
  | nil => exact List.Pairwise.nil
  | cons x xs ih =>
    have hxs : UpS xs := ih fun i a b ha hb => h (i + 1) a b (by simpa using ha) (by simpa using hb)
    refine List.Pairwise.cons (fun y hy => ?_) hxs
    cases xs with
    | nil => simp at hy
    | cons z zs =>
      have hz := h 0 x z rfl rfl
      rcases List.mem_cons.1 hy with e | e
      · subst e; exact hz
      · exact str_tr hz ((List.pairwise_cons.1 hxs).1 y e)
theorem bkB_ups {bs : List Str} (h : bkB bs = true) : UpS bs := by
  refine ups_of_next fun i a b ha hb => ?_
  unfold bkB at h; simp only [Bool.and_eq_true] at h
  have := upB_get h.2 (List.getElem?_eq_some_iff.1 hb).1
  rw [bkAt_eq hb, Nat.add_sub_cancel, ha] at this
  simp only [Bool.and_eq_true, Bool.or_eq_true, decide_eq_true_eq, bkPrev] at this
  rcases this.2 with q | q
  · omega
  · exact q
def hasB (b : Str) (c : Cust) : Bool := decide (b ∈ c.2.2)
def namB (n : Str) (c : Cust) : Bool := decide (c.1 = n)
def owI (xs : List Cust) (b : Str) : Int := fdF (hasB b) xs
def fnI (xs : List Cust) (n : Str) : Int := fdF (namB n) xs
def cuPrev : Option Cust → Cust → Bool
  | none, _ => true
  | some p, c => decide (p.1 < c.1)
def cuAt (xs : List Cust) (i : Nat) : Bool := match xs[i]? with
  | none => false
  | some c => wordB c.1 && dateB c.2.1 && bkB c.2.2 && (decide (i = 0) || cuPrev xs[i - 1]? c) && c.2.2.all fun b => decide (owI (xs.take i) b < 0)
/-- Are these customers? -/
def cuB (xs : List Cust) : Bool := decide (xs.length ≤ 20) && upB (cuAt xs) xs.length
theorem cuAt_eq {xs : List Cust} {i : Nat} {c : Cust} (h : xs[i]? = some c) : cuAt xs i = (wordB c.1 && dateB c.2.1 && bkB c.2.2 && (decide (i = 0) || cuPrev xs[i - 1]? c) && c.2.2.all fun b => decide (owI (xs.take i) b < 0)) := by unfold cuAt; rw [h]
theorem cuAt_ok {xs : List Cust} {i : Nat} {c : Cust} (h : xs[i]? = some c) (h1 : wordB c.1 = true) (h2 : dateB c.2.1 = true) (h3 : bkB c.2.2 = true) (h4 : i = 0 ∨ ∃ p, xs[i - 1]? = some p ∧ p.1 < c.1) (h5 : ∀ b ∈ c.2.2, owI (xs.take i) b < 0) : cuAt xs i = true := by
  have e5 : (c.2.2.all fun b => decide (owI (xs.take i) b < 0)) = true := by rw [List.all_eq_true]; intro b hb; simp [h5 b hb]
  rw [cuAt_eq h, h1, h2, h3, e5]
  rcases h4 with h4 | ⟨p, hp, h6⟩
  · simp [h4]
  · rw [hp]; simp [cuPrev, h6]
theorem cuAt_no {xs : List Cust} {i : Nat} {c : Cust} (h : xs[i]? = some c) (h1 : wordB c.1 = false ∨ dateB c.2.1 = false ∨ bkB c.2.2 = false ∨ (0 < i ∧ ∃ p, xs[i - 1]? = some p ∧ ¬ p.1 < c.1) ∨ ∃ b, b ∈ c.2.2 ∧ ¬ owI (xs.take i) b < 0) : cuAt xs i = false := by
  rw [cuAt_eq h]
  rcases h1 with h1 | h1 | h1 | ⟨hi, p, hp, h2⟩ | ⟨b, hb, h2⟩
  · simp [h1]
  · simp [h1]
  · simp [h1]
  · have e2 : decide (i = 0) = false := by simp; omega
    rw [hp, e2]; simp [cuPrev, h2]
  · have e5 : (c.2.2.all fun b => decide (owI (xs.take i) b < 0)) = false := by
      rw [List.all_eq_false]; exact ⟨b, hb, by simp; omega⟩
    rw [e5, Bool.and_false]
theorem cuB_no {xs : List Cust} {i : Nat} {c : Cust} (h : xs[i]? = some c) (h1 : cuAt xs i = false) : cuB xs = false := by unfold cuB; rw [upB_bad (List.getElem?_eq_some_iff.1 h).1 h1, Bool.and_false]
theorem cuB_big {xs : List Cust} (h : 20 < xs.length) : cuB xs = false := by unfold cuB; rw [decide_eq_false (by omega), Bool.false_and]
theorem cuB_len {xs : List Cust} (h : cuB xs = true) : xs.length ≤ 20 := by unfold cuB at h; simp only [Bool.and_eq_true, decide_eq_true_eq] at h; exact h.1
/-- What is known of one customer. -/
structure CuOk (c : Cust) : Prop where
  word : wordB c.1 = true
  date : dateB c.2.1 = true
  bikes : bkB c.2.2 = true
theorem cuB_at {xs : List Cust} (h : cuB xs = true) {i : Nat} {c : Cust} (hc : xs[i]? = some c) : CuOk c ∧ (∀ p, 0 < i → xs[i - 1]? = some p → p.1 < c.1) ∧ ∀ b ∈ c.2.2, owI (xs.take i) b < 0 := by
  unfold cuB at h; simp only [Bool.and_eq_true] at h
  have := upB_get h.2 (List.getElem?_eq_some_iff.1 hc).1
  rw [cuAt_eq hc] at this
  simp only [Bool.and_eq_true, Bool.or_eq_true, decide_eq_true_eq, List.all_eq_true] at this
  obtain ⟨⟨⟨⟨h1, h2⟩, h3⟩, h4⟩, h5⟩ := this
  refine ⟨⟨h1, h2, h3⟩, fun p hi hp => ?_, h5⟩
  rcases h4 with q | q
  · omega
  · rw [hp] at q; simpa [cuPrev] using q
theorem cuB_el {xs : List Cust} (h : cuB xs = true) : ∀ c ∈ xs, CuOk c := by
  intro c hc
  obtain ⟨j, hj⟩ := List.getElem?_of_mem hc
  exact (cuB_at h hj).1
theorem cuOk_bd {c : Cust} (h : CuOk c) : 1 ≤ c.1.length ∧ c.1.length ≤ 16 ∧ 0 ≤ c.2.1 ∧ c.2.1 ≤ 100000 ∧ c.2.2.length ≤ 5 := by
  have h1 := wordB_len h.word
  have h2 := h.date
  unfold dateB at h2; simp only [Bool.and_eq_true, decide_eq_true_eq] at h2
  exact ⟨h1.1, h1.2, h2.1, h2.2, bkB_len h.bikes⟩
/-- Nobody in front has the bike: its first owner stands here. -/
theorem owI_here {xs : List Cust} {i : Nat} {c : Cust} {b : Str} (hc : xs[i]? = some c) (hb : b ∈ c.2.2) : owI xs b = (i : Int) ↔ owI (xs.take i) b < 0 := by
  constructor
  · intro e
    refine fdF_neg.2 fun y hy => ?_
    obtain ⟨j, hj⟩ := List.getElem?_of_mem hy
    rw [List.getElem?_take] at hj
    split at hj
    · have h1 : ¬ fdF (hasB b) xs < 0 := by unfold owI at e; omega
      refine (fdF_at h1).2 j y ?_ hj
      unfold owI at e; omega
    · cases hj
  · intro h
    refine fdF_hit hc (by simp [hasB, hb]) fun j y hj hy => ?_
    exact fdF_neg.1 h y (List.mem_of_getElem? (i := j) (by rw [List.getElem?_take, if_pos hj]; exact hy))

theorem c_impl_areBikes (w0 : World) (v_bikes : Value) (bikes : List Str) {S_bikes : Nat → Prop} (h_bikes : Rds shStr S_bikes w0 v_bikes bikes) :
  Calls Try.prog 58 #[v_bikes] w0 (Ret w0 (fun v _ => v = .bool (bkB bikes))) := by
 refine enter (N := 32) Try.func58 rfl rfl rfl ?_
 intro a0 ha0
 have hx0 := Ext.rfl' w0
 have hl_bikes := h_bikes.length_le
 refine wp_seq ?_
 refine wp_region_lit ?_
 refine wl_val ha0 rfl rfl rfl (op_assign ha0 rfl rfl) ?_
 intro a1 ha1; clear ha0 a0
 refine wpList_nil ?_
 refine then_n ?_
 refine wp_seq ?_
 refine wp_seq ?_
 refine wp_region_lit ?_
 refine wl_val ha1 rfl rfl rfl (op_move ha1 rfl rfl) ?_
 intro a2 ha2; clear ha1 a1
 refine wl_val ha2 rfl rfl rfl (op_len_sl ha2 rfl Try.underlying34 rfl h_bikes) ?_
 intro a3 ha3; clear ha2 a2
 refine wl_val ha3 rfl rfl rfl (op_gtr ha3 rfl rfl rfl) ?_
 intro a4 ha4; clear ha3 a3
 refine wpList_nil ?_
 refine then_n ?_
 by_cases c5 : (5 : Int) < ((bikes.length : Nat) : Int)
 ·
  rw [decide_eq_true c5] at ha4
  refine cond_t ha4 rfl ?_
  refine wp_seq ?_
  refine wp_region_lit ?_
  refine wl_val ha4 rfl rfl rfl (op_assign ha4 rfl rfl) ?_
  intro a6 ha6; clear ha4 a4
  refine wpList_nil ?_
  refine then_n ?_
  refine wp_ret ?_
  refine then_r ?_
  refine ret1 ha6 rfl rfl ?_
  clear ha6 a6
  exact ret_mk hx0 (congrArg Value.bool (by rw [bkB_big (by omega)]))
 ·
  rw [decide_eq_false c5] at ha4
  refine cond_f ha4 rfl ?_
  refine wp_skip ?_
  refine then_n ?_
  refine wp_seq ?_
  refine wp_seq ?_
  refine wp_region_lit ?_
  refine wl_val ha4 rfl rfl rfl (op_move ha4 rfl rfl) ?_
  intro a7 ha7; clear ha4 a4
  refine wl_val ha7 rfl rfl rfl (op_len_sl ha7 rfl Try.underlying34 rfl h_bikes) ?_
  intro a8 ha8; clear ha7 a7
  refine wl_val ha8 rfl rfl rfl (op_move ha8 rfl rfl) ?_
  intro a9 ha9; clear ha8 a8
  refine wpList_nil ?_
  refine then_n ?_
  refine wp_block ?_
  refine loop_inv (X := Nat) (fun (i : Nat) fr wl => Sl 32 fr [(0, v_bikes), (8, v_bikes), (9, .int .i64 ((bikes.length : Nat) : Int)), (10, .int .i64 ((i : Nat) : Int))] ∧ Ext w0 wl ∧ w0.heap.size ≤ wl.heap.size ∧ (i ≤ bikes.length) ∧ (upB (bkAt bikes) i = true)) (fun (i : Nat) => bikes.length - i) (0) ?_ ?_
  ·
   exact ⟨(Sl.cons_ ha9 rfl rfl (Sl.cons_ ha9 rfl rfl (Sl.cons_ ha9 rfl rfl (Sl.cons_ ha9 rfl (int_eq (by omega)) (Sl.nil_ ha9))))), hx0, (by omega), (by omega), (by rfl)⟩
  ·
   clear ha9 a9
   rintro i a12 w10 ⟨ha12, hx11, hzl13, hi, hA⟩
   have hzhx11 := hx11.size
   refine wp_seq ?_
   refine wp_region_lit ?_
   refine wl_val ha12 rfl rfl rfl (op_lss ha12 rfl rfl rfl) ?_
   intro a14 ha14; clear ha12 a12
   refine wpList_nil ?_
   refine then_n ?_
   refine wp_seq ?_
   by_cases c15 : ((i : Nat) : Int) < ((bikes.length : Nat) : Int)
   ·
    rw [decide_eq_true c15] at ha14
    refine cond_t ha14 rfl ?_
    refine wp_skip ?_
    refine then_n ?_
    refine wp_seq ?_
    refine wp_block ?_
    refine wp_seq ?_
    refine wp_region_lit ?_
    refine wl_val ha14 rfl rfl rfl (op_move ha14 rfl rfl) ?_
    intro a16 ha16; clear ha14 a14
    obtain ⟨x17, hx17⟩ := get_ex (xs := bikes) (j := i) (by omega)
    obtain ⟨p18, c19, hi20, hc21, hr22, hs23⟩ := Rds.at_ h_bikes hx17
    obtain ⟨rfl, b24⟩ := inv_shStr hr22
    refine wl_val ha16 rfl rfl rfl (op_indexAddr ha16 rfl Try.underlying34 ti9 rfl rfl (by omega) hi20) ?_
    intro a25 ha25; clear ha16 a16
    refine wl_val ha25 rfl rfl rfl (op_loadH ha25 rfl Try.underlying9 rfl rfl (hc21.ext hx11) rfl) ?_
    intro a26 ha26; clear ha25 a25
    refine wl_val ha26 rfl rfl rfl (op_assign ha26 rfl rfl) ?_
    intro a27 ha27; clear ha26 a26
    refine wl_val ha27 rfl rfl rfl (op_assign ha27 rfl rfl) ?_
    intro a28 ha28; clear ha27 a27
    refine wpList_nil ?_
    refine then_n ?_
    refine wp_seq ?_
    refine wp_region_lit ?_
    refine wl_val ha28 rfl rfl rfl (op_move ha28 rfl rfl) ?_
    intro a29 ha29; clear ha28 a28
    refine wl_callR ha29 rfl rfl rfl (op_call ha29 rfl cb56 rfl) (c_impl_IsWord _ x17 (by first | assumption | omega | (simp; omega) | (simp [mkN_length]; omega))) ?_
    rintro v30 w31 he32 rfl a33 ha33; clear ha29 a29
    have hx34 := hx11.trans' he32
    have hzhx34 := he32.size
    refine wl_val ha33 rfl rfl rfl (op_not ha33 rfl rfl) ?_
    intro a35 ha35; clear ha33 a33
    refine wl_val ha35 rfl rfl rfl (op_move ha35 rfl rfl) ?_
    intro a36 ha36; clear ha35 a35
    rcases Bool.eq_false_or_eq_true (wordB x17) with c37 | c37
    ·
     rw [c37] at ha36
     refine wl_val ha36 rfl rfl rfl (op_move ha36 rfl rfl) ?_
     intro a38 ha38; clear ha36 a36
     refine wl_val ha38 rfl rfl rfl (op_gtr ha38 rfl rfl rfl) ?_
     intro a39 ha39; clear ha38 a38
     refine wl_val ha39 rfl rfl rfl (op_move ha39 rfl rfl) ?_
     intro a40 ha40; clear ha39 a39
     by_cases c41 : (0 : Int) < ((i : Nat) : Int)
     ·
      rw [decide_eq_true c41] at ha40
      refine wl_val ha40 rfl rfl rfl (op_move ha40 rfl rfl) ?_
      intro a42 ha42; clear ha40 a40
      refine wl_val ha42 rfl rfl rfl (op_move ha42 rfl rfl) ?_
      intro a43 ha43; clear ha42 a42
      refine wl_val ha43 rfl rfl rfl ((op_sub ha43 rfl rfl rfl).int (IntWalk.i64_in _ (by omega))) ?_
      intro a44 ha44; clear ha43 a43
      obtain ⟨x45, hx45⟩ := get_ex (xs := bikes) (j := (i - 1)) (by omega)
      obtain ⟨p46, c47, hi48, hc49, hr50, hs51⟩ := Rds.at_ h_bikes hx45
      obtain ⟨rfl, b52⟩ := inv_shStr hr50
      refine wl_val ha44 rfl rfl rfl (op_indexAddr ha44 rfl Try.underlying34 ti9 rfl rfl (by omega) hi48) ?_
      intro a53 ha53; clear ha44 a44
      refine wl_val ha53 rfl rfl rfl (op_loadH ha53 rfl Try.underlying9 rfl rfl (hc49.ext hx34) rfl) ?_
      intro a54 ha54; clear ha53 a53
      refine wl_val ha54 rfl rfl rfl (op_move ha54 rfl rfl) ?_
      intro a55 ha55; clear ha54 a54
      refine wl_val ha55 rfl rfl rfl ((op_sgeq ha55 rfl rfl rfl).to (congrArg (fun b => Value.bool (!b)) (bytesLess_lt _ _))) ?_
      intro a56 ha56; clear ha55 a55
      refine wl_val ha56 rfl rfl rfl (op_pick_t ha56 rfl rfl rfl) ?_
      intro a57 ha57; clear ha56 a56
      refine wl_val ha57 rfl rfl rfl (op_pick_f ha57 rfl rfl rfl) ?_
      intro a58 ha58; clear ha57 a57
      refine wpList_nil ?_
      refine then_n ?_
      by_cases c59 : x45 < x17
      ·
       rw [decide_eq_true c59] at ha58
       refine cond_f ha58 rfl ?_
       refine wp_skip ?_
       refine block_n ?_
       refine then_n ?_
       refine wp_region_lit ?_
       refine wl_val ha58 rfl rfl rfl ((op_add ha58 rfl rfl rfl).int (IntWalk.i64_in _ (by omega))) ?_
       intro a60 ha60; clear ha58 a58
       refine wl_val ha60 rfl rfl rfl (op_move ha60 rfl rfl) ?_
       intro a61 ha61; clear ha60 a60
       refine wpList_nil ?_
       refine round_end (x := i) ((i + 1)) ?_ ?_
       ·
        refine ⟨(Sl.cons_ ha61 rfl rfl (Sl.cons_ ha61 rfl rfl (Sl.cons_ ha61 rfl rfl (Sl.cons_ ha61 rfl (int_eq (by omega)) (Sl.nil_ ha61))))), hx34, (by omega), (by omega), (by exact upB_step hA (bkAt_ok hx17 (by assumption) (by first | (left; omega) | (right; exact ⟨_, hx45, by assumption⟩))))⟩
       ·show (bikes.length - ((i + 1)) : Nat) < bikes.length - i; omega
      ·
       rw [decide_eq_false c59] at ha58
       refine cond_t ha58 rfl ?_
       refine wp_seq ?_
       refine wp_region_lit ?_
       refine wl_val ha58 rfl rfl rfl (op_assign ha58 rfl rfl) ?_
       intro a62 ha62; clear ha58 a58
       refine wpList_nil ?_
       refine then_n ?_
       refine wp_ret ?_
       refine block_r ?_
       refine then_r ?_
       refine then_r ?_
       refine block_r ?_
       refine then_r ?_
       refine ret1 ha62 rfl rfl ?_
       clear ha62 a62
       exact ret_mk hx34 (congrArg Value.bool (by rw [bkB_no hx17 (bkAt_no hx17 (by first | (left; assumption) | (right; exact ⟨by omega, _, hx45, by assumption⟩)))]))
     ·
      rw [decide_eq_false c41] at ha40
      refine wl_skip ha40 rfl rfl rfl ?_
      intro a63 ha63; clear ha40 a40
      refine wl_skip ha63 rfl rfl rfl ?_
      intro a64 ha64; clear ha63 a63
      refine wl_skip ha64 rfl rfl rfl ?_
      intro a65 ha65; clear ha64 a64
      refine wl_skip ha65 rfl rfl rfl ?_
      intro a66 ha66; clear ha65 a65
      refine wl_skip ha66 rfl rfl rfl ?_
      intro a67 ha67; clear ha66 a66
      refine wl_skip ha67 rfl rfl rfl ?_
      intro a68 ha68; clear ha67 a67
      refine wl_skip ha68 rfl rfl rfl ?_
      intro a69 ha69; clear ha68 a68
      refine wl_val ha69 rfl rfl rfl (op_pick_f ha69 rfl rfl rfl) ?_
      intro a70 ha70; clear ha69 a69
      refine wl_val ha70 rfl rfl rfl (op_pick_f ha70 rfl rfl rfl) ?_
      intro a71 ha71; clear ha70 a70
      refine wpList_nil ?_
      refine then_n ?_
      refine cond_f ha71 rfl ?_
      refine wp_skip ?_
      refine block_n ?_
      refine then_n ?_
      refine wp_region_lit ?_
      refine wl_val ha71 rfl rfl rfl ((op_add ha71 rfl rfl rfl).int (IntWalk.i64_in _ (by omega))) ?_
      intro a72 ha72; clear ha71 a71
      refine wl_val ha72 rfl rfl rfl (op_move ha72 rfl rfl) ?_
      intro a73 ha73; clear ha72 a72
      refine wpList_nil ?_
      refine round_end (x := i) ((i + 1)) ?_ ?_
      ·
       refine ⟨(Sl.cons_ ha73 rfl rfl (Sl.cons_ ha73 rfl rfl (Sl.cons_ ha73 rfl rfl (Sl.cons_ ha73 rfl (int_eq (by omega)) (Sl.nil_ ha73))))), hx34, (by omega), (by omega), (by exact upB_step hA (bkAt_ok hx17 (by assumption) (by first | (left; omega) | (right; exact ⟨_, hx17, by assumption⟩))))⟩
      ·show (bikes.length - ((i + 1)) : Nat) < bikes.length - i; omega
    ·
     rw [c37] at ha36
     refine wl_skip ha36 rfl rfl rfl ?_
     intro a74 ha74; clear ha36 a36
     refine wl_skip ha74 rfl rfl rfl ?_
     intro a75 ha75; clear ha74 a74
     refine wl_skip ha75 rfl rfl rfl ?_
     intro a76 ha76; clear ha75 a75
     refine wl_skip ha76 rfl rfl rfl ?_
     intro a77 ha77; clear ha76 a76
     refine wl_skip ha77 rfl rfl rfl ?_
     intro a78 ha78; clear ha77 a77
     refine wl_skip ha78 rfl rfl rfl ?_
     intro a79 ha79; clear ha78 a78
     refine wl_skip ha79 rfl rfl rfl ?_
     intro a80 ha80; clear ha79 a79
     refine wl_skip ha80 rfl rfl rfl ?_
     intro a81 ha81; clear ha80 a80
     refine wl_skip ha81 rfl rfl rfl ?_
     intro a82 ha82; clear ha81 a81
     refine wl_skip ha82 rfl rfl rfl ?_
     intro a83 ha83; clear ha82 a82
     refine wl_skip ha83 rfl rfl rfl ?_
     intro a84 ha84; clear ha83 a83
     refine wl_val ha84 rfl rfl rfl (op_pick_t ha84 rfl rfl rfl) ?_
     intro a85 ha85; clear ha84 a84
     refine wpList_nil ?_
     refine then_n ?_
     refine cond_t ha85 rfl ?_
     refine wp_seq ?_
     refine wp_region_lit ?_
     refine wl_val ha85 rfl rfl rfl (op_assign ha85 rfl rfl) ?_
     intro a86 ha86; clear ha85 a85
     refine wpList_nil ?_
     refine then_n ?_
     refine wp_ret ?_
     refine block_r ?_
     refine then_r ?_
     refine then_r ?_
     refine block_r ?_
     refine then_r ?_
     refine ret1 ha86 rfl rfl ?_
     clear ha86 a86
     exact ret_mk hx34 (congrArg Value.bool (by rw [bkB_no hx17 (bkAt_no hx17 (by first | (left; assumption) | (right; exact ⟨by omega, _, hx17, by assumption⟩)))]))
   ·
    rw [decide_eq_false c15] at ha14
    refine cond_f ha14 rfl ?_
    refine wp_exit ?_
    refine then_e ?_
    refine then_e ?_
    refine block_hit ?_
    refine then_n ?_
    refine wp_seq ?_
    refine wp_region_lit ?_
    refine wl_val ha14 rfl rfl rfl (op_assign ha14 rfl rfl) ?_
    intro a87 ha87; clear ha14 a14
    refine wpList_nil ?_
    refine then_n ?_
    refine wp_ret ?_
    refine ret1 ha87 rfl rfl ?_
    clear ha87 a87
    exact ret_mk hx11 (congrArg Value.bool (by have e : i = bikes.length := (by omega); rw [e] at hA; rw [bkB_ok (by omega) hA]))

theorem c_impl_ownerOf (w0 : World) (v_list : Value) (list : List (Str × Int × List Str)) {S_list : Nat → Prop} (bike : Str) (h_list : Rds shCust S_list w0 v_list list) :
  Calls Try.prog 59 #[v_list, St bike] w0 (Ret w0 (fun v _ => v = .int .i64 (owI list bike))) := by
 refine enter (N := 29) Try.func59 rfl rfl rfl ?_
 intro a0 ha0
 have hx0 := Ext.rfl' w0
 have hl_list := h_list.length_le
 refine wp_seq ?_
 refine wp_region_lit ?_
 refine wl_val ha0 rfl rfl rfl (op_assign ha0 rfl rfl) ?_
 intro a1 ha1; clear ha0 a0
 refine wpList_nil ?_
 refine then_n ?_
 refine wp_seq ?_
 refine wp_seq ?_
 refine wp_region_lit ?_
 refine wl_val ha1 rfl rfl rfl (op_move ha1 rfl rfl) ?_
 intro a2 ha2; clear ha1 a1
 refine wl_val ha2 rfl rfl rfl (op_len_sl ha2 rfl Try.underlying25 rfl h_list) ?_
 intro a3 ha3; clear ha2 a2
 refine wl_val ha3 rfl rfl rfl (op_move ha3 rfl rfl) ?_
 intro a4 ha4; clear ha3 a3
 refine wpList_nil ?_
 refine then_n ?_
 refine wp_block ?_
 refine loop_inv (X := Nat) (fun (i : Nat) fr wl => Sl 29 fr [(1, St bike), (9, v_list), (10, .int .i64 ((list.length : Nat) : Int)), (11, .int .i64 ((i : Nat) : Int))] ∧ Ext w0 wl ∧ w0.heap.size ≤ wl.heap.size ∧ (i ≤ list.length) ∧ (∀ (j : Nat) (y : Cust), j < i → list[j]? = some y → hasB bike y = false)) (fun (i : Nat) => list.length - i) (0) ?_ ?_
 ·
  exact ⟨(Sl.cons_ ha4 rfl rfl (Sl.cons_ ha4 rfl rfl (Sl.cons_ ha4 rfl rfl (Sl.cons_ ha4 rfl (int_eq (by omega)) (Sl.nil_ ha4))))), hx0, (by omega), (by omega), (by exact all_zero)⟩
 ·
  clear ha4 a4
  rintro i a7 w5 ⟨ha7, hx6, hzl8, hi, hA⟩
  have hzhx6 := hx6.size
  refine wp_seq ?_
  refine wp_region_lit ?_
  refine wl_val ha7 rfl rfl rfl (op_lss ha7 rfl rfl rfl) ?_
  intro a9 ha9; clear ha7 a7
  refine wpList_nil ?_
  refine then_n ?_
  refine wp_seq ?_
  by_cases c10 : ((i : Nat) : Int) < ((list.length : Nat) : Int)
  ·
   rw [decide_eq_true c10] at ha9
   refine cond_t ha9 rfl ?_
   refine wp_skip ?_
   refine then_n ?_
   refine wp_seq ?_
   refine wp_block ?_
   refine wp_seq ?_
   refine wp_region_lit ?_
   refine wl_val ha9 rfl rfl rfl (op_move ha9 rfl rfl) ?_
   intro a11 ha11; clear ha9 a9
   obtain ⟨x12, hx12⟩ := get_ex (xs := list) (j := i) (by omega)
   obtain ⟨p13, c14, hi15, hc16, hr17, hs18⟩ := Rds.at_ h_list hx12
   obtain ⟨v19, rfl, b20, b21, b22⟩ := inv_shCust hr17
   have hlb22 := b22.length_le
   refine wl_val ha11 rfl rfl rfl (op_indexAddr ha11 rfl Try.underlying25 ti55 rfl rfl (by omega) hi15) ?_
   intro a23 ha23; clear ha11 a11
   refine wl_val ha23 rfl rfl rfl (op_loadS ha23 rfl Try.underlying55 ti55 rfl rfl (hc16.ext hx6)) ?_
   intro a24 ha24; clear ha23 a23
   refine wl_eff ha24 rfl rfl rfl (op_alloc' rfl ti55 rfl) ?_
   rintro _ w26 ⟨rfl, he27, hb28, hz29⟩ a30 ha30; clear ha24 a24
   have hx31 := hx6.trans' he27
   have hzhx31 := he27.size
   refine wl_val ha30 rfl rfl rfl (op_assign ha30 rfl rfl) ?_
   intro a32 ha32; clear ha30 a30
   refine wl_effS ha32 rfl rfl (op_storeAll' ha32 rfl ti55 rfl rfl hb28 rfl rfl (by intro u hu; have hu : u ∈ ([St x12.1, .int .i64 x12.2.1, v19] : List Value) := hu; simp only [List.mem_cons, List.mem_nil_iff, or_false] at hu; rcases hu with rfl | rfl | rfl <;> first | rfl | exact b22.one) rfl) ?_
   rintro w33 ⟨hb35, hst34, hz36⟩
   have hx37 := hx31.stp hst34 (by intro q hq; cases hq; exact (by omega))
   have hzhx37 := hst34.size
   clear hb28
   refine wpList_nil ?_
   refine then_n ?_
   refine wp_seq ?_
   refine wp_region_lit ?_
   refine wl_val ha32 rfl rfl rfl (op_fieldAddr (sz := 0) ha32 rfl Try.underlying55 rfl rfl ti34 rfl) ?_
   intro a38 ha38; clear ha32 a32
   refine wl_val ha38 rfl rfl rfl (op_loadF (off := 2) ha38 rfl Try.underlying34 rfl rfl hb35.cells rfl) ?_
   intro a39 ha39; clear ha38 a38
   refine wl_val ha39 rfl rfl rfl (op_len_sl ha39 rfl Try.underlying34 rfl b22) ?_
   intro a40 ha40; clear ha39 a39
   refine wl_val ha40 rfl rfl rfl (op_move ha40 rfl rfl) ?_
   intro a41 ha41; clear ha40 a40
   refine wpList_nil ?_
   refine then_n ?_
   refine wp_block ?_
   refine loop_inv (X := Nat) (fun (k : Nat) fr wl => Sl 29 fr [(1, St bike), (5, .int .i64 ((i : Nat) : Int)), (9, v_list), (10, .int .i64 ((list.length : Nat) : Int)), (11, .int .i64 ((i : Nat) : Int)), (17, v19), (18, .int .i64 ((x12.2.2.length : Nat) : Int)), (19, .int .i64 ((k : Nat) : Int))] ∧ Ext w0 wl ∧ w33.heap.size ≤ wl.heap.size ∧ (k ≤ x12.2.2.length) ∧ (∀ (j : Nat) (y : Str), j < k → x12.2.2[j]? = some y → y ≠ bike)) (fun (k : Nat) => x12.2.2.length - k) (0) ?_ ?_
   ·
    exact ⟨(Sl.cons_ ha41 rfl rfl (Sl.cons_ ha41 rfl rfl (Sl.cons_ ha41 rfl rfl (Sl.cons_ ha41 rfl rfl (Sl.cons_ ha41 rfl rfl (Sl.cons_ ha41 rfl rfl (Sl.cons_ ha41 rfl rfl (Sl.cons_ ha41 rfl (int_eq (by omega)) (Sl.nil_ ha41))))))))), hx37, (by omega), (by omega), (by exact all_zero)⟩
   ·
    clear ha41 a41
    rintro k a44 w42 ⟨ha44, hx43, hzl45, hk, hB⟩
    have hzhx43 := hx43.size
    refine wp_seq ?_
    refine wp_region_lit ?_
    refine wl_val ha44 rfl rfl rfl (op_lss ha44 rfl rfl rfl) ?_
    intro a46 ha46; clear ha44 a44
    refine wpList_nil ?_
    refine then_n ?_
    refine wp_seq ?_
    by_cases c47 : ((k : Nat) : Int) < ((x12.2.2.length : Nat) : Int)
    ·
     rw [decide_eq_true c47] at ha46
     refine cond_t ha46 rfl ?_
     refine wp_skip ?_
     refine then_n ?_
     refine wp_seq ?_
     refine wp_block ?_
     refine wp_seq ?_
     refine wp_region_lit ?_
     obtain ⟨x48, hx48⟩ := get_ex (xs := x12.2.2) (j := k) (by omega)
     obtain ⟨p49, c50, hi51, hc52, hr53, hs54⟩ := Rds.at_ b22 hx48
     obtain ⟨rfl, b55⟩ := inv_shStr hr53
     refine wl_val ha46 rfl rfl rfl (op_indexAddr ha46 rfl Try.underlying34 ti9 rfl rfl (by omega) hi51) ?_
     intro a56 ha56; clear ha46 a46
     refine wl_val ha56 rfl rfl rfl (op_loadH ha56 rfl Try.underlying9 rfl rfl (hc52.ext hx43) rfl) ?_
     intro a57 ha57; clear ha56 a56
     refine wl_val ha57 rfl rfl rfl (op_assign ha57 rfl rfl) ?_
     intro a58 ha58; clear ha57 a57
     refine wpList_nil ?_
     refine then_n ?_
     refine wp_seq ?_
     refine wp_region_lit ?_
     refine wl_val ha58 rfl rfl rfl (op_move ha58 rfl rfl) ?_
     intro a59 ha59; clear ha58 a58
     refine wl_val ha59 rfl rfl rfl (op_move ha59 rfl rfl) ?_
     intro a60 ha60; clear ha59 a59
     refine wl_val ha60 rfl rfl rfl (op_seql ha60 rfl rfl rfl) ?_
     intro a61 ha61; clear ha60 a60
     refine wpList_nil ?_
     refine then_n ?_
     by_cases c62 : x48 = bike
     ·
      rw [decide_eq_true c62] at ha61
      refine cond_t ha61 rfl ?_
      refine wp_seq ?_
      refine wp_region_lit ?_
      refine wl_val ha61 rfl rfl rfl (op_move ha61 rfl rfl) ?_
      intro a63 ha63; clear ha61 a61
      refine wl_val ha63 rfl rfl rfl (op_assign ha63 rfl rfl) ?_
      intro a64 ha64; clear ha63 a63
      refine wpList_nil ?_
      refine then_n ?_
      refine wp_ret ?_
      refine block_r ?_
      refine then_r ?_
      refine then_r ?_
      refine block_r ?_
      refine block_r ?_
      refine then_r ?_
      refine then_r ?_
      refine block_r ?_
      refine then_r ?_
      refine ret1 ha64 rfl rfl ?_
      clear ha64 a64
      exact ret_mk hx43 (int_eq (by exact (fdF_hit hx12 (by have hm := List.mem_of_getElem? hx48; rw [c62] at hm; simp [hasB, hm]) hA).symm))
     ·
      rw [decide_eq_false c62] at ha61
      refine cond_f ha61 rfl ?_
      refine wp_skip ?_
      refine block_n ?_
      refine then_n ?_
      refine wp_region_lit ?_
      refine wl_val ha61 rfl rfl rfl ((op_add ha61 rfl rfl rfl).int (IntWalk.i64_in _ (by omega))) ?_
      intro a65 ha65; clear ha61 a61
      refine wl_val ha65 rfl rfl rfl (op_move ha65 rfl rfl) ?_
      intro a66 ha66; clear ha65 a65
      refine wpList_nil ?_
      refine round_end (x := k) ((k + 1)) ?_ ?_
      ·
       refine ⟨(Sl.cons_ ha66 rfl rfl (Sl.cons_ ha66 rfl rfl (Sl.cons_ ha66 rfl rfl (Sl.cons_ ha66 rfl rfl (Sl.cons_ ha66 rfl rfl (Sl.cons_ ha66 rfl rfl (Sl.cons_ ha66 rfl rfl (Sl.cons_ ha66 rfl (int_eq (by omega)) (Sl.nil_ ha66))))))))), hx43, (by omega), (by omega), (by exact all_snoc (p := fun y => y ≠ bike) hB hx48 (by assumption))⟩
      ·show (x12.2.2.length - ((k + 1)) : Nat) < x12.2.2.length - k; omega
    ·
     rw [decide_eq_false c47] at ha46
     refine cond_f ha46 rfl ?_
     refine wp_exit ?_
     refine then_e ?_
     refine then_e ?_
     refine block_hit ?_
     refine block_n ?_
     refine then_n ?_
     refine wp_region_lit ?_
     refine wl_val ha46 rfl rfl rfl ((op_add ha46 rfl rfl rfl).int (IntWalk.i64_in _ (by omega))) ?_
     intro a67 ha67; clear ha46 a46
     refine wl_val ha67 rfl rfl rfl (op_move ha67 rfl rfl) ?_
     intro a68 ha68; clear ha67 a67
     refine wpList_nil ?_
     refine round_end (x := i) ((i + 1)) ?_ ?_
     ·
      refine ⟨(Sl.cons_ ha68 rfl rfl (Sl.cons_ ha68 rfl rfl (Sl.cons_ ha68 rfl rfl (Sl.cons_ ha68 rfl (int_eq (by omega)) (Sl.nil_ ha68))))), hx43, (by omega), (by omega), (by exact all_snoc (p := fun y => hasB bike y = false) hA hx12 (by unfold hasB; rw [decide_eq_false]; intro hm; exact all_mem (p := fun y => y ≠ bike) hB (by omega) _ hm rfl))⟩
     ·show (list.length - ((i + 1)) : Nat) < list.length - i; omega
  ·
   rw [decide_eq_false c10] at ha9
   refine cond_f ha9 rfl ?_
   refine wp_exit ?_
   refine then_e ?_
   refine then_e ?_
   refine block_hit ?_
   refine then_n ?_
   refine wp_seq ?_
   refine wp_region_lit ?_
   refine wl_val ha9 rfl rfl rfl (op_assign ha9 rfl rfl) ?_
   intro a69 ha69; clear ha9 a9
   refine wpList_nil ?_
   refine then_n ?_
   refine wp_ret ?_
   refine ret1 ha69 rfl rfl ?_
   clear ha69 a69
   exact ret_mk hx6 (int_eq (by exact (fdF_none fun j y hj hy => hA j y (by omega) hy).symm))

theorem c_spec_l30Owner (w0 : World) (v_list : Value) (list : List (Str × Int × List Str)) {S_list : Nat → Prop} (bike : Str) (h_list : Rds shCust S_list w0 v_list list) :
  Calls Try.prog 54 #[v_list, St bike] w0 (Ret w0 (fun v _ => v = .int .i64 (owI list bike))) := by
 refine enter (N := 34) Try.func54 rfl rfl rfl ?_
 intro a0 ha0
 have hx0 := Ext.rfl' w0
 have hl_list := h_list.length_le
 refine wp_seq ?_
 refine wp_region_lit ?_
 refine wl_val ha0 rfl rfl rfl (op_assign ha0 rfl rfl) ?_
 intro a1 ha1; clear ha0 a0
 refine wpList_nil ?_
 refine then_n ?_
 refine wp_seq ?_
 refine wp_seq ?_
 refine wp_region_lit ?_
 refine wl_val ha1 rfl rfl rfl (op_assign ha1 rfl rfl) ?_
 intro a2 ha2; clear ha1 a1
 refine wpList_nil ?_
 refine then_n ?_
 refine wp_block ?_
 refine loop_inv (X := Nat) (fun (i : Nat) fr wl => Sl 34 fr [(0, v_list), (1, St bike), (5, .int .i64 ((i : Nat) : Int))] ∧ Ext w0 wl ∧ w0.heap.size ≤ wl.heap.size ∧ (i ≤ list.length) ∧ (∀ (j : Nat) (y : Cust), j < i → list[j]? = some y → hasB bike y = false)) (fun (i : Nat) => list.length - i) (0) ?_ ?_
 ·
  exact ⟨(Sl.cons_ ha2 rfl rfl (Sl.cons_ ha2 rfl rfl (Sl.cons_ ha2 rfl (int_eq (by omega)) (Sl.nil_ ha2)))), hx0, (by omega), (by omega), (by exact all_zero)⟩
 ·
  clear ha2 a2
  rintro i a5 w3 ⟨ha5, hx4, hzl6, hi, hA⟩
  have hzhx4 := hx4.size
  refine wp_seq ?_
  refine wp_seq ?_
  refine wp_region_lit ?_
  refine wl_val ha5 rfl rfl rfl (op_move ha5 rfl rfl) ?_
  intro a7 ha7; clear ha5 a5
  refine wl_val ha7 rfl rfl rfl (op_move ha7 rfl rfl) ?_
  intro a8 ha8; clear ha7 a7
  refine wl_val ha8 rfl rfl rfl (op_len_sl ha8 rfl Try.underlying25 rfl h_list) ?_
  intro a9 ha9; clear ha8 a8
  refine wl_val ha9 rfl rfl rfl (op_lss ha9 rfl rfl rfl) ?_
  intro a10 ha10; clear ha9 a9
  refine wpList_nil ?_
  refine then_n ?_
  by_cases c11 : ((i : Nat) : Int) < ((list.length : Nat) : Int)
  ·
   rw [decide_eq_true c11] at ha10
   refine cond_t ha10 rfl ?_
   refine wp_skip ?_
   refine then_n ?_
   refine wp_seq ?_
   refine wp_block ?_
   refine wp_seq ?_
   refine wp_region_lit ?_
   refine wl_val ha10 rfl rfl rfl (op_assign ha10 rfl rfl) ?_
   intro a12 ha12; clear ha10 a10
   refine wpList_nil ?_
   refine then_n ?_
   refine wp_block ?_
   obtain ⟨x13, hx13⟩ := get_ex (xs := list) (j := i) (by omega)
   obtain ⟨p14, c15, hi16, hc17, hr18, hs19⟩ := Rds.at_ h_list hx13
   obtain ⟨v20, rfl, b21, b22, b23⟩ := inv_shCust hr18
   have hlb23 := b23.length_le
   refine loop_inv (X := Nat) (fun (k : Nat) fr wl => Sl 34 fr [(0, v_list), (1, St bike), (5, .int .i64 ((i : Nat) : Int)), (6, .int .i64 ((k : Nat) : Int))] ∧ Ext w0 wl ∧ w3.heap.size ≤ wl.heap.size ∧ (k ≤ x13.2.2.length) ∧ (∀ (j : Nat) (y : Str), j < k → x13.2.2[j]? = some y → y ≠ bike)) (fun (k : Nat) => x13.2.2.length - k) (0) ?_ ?_
   ·
    exact ⟨(Sl.cons_ ha12 rfl rfl (Sl.cons_ ha12 rfl rfl (Sl.cons_ ha12 rfl rfl (Sl.cons_ ha12 rfl (int_eq (by omega)) (Sl.nil_ ha12))))), hx4, (by omega), (by omega), (by exact all_zero)⟩
   ·
    clear ha12 a12
    rintro k a26 w24 ⟨ha26, hx25, hzl27, hk, hB⟩
    have hzhx25 := hx25.size
    refine wp_seq ?_
    refine wp_seq ?_
    refine wp_region_lit ?_
    refine wl_val ha26 rfl rfl rfl (op_move ha26 rfl rfl) ?_
    intro a28 ha28; clear ha26 a26
    refine wl_val ha28 rfl rfl rfl (op_move ha28 rfl rfl) ?_
    intro a29 ha29; clear ha28 a28
    refine wl_val ha29 rfl rfl rfl (op_move ha29 rfl rfl) ?_
    intro a30 ha30; clear ha29 a29
    refine wl_val ha30 rfl rfl rfl (op_indexAddr ha30 rfl Try.underlying25 ti55 rfl rfl (by omega) hi16) ?_
    intro a31 ha31; clear ha30 a30
    refine wl_val ha31 rfl rfl rfl (op_fieldAddr (sz := 0) ha31 rfl Try.underlying55 rfl rfl ti34 rfl) ?_
    intro a32 ha32; clear ha31 a31
    refine wl_val ha32 rfl rfl rfl (op_loadF (off := 2) ha32 rfl Try.underlying34 rfl rfl (hc17.ext hx25) rfl) ?_
    intro a33 ha33; clear ha32 a32
    refine wl_val ha33 rfl rfl rfl (op_len_sl ha33 rfl Try.underlying34 rfl b23) ?_
    intro a34 ha34; clear ha33 a33
    refine wl_val ha34 rfl rfl rfl (op_lss ha34 rfl rfl rfl) ?_
    intro a35 ha35; clear ha34 a34
    refine wpList_nil ?_
    refine then_n ?_
    by_cases c36 : ((k : Nat) : Int) < ((x13.2.2.length : Nat) : Int)
    ·
     rw [decide_eq_true c36] at ha35
     refine cond_t ha35 rfl ?_
     refine wp_skip ?_
     refine then_n ?_
     refine wp_seq ?_
     refine wp_block ?_
     refine wp_seq ?_
     refine wp_region_lit ?_
     refine wl_val ha35 rfl rfl rfl (op_move ha35 rfl rfl) ?_
     intro a37 ha37; clear ha35 a35
     refine wl_val ha37 rfl rfl rfl (op_move ha37 rfl rfl) ?_
     intro a38 ha38; clear ha37 a37
     refine wl_val ha38 rfl rfl rfl (op_indexAddr ha38 rfl Try.underlying25 ti55 rfl rfl (by omega) hi16) ?_
     intro a39 ha39; clear ha38 a38
     refine wl_val ha39 rfl rfl rfl (op_fieldAddr (sz := 0) ha39 rfl Try.underlying55 rfl rfl ti34 rfl) ?_
     intro a40 ha40; clear ha39 a39
     refine wl_val ha40 rfl rfl rfl (op_loadF (off := 2) ha40 rfl Try.underlying34 rfl rfl (hc17.ext hx25) rfl) ?_
     intro a41 ha41; clear ha40 a40
     refine wl_val ha41 rfl rfl rfl (op_move ha41 rfl rfl) ?_
     intro a42 ha42; clear ha41 a41
     obtain ⟨x43, hx43⟩ := get_ex (xs := x13.2.2) (j := k) (by omega)
     obtain ⟨p44, c45, hi46, hc47, hr48, hs49⟩ := Rds.at_ b23 hx43
     obtain ⟨rfl, b50⟩ := inv_shStr hr48
     refine wl_val ha42 rfl rfl rfl (op_indexAddr ha42 rfl Try.underlying34 ti9 rfl rfl (by omega) hi46) ?_
     intro a51 ha51; clear ha42 a42
     refine wl_val ha51 rfl rfl rfl (op_loadH ha51 rfl Try.underlying9 rfl rfl (hc47.ext hx25) rfl) ?_
     intro a52 ha52; clear ha51 a51
     refine wl_val ha52 rfl rfl rfl (op_move ha52 rfl rfl) ?_
     intro a53 ha53; clear ha52 a52
     refine wl_val ha53 rfl rfl rfl (op_seql ha53 rfl rfl rfl) ?_
     intro a54 ha54; clear ha53 a53
     refine wpList_nil ?_
     refine then_n ?_
     by_cases c55 : x43 = bike
     ·
      rw [decide_eq_true c55] at ha54
      refine cond_t ha54 rfl ?_
      refine wp_seq ?_
      refine wp_region_lit ?_
      refine wl_val ha54 rfl rfl rfl (op_move ha54 rfl rfl) ?_
      intro a56 ha56; clear ha54 a54
      refine wl_val ha56 rfl rfl rfl (op_assign ha56 rfl rfl) ?_
      intro a57 ha57; clear ha56 a56
      refine wpList_nil ?_
      refine then_n ?_
      refine wp_ret ?_
      refine block_r ?_
      refine then_r ?_
      refine then_r ?_
      refine block_r ?_
      refine block_r ?_
      refine then_r ?_
      refine then_r ?_
      refine block_r ?_
      refine then_r ?_
      refine ret1 ha57 rfl rfl ?_
      clear ha57 a57
      exact ret_mk hx25 (int_eq (by exact (fdF_hit hx13 (by have hm := List.mem_of_getElem? hx43; rw [c55] at hm; simp [hasB, hm]) hA).symm))
     ·
      rw [decide_eq_false c55] at ha54
      refine cond_f ha54 rfl ?_
      refine wp_skip ?_
      refine block_n ?_
      refine then_n ?_
      refine wp_region_lit ?_
      refine wl_val ha54 rfl rfl rfl (op_move ha54 rfl rfl) ?_
      intro a58 ha58; clear ha54 a54
      refine wl_val ha58 rfl rfl rfl ((op_add ha58 rfl rfl rfl).int (IntWalk.i64_in _ (by omega))) ?_
      intro a59 ha59; clear ha58 a58
      refine wl_val ha59 rfl rfl rfl (op_assign ha59 rfl rfl) ?_
      intro a60 ha60; clear ha59 a59
      refine wpList_nil ?_
      refine round_end (x := k) ((k + 1)) ?_ ?_
      ·
       refine ⟨(Sl.cons_ ha60 rfl rfl (Sl.cons_ ha60 rfl rfl (Sl.cons_ ha60 rfl rfl (Sl.cons_ ha60 rfl (int_eq (by omega)) (Sl.nil_ ha60))))), hx25, (by omega), (by omega), (by exact all_snoc (p := fun y => y ≠ bike) hB hx43 (by assumption))⟩
      ·show (x13.2.2.length - ((k + 1)) : Nat) < x13.2.2.length - k; omega
    ·
     rw [decide_eq_false c36] at ha35
     refine cond_f ha35 rfl ?_
     refine wp_exit ?_
     refine then_e ?_
     refine then_e ?_
     refine block_hit ?_
     refine block_n ?_
     refine then_n ?_
     refine wp_region_lit ?_
     refine wl_val ha35 rfl rfl rfl (op_move ha35 rfl rfl) ?_
     intro a61 ha61; clear ha35 a35
     refine wl_val ha61 rfl rfl rfl ((op_add ha61 rfl rfl rfl).int (IntWalk.i64_in _ (by omega))) ?_
     intro a62 ha62; clear ha61 a61
     refine wl_val ha62 rfl rfl rfl (op_assign ha62 rfl rfl) ?_
     intro a63 ha63; clear ha62 a62
     refine wpList_nil ?_
     refine round_end (x := i) ((i + 1)) ?_ ?_
     ·
      refine ⟨(Sl.cons_ ha63 rfl rfl (Sl.cons_ ha63 rfl rfl (Sl.cons_ ha63 rfl (int_eq (by omega)) (Sl.nil_ ha63)))), hx25, (by omega), (by omega), (by exact all_snoc (p := fun y => hasB bike y = false) hA hx13 (by unfold hasB; rw [decide_eq_false]; intro hm; exact all_mem (p := fun y => y ≠ bike) hB (by omega) _ hm rfl))⟩
     ·show (list.length - ((i + 1)) : Nat) < list.length - i; omega
  ·
   rw [decide_eq_false c11] at ha10
   refine cond_f ha10 rfl ?_
   refine wp_exit ?_
   refine then_e ?_
   refine then_e ?_
   refine block_hit ?_
   refine then_n ?_
   refine wp_seq ?_
   refine wp_region_lit ?_
   refine wl_val ha10 rfl rfl rfl (op_assign ha10 rfl rfl) ?_
   intro a64 ha64; clear ha10 a10
   refine wpList_nil ?_
   refine then_n ?_
   refine wp_ret ?_
   refine ret1 ha64 rfl rfl ?_
   clear ha64 a64
   exact ret_mk hx4 (int_eq (by exact (fdF_none fun j y hj hy => hA j y (by omega) hy).symm))

theorem c_impl_findCustomer (w0 : World) (v_list : Value) (list : List (Str × Int × List Str)) {S_list : Nat → Prop} (name : Str) (h_list : Rds shCust S_list w0 v_list list) :
  Calls Try.prog 66 #[v_list, St name] w0 (Ret w0 (fun v _ => v = .int .i64 (fnI list name))) := by
 refine enter (N := 20) Try.func66 rfl rfl rfl ?_
 intro a0 ha0
 have hx0 := Ext.rfl' w0
 have hl_list := h_list.length_le
 refine wp_seq ?_
 refine wp_region_lit ?_
 refine wl_val ha0 rfl rfl rfl (op_assign ha0 rfl rfl) ?_
 intro a1 ha1; clear ha0 a0
 refine wpList_nil ?_
 refine then_n ?_
 refine wp_seq ?_
 refine wp_seq ?_
 refine wp_region_lit ?_
 refine wl_val ha1 rfl rfl rfl (op_move ha1 rfl rfl) ?_
 intro a2 ha2; clear ha1 a1
 refine wl_val ha2 rfl rfl rfl (op_len_sl ha2 rfl Try.underlying25 rfl h_list) ?_
 intro a3 ha3; clear ha2 a2
 refine wl_val ha3 rfl rfl rfl (op_move ha3 rfl rfl) ?_
 intro a4 ha4; clear ha3 a3
 refine wpList_nil ?_
 refine then_n ?_
 refine wp_block ?_
 refine loop_inv (X := Nat) (fun (i : Nat) fr wl => Sl 20 fr [(1, St name), (7, v_list), (8, .int .i64 ((list.length : Nat) : Int)), (9, .int .i64 ((i : Nat) : Int))] ∧ Ext w0 wl ∧ w0.heap.size ≤ wl.heap.size ∧ (i ≤ list.length) ∧ (∀ (j : Nat) (y : Str × Int × List Str), j < i → list[j]? = some y → (namB name) y = false)) (fun (i : Nat) => list.length - i) (0) ?_ ?_
 ·
  exact ⟨(Sl.cons_ ha4 rfl rfl (Sl.cons_ ha4 rfl rfl (Sl.cons_ ha4 rfl rfl (Sl.cons_ ha4 rfl (int_eq (by omega)) (Sl.nil_ ha4))))), hx0, (by omega), (by omega), (by exact all_zero)⟩
 ·
  clear ha4 a4
  rintro i a7 w5 ⟨ha7, hx6, hzl8, hi, hA⟩
  have hzhx6 := hx6.size
  refine wp_seq ?_
  refine wp_region_lit ?_
  refine wl_val ha7 rfl rfl rfl (op_lss ha7 rfl rfl rfl) ?_
  intro a9 ha9; clear ha7 a7
  refine wpList_nil ?_
  refine then_n ?_
  refine wp_seq ?_
  by_cases c10 : ((i : Nat) : Int) < ((list.length : Nat) : Int)
  ·
   rw [decide_eq_true c10] at ha9
   refine cond_t ha9 rfl ?_
   refine wp_skip ?_
   refine then_n ?_
   refine wp_seq ?_
   refine wp_block ?_
   refine wp_seq ?_
   refine wp_region_lit ?_
   refine wl_val ha9 rfl rfl rfl (op_move ha9 rfl rfl) ?_
   intro a11 ha11; clear ha9 a9
   obtain ⟨x12, hx12⟩ := get_ex (xs := list) (j := i) (by omega)
   obtain ⟨p13, c14, hi15, hc16, hr17, hs18⟩ := Rds.at_ h_list hx12
   obtain ⟨v19, rfl, b20, b21, b22⟩ := inv_shCust hr17
   have hlb22 := b22.length_le
   refine wl_val ha11 rfl rfl rfl (op_indexAddr ha11 rfl Try.underlying25 ti55 rfl rfl (by omega) hi15) ?_
   intro a23 ha23; clear ha11 a11
   refine wl_val ha23 rfl rfl rfl (op_loadS ha23 rfl Try.underlying55 ti55 rfl rfl (hc16.ext hx6)) ?_
   intro a24 ha24; clear ha23 a23
   refine wl_eff ha24 rfl rfl rfl (op_alloc' rfl ti55 rfl) ?_
   rintro _ w26 ⟨rfl, he27, hb28, hz29⟩ a30 ha30; clear ha24 a24
   have hx31 := hx6.trans' he27
   have hzhx31 := he27.size
   refine wl_val ha30 rfl rfl rfl (op_assign ha30 rfl rfl) ?_
   intro a32 ha32; clear ha30 a30
   refine wl_effS ha32 rfl rfl (op_storeAll' ha32 rfl ti55 rfl rfl hb28 rfl rfl (by intro u hu; have hu : u ∈ ([St x12.1, .int .i64 x12.2.1, v19] : List Value) := hu; simp only [List.mem_cons, List.mem_nil_iff, or_false] at hu; rcases hu with rfl | rfl | rfl <;> first | rfl | exact b22.one) rfl) ?_
   rintro w33 ⟨hb35, hst34, hz36⟩
   have hx37 := hx31.stp hst34 (by intro q hq; cases hq; exact (by omega))
   have hzhx37 := hst34.size
   clear hb28
   refine wpList_nil ?_
   refine then_n ?_
   refine wp_seq ?_
   refine wp_region_lit ?_
   refine wl_val ha32 rfl rfl rfl (op_fieldAddr (sz := 0) ha32 rfl Try.underlying55 rfl rfl ti9 rfl) ?_
   intro a38 ha38; clear ha32 a32
   refine wl_val ha38 rfl rfl rfl (op_loadF (off := 0) ha38 rfl Try.underlying9 rfl rfl hb35.cells rfl) ?_
   intro a39 ha39; clear ha38 a38
   refine wl_val ha39 rfl rfl rfl (op_move ha39 rfl rfl) ?_
   intro a40 ha40; clear ha39 a39
   refine wl_val ha40 rfl rfl rfl (op_seql ha40 rfl rfl rfl) ?_
   intro a41 ha41; clear ha40 a40
   refine wpList_nil ?_
   refine then_n ?_
   by_cases c42 : x12.1 = name
   ·
    rw [decide_eq_true c42] at ha41
    refine cond_t ha41 rfl ?_
    refine wp_seq ?_
    refine wp_region_lit ?_
    refine wl_val ha41 rfl rfl rfl (op_move ha41 rfl rfl) ?_
    intro a43 ha43; clear ha41 a41
    refine wl_val ha43 rfl rfl rfl (op_assign ha43 rfl rfl) ?_
    intro a44 ha44; clear ha43 a43
    refine wpList_nil ?_
    refine then_n ?_
    refine wp_ret ?_
    refine block_r ?_
    refine then_r ?_
    refine then_r ?_
    refine block_r ?_
    refine then_r ?_
    refine ret1 ha44 rfl rfl ?_
    clear ha44 a44
    exact ret_mk hx37 (int_eq (by exact (fdF_hit hx12 (by simp [namB, c10, c42]) hA).symm))
   ·
    rw [decide_eq_false c42] at ha41
    refine cond_f ha41 rfl ?_
    refine wp_skip ?_
    refine block_n ?_
    refine then_n ?_
    refine wp_region_lit ?_
    refine wl_val ha41 rfl rfl rfl ((op_add ha41 rfl rfl rfl).int (IntWalk.i64_in _ (by omega))) ?_
    intro a45 ha45; clear ha41 a41
    refine wl_val ha45 rfl rfl rfl (op_move ha45 rfl rfl) ?_
    intro a46 ha46; clear ha45 a45
    refine wpList_nil ?_
    refine round_end (x := i) ((i + 1)) ?_ ?_
    ·
     refine ⟨(Sl.cons_ ha46 rfl rfl (Sl.cons_ ha46 rfl rfl (Sl.cons_ ha46 rfl rfl (Sl.cons_ ha46 rfl (int_eq (by omega)) (Sl.nil_ ha46))))), hx37, (by omega), (by omega), (by exact all_snoc (p := fun y => (namB name) y = false) hA hx12 (by simp [namB, c10, c42]))⟩
    ·show (list.length - ((i + 1)) : Nat) < list.length - i; omega
  ·
   rw [decide_eq_false c10] at ha9
   refine cond_f ha9 rfl ?_
   refine wp_exit ?_
   refine then_e ?_
   refine then_e ?_
   refine block_hit ?_
   refine then_n ?_
   refine wp_seq ?_
   refine wp_region_lit ?_
   refine wl_val ha9 rfl rfl rfl (op_assign ha9 rfl rfl) ?_
   intro a47 ha47; clear ha9 a9
   refine wpList_nil ?_
   refine then_n ?_
   refine wp_ret ?_
   refine ret1 ha47 rfl rfl ?_
   clear ha47 a47
   exact ret_mk hx6 (int_eq (by exact (fdF_none fun j y hj hy => hA j y (by omega) hy).symm))

theorem c_spec_l30Find (w0 : World) (v_list : Value) (list : List (Str × Int × List Str)) {S_list : Nat → Prop} (name : Str) (h_list : Rds shCust S_list w0 v_list list) :
  Calls Try.prog 64 #[v_list, St name] w0 (Ret w0 (fun v _ => v = .int .i64 (fnI list name))) := by
 refine enter (N := 20) Try.func64 rfl rfl rfl ?_
 intro a0 ha0
 have hx0 := Ext.rfl' w0
 have hl_list := h_list.length_le
 refine wp_seq ?_
 refine wp_region_lit ?_
 refine wl_val ha0 rfl rfl rfl (op_assign ha0 rfl rfl) ?_
 intro a1 ha1; clear ha0 a0
 refine wpList_nil ?_
 refine then_n ?_
 refine wp_seq ?_
 refine wp_seq ?_
 refine wp_region_lit ?_
 refine wl_val ha1 rfl rfl rfl (op_assign ha1 rfl rfl) ?_
 intro a2 ha2; clear ha1 a1
 refine wpList_nil ?_
 refine then_n ?_
 refine wp_block ?_
 refine loop_inv (X := Nat) (fun (i : Nat) fr wl => Sl 20 fr [(0, v_list), (1, St name), (5, .int .i64 ((i : Nat) : Int))] ∧ Ext w0 wl ∧ w0.heap.size ≤ wl.heap.size ∧ (i ≤ list.length) ∧ (∀ (j : Nat) (y : Str × Int × List Str), j < i → list[j]? = some y → (namB name) y = false)) (fun (i : Nat) => list.length - i) (0) ?_ ?_
 ·
  exact ⟨(Sl.cons_ ha2 rfl rfl (Sl.cons_ ha2 rfl rfl (Sl.cons_ ha2 rfl (int_eq (by omega)) (Sl.nil_ ha2)))), hx0, (by omega), (by omega), (by exact all_zero)⟩
 ·
  clear ha2 a2
  rintro i a5 w3 ⟨ha5, hx4, hzl6, hi, hA⟩
  have hzhx4 := hx4.size
  refine wp_seq ?_
  refine wp_seq ?_
  refine wp_region_lit ?_
  refine wl_val ha5 rfl rfl rfl (op_move ha5 rfl rfl) ?_
  intro a7 ha7; clear ha5 a5
  refine wl_val ha7 rfl rfl rfl (op_move ha7 rfl rfl) ?_
  intro a8 ha8; clear ha7 a7
  refine wl_val ha8 rfl rfl rfl (op_len_sl ha8 rfl Try.underlying25 rfl h_list) ?_
  intro a9 ha9; clear ha8 a8
  refine wl_val ha9 rfl rfl rfl (op_lss ha9 rfl rfl rfl) ?_
  intro a10 ha10; clear ha9 a9
  refine wpList_nil ?_
  refine then_n ?_
  by_cases c11 : ((i : Nat) : Int) < ((list.length : Nat) : Int)
  ·
   rw [decide_eq_true c11] at ha10
   refine cond_t ha10 rfl ?_
   refine wp_skip ?_
   refine then_n ?_
   refine wp_seq ?_
   refine wp_block ?_
   refine wp_seq ?_
   refine wp_region_lit ?_
   refine wl_val ha10 rfl rfl rfl (op_move ha10 rfl rfl) ?_
   intro a12 ha12; clear ha10 a10
   refine wl_val ha12 rfl rfl rfl (op_move ha12 rfl rfl) ?_
   intro a13 ha13; clear ha12 a12
   obtain ⟨x14, hx14⟩ := get_ex (xs := list) (j := i) (by omega)
   obtain ⟨p15, c16, hi17, hc18, hr19, hs20⟩ := Rds.at_ h_list hx14
   obtain ⟨v21, rfl, b22, b23, b24⟩ := inv_shCust hr19
   have hlb24 := b24.length_le
   refine wl_val ha13 rfl rfl rfl (op_indexAddr ha13 rfl Try.underlying25 ti55 rfl rfl (by omega) hi17) ?_
   intro a25 ha25; clear ha13 a13
   refine wl_val ha25 rfl rfl rfl (op_fieldAddr (sz := 0) ha25 rfl Try.underlying55 rfl rfl ti9 rfl) ?_
   intro a26 ha26; clear ha25 a25
   refine wl_val ha26 rfl rfl rfl (op_loadF (off := 0) ha26 rfl Try.underlying9 rfl rfl (hc18.ext hx4) rfl) ?_
   intro a27 ha27; clear ha26 a26
   refine wl_val ha27 rfl rfl rfl (op_move ha27 rfl rfl) ?_
   intro a28 ha28; clear ha27 a27
   refine wl_val ha28 rfl rfl rfl (op_seql ha28 rfl rfl rfl) ?_
   intro a29 ha29; clear ha28 a28
   refine wpList_nil ?_
   refine then_n ?_
   by_cases c30 : x14.1 = name
   ·
    rw [decide_eq_true c30] at ha29
    refine cond_t ha29 rfl ?_
    refine wp_seq ?_
    refine wp_region_lit ?_
    refine wl_val ha29 rfl rfl rfl (op_move ha29 rfl rfl) ?_
    intro a31 ha31; clear ha29 a29
    refine wl_val ha31 rfl rfl rfl (op_assign ha31 rfl rfl) ?_
    intro a32 ha32; clear ha31 a31
    refine wpList_nil ?_
    refine then_n ?_
    refine wp_ret ?_
    refine block_r ?_
    refine then_r ?_
    refine then_r ?_
    refine block_r ?_
    refine then_r ?_
    refine ret1 ha32 rfl rfl ?_
    clear ha32 a32
    exact ret_mk hx4 (int_eq (by exact (fdF_hit hx14 (by simp [namB, c11, c30]) hA).symm))
   ·
    rw [decide_eq_false c30] at ha29
    refine cond_f ha29 rfl ?_
    refine wp_skip ?_
    refine block_n ?_
    refine then_n ?_
    refine wp_region_lit ?_
    refine wl_val ha29 rfl rfl rfl (op_move ha29 rfl rfl) ?_
    intro a33 ha33; clear ha29 a29
    refine wl_val ha33 rfl rfl rfl ((op_add ha33 rfl rfl rfl).int (IntWalk.i64_in _ (by omega))) ?_
    intro a34 ha34; clear ha33 a33
    refine wl_val ha34 rfl rfl rfl (op_assign ha34 rfl rfl) ?_
    intro a35 ha35; clear ha34 a34
    refine wpList_nil ?_
    refine round_end (x := i) ((i + 1)) ?_ ?_
    ·
     refine ⟨(Sl.cons_ ha35 rfl rfl (Sl.cons_ ha35 rfl rfl (Sl.cons_ ha35 rfl (int_eq (by omega)) (Sl.nil_ ha35)))), hx4, (by omega), (by omega), (by exact all_snoc (p := fun y => (namB name) y = false) hA hx14 (by simp [namB, c11, c30]))⟩
    ·show (list.length - ((i + 1)) : Nat) < list.length - i; omega
  ·
   rw [decide_eq_false c11] at ha10
   refine cond_f ha10 rfl ?_
   refine wp_exit ?_
   refine then_e ?_
   refine then_e ?_
   refine block_hit ?_
   refine then_n ?_
   refine wp_seq ?_
   refine wp_region_lit ?_
   refine wl_val ha10 rfl rfl rfl (op_assign ha10 rfl rfl) ?_
   intro a36 ha36; clear ha10 a10
   refine wpList_nil ?_
   refine then_n ?_
   refine wp_ret ?_
   refine ret1 ha36 rfl rfl ?_
   clear ha36 a36
   exact ret_mk hx4 (int_eq (by exact (fdF_none fun j y hj hy => hA j y (by omega) hy).symm))

theorem c_impl_AreCustomers (w0 : World) (v_list : Value) (list : List (Str × Int × List Str)) {S_list : Nat → Prop} (h_list : Rds shCust S_list w0 v_list list) (g0 : list.length ≤ 1048576) :
  Calls Try.prog 17 #[v_list] w0 (Ret w0 (fun v _ => v = .bool (cuB list))) := by
 refine enter (N := 63) Try.func17 rfl rfl rfl ?_
 intro a0 ha0
 have hx0 := Ext.rfl' w0
 have hl_list := h_list.length_le
 refine wp_seq ?_
 refine wp_region_lit ?_
 refine wl_val ha0 rfl rfl rfl (op_assign ha0 rfl rfl) ?_
 intro a1 ha1; clear ha0 a0
 refine wpList_nil ?_
 refine then_n ?_
 refine wp_seq ?_
 refine wp_seq ?_
 refine wp_region_lit ?_
 refine wl_val ha1 rfl rfl rfl (op_move ha1 rfl rfl) ?_
 intro a2 ha2; clear ha1 a1
 refine wl_val ha2 rfl rfl rfl (op_len_sl ha2 rfl Try.underlying25 rfl h_list) ?_
 intro a3 ha3; clear ha2 a2
 refine wl_val ha3 rfl rfl rfl (op_gtr ha3 rfl rfl rfl) ?_
 intro a4 ha4; clear ha3 a3
 refine wpList_nil ?_
 refine then_n ?_
 by_cases c5 : (20 : Int) < ((list.length : Nat) : Int)
 ·
  rw [decide_eq_true c5] at ha4
  refine cond_t ha4 rfl ?_
  refine wp_seq ?_
  refine wp_region_lit ?_
  refine wl_val ha4 rfl rfl rfl (op_assign ha4 rfl rfl) ?_
  intro a6 ha6; clear ha4 a4
  refine wpList_nil ?_
  refine then_n ?_
  refine wp_ret ?_
  refine then_r ?_
  refine ret1 ha6 rfl rfl ?_
  clear ha6 a6
  exact ret_mk hx0 (congrArg Value.bool (by rw [cuB_big (by omega)]))
 ·
  rw [decide_eq_false c5] at ha4
  refine cond_f ha4 rfl ?_
  refine wp_skip ?_
  refine then_n ?_
  refine wp_seq ?_
  refine wp_seq ?_
  refine wp_region_lit ?_
  refine wl_val ha4 rfl rfl rfl (op_move ha4 rfl rfl) ?_
  intro a7 ha7; clear ha4 a4
  refine wl_val ha7 rfl rfl rfl (op_len_sl ha7 rfl Try.underlying25 rfl h_list) ?_
  intro a8 ha8; clear ha7 a7
  refine wl_val ha8 rfl rfl rfl (op_move ha8 rfl rfl) ?_
  intro a9 ha9; clear ha8 a8
  refine wpList_nil ?_
  refine then_n ?_
  refine wp_block ?_
  refine loop_inv (X := Nat) (fun (i : Nat) fr wl => Sl 63 fr [(0, v_list), (10, v_list), (11, .int .i64 ((list.length : Nat) : Int)), (12, .int .i64 ((i : Nat) : Int))] ∧ Ext w0 wl ∧ w0.heap.size ≤ wl.heap.size ∧ (i ≤ list.length) ∧ (upB (cuAt list) i = true)) (fun (i : Nat) => list.length - i) (0) ?_ ?_
  ·
   exact ⟨(Sl.cons_ ha9 rfl rfl (Sl.cons_ ha9 rfl rfl (Sl.cons_ ha9 rfl rfl (Sl.cons_ ha9 rfl (int_eq (by omega)) (Sl.nil_ ha9))))), hx0, (by omega), (by omega), (by rfl)⟩
  ·
   clear ha9 a9
   rintro i a12 w10 ⟨ha12, hx11, hzl13, hi, hA⟩
   have hzhx11 := hx11.size
   refine wp_seq ?_
   refine wp_region_lit ?_
   refine wl_val ha12 rfl rfl rfl (op_lss ha12 rfl rfl rfl) ?_
   intro a14 ha14; clear ha12 a12
   refine wpList_nil ?_
   refine then_n ?_
   refine wp_seq ?_
   by_cases c15 : ((i : Nat) : Int) < ((list.length : Nat) : Int)
   ·
    rw [decide_eq_true c15] at ha14
    refine cond_t ha14 rfl ?_
    refine wp_skip ?_
    refine then_n ?_
    refine wp_seq ?_
    refine wp_block ?_
    refine wp_seq ?_
    refine wp_region_lit ?_
    refine wl_val ha14 rfl rfl rfl (op_move ha14 rfl rfl) ?_
    intro a16 ha16; clear ha14 a14
    obtain ⟨x17, hx17⟩ := get_ex (xs := list) (j := i) (by omega)
    obtain ⟨p18, c19, hi20, hc21, hr22, hs23⟩ := Rds.at_ h_list hx17
    obtain ⟨v24, rfl, b25, b26, b27⟩ := inv_shCust hr22
    have hlb27 := b27.length_le
    refine wl_val ha16 rfl rfl rfl (op_indexAddr ha16 rfl Try.underlying25 ti55 rfl rfl (by omega) hi20) ?_
    intro a28 ha28; clear ha16 a16
    refine wl_val ha28 rfl rfl rfl (op_loadS ha28 rfl Try.underlying55 ti55 rfl rfl (hc21.ext hx11)) ?_
    intro a29 ha29; clear ha28 a28
    refine wl_eff ha29 rfl rfl rfl (op_alloc' rfl ti55 rfl) ?_
    rintro _ w31 ⟨rfl, he32, hb33, hz34⟩ a35 ha35; clear ha29 a29
    have hx36 := hx11.trans' he32
    have hzhx36 := he32.size
    refine wl_val ha35 rfl rfl rfl (op_assign ha35 rfl rfl) ?_
    intro a37 ha37; clear ha35 a35
    refine wl_effS ha37 rfl rfl (op_storeAll' ha37 rfl ti55 rfl rfl hb33 rfl rfl (by intro u hu; have hu : u ∈ ([St x17.1, .int .i64 x17.2.1, v24] : List Value) := hu; simp only [List.mem_cons, List.mem_nil_iff, or_false] at hu; rcases hu with rfl | rfl | rfl <;> first | rfl | exact b27.one) rfl) ?_
    rintro w38 ⟨hb40, hst39, hz41⟩
    have hx42 := hx36.stp hst39 (by intro q hq; cases hq; exact (by omega))
    have hzhx42 := hst39.size
    clear hb33
    refine wpList_nil ?_
    refine then_n ?_
    refine wp_seq ?_
    refine wp_seq ?_
    refine dr_enter Ext follows_mixed ?_
    intro w43 he44
    have hx45 := hx42.trans' he44
    have hzhx45 := he44.size
    replace hb40 := hb40.ext he44
    have hs46 : Ext w43 w43 := Ext.rfl' _
    refine dr_val (i := 0) ha37 rfl (by kernel_rfl) (by kernel_rfl) (by kernel_rfl) rfl rfl rfl hs46 (fun w' hw' => op_fieldAddr (sz := 0) ha37 rfl Try.underlying55 rfl rfl ti9 rfl) ?_
    intro a47 ha47; clear ha37 a37
    refine dr_val (i := 1) ha47 rfl (by kernel_rfl) (by kernel_rfl) (by kernel_rfl) rfl rfl rfl hs46 (fun w' hw' => op_loadF (off := 0) ha47 rfl Try.underlying9 rfl rfl (hb40.ext hw').cells rfl) ?_
    intro a48 ha48; clear ha47 a47
    refine dr_one (i := 2) (by kernel_rfl) ?_
    refine po_callR ha48 rfl rfl rfl rfl (op_call ha48 rfl cb56 rfl) (c_impl_IsWord _ x17.1 (by first | assumption | omega | (simp; omega) | (simp [mkN_length]; omega))) ?_
    rintro v49 w50 he51 rfl a52 ha52; clear ha48 a48
    have hs53 := hs46.trans' he51
    have hx54 := hx45.trans' he51
    have hzhx54 := he51.size
    refine ⟨hs53, ?_⟩
    refine dr_val (i := 3) ha52 rfl (by kernel_rfl) (by kernel_rfl) (by kernel_rfl) rfl rfl rfl hs53 (fun w' hw' => op_not ha52 rfl rfl) ?_
    intro a55 ha55; clear ha52 a52
    refine dr_val (i := 4) ha55 rfl (by kernel_rfl) (by kernel_rfl) (by kernel_rfl) rfl rfl rfl hs53 (fun w' hw' => op_move ha55 rfl rfl) ?_
    intro a56 ha56; clear ha55 a55
    rcases Bool.eq_false_or_eq_true (wordB x17.1) with c57 | c57
    ·
     rw [c57] at ha56
     refine dr_val (i := 5) ha56 rfl (by kernel_rfl) (by kernel_rfl) (by kernel_rfl) rfl rfl rfl hs53 (fun w' hw' => op_fieldAddr (sz := 0) ha56 rfl Try.underlying55 rfl rfl ti2 rfl) ?_
     intro a58 ha58; clear ha56 a56
     refine dr_val (i := 6) ha58 rfl (by kernel_rfl) (by kernel_rfl) (by kernel_rfl) rfl rfl rfl hs53 (fun w' hw' => op_loadF (off := 1) ha58 rfl Try.underlying2 rfl rfl (hb40.ext hw').cells rfl) ?_
     intro a59 ha59; clear ha58 a58
     refine dr_one (i := 7) (by kernel_rfl) ?_
     refine po_callR ha59 rfl rfl rfl rfl (op_call ha59 rfl cb57 rfl) (c_impl_isDate _ x17.2.1 ) ?_
     rintro v60 w61 he62 rfl a63 ha63; clear ha59 a59
     have hs64 := hs53.trans' he62
     have hx65 := hx54.trans' he62
     have hzhx65 := he62.size
     refine ⟨hs64, ?_⟩
     refine dr_val (i := 8) ha63 rfl (by kernel_rfl) (by kernel_rfl) (by kernel_rfl) rfl rfl rfl hs64 (fun w' hw' => op_not ha63 rfl rfl) ?_
     intro a66 ha66; clear ha63 a63
     refine dr_val (i := 9) ha66 rfl (by kernel_rfl) (by kernel_rfl) (by kernel_rfl) rfl rfl rfl hs64 (fun w' hw' => op_pick_f ha66 rfl rfl rfl) ?_
     intro a67 ha67; clear ha66 a66
     refine dr_val (i := 10) ha67 rfl (by kernel_rfl) (by kernel_rfl) (by kernel_rfl) rfl rfl rfl hs64 (fun w' hw' => op_move ha67 rfl rfl) ?_
     intro a68 ha68; clear ha67 a67
     rcases Bool.eq_false_or_eq_true (dateB x17.2.1) with c69 | c69
     ·
      rw [c69] at ha68
      refine dr_val (i := 11) ha68 rfl (by kernel_rfl) (by kernel_rfl) (by kernel_rfl) rfl rfl rfl hs64 (fun w' hw' => op_fieldAddr (sz := 0) ha68 rfl Try.underlying55 rfl rfl ti34 rfl) ?_
      intro a70 ha70; clear ha68 a68
      refine dr_val (i := 12) ha70 rfl (by kernel_rfl) (by kernel_rfl) (by kernel_rfl) rfl rfl rfl hs64 (fun w' hw' => op_loadF (off := 2) ha70 rfl Try.underlying34 rfl rfl (hb40.ext hw').cells rfl) ?_
      intro a71 ha71; clear ha70 a70
      refine dr_one (i := 13) (by kernel_rfl) ?_
      refine po_callR ha71 rfl rfl rfl rfl (op_call ha71 rfl cb58 rfl) (c_impl_areBikes _ v24 x17.2.2 (b27.ext pos_shStr (hx45.trans' hs64))) ?_
      rintro v72 w73 he74 rfl a75 ha75; clear ha71 a71
      have hs76 := hs64.trans' he74
      have hx77 := hx65.trans' he74
      have hzhx77 := he74.size
      refine ⟨hs76, ?_⟩
      refine dr_val (i := 14) ha75 rfl (by kernel_rfl) (by kernel_rfl) (by kernel_rfl) rfl rfl rfl hs76 (fun w' hw' => op_not ha75 rfl rfl) ?_
      intro a78 ha78; clear ha75 a75
      refine dr_val (i := 15) ha78 rfl (by kernel_rfl) (by kernel_rfl) (by kernel_rfl) rfl rfl rfl hs76 (fun w' hw' => op_pick_f ha78 rfl rfl rfl) ?_
      intro a79 ha79; clear ha78 a78
      refine dr_val (i := 16) ha79 rfl (by kernel_rfl) (by kernel_rfl) (by kernel_rfl) rfl rfl rfl hs76 (fun w' hw' => op_move ha79 rfl rfl) ?_
      intro a80 ha80; clear ha79 a79
      rcases Bool.eq_false_or_eq_true (bkB x17.2.2) with c81 | c81
      ·
       rw [c81] at ha80
       refine dr_val (i := 17) ha80 rfl (by kernel_rfl) (by kernel_rfl) (by kernel_rfl) rfl rfl rfl hs76 (fun w' hw' => op_move ha80 rfl rfl) ?_
       intro a82 ha82; clear ha80 a80
       refine dr_val (i := 18) ha82 rfl (by kernel_rfl) (by kernel_rfl) (by kernel_rfl) rfl rfl rfl hs76 (fun w' hw' => op_gtr ha82 rfl rfl rfl) ?_
       intro a83 ha83; clear ha82 a82
       refine dr_val (i := 19) ha83 rfl (by kernel_rfl) (by kernel_rfl) (by kernel_rfl) rfl rfl rfl hs76 (fun w' hw' => op_move ha83 rfl rfl) ?_
       intro a84 ha84; clear ha83 a83
       by_cases c85 : (0 : Int) < ((i : Nat) : Int)
       ·
        rw [decide_eq_true c85] at ha84
        refine dr_val (i := 20) ha84 rfl (by kernel_rfl) (by kernel_rfl) (by kernel_rfl) rfl rfl rfl hs76 (fun w' hw' => op_move ha84 rfl rfl) ?_
        intro a86 ha86; clear ha84 a84
        refine dr_val (i := 21) ha86 rfl (by kernel_rfl) (by kernel_rfl) (by kernel_rfl) rfl rfl rfl hs76 (fun w' hw' => op_move ha86 rfl rfl) ?_
        intro a87 ha87; clear ha86 a86
        refine dr_val (i := 22) ha87 rfl (by kernel_rfl) (by kernel_rfl) (by kernel_rfl) rfl rfl rfl hs76 (fun w' hw' => (op_sub ha87 rfl rfl rfl).int (IntWalk.i64_in _ (by omega))) ?_
        intro a88 ha88; clear ha87 a87
        obtain ⟨x89, hx89⟩ := get_ex (xs := list) (j := (i - 1)) (by omega)
        obtain ⟨p90, c91, hi92, hc93, hr94, hs95⟩ := Rds.at_ h_list hx89
        obtain ⟨v96, rfl, b97, b98, b99⟩ := inv_shCust hr94
        have hlb99 := b99.length_le
        refine dr_val (i := 23) ha88 rfl (by kernel_rfl) (by kernel_rfl) (by kernel_rfl) rfl rfl rfl hs76 (fun w' hw' => op_indexAddr ha88 rfl Try.underlying25 ti55 rfl rfl (by omega) hi92) ?_
        intro a100 ha100; clear ha88 a88
        refine dr_val (i := 24) ha100 rfl (by kernel_rfl) (by kernel_rfl) (by kernel_rfl) rfl rfl rfl hs76 (fun w' hw' => op_fieldAddr (sz := 0) ha100 rfl Try.underlying55 rfl rfl ti9 rfl) ?_
        intro a101 ha101; clear ha100 a100
        refine dr_val (i := 25) ha101 rfl (by kernel_rfl) (by kernel_rfl) (by kernel_rfl) rfl rfl rfl hs76 (fun w' hw' => op_loadF (off := 0) ha101 rfl Try.underlying9 rfl rfl (hc93.ext (hx45.trans' hw')) rfl) ?_
        intro a102 ha102; clear ha101 a101
        refine dr_val (i := 26) ha102 rfl (by kernel_rfl) (by kernel_rfl) (by kernel_rfl) rfl rfl rfl hs76 (fun w' hw' => op_fieldAddr (sz := 0) ha102 rfl Try.underlying55 rfl rfl ti9 rfl) ?_
        intro a103 ha103; clear ha102 a102
        refine dr_val (i := 27) ha103 rfl (by kernel_rfl) (by kernel_rfl) (by kernel_rfl) rfl rfl rfl hs76 (fun w' hw' => op_loadF (off := 0) ha103 rfl Try.underlying9 rfl rfl (hb40.ext hw').cells rfl) ?_
        intro a104 ha104; clear ha103 a103
        refine dr_val (i := 28) ha104 rfl (by kernel_rfl) (by kernel_rfl) (by kernel_rfl) rfl rfl rfl hs76 (fun w' hw' => (op_sgeq ha104 rfl rfl rfl).to (congrArg (fun b => Value.bool (!b)) (bytesLess_lt _ _))) ?_
        intro a105 ha105; clear ha104 a104
        refine dr_val (i := 29) ha105 rfl (by kernel_rfl) (by kernel_rfl) (by kernel_rfl) rfl rfl rfl hs76 (fun w' hw' => op_pick_t ha105 rfl rfl rfl) ?_
        intro a106 ha106; clear ha105 a105
        refine dr_val (i := 30) ha106 rfl (by kernel_rfl) (by kernel_rfl) (by kernel_rfl) rfl rfl rfl hs76 (fun w' hw' => op_pick_f ha106 rfl rfl rfl) ?_
        intro a107 ha107; clear ha106 a106
        refine dr_end (by kernel_rfl) ?_
        replace hb40 := hb40.ext hs76
        refine then_n ?_
        by_cases c108 : x89.1 < x17.1
        ·
         rw [decide_eq_true c108] at ha107
         refine cond_f ha107 rfl ?_
         refine wp_skip ?_
         refine then_n ?_
         refine wp_seq ?_
         refine wp_region_lit ?_
         refine wl_val ha107 rfl rfl rfl (op_fieldAddr (sz := 0) ha107 rfl Try.underlying55 rfl rfl ti34 rfl) ?_
         intro a109 ha109; clear ha107 a107
         refine wl_val ha109 rfl rfl rfl (op_loadF (off := 2) ha109 rfl Try.underlying34 rfl rfl hb40.cells rfl) ?_
         intro a110 ha110; clear ha109 a109
         refine wl_val ha110 rfl rfl rfl (op_len_sl ha110 rfl Try.underlying34 rfl b27) ?_
         intro a111 ha111; clear ha110 a110
         refine wl_val ha111 rfl rfl rfl (op_move ha111 rfl rfl) ?_
         intro a112 ha112; clear ha111 a111
         refine wpList_nil ?_
         refine then_n ?_
         refine wp_block ?_
         refine loop_inv (X := Nat) (fun (k : Nat) fr wl => Sl 63 fr [(0, v_list), (3, .int .i64 ((i : Nat) : Int)), (10, v_list), (11, .int .i64 ((list.length : Nat) : Int)), (12, .int .i64 ((i : Nat) : Int)), (49, v24), (50, .int .i64 ((x17.2.2.length : Nat) : Int)), (51, .int .i64 ((k : Nat) : Int))] ∧ Ext w0 wl ∧ w73.heap.size ≤ wl.heap.size ∧ (k ≤ x17.2.2.length) ∧ (∀ (j : Nat) (y : Str), j < k → x17.2.2[j]? = some y → owI (list.take i) y < 0)) (fun (k : Nat) => x17.2.2.length - k) (0) ?_ ?_
         ·
          exact ⟨(Sl.cons_ ha112 rfl rfl (Sl.cons_ ha112 rfl rfl (Sl.cons_ ha112 rfl rfl (Sl.cons_ ha112 rfl rfl (Sl.cons_ ha112 rfl rfl (Sl.cons_ ha112 rfl rfl (Sl.cons_ ha112 rfl rfl (Sl.cons_ ha112 rfl (int_eq (by omega)) (Sl.nil_ ha112))))))))), hx77, (by omega), (by omega), (by exact all_zero)⟩
         ·
          clear ha112 a112
          rintro k a115 w113 ⟨ha115, hx114, hzl116, hk, hB⟩
          have hzhx114 := hx114.size
          refine wp_seq ?_
          refine wp_region_lit ?_
          refine wl_val ha115 rfl rfl rfl (op_lss ha115 rfl rfl rfl) ?_
          intro a117 ha117; clear ha115 a115
          refine wpList_nil ?_
          refine then_n ?_
          refine wp_seq ?_
          by_cases c118 : ((k : Nat) : Int) < ((x17.2.2.length : Nat) : Int)
          ·
           rw [decide_eq_true c118] at ha117
           refine cond_t ha117 rfl ?_
           refine wp_skip ?_
           refine then_n ?_
           refine wp_seq ?_
           refine wp_block ?_
           refine wp_seq ?_
           refine wp_region_lit ?_
           obtain ⟨x119, hx119⟩ := get_ex (xs := x17.2.2) (j := k) (by omega)
           obtain ⟨p120, c121, hi122, hc123, hr124, hs125⟩ := Rds.at_ b27 hx119
           obtain ⟨rfl, b126⟩ := inv_shStr hr124
           refine wl_val ha117 rfl rfl rfl (op_indexAddr ha117 rfl Try.underlying34 ti9 rfl rfl (by omega) hi122) ?_
           intro a127 ha127; clear ha117 a117
           refine wl_val ha127 rfl rfl rfl (op_loadH ha127 rfl Try.underlying9 rfl rfl (hc123.ext hx114) rfl) ?_
           intro a128 ha128; clear ha127 a127
           refine wl_val ha128 rfl rfl rfl (op_assign ha128 rfl rfl) ?_
           intro a129 ha129; clear ha128 a128
           refine wpList_nil ?_
           refine then_n ?_
           refine wp_seq ?_
           refine wp_region_lit ?_
           refine wl_val ha129 rfl rfl rfl (op_move ha129 rfl rfl) ?_
           intro a130 ha130; clear ha129 a129
           refine wl_val ha130 rfl rfl rfl (op_move ha130 rfl rfl) ?_
           intro a131 ha131; clear ha130 a130
           obtain ⟨u132, hu133, hr134⟩ := Rds.part h_list Try.underlying25 ti55 none (some (.int .i64 (i : Nat))) 0 i (.inl ⟨rfl, rfl⟩) (.inr ⟨.i64, rfl⟩) (by omega) (by omega)
           replace hr134 := hr134.cast (ys := list.take i) (by first | rw [List.take_length] | simp)
           refine wl_val ha131 rfl rfl rfl (op_slice_t (by omega) ha131 rfl rfl rfl hu133) ?_
           intro a135 ha135; clear ha131 a131
           refine wl_val ha135 rfl rfl rfl (op_move ha135 rfl rfl) ?_
           intro a136 ha136; clear ha135 a135
           refine wl_callR ha136 rfl rfl rfl (op_call ha136 rfl cb59 rfl) (c_impl_ownerOf _ u132 (list.take i) x119 (hr134.ext pos_shCust hx114)) ?_
           rintro v137 w138 he139 rfl a140 ha140; clear ha136 a136
           have hx141 := hx114.trans' he139
           have hzhx141 := he139.size
           refine wl_val ha140 rfl rfl rfl (op_geq ha140 rfl rfl rfl) ?_
           intro a142 ha142; clear ha140 a140
           refine wpList_nil ?_
           refine then_n ?_
           by_cases c143 : (0 : Int) ≤ (owI (list.take i) x119 : Int)
           ·
            rw [decide_eq_true c143] at ha142
            refine cond_t ha142 rfl ?_
            refine wp_seq ?_
            refine wp_region_lit ?_
            refine wl_val ha142 rfl rfl rfl (op_assign ha142 rfl rfl) ?_
            intro a144 ha144; clear ha142 a142
            refine wpList_nil ?_
            refine then_n ?_
            refine wp_ret ?_
            refine block_r ?_
            refine then_r ?_
            refine then_r ?_
            refine block_r ?_
            refine block_r ?_
            refine then_r ?_
            refine then_r ?_
            refine block_r ?_
            refine then_r ?_
            refine ret1 ha144 rfl rfl ?_
            clear ha144 a144
            exact ret_mk hx141 (congrArg Value.bool (by rw [cuB_no hx17 (cuAt_no hx17 (by first | (left; assumption) | (right; left; assumption) | (right; right; left; assumption) | (right; right; right; left; exact ⟨by omega, _, hx89, by assumption⟩) | (right; right; right; right; exact ⟨_, List.mem_of_getElem? hx119, by omega⟩)))]))
           ·
            rw [decide_eq_false c143] at ha142
            refine cond_f ha142 rfl ?_
            refine wp_skip ?_
            refine block_n ?_
            refine then_n ?_
            refine wp_region_lit ?_
            refine wl_val ha142 rfl rfl rfl ((op_add ha142 rfl rfl rfl).int (IntWalk.i64_in _ (by omega))) ?_
            intro a145 ha145; clear ha142 a142
            refine wl_val ha145 rfl rfl rfl (op_move ha145 rfl rfl) ?_
            intro a146 ha146; clear ha145 a145
            refine wpList_nil ?_
            refine round_end (x := k) ((k + 1)) ?_ ?_
            ·
             refine ⟨(Sl.cons_ ha146 rfl rfl (Sl.cons_ ha146 rfl rfl (Sl.cons_ ha146 rfl rfl (Sl.cons_ ha146 rfl rfl (Sl.cons_ ha146 rfl rfl (Sl.cons_ ha146 rfl rfl (Sl.cons_ ha146 rfl rfl (Sl.cons_ ha146 rfl (int_eq (by omega)) (Sl.nil_ ha146))))))))), hx141, (by omega), (by omega), (by exact all_snoc (p := fun y => owI (list.take i) y < 0) hB hx119 (by omega))⟩
            ·show (x17.2.2.length - ((k + 1)) : Nat) < x17.2.2.length - k; omega
          ·
           rw [decide_eq_false c118] at ha117
           refine cond_f ha117 rfl ?_
           refine wp_exit ?_
           refine then_e ?_
           refine then_e ?_
           refine block_hit ?_
           refine block_n ?_
           refine then_n ?_
           refine wp_region_lit ?_
           refine wl_val ha117 rfl rfl rfl ((op_add ha117 rfl rfl rfl).int (IntWalk.i64_in _ (by omega))) ?_
           intro a147 ha147; clear ha117 a117
           refine wl_val ha147 rfl rfl rfl (op_move ha147 rfl rfl) ?_
           intro a148 ha148; clear ha147 a147
           refine wpList_nil ?_
           refine round_end (x := i) ((i + 1)) ?_ ?_
           ·
            refine ⟨(Sl.cons_ ha148 rfl rfl (Sl.cons_ ha148 rfl rfl (Sl.cons_ ha148 rfl rfl (Sl.cons_ ha148 rfl (int_eq (by omega)) (Sl.nil_ ha148))))), hx114, (by omega), (by omega), (by exact upB_step hA (cuAt_ok hx17 (by assumption) (by assumption) (by assumption) (by first | (left; omega) | (right; exact ⟨_, hx89, by assumption⟩)) (all_mem hB (by omega))))⟩
           ·show (list.length - ((i + 1)) : Nat) < list.length - i; omega
        ·
         rw [decide_eq_false c108] at ha107
         refine cond_t ha107 rfl ?_
         refine wp_seq ?_
         refine wp_region_lit ?_
         refine wl_val ha107 rfl rfl rfl (op_assign ha107 rfl rfl) ?_
         intro a149 ha149; clear ha107 a107
         refine wpList_nil ?_
         refine then_n ?_
         refine wp_ret ?_
         refine then_r ?_
         refine block_r ?_
         refine then_r ?_
         refine then_r ?_
         refine block_r ?_
         refine then_r ?_
         refine ret1 ha149 rfl rfl ?_
         clear ha149 a149
         exact ret_mk hx77 (congrArg Value.bool (by rw [cuB_no hx17 (cuAt_no hx17 (by first | (left; assumption) | (right; left; assumption) | (right; right; left; assumption) | (right; right; right; left; exact ⟨by omega, _, hx89, by assumption⟩) | (right; right; right; right; exact ⟨_, List.mem_of_getElem? hx17, by omega⟩)))]))
       ·
        rw [decide_eq_false c85] at ha84
        refine dr_skip (i := 20) ha84 rfl (by kernel_rfl) (by kernel_rfl) (by kernel_rfl) rfl rfl rfl hs76 ?_
        intro a150 ha150; clear ha84 a84
        refine dr_skip (i := 21) ha150 rfl (by kernel_rfl) (by kernel_rfl) (by kernel_rfl) rfl rfl rfl hs76 ?_
        intro a151 ha151; clear ha150 a150
        refine dr_skip (i := 22) ha151 rfl (by kernel_rfl) (by kernel_rfl) (by kernel_rfl) rfl rfl rfl hs76 ?_
        intro a152 ha152; clear ha151 a151
        refine dr_skip (i := 23) ha152 rfl (by kernel_rfl) (by kernel_rfl) (by kernel_rfl) rfl rfl rfl hs76 ?_
        intro a153 ha153; clear ha152 a152
        refine dr_skip (i := 24) ha153 rfl (by kernel_rfl) (by kernel_rfl) (by kernel_rfl) rfl rfl rfl hs76 ?_
        intro a154 ha154; clear ha153 a153
        refine dr_skip (i := 25) ha154 rfl (by kernel_rfl) (by kernel_rfl) (by kernel_rfl) rfl rfl rfl hs76 ?_
        intro a155 ha155; clear ha154 a154
        refine dr_skip (i := 26) ha155 rfl (by kernel_rfl) (by kernel_rfl) (by kernel_rfl) rfl rfl rfl hs76 ?_
        intro a156 ha156; clear ha155 a155
        refine dr_skip (i := 27) ha156 rfl (by kernel_rfl) (by kernel_rfl) (by kernel_rfl) rfl rfl rfl hs76 ?_
        intro a157 ha157; clear ha156 a156
        refine dr_skip (i := 28) ha157 rfl (by kernel_rfl) (by kernel_rfl) (by kernel_rfl) rfl rfl rfl hs76 ?_
        intro a158 ha158; clear ha157 a157
        refine dr_val (i := 29) ha158 rfl (by kernel_rfl) (by kernel_rfl) (by kernel_rfl) rfl rfl rfl hs76 (fun w' hw' => op_pick_f ha158 rfl rfl rfl) ?_
        intro a159 ha159; clear ha158 a158
        refine dr_val (i := 30) ha159 rfl (by kernel_rfl) (by kernel_rfl) (by kernel_rfl) rfl rfl rfl hs76 (fun w' hw' => op_pick_f ha159 rfl rfl rfl) ?_
        intro a160 ha160; clear ha159 a159
        refine dr_end (by kernel_rfl) ?_
        replace hb40 := hb40.ext hs76
        refine then_n ?_
        refine cond_f ha160 rfl ?_
        refine wp_skip ?_
        refine then_n ?_
        refine wp_seq ?_
        refine wp_region_lit ?_
        refine wl_val ha160 rfl rfl rfl (op_fieldAddr (sz := 0) ha160 rfl Try.underlying55 rfl rfl ti34 rfl) ?_
        intro a161 ha161; clear ha160 a160
        refine wl_val ha161 rfl rfl rfl (op_loadF (off := 2) ha161 rfl Try.underlying34 rfl rfl hb40.cells rfl) ?_
        intro a162 ha162; clear ha161 a161
        refine wl_val ha162 rfl rfl rfl (op_len_sl ha162 rfl Try.underlying34 rfl b27) ?_
        intro a163 ha163; clear ha162 a162
        refine wl_val ha163 rfl rfl rfl (op_move ha163 rfl rfl) ?_
        intro a164 ha164; clear ha163 a163
        refine wpList_nil ?_
        refine then_n ?_
        refine wp_block ?_
        refine loop_inv (X := Nat) (fun (k : Nat) fr wl => Sl 63 fr [(0, v_list), (3, .int .i64 ((i : Nat) : Int)), (10, v_list), (11, .int .i64 ((list.length : Nat) : Int)), (12, .int .i64 ((i : Nat) : Int)), (49, v24), (50, .int .i64 ((x17.2.2.length : Nat) : Int)), (51, .int .i64 ((k : Nat) : Int))] ∧ Ext w0 wl ∧ w73.heap.size ≤ wl.heap.size ∧ (k ≤ x17.2.2.length) ∧ (∀ (j : Nat) (y : Str), j < k → x17.2.2[j]? = some y → owI (list.take i) y < 0)) (fun (k : Nat) => x17.2.2.length - k) (0) ?_ ?_
        ·
         exact ⟨(Sl.cons_ ha164 rfl rfl (Sl.cons_ ha164 rfl rfl (Sl.cons_ ha164 rfl rfl (Sl.cons_ ha164 rfl rfl (Sl.cons_ ha164 rfl rfl (Sl.cons_ ha164 rfl rfl (Sl.cons_ ha164 rfl rfl (Sl.cons_ ha164 rfl (int_eq (by omega)) (Sl.nil_ ha164))))))))), hx77, (by omega), (by omega), (by exact all_zero)⟩
        ·
         clear ha164 a164
         rintro k a167 w165 ⟨ha167, hx166, hzl168, hk, hB⟩
         have hzhx166 := hx166.size
         refine wp_seq ?_
         refine wp_region_lit ?_
         refine wl_val ha167 rfl rfl rfl (op_lss ha167 rfl rfl rfl) ?_
         intro a169 ha169; clear ha167 a167
         refine wpList_nil ?_
         refine then_n ?_
         refine wp_seq ?_
         by_cases c170 : ((k : Nat) : Int) < ((x17.2.2.length : Nat) : Int)
         ·
          rw [decide_eq_true c170] at ha169
          refine cond_t ha169 rfl ?_
          refine wp_skip ?_
          refine then_n ?_
          refine wp_seq ?_
          refine wp_block ?_
          refine wp_seq ?_
          refine wp_region_lit ?_
          obtain ⟨x171, hx171⟩ := get_ex (xs := x17.2.2) (j := k) (by omega)
          obtain ⟨p172, c173, hi174, hc175, hr176, hs177⟩ := Rds.at_ b27 hx171
          obtain ⟨rfl, b178⟩ := inv_shStr hr176
          refine wl_val ha169 rfl rfl rfl (op_indexAddr ha169 rfl Try.underlying34 ti9 rfl rfl (by omega) hi174) ?_
          intro a179 ha179; clear ha169 a169
          refine wl_val ha179 rfl rfl rfl (op_loadH ha179 rfl Try.underlying9 rfl rfl (hc175.ext hx166) rfl) ?_
          intro a180 ha180; clear ha179 a179
          refine wl_val ha180 rfl rfl rfl (op_assign ha180 rfl rfl) ?_
          intro a181 ha181; clear ha180 a180
          refine wpList_nil ?_
          refine then_n ?_
          refine wp_seq ?_
          refine wp_region_lit ?_
          refine wl_val ha181 rfl rfl rfl (op_move ha181 rfl rfl) ?_
          intro a182 ha182; clear ha181 a181
          refine wl_val ha182 rfl rfl rfl (op_move ha182 rfl rfl) ?_
          intro a183 ha183; clear ha182 a182
          obtain ⟨u184, hu185, hr186⟩ := Rds.part h_list Try.underlying25 ti55 none (some (.int .i64 (i : Nat))) 0 i (.inl ⟨rfl, rfl⟩) (.inr ⟨.i64, rfl⟩) (by omega) (by omega)
          replace hr186 := hr186.cast (ys := list.take i) (by first | rw [List.take_length] | simp)
          refine wl_val ha183 rfl rfl rfl (op_slice_t (by omega) ha183 rfl rfl rfl hu185) ?_
          intro a187 ha187; clear ha183 a183
          refine wl_val ha187 rfl rfl rfl (op_move ha187 rfl rfl) ?_
          intro a188 ha188; clear ha187 a187
          refine wl_callR ha188 rfl rfl rfl (op_call ha188 rfl cb59 rfl) (c_impl_ownerOf _ u184 (list.take i) x171 (hr186.ext pos_shCust hx166)) ?_
          rintro v189 w190 he191 rfl a192 ha192; clear ha188 a188
          have hx193 := hx166.trans' he191
          have hzhx193 := he191.size
          refine wl_val ha192 rfl rfl rfl (op_geq ha192 rfl rfl rfl) ?_
          intro a194 ha194; clear ha192 a192
          refine wpList_nil ?_
          refine then_n ?_
          by_cases c195 : (0 : Int) ≤ (owI (list.take i) x171 : Int)
          ·
           rw [decide_eq_true c195] at ha194
           refine cond_t ha194 rfl ?_
           refine wp_seq ?_
           refine wp_region_lit ?_
           refine wl_val ha194 rfl rfl rfl (op_assign ha194 rfl rfl) ?_
           intro a196 ha196; clear ha194 a194
           refine wpList_nil ?_
           refine then_n ?_
           refine wp_ret ?_
           refine block_r ?_
           refine then_r ?_
           refine then_r ?_
           refine block_r ?_
           refine block_r ?_
           refine then_r ?_
           refine then_r ?_
           refine block_r ?_
           refine then_r ?_
           refine ret1 ha196 rfl rfl ?_
           clear ha196 a196
           exact ret_mk hx193 (congrArg Value.bool (by rw [cuB_no hx17 (cuAt_no hx17 (by first | (left; assumption) | (right; left; assumption) | (right; right; left; assumption) | (right; right; right; left; exact ⟨by omega, _, hx17, by assumption⟩) | (right; right; right; right; exact ⟨_, List.mem_of_getElem? hx171, by omega⟩)))]))
          ·
           rw [decide_eq_false c195] at ha194
           refine cond_f ha194 rfl ?_
           refine wp_skip ?_
           refine block_n ?_
           refine then_n ?_
           refine wp_region_lit ?_
           refine wl_val ha194 rfl rfl rfl ((op_add ha194 rfl rfl rfl).int (IntWalk.i64_in _ (by omega))) ?_
           intro a197 ha197; clear ha194 a194
           refine wl_val ha197 rfl rfl rfl (op_move ha197 rfl rfl) ?_
           intro a198 ha198; clear ha197 a197
           refine wpList_nil ?_
           refine round_end (x := k) ((k + 1)) ?_ ?_
           ·
            refine ⟨(Sl.cons_ ha198 rfl rfl (Sl.cons_ ha198 rfl rfl (Sl.cons_ ha198 rfl rfl (Sl.cons_ ha198 rfl rfl (Sl.cons_ ha198 rfl rfl (Sl.cons_ ha198 rfl rfl (Sl.cons_ ha198 rfl rfl (Sl.cons_ ha198 rfl (int_eq (by omega)) (Sl.nil_ ha198))))))))), hx193, (by omega), (by omega), (by exact all_snoc (p := fun y => owI (list.take i) y < 0) hB hx171 (by omega))⟩
           ·show (x17.2.2.length - ((k + 1)) : Nat) < x17.2.2.length - k; omega
         ·
          rw [decide_eq_false c170] at ha169
          refine cond_f ha169 rfl ?_
          refine wp_exit ?_
          refine then_e ?_
          refine then_e ?_
          refine block_hit ?_
          refine block_n ?_
          refine then_n ?_
          refine wp_region_lit ?_
          refine wl_val ha169 rfl rfl rfl ((op_add ha169 rfl rfl rfl).int (IntWalk.i64_in _ (by omega))) ?_
          intro a199 ha199; clear ha169 a169
          refine wl_val ha199 rfl rfl rfl (op_move ha199 rfl rfl) ?_
          intro a200 ha200; clear ha199 a199
          refine wpList_nil ?_
          refine round_end (x := i) ((i + 1)) ?_ ?_
          ·
           refine ⟨(Sl.cons_ ha200 rfl rfl (Sl.cons_ ha200 rfl rfl (Sl.cons_ ha200 rfl rfl (Sl.cons_ ha200 rfl (int_eq (by omega)) (Sl.nil_ ha200))))), hx166, (by omega), (by omega), (by exact upB_step hA (cuAt_ok hx17 (by assumption) (by assumption) (by assumption) (by first | (left; omega) | (right; exact ⟨_, hx17, by assumption⟩)) (all_mem hB (by omega))))⟩
          ·show (list.length - ((i + 1)) : Nat) < list.length - i; omega
      ·
       rw [c81] at ha80
       refine dr_skip (i := 17) ha80 rfl (by kernel_rfl) (by kernel_rfl) (by kernel_rfl) rfl rfl rfl hs76 ?_
       intro a201 ha201; clear ha80 a80
       refine dr_skip (i := 18) ha201 rfl (by kernel_rfl) (by kernel_rfl) (by kernel_rfl) rfl rfl rfl hs76 ?_
       intro a202 ha202; clear ha201 a201
       refine dr_skip (i := 19) ha202 rfl (by kernel_rfl) (by kernel_rfl) (by kernel_rfl) rfl rfl rfl hs76 ?_
       intro a203 ha203; clear ha202 a202
       refine dr_skip (i := 20) ha203 rfl (by kernel_rfl) (by kernel_rfl) (by kernel_rfl) rfl rfl rfl hs76 ?_
       intro a204 ha204; clear ha203 a203
       refine dr_skip (i := 21) ha204 rfl (by kernel_rfl) (by kernel_rfl) (by kernel_rfl) rfl rfl rfl hs76 ?_
       intro a205 ha205; clear ha204 a204
       refine dr_skip (i := 22) ha205 rfl (by kernel_rfl) (by kernel_rfl) (by kernel_rfl) rfl rfl rfl hs76 ?_
       intro a206 ha206; clear ha205 a205
       refine dr_skip (i := 23) ha206 rfl (by kernel_rfl) (by kernel_rfl) (by kernel_rfl) rfl rfl rfl hs76 ?_
       intro a207 ha207; clear ha206 a206
       refine dr_skip (i := 24) ha207 rfl (by kernel_rfl) (by kernel_rfl) (by kernel_rfl) rfl rfl rfl hs76 ?_
       intro a208 ha208; clear ha207 a207
       refine dr_skip (i := 25) ha208 rfl (by kernel_rfl) (by kernel_rfl) (by kernel_rfl) rfl rfl rfl hs76 ?_
       intro a209 ha209; clear ha208 a208
       refine dr_skip (i := 26) ha209 rfl (by kernel_rfl) (by kernel_rfl) (by kernel_rfl) rfl rfl rfl hs76 ?_
       intro a210 ha210; clear ha209 a209
       refine dr_skip (i := 27) ha210 rfl (by kernel_rfl) (by kernel_rfl) (by kernel_rfl) rfl rfl rfl hs76 ?_
       intro a211 ha211; clear ha210 a210
       refine dr_skip (i := 28) ha211 rfl (by kernel_rfl) (by kernel_rfl) (by kernel_rfl) rfl rfl rfl hs76 ?_
       intro a212 ha212; clear ha211 a211
       refine dr_skip (i := 29) ha212 rfl (by kernel_rfl) (by kernel_rfl) (by kernel_rfl) rfl rfl rfl hs76 ?_
       intro a213 ha213; clear ha212 a212
       refine dr_val (i := 30) ha213 rfl (by kernel_rfl) (by kernel_rfl) (by kernel_rfl) rfl rfl rfl hs76 (fun w' hw' => op_pick_t ha213 rfl rfl rfl) ?_
       intro a214 ha214; clear ha213 a213
       refine dr_end (by kernel_rfl) ?_
       replace hb40 := hb40.ext hs76
       refine then_n ?_
       refine cond_t ha214 rfl ?_
       refine wp_seq ?_
       refine wp_region_lit ?_
       refine wl_val ha214 rfl rfl rfl (op_assign ha214 rfl rfl) ?_
       intro a215 ha215; clear ha214 a214
       refine wpList_nil ?_
       refine then_n ?_
       refine wp_ret ?_
       refine then_r ?_
       refine block_r ?_
       refine then_r ?_
       refine then_r ?_
       refine block_r ?_
       refine then_r ?_
       refine ret1 ha215 rfl rfl ?_
       clear ha215 a215
       exact ret_mk hx77 (congrArg Value.bool (by rw [cuB_no hx17 (cuAt_no hx17 (by first | (left; assumption) | (right; left; assumption) | (right; right; left; assumption) | (right; right; right; left; exact ⟨by omega, _, hx17, by assumption⟩) | (right; right; right; right; exact ⟨_, List.mem_of_getElem? hx17, by omega⟩)))]))
     ·
      rw [c69] at ha68
      refine dr_skip (i := 11) ha68 rfl (by kernel_rfl) (by kernel_rfl) (by kernel_rfl) rfl rfl rfl hs64 ?_
      intro a216 ha216; clear ha68 a68
      refine dr_skip (i := 12) ha216 rfl (by kernel_rfl) (by kernel_rfl) (by kernel_rfl) rfl rfl rfl hs64 ?_
      intro a217 ha217; clear ha216 a216
      refine dr_skip (i := 13) ha217 rfl (by kernel_rfl) (by kernel_rfl) (by kernel_rfl) rfl rfl rfl hs64 ?_
      intro a218 ha218; clear ha217 a217
      refine dr_skip (i := 14) ha218 rfl (by kernel_rfl) (by kernel_rfl) (by kernel_rfl) rfl rfl rfl hs64 ?_
      intro a219 ha219; clear ha218 a218
      refine dr_val (i := 15) ha219 rfl (by kernel_rfl) (by kernel_rfl) (by kernel_rfl) rfl rfl rfl hs64 (fun w' hw' => op_pick_t ha219 rfl rfl rfl) ?_
      intro a220 ha220; clear ha219 a219
      refine dr_val (i := 16) ha220 rfl (by kernel_rfl) (by kernel_rfl) (by kernel_rfl) rfl rfl rfl hs64 (fun w' hw' => op_move ha220 rfl rfl) ?_
      intro a221 ha221; clear ha220 a220
      refine dr_skip (i := 17) ha221 rfl (by kernel_rfl) (by kernel_rfl) (by kernel_rfl) rfl rfl rfl hs64 ?_
      intro a222 ha222; clear ha221 a221
      refine dr_skip (i := 18) ha222 rfl (by kernel_rfl) (by kernel_rfl) (by kernel_rfl) rfl rfl rfl hs64 ?_
      intro a223 ha223; clear ha222 a222
      refine dr_skip (i := 19) ha223 rfl (by kernel_rfl) (by kernel_rfl) (by kernel_rfl) rfl rfl rfl hs64 ?_
      intro a224 ha224; clear ha223 a223
      refine dr_skip (i := 20) ha224 rfl (by kernel_rfl) (by kernel_rfl) (by kernel_rfl) rfl rfl rfl hs64 ?_
      intro a225 ha225; clear ha224 a224
      refine dr_skip (i := 21) ha225 rfl (by kernel_rfl) (by kernel_rfl) (by kernel_rfl) rfl rfl rfl hs64 ?_
      intro a226 ha226; clear ha225 a225
      refine dr_skip (i := 22) ha226 rfl (by kernel_rfl) (by kernel_rfl) (by kernel_rfl) rfl rfl rfl hs64 ?_
      intro a227 ha227; clear ha226 a226
      refine dr_skip (i := 23) ha227 rfl (by kernel_rfl) (by kernel_rfl) (by kernel_rfl) rfl rfl rfl hs64 ?_
      intro a228 ha228; clear ha227 a227
      refine dr_skip (i := 24) ha228 rfl (by kernel_rfl) (by kernel_rfl) (by kernel_rfl) rfl rfl rfl hs64 ?_
      intro a229 ha229; clear ha228 a228
      refine dr_skip (i := 25) ha229 rfl (by kernel_rfl) (by kernel_rfl) (by kernel_rfl) rfl rfl rfl hs64 ?_
      intro a230 ha230; clear ha229 a229
      refine dr_skip (i := 26) ha230 rfl (by kernel_rfl) (by kernel_rfl) (by kernel_rfl) rfl rfl rfl hs64 ?_
      intro a231 ha231; clear ha230 a230
      refine dr_skip (i := 27) ha231 rfl (by kernel_rfl) (by kernel_rfl) (by kernel_rfl) rfl rfl rfl hs64 ?_
      intro a232 ha232; clear ha231 a231
      refine dr_skip (i := 28) ha232 rfl (by kernel_rfl) (by kernel_rfl) (by kernel_rfl) rfl rfl rfl hs64 ?_
      intro a233 ha233; clear ha232 a232
      refine dr_skip (i := 29) ha233 rfl (by kernel_rfl) (by kernel_rfl) (by kernel_rfl) rfl rfl rfl hs64 ?_
      intro a234 ha234; clear ha233 a233
      refine dr_val (i := 30) ha234 rfl (by kernel_rfl) (by kernel_rfl) (by kernel_rfl) rfl rfl rfl hs64 (fun w' hw' => op_pick_t ha234 rfl rfl rfl) ?_
      intro a235 ha235; clear ha234 a234
      refine dr_end (by kernel_rfl) ?_
      replace hb40 := hb40.ext hs64
      refine then_n ?_
      refine cond_t ha235 rfl ?_
      refine wp_seq ?_
      refine wp_region_lit ?_
      refine wl_val ha235 rfl rfl rfl (op_assign ha235 rfl rfl) ?_
      intro a236 ha236; clear ha235 a235
      refine wpList_nil ?_
      refine then_n ?_
      refine wp_ret ?_
      refine then_r ?_
      refine block_r ?_
      refine then_r ?_
      refine then_r ?_
      refine block_r ?_
      refine then_r ?_
      refine ret1 ha236 rfl rfl ?_
      clear ha236 a236
      exact ret_mk hx65 (congrArg Value.bool (by rw [cuB_no hx17 (cuAt_no hx17 (by first | (left; assumption) | (right; left; assumption) | (right; right; left; assumption) | (right; right; right; left; exact ⟨by omega, _, hx17, by assumption⟩) | (right; right; right; right; exact ⟨_, List.mem_of_getElem? hx17, by omega⟩)))]))
    ·
     rw [c57] at ha56
     refine dr_skip (i := 5) ha56 rfl (by kernel_rfl) (by kernel_rfl) (by kernel_rfl) rfl rfl rfl hs53 ?_
     intro a237 ha237; clear ha56 a56
     refine dr_skip (i := 6) ha237 rfl (by kernel_rfl) (by kernel_rfl) (by kernel_rfl) rfl rfl rfl hs53 ?_
     intro a238 ha238; clear ha237 a237
     refine dr_skip (i := 7) ha238 rfl (by kernel_rfl) (by kernel_rfl) (by kernel_rfl) rfl rfl rfl hs53 ?_
     intro a239 ha239; clear ha238 a238
     refine dr_skip (i := 8) ha239 rfl (by kernel_rfl) (by kernel_rfl) (by kernel_rfl) rfl rfl rfl hs53 ?_
     intro a240 ha240; clear ha239 a239
     refine dr_val (i := 9) ha240 rfl (by kernel_rfl) (by kernel_rfl) (by kernel_rfl) rfl rfl rfl hs53 (fun w' hw' => op_pick_t ha240 rfl rfl rfl) ?_
     intro a241 ha241; clear ha240 a240
     refine dr_val (i := 10) ha241 rfl (by kernel_rfl) (by kernel_rfl) (by kernel_rfl) rfl rfl rfl hs53 (fun w' hw' => op_move ha241 rfl rfl) ?_
     intro a242 ha242; clear ha241 a241
     refine dr_skip (i := 11) ha242 rfl (by kernel_rfl) (by kernel_rfl) (by kernel_rfl) rfl rfl rfl hs53 ?_
     intro a243 ha243; clear ha242 a242
     refine dr_skip (i := 12) ha243 rfl (by kernel_rfl) (by kernel_rfl) (by kernel_rfl) rfl rfl rfl hs53 ?_
     intro a244 ha244; clear ha243 a243
     refine dr_skip (i := 13) ha244 rfl (by kernel_rfl) (by kernel_rfl) (by kernel_rfl) rfl rfl rfl hs53 ?_
     intro a245 ha245; clear ha244 a244
     refine dr_skip (i := 14) ha245 rfl (by kernel_rfl) (by kernel_rfl) (by kernel_rfl) rfl rfl rfl hs53 ?_
     intro a246 ha246; clear ha245 a245
     refine dr_val (i := 15) ha246 rfl (by kernel_rfl) (by kernel_rfl) (by kernel_rfl) rfl rfl rfl hs53 (fun w' hw' => op_pick_t ha246 rfl rfl rfl) ?_
     intro a247 ha247; clear ha246 a246
     refine dr_val (i := 16) ha247 rfl (by kernel_rfl) (by kernel_rfl) (by kernel_rfl) rfl rfl rfl hs53 (fun w' hw' => op_move ha247 rfl rfl) ?_
     intro a248 ha248; clear ha247 a247
     refine dr_skip (i := 17) ha248 rfl (by kernel_rfl) (by kernel_rfl) (by kernel_rfl) rfl rfl rfl hs53 ?_
     intro a249 ha249; clear ha248 a248
     refine dr_skip (i := 18) ha249 rfl (by kernel_rfl) (by kernel_rfl) (by kernel_rfl) rfl rfl rfl hs53 ?_
     intro a250 ha250; clear ha249 a249
     refine dr_skip (i := 19) ha250 rfl (by kernel_rfl) (by kernel_rfl) (by kernel_rfl) rfl rfl rfl hs53 ?_
     intro a251 ha251; clear ha250 a250
     refine dr_skip (i := 20) ha251 rfl (by kernel_rfl) (by kernel_rfl) (by kernel_rfl) rfl rfl rfl hs53 ?_
     intro a252 ha252; clear ha251 a251
     refine dr_skip (i := 21) ha252 rfl (by kernel_rfl) (by kernel_rfl) (by kernel_rfl) rfl rfl rfl hs53 ?_
     intro a253 ha253; clear ha252 a252
     refine dr_skip (i := 22) ha253 rfl (by kernel_rfl) (by kernel_rfl) (by kernel_rfl) rfl rfl rfl hs53 ?_
     intro a254 ha254; clear ha253 a253
     refine dr_skip (i := 23) ha254 rfl (by kernel_rfl) (by kernel_rfl) (by kernel_rfl) rfl rfl rfl hs53 ?_
     intro a255 ha255; clear ha254 a254
     refine dr_skip (i := 24) ha255 rfl (by kernel_rfl) (by kernel_rfl) (by kernel_rfl) rfl rfl rfl hs53 ?_
     intro a256 ha256; clear ha255 a255
     refine dr_skip (i := 25) ha256 rfl (by kernel_rfl) (by kernel_rfl) (by kernel_rfl) rfl rfl rfl hs53 ?_
     intro a257 ha257; clear ha256 a256
     refine dr_skip (i := 26) ha257 rfl (by kernel_rfl) (by kernel_rfl) (by kernel_rfl) rfl rfl rfl hs53 ?_
     intro a258 ha258; clear ha257 a257
     refine dr_skip (i := 27) ha258 rfl (by kernel_rfl) (by kernel_rfl) (by kernel_rfl) rfl rfl rfl hs53 ?_
     intro a259 ha259; clear ha258 a258
     refine dr_skip (i := 28) ha259 rfl (by kernel_rfl) (by kernel_rfl) (by kernel_rfl) rfl rfl rfl hs53 ?_
     intro a260 ha260; clear ha259 a259
     refine dr_skip (i := 29) ha260 rfl (by kernel_rfl) (by kernel_rfl) (by kernel_rfl) rfl rfl rfl hs53 ?_
     intro a261 ha261; clear ha260 a260
     refine dr_val (i := 30) ha261 rfl (by kernel_rfl) (by kernel_rfl) (by kernel_rfl) rfl rfl rfl hs53 (fun w' hw' => op_pick_t ha261 rfl rfl rfl) ?_
     intro a262 ha262; clear ha261 a261
     refine dr_end (by kernel_rfl) ?_
     replace hb40 := hb40.ext hs53
     refine then_n ?_
     refine cond_t ha262 rfl ?_
     refine wp_seq ?_
     refine wp_region_lit ?_
     refine wl_val ha262 rfl rfl rfl (op_assign ha262 rfl rfl) ?_
     intro a263 ha263; clear ha262 a262
     refine wpList_nil ?_
     refine then_n ?_
     refine wp_ret ?_
     refine then_r ?_
     refine block_r ?_
     refine then_r ?_
     refine then_r ?_
     refine block_r ?_
     refine then_r ?_
     refine ret1 ha263 rfl rfl ?_
     clear ha263 a263
     exact ret_mk hx54 (congrArg Value.bool (by rw [cuB_no hx17 (cuAt_no hx17 (by first | (left; assumption) | (right; left; assumption) | (right; right; left; assumption) | (right; right; right; left; exact ⟨by omega, _, hx17, by assumption⟩) | (right; right; right; right; exact ⟨_, List.mem_of_getElem? hx17, by omega⟩)))]))
   ·
    rw [decide_eq_false c15] at ha14
    refine cond_f ha14 rfl ?_
    refine wp_exit ?_
    refine then_e ?_
    refine then_e ?_
    refine block_hit ?_
    refine then_n ?_
    refine wp_seq ?_
    refine wp_region_lit ?_
    refine wl_val ha14 rfl rfl rfl (op_assign ha14 rfl rfl) ?_
    intro a264 ha264; clear ha14 a14
    refine wpList_nil ?_
    refine then_n ?_
    refine wp_ret ?_
    refine ret1 ha264 rfl rfl ?_
    clear ha264 a264
    exact ret_mk hx11 (congrArg Value.bool (by have e : i = list.length := (by omega); rw [e] at hA; unfold cuB; rw [hA]; simp; try omega))

theorem c_spec_AreCustomers (w0 : World) (v_list : Value) (list : List (Str × Int × List Str)) {S_list : Nat → Prop} (h_list : Rds shCust S_list w0 v_list list) (g0 : list.length ≤ 1048576) :
  Calls Try.prog 15 #[v_list] w0 (Ret w0 (fun v _ => v = .bool (cuB list))) := by
 refine enter (N := 93) Try.func15 rfl rfl rfl ?_
 intro a0 ha0
 have hx0 := Ext.rfl' w0
 have hl_list := h_list.length_le
 refine wp_seq ?_
 refine wp_region_lit ?_
 refine wl_val ha0 rfl rfl rfl (op_assign ha0 rfl rfl) ?_
 intro a1 ha1; clear ha0 a0
 refine wpList_nil ?_
 refine then_n ?_
 refine wp_seq ?_
 refine wp_seq ?_
 refine wp_region_lit ?_
 refine wl_val ha1 rfl rfl rfl (op_assign ha1 rfl rfl) ?_
 intro a2 ha2; clear ha1 a1
 refine wpList_nil ?_
 refine then_n ?_
 refine wp_block ?_
 refine loop_inv (X := Nat) (fun (i : Nat) fr wl => Sl 93 fr [(0, v_list), (3, .int .i64 ((i : Nat) : Int))] ∧ Ext w0 wl ∧ w0.heap.size ≤ wl.heap.size ∧ (i ≤ list.length) ∧ (upB (cuAt list) i = true)) (fun (i : Nat) => list.length - i) (0) ?_ ?_
 ·
  exact ⟨(Sl.cons_ ha2 rfl rfl (Sl.cons_ ha2 rfl (int_eq (by omega)) (Sl.nil_ ha2))), hx0, (by omega), (by omega), (by rfl)⟩
 ·
  clear ha2 a2
  rintro i a5 w3 ⟨ha5, hx4, hzl6, hi, hA⟩
  have hzhx4 := hx4.size
  refine wp_seq ?_
  refine wp_seq ?_
  refine wp_region_lit ?_
  refine wl_val ha5 rfl rfl rfl (op_move ha5 rfl rfl) ?_
  intro a7 ha7; clear ha5 a5
  refine wl_val ha7 rfl rfl rfl (op_move ha7 rfl rfl) ?_
  intro a8 ha8; clear ha7 a7
  refine wl_val ha8 rfl rfl rfl (op_len_sl ha8 rfl Try.underlying25 rfl h_list) ?_
  intro a9 ha9; clear ha8 a8
  refine wl_val ha9 rfl rfl rfl (op_lss ha9 rfl rfl rfl) ?_
  intro a10 ha10; clear ha9 a9
  refine wpList_nil ?_
  refine then_n ?_
  by_cases c11 : ((i : Nat) : Int) < ((list.length : Nat) : Int)
  ·
   rw [decide_eq_true c11] at ha10
   refine cond_t ha10 rfl ?_
   refine wp_skip ?_
   refine then_n ?_
   refine wp_seq ?_
   refine wp_block ?_
   refine wp_seq ?_
   refine wp_region_lit ?_
   refine wl_val ha10 rfl rfl rfl (op_move ha10 rfl rfl) ?_
   intro a12 ha12; clear ha10 a10
   refine wl_val ha12 rfl rfl rfl (op_move ha12 rfl rfl) ?_
   intro a13 ha13; clear ha12 a12
   obtain ⟨x14, hx14⟩ := get_ex (xs := list) (j := i) (by omega)
   obtain ⟨p15, c16, hi17, hc18, hr19, hs20⟩ := Rds.at_ h_list hx14
   obtain ⟨v21, rfl, b22, b23, b24⟩ := inv_shCust hr19
   have hlb24 := b24.length_le
   refine wl_val ha13 rfl rfl rfl (op_indexAddr ha13 rfl Try.underlying25 ti55 rfl rfl (by omega) hi17) ?_
   intro a25 ha25; clear ha13 a13
   refine wl_val ha25 rfl rfl rfl (op_loadS ha25 rfl Try.underlying55 ti55 rfl rfl (hc18.ext hx4)) ?_
   intro a26 ha26; clear ha25 a25
   refine wl_eff ha26 rfl rfl rfl (op_alloc' rfl ti55 rfl) ?_
   rintro _ w28 ⟨rfl, he29, hb30, hz31⟩ a32 ha32; clear ha26 a26
   have hx33 := hx4.trans' he29
   have hzhx33 := he29.size
   refine wl_effS ha32 rfl rfl (op_storeAll' ha32 rfl ti55 rfl rfl hb30 rfl rfl (by intro u hu; have hu : u ∈ ([St x14.1, .int .i64 x14.2.1, v21] : List Value) := hu; simp only [List.mem_cons, List.mem_nil_iff, or_false] at hu; rcases hu with rfl | rfl | rfl <;> first | rfl | exact b24.one) rfl) ?_
   rintro w34 ⟨hb36, hst35, hz37⟩
   have hx38 := hx33.stp hst35 (by intro q hq; cases hq; exact (by omega))
   have hzhx38 := hst35.size
   clear hb30
   refine wpList_nil ?_
   refine then_n ?_
   refine wp_seq ?_
   refine wp_seq ?_
   refine dr_enter Ext follows_mixed ?_
   intro w39 he40
   have hx41 := hx38.trans' he40
   have hzhx41 := he40.size
   replace hb36 := hb36.ext he40
   have hs42 : Ext w39 w39 := Ext.rfl' _
   refine dr_val (i := 0) ha32 rfl (by kernel_rfl) (by kernel_rfl) (by kernel_rfl) rfl rfl rfl hs42 (fun w' hw' => op_fieldAddr (sz := 0) ha32 rfl Try.underlying55 rfl rfl ti9 rfl) ?_
   intro a43 ha43; clear ha32 a32
   refine dr_val (i := 1) ha43 rfl (by kernel_rfl) (by kernel_rfl) (by kernel_rfl) rfl rfl rfl hs42 (fun w' hw' => op_loadF (off := 0) ha43 rfl Try.underlying9 rfl rfl (hb36.ext hw').cells rfl) ?_
   intro a44 ha44; clear ha43 a43
   refine dr_one (i := 2) (by kernel_rfl) ?_
   refine po_callR ha44 rfl rfl rfl rfl (op_call ha44 rfl cb52 rfl) (c_spec_IsWord _ x14.1 (by first | assumption | omega | (simp; omega) | (simp [mkN_length]; omega))) ?_
   rintro v45 w46 he47 rfl a48 ha48; clear ha44 a44
   have hs49 := hs42.trans' he47
   have hx50 := hx41.trans' he47
   have hzhx50 := he47.size
   refine ⟨hs49, ?_⟩
   refine dr_val (i := 3) ha48 rfl (by kernel_rfl) (by kernel_rfl) (by kernel_rfl) rfl rfl rfl hs49 (fun w' hw' => op_not ha48 rfl rfl) ?_
   intro a51 ha51; clear ha48 a48
   refine dr_val (i := 4) ha51 rfl (by kernel_rfl) (by kernel_rfl) (by kernel_rfl) rfl rfl rfl hs49 (fun w' hw' => op_move ha51 rfl rfl) ?_
   intro a52 ha52; clear ha51 a51
   rcases Bool.eq_false_or_eq_true (wordB x14.1) with c53 | c53
   ·
    rw [c53] at ha52
    refine dr_val (i := 5) ha52 rfl (by kernel_rfl) (by kernel_rfl) (by kernel_rfl) rfl rfl rfl hs49 (fun w' hw' => op_fieldAddr (sz := 0) ha52 rfl Try.underlying55 rfl rfl ti2 rfl) ?_
    intro a54 ha54; clear ha52 a52
    refine dr_val (i := 6) ha54 rfl (by kernel_rfl) (by kernel_rfl) (by kernel_rfl) rfl rfl rfl hs49 (fun w' hw' => op_loadF (off := 1) ha54 rfl Try.underlying2 rfl rfl (hb36.ext hw').cells rfl) ?_
    intro a55 ha55; clear ha54 a54
    refine dr_one (i := 7) (by kernel_rfl) ?_
    refine po_callR ha55 rfl rfl rfl rfl (op_call ha55 rfl cb53 rfl) (c_spec_l01In _ x14.2.1 (0 : Int) (100000 : Int) ) ?_
    rintro v56 w57 he58 rfl a59 ha59; clear ha55 a55
    have hs60 := hs49.trans' he58
    have hx61 := hx50.trans' he58
    have hzhx61 := he58.size
    refine ⟨hs60, ?_⟩
    refine dr_val (i := 8) ha59 rfl (by kernel_rfl) (by kernel_rfl) (by kernel_rfl) rfl rfl rfl hs60 (fun w' hw' => op_not ha59 rfl rfl) ?_
    intro a62 ha62; clear ha59 a59
    refine dr_val (i := 9) ha62 rfl (by kernel_rfl) (by kernel_rfl) (by kernel_rfl) rfl rfl rfl hs60 (fun w' hw' => op_pick_f ha62 rfl rfl rfl) ?_
    intro a63 ha63; clear ha62 a62
    refine dr_val (i := 10) ha63 rfl (by kernel_rfl) (by kernel_rfl) (by kernel_rfl) rfl rfl rfl hs60 (fun w' hw' => op_move ha63 rfl rfl) ?_
    intro a64 ha64; clear ha63 a63
    rcases Bool.eq_false_or_eq_true (decide ((0 : Int) ≤ x14.2.1) && decide (x14.2.1 ≤ (100000 : Int))) with c65 | c65
    ·
     rw [c65] at ha64
     refine dr_val (i := 11) ha64 rfl (by kernel_rfl) (by kernel_rfl) (by kernel_rfl) rfl rfl rfl hs60 (fun w' hw' => op_fieldAddr (sz := 0) ha64 rfl Try.underlying55 rfl rfl ti34 rfl) ?_
     intro a66 ha66; clear ha64 a64
     refine dr_val (i := 12) ha66 rfl (by kernel_rfl) (by kernel_rfl) (by kernel_rfl) rfl rfl rfl hs60 (fun w' hw' => op_loadF (off := 2) ha66 rfl Try.underlying34 rfl rfl (hb36.ext hw').cells rfl) ?_
     intro a67 ha67; clear ha66 a66
     refine dr_val (i := 13) ha67 rfl (by kernel_rfl) (by kernel_rfl) (by kernel_rfl) rfl rfl rfl hs60 (fun w' hw' => op_len_sl ha67 rfl Try.underlying34 rfl b24) ?_
     intro a68 ha68; clear ha67 a67
     refine dr_val (i := 14) ha68 rfl (by kernel_rfl) (by kernel_rfl) (by kernel_rfl) rfl rfl rfl hs60 (fun w' hw' => op_gtr ha68 rfl rfl rfl) ?_
     intro a69 ha69; clear ha68 a68
     refine dr_val (i := 15) ha69 rfl (by kernel_rfl) (by kernel_rfl) (by kernel_rfl) rfl rfl rfl hs60 (fun w' hw' => op_pick_f ha69 rfl rfl rfl) ?_
     intro a70 ha70; clear ha69 a69
     refine dr_val (i := 16) ha70 rfl (by kernel_rfl) (by kernel_rfl) (by kernel_rfl) rfl rfl rfl hs60 (fun w' hw' => op_move ha70 rfl rfl) ?_
     intro a71 ha71; clear ha70 a70
     by_cases c72 : (5 : Int) < ((x14.2.2.length : Nat) : Int)
     ·
      rw [decide_eq_true c72] at ha71
      refine dr_skip (i := 17) ha71 rfl (by kernel_rfl) (by kernel_rfl) (by kernel_rfl) rfl rfl rfl hs60 ?_
      intro a73 ha73; clear ha71 a71
      refine dr_skip (i := 18) ha73 rfl (by kernel_rfl) (by kernel_rfl) (by kernel_rfl) rfl rfl rfl hs60 ?_
      intro a74 ha74; clear ha73 a73
      refine dr_skip (i := 19) ha74 rfl (by kernel_rfl) (by kernel_rfl) (by kernel_rfl) rfl rfl rfl hs60 ?_
      intro a75 ha75; clear ha74 a74
      refine dr_skip (i := 20) ha75 rfl (by kernel_rfl) (by kernel_rfl) (by kernel_rfl) rfl rfl rfl hs60 ?_
      intro a76 ha76; clear ha75 a75
      refine dr_skip (i := 21) ha76 rfl (by kernel_rfl) (by kernel_rfl) (by kernel_rfl) rfl rfl rfl hs60 ?_
      intro a77 ha77; clear ha76 a76
      refine dr_skip (i := 22) ha77 rfl (by kernel_rfl) (by kernel_rfl) (by kernel_rfl) rfl rfl rfl hs60 ?_
      intro a78 ha78; clear ha77 a77
      refine dr_skip (i := 23) ha78 rfl (by kernel_rfl) (by kernel_rfl) (by kernel_rfl) rfl rfl rfl hs60 ?_
      intro a79 ha79; clear ha78 a78
      refine dr_skip (i := 24) ha79 rfl (by kernel_rfl) (by kernel_rfl) (by kernel_rfl) rfl rfl rfl hs60 ?_
      intro a80 ha80; clear ha79 a79
      refine dr_skip (i := 25) ha80 rfl (by kernel_rfl) (by kernel_rfl) (by kernel_rfl) rfl rfl rfl hs60 ?_
      intro a81 ha81; clear ha80 a80
      refine dr_skip (i := 26) ha81 rfl (by kernel_rfl) (by kernel_rfl) (by kernel_rfl) rfl rfl rfl hs60 ?_
      intro a82 ha82; clear ha81 a81
      refine dr_skip (i := 27) ha82 rfl (by kernel_rfl) (by kernel_rfl) (by kernel_rfl) rfl rfl rfl hs60 ?_
      intro a83 ha83; clear ha82 a82
      refine dr_skip (i := 28) ha83 rfl (by kernel_rfl) (by kernel_rfl) (by kernel_rfl) rfl rfl rfl hs60 ?_
      intro a84 ha84; clear ha83 a83
      refine dr_skip (i := 29) ha84 rfl (by kernel_rfl) (by kernel_rfl) (by kernel_rfl) rfl rfl rfl hs60 ?_
      intro a85 ha85; clear ha84 a84
      refine dr_val (i := 30) ha85 rfl (by kernel_rfl) (by kernel_rfl) (by kernel_rfl) rfl rfl rfl hs60 (fun w' hw' => op_pick_t ha85 rfl rfl rfl) ?_
      intro a86 ha86; clear ha85 a85
      refine dr_end (by kernel_rfl) ?_
      replace hb36 := hb36.ext hs60
      refine then_n ?_
      refine cond_t ha86 rfl ?_
      refine wp_seq ?_
      refine wp_region_lit ?_
      refine wl_val ha86 rfl rfl rfl (op_assign ha86 rfl rfl) ?_
      intro a87 ha87; clear ha86 a86
      refine wpList_nil ?_
      refine then_n ?_
      refine wp_ret ?_
      refine then_r ?_
      refine block_r ?_
      refine then_r ?_
      refine then_r ?_
      refine block_r ?_
      refine then_r ?_
      refine ret1 ha87 rfl rfl ?_
      clear ha87 a87
      exact ret_mk hx61 (congrArg Value.bool (by rw [cuB_no hx14 (cuAt_no hx14 (by first | (left; assumption) | (right; left; unfold dateB; assumption) | (right; right; left; exact bkB_big (by omega)) | (right; right; right; left; exact ⟨by omega, _, hx14, by assumption⟩)))]))
     ·
      rw [decide_eq_false c72] at ha71
      refine dr_val (i := 17) ha71 rfl (by kernel_rfl) (by kernel_rfl) (by kernel_rfl) rfl rfl rfl hs60 (fun w' hw' => op_move ha71 rfl rfl) ?_
      intro a88 ha88; clear ha71 a71
      refine dr_val (i := 18) ha88 rfl (by kernel_rfl) (by kernel_rfl) (by kernel_rfl) rfl rfl rfl hs60 (fun w' hw' => op_gtr ha88 rfl rfl rfl) ?_
      intro a89 ha89; clear ha88 a88
      refine dr_val (i := 19) ha89 rfl (by kernel_rfl) (by kernel_rfl) (by kernel_rfl) rfl rfl rfl hs60 (fun w' hw' => op_move ha89 rfl rfl) ?_
      intro a90 ha90; clear ha89 a89
      by_cases c91 : (0 : Int) < ((i : Nat) : Int)
      ·
       rw [decide_eq_true c91] at ha90
       refine dr_val (i := 20) ha90 rfl (by kernel_rfl) (by kernel_rfl) (by kernel_rfl) rfl rfl rfl hs60 (fun w' hw' => op_move ha90 rfl rfl) ?_
       intro a92 ha92; clear ha90 a90
       refine dr_val (i := 21) ha92 rfl (by kernel_rfl) (by kernel_rfl) (by kernel_rfl) rfl rfl rfl hs60 (fun w' hw' => op_move ha92 rfl rfl) ?_
       intro a93 ha93; clear ha92 a92
       refine dr_val (i := 22) ha93 rfl (by kernel_rfl) (by kernel_rfl) (by kernel_rfl) rfl rfl rfl hs60 (fun w' hw' => (op_sub ha93 rfl rfl rfl).int (IntWalk.i64_in _ (by omega))) ?_
       intro a94 ha94; clear ha93 a93
       obtain ⟨x95, hx95⟩ := get_ex (xs := list) (j := (i - 1)) (by omega)
       obtain ⟨p96, c97, hi98, hc99, hr100, hs101⟩ := Rds.at_ h_list hx95
       obtain ⟨v102, rfl, b103, b104, b105⟩ := inv_shCust hr100
       have hlb105 := b105.length_le
       refine dr_val (i := 23) ha94 rfl (by kernel_rfl) (by kernel_rfl) (by kernel_rfl) rfl rfl rfl hs60 (fun w' hw' => op_indexAddr ha94 rfl Try.underlying25 ti55 rfl rfl (by omega) hi98) ?_
       intro a106 ha106; clear ha94 a94
       refine dr_val (i := 24) ha106 rfl (by kernel_rfl) (by kernel_rfl) (by kernel_rfl) rfl rfl rfl hs60 (fun w' hw' => op_fieldAddr (sz := 0) ha106 rfl Try.underlying55 rfl rfl ti9 rfl) ?_
       intro a107 ha107; clear ha106 a106
       refine dr_val (i := 25) ha107 rfl (by kernel_rfl) (by kernel_rfl) (by kernel_rfl) rfl rfl rfl hs60 (fun w' hw' => op_loadF (off := 0) ha107 rfl Try.underlying9 rfl rfl (hc99.ext (hx41.trans' hw')) rfl) ?_
       intro a108 ha108; clear ha107 a107
       refine dr_val (i := 26) ha108 rfl (by kernel_rfl) (by kernel_rfl) (by kernel_rfl) rfl rfl rfl hs60 (fun w' hw' => op_fieldAddr (sz := 0) ha108 rfl Try.underlying55 rfl rfl ti9 rfl) ?_
       intro a109 ha109; clear ha108 a108
       refine dr_val (i := 27) ha109 rfl (by kernel_rfl) (by kernel_rfl) (by kernel_rfl) rfl rfl rfl hs60 (fun w' hw' => op_loadF (off := 0) ha109 rfl Try.underlying9 rfl rfl (hb36.ext hw').cells rfl) ?_
       intro a110 ha110; clear ha109 a109
       refine dr_val (i := 28) ha110 rfl (by kernel_rfl) (by kernel_rfl) (by kernel_rfl) rfl rfl rfl hs60 (fun w' hw' => (op_sgeq ha110 rfl rfl rfl).to (congrArg (fun b => Value.bool (!b)) (bytesLess_lt _ _))) ?_
       intro a111 ha111; clear ha110 a110
       refine dr_val (i := 29) ha111 rfl (by kernel_rfl) (by kernel_rfl) (by kernel_rfl) rfl rfl rfl hs60 (fun w' hw' => op_pick_t ha111 rfl rfl rfl) ?_
       intro a112 ha112; clear ha111 a111
       refine dr_val (i := 30) ha112 rfl (by kernel_rfl) (by kernel_rfl) (by kernel_rfl) rfl rfl rfl hs60 (fun w' hw' => op_pick_f ha112 rfl rfl rfl) ?_
       intro a113 ha113; clear ha112 a112
       refine dr_end (by kernel_rfl) ?_
       replace hb36 := hb36.ext hs60
       refine then_n ?_
       by_cases c114 : x95.1 < x14.1
       ·
        rw [decide_eq_true c114] at ha113
        refine cond_f ha113 rfl ?_
        refine wp_skip ?_
        refine then_n ?_
        refine wp_seq ?_
        refine wp_region_lit ?_
        refine wl_val ha113 rfl rfl rfl (op_assign ha113 rfl rfl) ?_
        intro a115 ha115; clear ha113 a113
        refine wpList_nil ?_
        refine then_n ?_
        refine wp_block ?_
        refine loop_inv (X := Nat) (fun (k : Nat) fr wl => Sl 93 fr [(0, v_list), (3, .int .i64 ((i : Nat) : Int)), (4, .pointer (some (⟨w3.heap.size, 0, none⟩ : Addr))), (5, .int .i64 ((k : Nat) : Int))] ∧ Ext w0 wl ∧ Box wl w3.heap.size 55 [St x14.1, .int .i64 x14.2.1, v21] ∧ w57.heap.size ≤ wl.heap.size ∧ (k ≤ x14.2.2.length) ∧ (upB (bkAt x14.2.2) k = true) ∧ (∀ (j : Nat) (y : Str), j < k → x14.2.2[j]? = some y → owI (list.take i) y < 0)) (fun (k : Nat) => x14.2.2.length - k) (0) ?_ ?_
        ·
         exact ⟨(Sl.cons_ ha115 rfl rfl (Sl.cons_ ha115 rfl rfl (Sl.cons_ ha115 rfl rfl (Sl.cons_ ha115 rfl (int_eq (by omega)) (Sl.nil_ ha115))))), hx61, hb36, (by omega), (by omega), (by rfl), (by exact all_zero)⟩
        ·
         clear ha115 a115
         rintro k a119 w116 ⟨ha119, hx117, hf118, hzl120, hk, hU, hB⟩
         have hzhx117 := hx117.size
         refine wp_seq ?_
         refine wp_seq ?_
         refine wp_region_lit ?_
         refine wl_val ha119 rfl rfl rfl (op_move ha119 rfl rfl) ?_
         intro a121 ha121; clear ha119 a119
         refine wl_val ha121 rfl rfl rfl (op_fieldAddr (sz := 0) ha121 rfl Try.underlying55 rfl rfl ti34 rfl) ?_
         intro a122 ha122; clear ha121 a121
         refine wl_val ha122 rfl rfl rfl (op_loadF (off := 2) ha122 rfl Try.underlying34 rfl rfl hf118.cells rfl) ?_
         intro a123 ha123; clear ha122 a122
         refine wl_val ha123 rfl rfl rfl (op_len_sl ha123 rfl Try.underlying34 rfl b24) ?_
         intro a124 ha124; clear ha123 a123
         refine wl_val ha124 rfl rfl rfl (op_lss ha124 rfl rfl rfl) ?_
         intro a125 ha125; clear ha124 a124
         refine wpList_nil ?_
         refine then_n ?_
         by_cases c126 : ((k : Nat) : Int) < ((x14.2.2.length : Nat) : Int)
         ·
          rw [decide_eq_true c126] at ha125
          refine cond_t ha125 rfl ?_
          refine wp_skip ?_
          refine then_n ?_
          refine wp_seq ?_
          refine wp_block ?_
          refine wp_seq ?_
          refine dr_enter Ext follows_mixed ?_
          intro w127 he128
          have hx129 := hx117.trans' he128
          have hzhx129 := he128.size
          replace hf118 := hf118.ext he128
          have hs130 : Ext w127 w127 := Ext.rfl' _
          refine dr_val (i := 0) ha125 rfl (by kernel_rfl) (by kernel_rfl) (by kernel_rfl) rfl rfl rfl hs130 (fun w' hw' => op_fieldAddr (sz := 0) ha125 rfl Try.underlying55 rfl rfl ti34 rfl) ?_
          intro a131 ha131; clear ha125 a125
          refine dr_val (i := 1) ha131 rfl (by kernel_rfl) (by kernel_rfl) (by kernel_rfl) rfl rfl rfl hs130 (fun w' hw' => op_loadF (off := 2) ha131 rfl Try.underlying34 rfl rfl (hf118.ext hw').cells rfl) ?_
          intro a132 ha132; clear ha131 a131
          refine dr_val (i := 2) ha132 rfl (by kernel_rfl) (by kernel_rfl) (by kernel_rfl) rfl rfl rfl hs130 (fun w' hw' => op_move ha132 rfl rfl) ?_
          intro a133 ha133; clear ha132 a132
          obtain ⟨x134, hx134⟩ := get_ex (xs := x14.2.2) (j := k) (by omega)
          obtain ⟨p135, c136, hi137, hc138, hr139, hs140⟩ := Rds.at_ b24 hx134
          obtain ⟨rfl, b141⟩ := inv_shStr hr139
          refine dr_val (i := 3) ha133 rfl (by kernel_rfl) (by kernel_rfl) (by kernel_rfl) rfl rfl rfl hs130 (fun w' hw' => op_indexAddr ha133 rfl Try.underlying34 ti9 rfl rfl (by omega) hi137) ?_
          intro a142 ha142; clear ha133 a133
          refine dr_val (i := 4) ha142 rfl (by kernel_rfl) (by kernel_rfl) (by kernel_rfl) rfl rfl rfl hs130 (fun w' hw' => op_loadH ha142 rfl Try.underlying9 rfl rfl (hc138.ext (hx129.trans' hw')) rfl) ?_
          intro a143 ha143; clear ha142 a142
          refine dr_one (i := 5) (by kernel_rfl) ?_
          refine po_callR ha143 rfl rfl rfl rfl (op_call ha143 rfl cb52 rfl) (c_spec_IsWord _ x134 (by first | assumption | omega | (simp; omega) | (simp [mkN_length]; omega))) ?_
          rintro v144 w145 he146 rfl a147 ha147; clear ha143 a143
          have hs148 := hs130.trans' he146
          have hx149 := hx129.trans' he146
          have hzhx149 := he146.size
          refine ⟨hs148, ?_⟩
          refine dr_val (i := 6) ha147 rfl (by kernel_rfl) (by kernel_rfl) (by kernel_rfl) rfl rfl rfl hs148 (fun w' hw' => op_not ha147 rfl rfl) ?_
          intro a150 ha150; clear ha147 a147
          refine dr_val (i := 7) ha150 rfl (by kernel_rfl) (by kernel_rfl) (by kernel_rfl) rfl rfl rfl hs148 (fun w' hw' => op_move ha150 rfl rfl) ?_
          intro a151 ha151; clear ha150 a150
          rcases Bool.eq_false_or_eq_true (wordB x134) with c152 | c152
          ·
           rw [c152] at ha151
           refine dr_val (i := 8) ha151 rfl (by kernel_rfl) (by kernel_rfl) (by kernel_rfl) rfl rfl rfl hs148 (fun w' hw' => op_move ha151 rfl rfl) ?_
           intro a153 ha153; clear ha151 a151
           refine dr_val (i := 9) ha153 rfl (by kernel_rfl) (by kernel_rfl) (by kernel_rfl) rfl rfl rfl hs148 (fun w' hw' => op_gtr ha153 rfl rfl rfl) ?_
           intro a154 ha154; clear ha153 a153
           refine dr_val (i := 10) ha154 rfl (by kernel_rfl) (by kernel_rfl) (by kernel_rfl) rfl rfl rfl hs148 (fun w' hw' => op_move ha154 rfl rfl) ?_
           intro a155 ha155; clear ha154 a154
           by_cases c156 : (0 : Int) < ((k : Nat) : Int)
           ·
            rw [decide_eq_true c156] at ha155
            refine dr_val (i := 11) ha155 rfl (by kernel_rfl) (by kernel_rfl) (by kernel_rfl) rfl rfl rfl hs148 (fun w' hw' => op_fieldAddr (sz := 0) ha155 rfl Try.underlying55 rfl rfl ti34 rfl) ?_
            intro a157 ha157; clear ha155 a155
            refine dr_val (i := 12) ha157 rfl (by kernel_rfl) (by kernel_rfl) (by kernel_rfl) rfl rfl rfl hs148 (fun w' hw' => op_loadF (off := 2) ha157 rfl Try.underlying34 rfl rfl (hf118.ext hw').cells rfl) ?_
            intro a158 ha158; clear ha157 a157
            refine dr_val (i := 13) ha158 rfl (by kernel_rfl) (by kernel_rfl) (by kernel_rfl) rfl rfl rfl hs148 (fun w' hw' => op_move ha158 rfl rfl) ?_
            intro a159 ha159; clear ha158 a158
            refine dr_val (i := 14) ha159 rfl (by kernel_rfl) (by kernel_rfl) (by kernel_rfl) rfl rfl rfl hs148 (fun w' hw' => (op_sub ha159 rfl rfl rfl).int (IntWalk.i64_in _ (by omega))) ?_
            intro a160 ha160; clear ha159 a159
            obtain ⟨x161, hx161⟩ := get_ex (xs := x14.2.2) (j := (k - 1)) (by omega)
            obtain ⟨p162, c163, hi164, hc165, hr166, hs167⟩ := Rds.at_ b24 hx161
            obtain ⟨rfl, b168⟩ := inv_shStr hr166
            refine dr_val (i := 15) ha160 rfl (by kernel_rfl) (by kernel_rfl) (by kernel_rfl) rfl rfl rfl hs148 (fun w' hw' => op_indexAddr ha160 rfl Try.underlying34 ti9 rfl rfl (by omega) hi164) ?_
            intro a169 ha169; clear ha160 a160
            refine dr_val (i := 16) ha169 rfl (by kernel_rfl) (by kernel_rfl) (by kernel_rfl) rfl rfl rfl hs148 (fun w' hw' => op_loadH ha169 rfl Try.underlying9 rfl rfl (hc165.ext (hx129.trans' hw')) rfl) ?_
            intro a170 ha170; clear ha169 a169
            refine dr_val (i := 17) ha170 rfl (by kernel_rfl) (by kernel_rfl) (by kernel_rfl) rfl rfl rfl hs148 (fun w' hw' => op_fieldAddr (sz := 0) ha170 rfl Try.underlying55 rfl rfl ti34 rfl) ?_
            intro a171 ha171; clear ha170 a170
            refine dr_val (i := 18) ha171 rfl (by kernel_rfl) (by kernel_rfl) (by kernel_rfl) rfl rfl rfl hs148 (fun w' hw' => op_loadF (off := 2) ha171 rfl Try.underlying34 rfl rfl (hf118.ext hw').cells rfl) ?_
            intro a172 ha172; clear ha171 a171
            refine dr_val (i := 19) ha172 rfl (by kernel_rfl) (by kernel_rfl) (by kernel_rfl) rfl rfl rfl hs148 (fun w' hw' => op_move ha172 rfl rfl) ?_
            intro a173 ha173; clear ha172 a172
            refine dr_val (i := 20) ha173 rfl (by kernel_rfl) (by kernel_rfl) (by kernel_rfl) rfl rfl rfl hs148 (fun w' hw' => op_indexAddr ha173 rfl Try.underlying34 ti9 rfl rfl (by omega) hi137) ?_
            intro a174 ha174; clear ha173 a173
            refine dr_val (i := 21) ha174 rfl (by kernel_rfl) (by kernel_rfl) (by kernel_rfl) rfl rfl rfl hs148 (fun w' hw' => op_loadH ha174 rfl Try.underlying9 rfl rfl (hc138.ext (hx129.trans' hw')) rfl) ?_
            intro a175 ha175; clear ha174 a174
            refine dr_val (i := 22) ha175 rfl (by kernel_rfl) (by kernel_rfl) (by kernel_rfl) rfl rfl rfl hs148 (fun w' hw' => (op_sgeq ha175 rfl rfl rfl).to (congrArg (fun b => Value.bool (!b)) (bytesLess_lt _ _))) ?_
            intro a176 ha176; clear ha175 a175
            refine dr_val (i := 23) ha176 rfl (by kernel_rfl) (by kernel_rfl) (by kernel_rfl) rfl rfl rfl hs148 (fun w' hw' => op_pick_t ha176 rfl rfl rfl) ?_
            intro a177 ha177; clear ha176 a176
            refine dr_val (i := 24) ha177 rfl (by kernel_rfl) (by kernel_rfl) (by kernel_rfl) rfl rfl rfl hs148 (fun w' hw' => op_pick_f ha177 rfl rfl rfl) ?_
            intro a178 ha178; clear ha177 a177
            refine dr_val (i := 25) ha178 rfl (by kernel_rfl) (by kernel_rfl) (by kernel_rfl) rfl rfl rfl hs148 (fun w' hw' => op_move ha178 rfl rfl) ?_
            intro a179 ha179; clear ha178 a178
            by_cases c180 : x161 < x134
            ·
             rw [decide_eq_true c180] at ha179
             refine dr_val (i := 26) ha179 rfl (by kernel_rfl) (by kernel_rfl) (by kernel_rfl) rfl rfl rfl hs148 (fun w' hw' => op_move ha179 rfl rfl) ?_
             intro a181 ha181; clear ha179 a179
             refine dr_val (i := 27) ha181 rfl (by kernel_rfl) (by kernel_rfl) (by kernel_rfl) rfl rfl rfl hs148 (fun w' hw' => op_fieldAddr (sz := 0) ha181 rfl Try.underlying55 rfl rfl ti34 rfl) ?_
             intro a182 ha182; clear ha181 a181
             refine dr_val (i := 28) ha182 rfl (by kernel_rfl) (by kernel_rfl) (by kernel_rfl) rfl rfl rfl hs148 (fun w' hw' => op_loadF (off := 2) ha182 rfl Try.underlying34 rfl rfl (hf118.ext hw').cells rfl) ?_
             intro a183 ha183; clear ha182 a182
             refine dr_val (i := 29) ha183 rfl (by kernel_rfl) (by kernel_rfl) (by kernel_rfl) rfl rfl rfl hs148 (fun w' hw' => op_move ha183 rfl rfl) ?_
             intro a184 ha184; clear ha183 a183
             refine dr_val (i := 30) ha184 rfl (by kernel_rfl) (by kernel_rfl) (by kernel_rfl) rfl rfl rfl hs148 (fun w' hw' => op_indexAddr ha184 rfl Try.underlying34 ti9 rfl rfl (by omega) hi137) ?_
             intro a185 ha185; clear ha184 a184
             refine dr_val (i := 31) ha185 rfl (by kernel_rfl) (by kernel_rfl) (by kernel_rfl) rfl rfl rfl hs148 (fun w' hw' => op_loadH ha185 rfl Try.underlying9 rfl rfl (hc138.ext (hx129.trans' hw')) rfl) ?_
             intro a186 ha186; clear ha185 a185
             refine dr_val (i := 33) ha186 rfl (by kernel_rfl) (by kernel_rfl) (by kernel_rfl) rfl rfl rfl hs148 (fun w' hw' => op_move ha186 rfl rfl) ?_
             intro a187 ha187; clear ha186 a186
             refine dr_one (i := 32) (by kernel_rfl) ?_
             refine po_callR ha187 rfl rfl rfl rfl (op_call ha187 rfl cb54 rfl) (c_spec_l30Owner _ v_list list x134 (h_list.ext pos_shCust (hx129.trans' hs148))) ?_
             rintro v188 w189 he190 rfl a191 ha191; clear ha187 a187
             have hs192 := hs148.trans' he190
             have hx193 := hx149.trans' he190
             have hzhx193 := he190.size
             refine ⟨hs192, ?_⟩
             refine dr_val (i := 34) ha191 rfl (by kernel_rfl) (by kernel_rfl) (by kernel_rfl) rfl rfl rfl hs192 (fun w' hw' => (op_neq ha191 rfl rfl rfl).to (congrArg Value.bool decide_not)) ?_
             intro a194 ha194; clear ha191 a191
             refine dr_val (i := 35) ha194 rfl (by kernel_rfl) (by kernel_rfl) (by kernel_rfl) rfl rfl rfl hs192 (fun w' hw' => op_pick_f ha194 rfl rfl rfl) ?_
             intro a195 ha195; clear ha194 a194
             refine dr_end (by kernel_rfl) ?_
             replace hf118 := hf118.ext hs192
             refine then_n ?_
             by_cases c196 : (owI list x134 : Int) = ((i : Nat) : Int)
             ·
              rw [decide_eq_true c196] at ha195
              refine cond_f ha195 rfl ?_
              refine wp_skip ?_
              refine block_n ?_
              refine then_n ?_
              refine wp_region_lit ?_
              refine wl_val ha195 rfl rfl rfl (op_move ha195 rfl rfl) ?_
              intro a197 ha197; clear ha195 a195
              refine wl_val ha197 rfl rfl rfl ((op_add ha197 rfl rfl rfl).int (IntWalk.i64_in _ (by omega))) ?_
              intro a198 ha198; clear ha197 a197
              refine wl_val ha198 rfl rfl rfl (op_assign ha198 rfl rfl) ?_
              intro a199 ha199; clear ha198 a198
              refine wpList_nil ?_
              refine round_end (x := k) ((k + 1)) ?_ ?_
              ·
               refine ⟨(Sl.cons_ ha199 rfl rfl (Sl.cons_ ha199 rfl rfl (Sl.cons_ ha199 rfl rfl (Sl.cons_ ha199 rfl (int_eq (by omega)) (Sl.nil_ ha199))))), hx193, hf118, (by omega), (by omega), (by exact upB_step hU (bkAt_ok hx134 (by assumption) (by first | (left; omega) | (right; exact ⟨_, hx161, by assumption⟩)))), (by exact all_snoc (p := fun y => owI (list.take i) y < 0) hB hx134 ((owI_here hx14 (List.mem_of_getElem? hx134)).1 (by assumption)))⟩
              ·show (x14.2.2.length - ((k + 1)) : Nat) < x14.2.2.length - k; omega
             ·
              rw [decide_eq_false c196] at ha195
              refine cond_t ha195 rfl ?_
              refine wp_seq ?_
              refine wp_region_lit ?_
              refine wl_val ha195 rfl rfl rfl (op_assign ha195 rfl rfl) ?_
              intro a200 ha200; clear ha195 a195
              refine wpList_nil ?_
              refine then_n ?_
              refine wp_ret ?_
              refine block_r ?_
              refine then_r ?_
              refine then_r ?_
              refine block_r ?_
              refine block_r ?_
              refine then_r ?_
              refine then_r ?_
              refine block_r ?_
              refine then_r ?_
              refine ret1 ha200 rfl rfl ?_
              clear ha200 a200
              exact ret_mk hx193 (congrArg Value.bool (by rw [cuB_no hx14 (cuAt_no hx14 (by first | (right; right; left; exact bkB_no hx134 (bkAt_no hx134 (by first | (left; assumption) | (right; exact ⟨by omega, _, hx161, by assumption⟩)))) | (right; right; right; right; exact ⟨_, List.mem_of_getElem? hx134, fun q => absurd ((owI_here hx14 (List.mem_of_getElem? hx134)).2 q) (by assumption)⟩)))]))
            ·
             rw [decide_eq_false c180] at ha179
             refine dr_skip (i := 26) ha179 rfl (by kernel_rfl) (by kernel_rfl) (by kernel_rfl) rfl rfl rfl hs148 ?_
             intro a201 ha201; clear ha179 a179
             refine dr_skip (i := 27) ha201 rfl (by kernel_rfl) (by kernel_rfl) (by kernel_rfl) rfl rfl rfl hs148 ?_
             intro a202 ha202; clear ha201 a201
             refine dr_skip (i := 28) ha202 rfl (by kernel_rfl) (by kernel_rfl) (by kernel_rfl) rfl rfl rfl hs148 ?_
             intro a203 ha203; clear ha202 a202
             refine dr_skip (i := 29) ha203 rfl (by kernel_rfl) (by kernel_rfl) (by kernel_rfl) rfl rfl rfl hs148 ?_
             intro a204 ha204; clear ha203 a203
             refine dr_skip (i := 30) ha204 rfl (by kernel_rfl) (by kernel_rfl) (by kernel_rfl) rfl rfl rfl hs148 ?_
             intro a205 ha205; clear ha204 a204
             refine dr_skip (i := 31) ha205 rfl (by kernel_rfl) (by kernel_rfl) (by kernel_rfl) rfl rfl rfl hs148 ?_
             intro a206 ha206; clear ha205 a205
             refine dr_skip (i := 32) ha206 rfl (by kernel_rfl) (by kernel_rfl) (by kernel_rfl) rfl rfl rfl hs148 ?_
             intro a207 ha207; clear ha206 a206
             refine dr_skip (i := 33) ha207 rfl (by kernel_rfl) (by kernel_rfl) (by kernel_rfl) rfl rfl rfl hs148 ?_
             intro a208 ha208; clear ha207 a207
             refine dr_skip (i := 34) ha208 rfl (by kernel_rfl) (by kernel_rfl) (by kernel_rfl) rfl rfl rfl hs148 ?_
             intro a209 ha209; clear ha208 a208
             refine dr_val (i := 35) ha209 rfl (by kernel_rfl) (by kernel_rfl) (by kernel_rfl) rfl rfl rfl hs148 (fun w' hw' => op_pick_t ha209 rfl rfl rfl) ?_
             intro a210 ha210; clear ha209 a209
             refine dr_end (by kernel_rfl) ?_
             replace hf118 := hf118.ext hs148
             refine then_n ?_
             refine cond_t ha210 rfl ?_
             refine wp_seq ?_
             refine wp_region_lit ?_
             refine wl_val ha210 rfl rfl rfl (op_assign ha210 rfl rfl) ?_
             intro a211 ha211; clear ha210 a210
             refine wpList_nil ?_
             refine then_n ?_
             refine wp_ret ?_
             refine block_r ?_
             refine then_r ?_
             refine then_r ?_
             refine block_r ?_
             refine block_r ?_
             refine then_r ?_
             refine then_r ?_
             refine block_r ?_
             refine then_r ?_
             refine ret1 ha211 rfl rfl ?_
             clear ha211 a211
             exact ret_mk hx149 (congrArg Value.bool (by rw [cuB_no hx14 (cuAt_no hx14 (by first | (right; right; left; exact bkB_no hx134 (bkAt_no hx134 (by first | (left; assumption) | (right; exact ⟨by omega, _, hx161, by assumption⟩)))) | (right; right; right; right; exact ⟨_, List.mem_of_getElem? hx134, fun q => absurd ((owI_here hx14 (List.mem_of_getElem? hx134)).2 q) (by assumption)⟩)))]))
           ·
            rw [decide_eq_false c156] at ha155
            refine dr_skip (i := 11) ha155 rfl (by kernel_rfl) (by kernel_rfl) (by kernel_rfl) rfl rfl rfl hs148 ?_
            intro a212 ha212; clear ha155 a155
            refine dr_skip (i := 12) ha212 rfl (by kernel_rfl) (by kernel_rfl) (by kernel_rfl) rfl rfl rfl hs148 ?_
            intro a213 ha213; clear ha212 a212
            refine dr_skip (i := 13) ha213 rfl (by kernel_rfl) (by kernel_rfl) (by kernel_rfl) rfl rfl rfl hs148 ?_
            intro a214 ha214; clear ha213 a213
            refine dr_skip (i := 14) ha214 rfl (by kernel_rfl) (by kernel_rfl) (by kernel_rfl) rfl rfl rfl hs148 ?_
            intro a215 ha215; clear ha214 a214
            refine dr_skip (i := 15) ha215 rfl (by kernel_rfl) (by kernel_rfl) (by kernel_rfl) rfl rfl rfl hs148 ?_
            intro a216 ha216; clear ha215 a215
            refine dr_skip (i := 16) ha216 rfl (by kernel_rfl) (by kernel_rfl) (by kernel_rfl) rfl rfl rfl hs148 ?_
            intro a217 ha217; clear ha216 a216
            refine dr_skip (i := 17) ha217 rfl (by kernel_rfl) (by kernel_rfl) (by kernel_rfl) rfl rfl rfl hs148 ?_
            intro a218 ha218; clear ha217 a217
            refine dr_skip (i := 18) ha218 rfl (by kernel_rfl) (by kernel_rfl) (by kernel_rfl) rfl rfl rfl hs148 ?_
            intro a219 ha219; clear ha218 a218
            refine dr_skip (i := 19) ha219 rfl (by kernel_rfl) (by kernel_rfl) (by kernel_rfl) rfl rfl rfl hs148 ?_
            intro a220 ha220; clear ha219 a219
            refine dr_skip (i := 20) ha220 rfl (by kernel_rfl) (by kernel_rfl) (by kernel_rfl) rfl rfl rfl hs148 ?_
            intro a221 ha221; clear ha220 a220
            refine dr_skip (i := 21) ha221 rfl (by kernel_rfl) (by kernel_rfl) (by kernel_rfl) rfl rfl rfl hs148 ?_
            intro a222 ha222; clear ha221 a221
            refine dr_skip (i := 22) ha222 rfl (by kernel_rfl) (by kernel_rfl) (by kernel_rfl) rfl rfl rfl hs148 ?_
            intro a223 ha223; clear ha222 a222
            refine dr_val (i := 23) ha223 rfl (by kernel_rfl) (by kernel_rfl) (by kernel_rfl) rfl rfl rfl hs148 (fun w' hw' => op_pick_f ha223 rfl rfl rfl) ?_
            intro a224 ha224; clear ha223 a223
            refine dr_val (i := 24) ha224 rfl (by kernel_rfl) (by kernel_rfl) (by kernel_rfl) rfl rfl rfl hs148 (fun w' hw' => op_pick_f ha224 rfl rfl rfl) ?_
            intro a225 ha225; clear ha224 a224
            refine dr_val (i := 25) ha225 rfl (by kernel_rfl) (by kernel_rfl) (by kernel_rfl) rfl rfl rfl hs148 (fun w' hw' => op_move ha225 rfl rfl) ?_
            intro a226 ha226; clear ha225 a225
            refine dr_val (i := 26) ha226 rfl (by kernel_rfl) (by kernel_rfl) (by kernel_rfl) rfl rfl rfl hs148 (fun w' hw' => op_move ha226 rfl rfl) ?_
            intro a227 ha227; clear ha226 a226
            refine dr_val (i := 27) ha227 rfl (by kernel_rfl) (by kernel_rfl) (by kernel_rfl) rfl rfl rfl hs148 (fun w' hw' => op_fieldAddr (sz := 0) ha227 rfl Try.underlying55 rfl rfl ti34 rfl) ?_
            intro a228 ha228; clear ha227 a227
            refine dr_val (i := 28) ha228 rfl (by kernel_rfl) (by kernel_rfl) (by kernel_rfl) rfl rfl rfl hs148 (fun w' hw' => op_loadF (off := 2) ha228 rfl Try.underlying34 rfl rfl (hf118.ext hw').cells rfl) ?_
            intro a229 ha229; clear ha228 a228
            refine dr_val (i := 29) ha229 rfl (by kernel_rfl) (by kernel_rfl) (by kernel_rfl) rfl rfl rfl hs148 (fun w' hw' => op_move ha229 rfl rfl) ?_
            intro a230 ha230; clear ha229 a229
            refine dr_val (i := 30) ha230 rfl (by kernel_rfl) (by kernel_rfl) (by kernel_rfl) rfl rfl rfl hs148 (fun w' hw' => op_indexAddr ha230 rfl Try.underlying34 ti9 rfl rfl (by omega) hi137) ?_
            intro a231 ha231; clear ha230 a230
            refine dr_val (i := 31) ha231 rfl (by kernel_rfl) (by kernel_rfl) (by kernel_rfl) rfl rfl rfl hs148 (fun w' hw' => op_loadH ha231 rfl Try.underlying9 rfl rfl (hc138.ext (hx129.trans' hw')) rfl) ?_
            intro a232 ha232; clear ha231 a231
            refine dr_val (i := 33) ha232 rfl (by kernel_rfl) (by kernel_rfl) (by kernel_rfl) rfl rfl rfl hs148 (fun w' hw' => op_move ha232 rfl rfl) ?_
            intro a233 ha233; clear ha232 a232
            refine dr_one (i := 32) (by kernel_rfl) ?_
            refine po_callR ha233 rfl rfl rfl rfl (op_call ha233 rfl cb54 rfl) (c_spec_l30Owner _ v_list list x134 (h_list.ext pos_shCust (hx129.trans' hs148))) ?_
            rintro v234 w235 he236 rfl a237 ha237; clear ha233 a233
            have hs238 := hs148.trans' he236
            have hx239 := hx149.trans' he236
            have hzhx239 := he236.size
            refine ⟨hs238, ?_⟩
            refine dr_val (i := 34) ha237 rfl (by kernel_rfl) (by kernel_rfl) (by kernel_rfl) rfl rfl rfl hs238 (fun w' hw' => (op_neq ha237 rfl rfl rfl).to (congrArg Value.bool decide_not)) ?_
            intro a240 ha240; clear ha237 a237
            refine dr_val (i := 35) ha240 rfl (by kernel_rfl) (by kernel_rfl) (by kernel_rfl) rfl rfl rfl hs238 (fun w' hw' => op_pick_f ha240 rfl rfl rfl) ?_
            intro a241 ha241; clear ha240 a240
            refine dr_end (by kernel_rfl) ?_
            replace hf118 := hf118.ext hs238
            refine then_n ?_
            by_cases c242 : (owI list x134 : Int) = ((i : Nat) : Int)
            ·
             rw [decide_eq_true c242] at ha241
             refine cond_f ha241 rfl ?_
             refine wp_skip ?_
             refine block_n ?_
             refine then_n ?_
             refine wp_region_lit ?_
             refine wl_val ha241 rfl rfl rfl (op_move ha241 rfl rfl) ?_
             intro a243 ha243; clear ha241 a241
             refine wl_val ha243 rfl rfl rfl ((op_add ha243 rfl rfl rfl).int (IntWalk.i64_in _ (by omega))) ?_
             intro a244 ha244; clear ha243 a243
             refine wl_val ha244 rfl rfl rfl (op_assign ha244 rfl rfl) ?_
             intro a245 ha245; clear ha244 a244
             refine wpList_nil ?_
             refine round_end (x := k) ((k + 1)) ?_ ?_
             ·
              refine ⟨(Sl.cons_ ha245 rfl rfl (Sl.cons_ ha245 rfl rfl (Sl.cons_ ha245 rfl rfl (Sl.cons_ ha245 rfl (int_eq (by omega)) (Sl.nil_ ha245))))), hx239, hf118, (by omega), (by omega), (by exact upB_step hU (bkAt_ok hx134 (by assumption) (by first | (left; omega) | (right; exact ⟨_, hx134, by assumption⟩)))), (by exact all_snoc (p := fun y => owI (list.take i) y < 0) hB hx134 ((owI_here hx14 (List.mem_of_getElem? hx134)).1 (by assumption)))⟩
             ·show (x14.2.2.length - ((k + 1)) : Nat) < x14.2.2.length - k; omega
            ·
             rw [decide_eq_false c242] at ha241
             refine cond_t ha241 rfl ?_
             refine wp_seq ?_
             refine wp_region_lit ?_
             refine wl_val ha241 rfl rfl rfl (op_assign ha241 rfl rfl) ?_
             intro a246 ha246; clear ha241 a241
             refine wpList_nil ?_
             refine then_n ?_
             refine wp_ret ?_
             refine block_r ?_
             refine then_r ?_
             refine then_r ?_
             refine block_r ?_
             refine block_r ?_
             refine then_r ?_
             refine then_r ?_
             refine block_r ?_
             refine then_r ?_
             refine ret1 ha246 rfl rfl ?_
             clear ha246 a246
             exact ret_mk hx239 (congrArg Value.bool (by rw [cuB_no hx14 (cuAt_no hx14 (by first | (right; right; left; exact bkB_no hx134 (bkAt_no hx134 (by first | (left; assumption) | (right; exact ⟨by omega, _, hx134, by assumption⟩)))) | (right; right; right; right; exact ⟨_, List.mem_of_getElem? hx134, fun q => absurd ((owI_here hx14 (List.mem_of_getElem? hx134)).2 q) (by assumption)⟩)))]))
          ·
           rw [c152] at ha151
           refine dr_skip (i := 8) ha151 rfl (by kernel_rfl) (by kernel_rfl) (by kernel_rfl) rfl rfl rfl hs148 ?_
           intro a247 ha247; clear ha151 a151
           refine dr_skip (i := 9) ha247 rfl (by kernel_rfl) (by kernel_rfl) (by kernel_rfl) rfl rfl rfl hs148 ?_
           intro a248 ha248; clear ha247 a247
           refine dr_skip (i := 10) ha248 rfl (by kernel_rfl) (by kernel_rfl) (by kernel_rfl) rfl rfl rfl hs148 ?_
           intro a249 ha249; clear ha248 a248
           refine dr_skip (i := 11) ha249 rfl (by kernel_rfl) (by kernel_rfl) (by kernel_rfl) rfl rfl rfl hs148 ?_
           intro a250 ha250; clear ha249 a249
           refine dr_skip (i := 12) ha250 rfl (by kernel_rfl) (by kernel_rfl) (by kernel_rfl) rfl rfl rfl hs148 ?_
           intro a251 ha251; clear ha250 a250
           refine dr_skip (i := 13) ha251 rfl (by kernel_rfl) (by kernel_rfl) (by kernel_rfl) rfl rfl rfl hs148 ?_
           intro a252 ha252; clear ha251 a251
           refine dr_skip (i := 14) ha252 rfl (by kernel_rfl) (by kernel_rfl) (by kernel_rfl) rfl rfl rfl hs148 ?_
           intro a253 ha253; clear ha252 a252
           refine dr_skip (i := 15) ha253 rfl (by kernel_rfl) (by kernel_rfl) (by kernel_rfl) rfl rfl rfl hs148 ?_
           intro a254 ha254; clear ha253 a253
           refine dr_skip (i := 16) ha254 rfl (by kernel_rfl) (by kernel_rfl) (by kernel_rfl) rfl rfl rfl hs148 ?_
           intro a255 ha255; clear ha254 a254
           refine dr_skip (i := 17) ha255 rfl (by kernel_rfl) (by kernel_rfl) (by kernel_rfl) rfl rfl rfl hs148 ?_
           intro a256 ha256; clear ha255 a255
           refine dr_skip (i := 18) ha256 rfl (by kernel_rfl) (by kernel_rfl) (by kernel_rfl) rfl rfl rfl hs148 ?_
           intro a257 ha257; clear ha256 a256
           refine dr_skip (i := 19) ha257 rfl (by kernel_rfl) (by kernel_rfl) (by kernel_rfl) rfl rfl rfl hs148 ?_
           intro a258 ha258; clear ha257 a257
           refine dr_skip (i := 20) ha258 rfl (by kernel_rfl) (by kernel_rfl) (by kernel_rfl) rfl rfl rfl hs148 ?_
           intro a259 ha259; clear ha258 a258
           refine dr_skip (i := 21) ha259 rfl (by kernel_rfl) (by kernel_rfl) (by kernel_rfl) rfl rfl rfl hs148 ?_
           intro a260 ha260; clear ha259 a259
           refine dr_skip (i := 22) ha260 rfl (by kernel_rfl) (by kernel_rfl) (by kernel_rfl) rfl rfl rfl hs148 ?_
           intro a261 ha261; clear ha260 a260
           refine dr_skip (i := 23) ha261 rfl (by kernel_rfl) (by kernel_rfl) (by kernel_rfl) rfl rfl rfl hs148 ?_
           intro a262 ha262; clear ha261 a261
           refine dr_val (i := 24) ha262 rfl (by kernel_rfl) (by kernel_rfl) (by kernel_rfl) rfl rfl rfl hs148 (fun w' hw' => op_pick_t ha262 rfl rfl rfl) ?_
           intro a263 ha263; clear ha262 a262
           refine dr_val (i := 25) ha263 rfl (by kernel_rfl) (by kernel_rfl) (by kernel_rfl) rfl rfl rfl hs148 (fun w' hw' => op_move ha263 rfl rfl) ?_
           intro a264 ha264; clear ha263 a263
           refine dr_skip (i := 26) ha264 rfl (by kernel_rfl) (by kernel_rfl) (by kernel_rfl) rfl rfl rfl hs148 ?_
           intro a265 ha265; clear ha264 a264
           refine dr_skip (i := 27) ha265 rfl (by kernel_rfl) (by kernel_rfl) (by kernel_rfl) rfl rfl rfl hs148 ?_
           intro a266 ha266; clear ha265 a265
           refine dr_skip (i := 28) ha266 rfl (by kernel_rfl) (by kernel_rfl) (by kernel_rfl) rfl rfl rfl hs148 ?_
           intro a267 ha267; clear ha266 a266
           refine dr_skip (i := 29) ha267 rfl (by kernel_rfl) (by kernel_rfl) (by kernel_rfl) rfl rfl rfl hs148 ?_
           intro a268 ha268; clear ha267 a267
           refine dr_skip (i := 30) ha268 rfl (by kernel_rfl) (by kernel_rfl) (by kernel_rfl) rfl rfl rfl hs148 ?_
           intro a269 ha269; clear ha268 a268
           refine dr_skip (i := 31) ha269 rfl (by kernel_rfl) (by kernel_rfl) (by kernel_rfl) rfl rfl rfl hs148 ?_
           intro a270 ha270; clear ha269 a269
           refine dr_skip (i := 32) ha270 rfl (by kernel_rfl) (by kernel_rfl) (by kernel_rfl) rfl rfl rfl hs148 ?_
           intro a271 ha271; clear ha270 a270
           refine dr_skip (i := 33) ha271 rfl (by kernel_rfl) (by kernel_rfl) (by kernel_rfl) rfl rfl rfl hs148 ?_
           intro a272 ha272; clear ha271 a271
           refine dr_skip (i := 34) ha272 rfl (by kernel_rfl) (by kernel_rfl) (by kernel_rfl) rfl rfl rfl hs148 ?_
           intro a273 ha273; clear ha272 a272
           refine dr_val (i := 35) ha273 rfl (by kernel_rfl) (by kernel_rfl) (by kernel_rfl) rfl rfl rfl hs148 (fun w' hw' => op_pick_t ha273 rfl rfl rfl) ?_
           intro a274 ha274; clear ha273 a273
           refine dr_end (by kernel_rfl) ?_
           replace hf118 := hf118.ext hs148
           refine then_n ?_
           refine cond_t ha274 rfl ?_
           refine wp_seq ?_
           refine wp_region_lit ?_
           refine wl_val ha274 rfl rfl rfl (op_assign ha274 rfl rfl) ?_
           intro a275 ha275; clear ha274 a274
           refine wpList_nil ?_
           refine then_n ?_
           refine wp_ret ?_
           refine block_r ?_
           refine then_r ?_
           refine then_r ?_
           refine block_r ?_
           refine block_r ?_
           refine then_r ?_
           refine then_r ?_
           refine block_r ?_
           refine then_r ?_
           refine ret1 ha275 rfl rfl ?_
           clear ha275 a275
           exact ret_mk hx149 (congrArg Value.bool (by rw [cuB_no hx14 (cuAt_no hx14 (by first | (right; right; left; exact bkB_no hx134 (bkAt_no hx134 (by first | (left; assumption) | (right; exact ⟨by omega, _, hx134, by assumption⟩)))) | (right; right; right; right; exact ⟨_, List.mem_of_getElem? hx134, fun q => absurd ((owI_here hx14 (List.mem_of_getElem? hx134)).2 q) (by assumption)⟩)))]))
         ·
          rw [decide_eq_false c126] at ha125
          refine cond_f ha125 rfl ?_
          refine wp_exit ?_
          refine then_e ?_
          refine then_e ?_
          refine block_hit ?_
          refine block_n ?_
          refine then_n ?_
          refine wp_region_lit ?_
          refine wl_val ha125 rfl rfl rfl (op_move ha125 rfl rfl) ?_
          intro a276 ha276; clear ha125 a125
          refine wl_val ha276 rfl rfl rfl ((op_add ha276 rfl rfl rfl).int (IntWalk.i64_in _ (by omega))) ?_
          intro a277 ha277; clear ha276 a276
          refine wl_val ha277 rfl rfl rfl (op_assign ha277 rfl rfl) ?_
          intro a278 ha278; clear ha277 a277
          refine wpList_nil ?_
          refine round_end (x := i) ((i + 1)) ?_ ?_
          ·
           refine ⟨(Sl.cons_ ha278 rfl rfl (Sl.cons_ ha278 rfl (int_eq (by omega)) (Sl.nil_ ha278))), hx117, (by omega), (by omega), (by have ek : k = x14.2.2.length := (by omega); rw [ek] at hU; exact upB_step hA (cuAt_ok hx14 (by assumption) (by unfold dateB; assumption) (bkB_ok (by omega) hU) (by first | (left; omega) | (right; exact ⟨_, hx95, by assumption⟩)) (all_mem hB (by omega))))⟩
          ·show (list.length - ((i + 1)) : Nat) < list.length - i; omega
       ·
        rw [decide_eq_false c114] at ha113
        refine cond_t ha113 rfl ?_
        refine wp_seq ?_
        refine wp_region_lit ?_
        refine wl_val ha113 rfl rfl rfl (op_assign ha113 rfl rfl) ?_
        intro a279 ha279; clear ha113 a113
        refine wpList_nil ?_
        refine then_n ?_
        refine wp_ret ?_
        refine then_r ?_
        refine block_r ?_
        refine then_r ?_
        refine then_r ?_
        refine block_r ?_
        refine then_r ?_
        refine ret1 ha279 rfl rfl ?_
        clear ha279 a279
        exact ret_mk hx61 (congrArg Value.bool (by rw [cuB_no hx14 (cuAt_no hx14 (by first | (left; assumption) | (right; left; unfold dateB; assumption) | (right; right; left; exact bkB_big (by omega)) | (right; right; right; left; exact ⟨by omega, _, hx95, by assumption⟩)))]))
      ·
       rw [decide_eq_false c91] at ha90
       refine dr_skip (i := 20) ha90 rfl (by kernel_rfl) (by kernel_rfl) (by kernel_rfl) rfl rfl rfl hs60 ?_
       intro a280 ha280; clear ha90 a90
       refine dr_skip (i := 21) ha280 rfl (by kernel_rfl) (by kernel_rfl) (by kernel_rfl) rfl rfl rfl hs60 ?_
       intro a281 ha281; clear ha280 a280
       refine dr_skip (i := 22) ha281 rfl (by kernel_rfl) (by kernel_rfl) (by kernel_rfl) rfl rfl rfl hs60 ?_
       intro a282 ha282; clear ha281 a281
       refine dr_skip (i := 23) ha282 rfl (by kernel_rfl) (by kernel_rfl) (by kernel_rfl) rfl rfl rfl hs60 ?_
       intro a283 ha283; clear ha282 a282
       refine dr_skip (i := 24) ha283 rfl (by kernel_rfl) (by kernel_rfl) (by kernel_rfl) rfl rfl rfl hs60 ?_
       intro a284 ha284; clear ha283 a283
       refine dr_skip (i := 25) ha284 rfl (by kernel_rfl) (by kernel_rfl) (by kernel_rfl) rfl rfl rfl hs60 ?_
       intro a285 ha285; clear ha284 a284
       refine dr_skip (i := 26) ha285 rfl (by kernel_rfl) (by kernel_rfl) (by kernel_rfl) rfl rfl rfl hs60 ?_
       intro a286 ha286; clear ha285 a285
       refine dr_skip (i := 27) ha286 rfl (by kernel_rfl) (by kernel_rfl) (by kernel_rfl) rfl rfl rfl hs60 ?_
       intro a287 ha287; clear ha286 a286
       refine dr_skip (i := 28) ha287 rfl (by kernel_rfl) (by kernel_rfl) (by kernel_rfl) rfl rfl rfl hs60 ?_
       intro a288 ha288; clear ha287 a287
       refine dr_val (i := 29) ha288 rfl (by kernel_rfl) (by kernel_rfl) (by kernel_rfl) rfl rfl rfl hs60 (fun w' hw' => op_pick_f ha288 rfl rfl rfl) ?_
       intro a289 ha289; clear ha288 a288
       refine dr_val (i := 30) ha289 rfl (by kernel_rfl) (by kernel_rfl) (by kernel_rfl) rfl rfl rfl hs60 (fun w' hw' => op_pick_f ha289 rfl rfl rfl) ?_
       intro a290 ha290; clear ha289 a289
       refine dr_end (by kernel_rfl) ?_
       replace hb36 := hb36.ext hs60
       refine then_n ?_
       refine cond_f ha290 rfl ?_
       refine wp_skip ?_
       refine then_n ?_
       refine wp_seq ?_
       refine wp_region_lit ?_
       refine wl_val ha290 rfl rfl rfl (op_assign ha290 rfl rfl) ?_
       intro a291 ha291; clear ha290 a290
       refine wpList_nil ?_
       refine then_n ?_
       refine wp_block ?_
       refine loop_inv (X := Nat) (fun (k : Nat) fr wl => Sl 93 fr [(0, v_list), (3, .int .i64 ((i : Nat) : Int)), (4, .pointer (some (⟨w3.heap.size, 0, none⟩ : Addr))), (5, .int .i64 ((k : Nat) : Int))] ∧ Ext w0 wl ∧ Box wl w3.heap.size 55 [St x14.1, .int .i64 x14.2.1, v21] ∧ w57.heap.size ≤ wl.heap.size ∧ (k ≤ x14.2.2.length) ∧ (upB (bkAt x14.2.2) k = true) ∧ (∀ (j : Nat) (y : Str), j < k → x14.2.2[j]? = some y → owI (list.take i) y < 0)) (fun (k : Nat) => x14.2.2.length - k) (0) ?_ ?_
       ·
        exact ⟨(Sl.cons_ ha291 rfl rfl (Sl.cons_ ha291 rfl rfl (Sl.cons_ ha291 rfl rfl (Sl.cons_ ha291 rfl (int_eq (by omega)) (Sl.nil_ ha291))))), hx61, hb36, (by omega), (by omega), (by rfl), (by exact all_zero)⟩
       ·
        clear ha291 a291
        rintro k a295 w292 ⟨ha295, hx293, hf294, hzl296, hk, hU, hB⟩
        have hzhx293 := hx293.size
        refine wp_seq ?_
        refine wp_seq ?_
        refine wp_region_lit ?_
        refine wl_val ha295 rfl rfl rfl (op_move ha295 rfl rfl) ?_
        intro a297 ha297; clear ha295 a295
        refine wl_val ha297 rfl rfl rfl (op_fieldAddr (sz := 0) ha297 rfl Try.underlying55 rfl rfl ti34 rfl) ?_
        intro a298 ha298; clear ha297 a297
        refine wl_val ha298 rfl rfl rfl (op_loadF (off := 2) ha298 rfl Try.underlying34 rfl rfl hf294.cells rfl) ?_
        intro a299 ha299; clear ha298 a298
        refine wl_val ha299 rfl rfl rfl (op_len_sl ha299 rfl Try.underlying34 rfl b24) ?_
        intro a300 ha300; clear ha299 a299
        refine wl_val ha300 rfl rfl rfl (op_lss ha300 rfl rfl rfl) ?_
        intro a301 ha301; clear ha300 a300
        refine wpList_nil ?_
        refine then_n ?_
        by_cases c302 : ((k : Nat) : Int) < ((x14.2.2.length : Nat) : Int)
        ·
         rw [decide_eq_true c302] at ha301
         refine cond_t ha301 rfl ?_
         refine wp_skip ?_
         refine then_n ?_
         refine wp_seq ?_
         refine wp_block ?_
         refine wp_seq ?_
         refine dr_enter Ext follows_mixed ?_
         intro w303 he304
         have hx305 := hx293.trans' he304
         have hzhx305 := he304.size
         replace hf294 := hf294.ext he304
         have hs306 : Ext w303 w303 := Ext.rfl' _
         refine dr_val (i := 0) ha301 rfl (by kernel_rfl) (by kernel_rfl) (by kernel_rfl) rfl rfl rfl hs306 (fun w' hw' => op_fieldAddr (sz := 0) ha301 rfl Try.underlying55 rfl rfl ti34 rfl) ?_
         intro a307 ha307; clear ha301 a301
         refine dr_val (i := 1) ha307 rfl (by kernel_rfl) (by kernel_rfl) (by kernel_rfl) rfl rfl rfl hs306 (fun w' hw' => op_loadF (off := 2) ha307 rfl Try.underlying34 rfl rfl (hf294.ext hw').cells rfl) ?_
         intro a308 ha308; clear ha307 a307
         refine dr_val (i := 2) ha308 rfl (by kernel_rfl) (by kernel_rfl) (by kernel_rfl) rfl rfl rfl hs306 (fun w' hw' => op_move ha308 rfl rfl) ?_
         intro a309 ha309; clear ha308 a308
         obtain ⟨x310, hx310⟩ := get_ex (xs := x14.2.2) (j := k) (by omega)
         obtain ⟨p311, c312, hi313, hc314, hr315, hs316⟩ := Rds.at_ b24 hx310
         obtain ⟨rfl, b317⟩ := inv_shStr hr315
         refine dr_val (i := 3) ha309 rfl (by kernel_rfl) (by kernel_rfl) (by kernel_rfl) rfl rfl rfl hs306 (fun w' hw' => op_indexAddr ha309 rfl Try.underlying34 ti9 rfl rfl (by omega) hi313) ?_
         intro a318 ha318; clear ha309 a309
         refine dr_val (i := 4) ha318 rfl (by kernel_rfl) (by kernel_rfl) (by kernel_rfl) rfl rfl rfl hs306 (fun w' hw' => op_loadH ha318 rfl Try.underlying9 rfl rfl (hc314.ext (hx305.trans' hw')) rfl) ?_
         intro a319 ha319; clear ha318 a318
         refine dr_one (i := 5) (by kernel_rfl) ?_
         refine po_callR ha319 rfl rfl rfl rfl (op_call ha319 rfl cb52 rfl) (c_spec_IsWord _ x310 (by first | assumption | omega | (simp; omega) | (simp [mkN_length]; omega))) ?_
         rintro v320 w321 he322 rfl a323 ha323; clear ha319 a319
         have hs324 := hs306.trans' he322
         have hx325 := hx305.trans' he322
         have hzhx325 := he322.size
         refine ⟨hs324, ?_⟩
         refine dr_val (i := 6) ha323 rfl (by kernel_rfl) (by kernel_rfl) (by kernel_rfl) rfl rfl rfl hs324 (fun w' hw' => op_not ha323 rfl rfl) ?_
         intro a326 ha326; clear ha323 a323
         refine dr_val (i := 7) ha326 rfl (by kernel_rfl) (by kernel_rfl) (by kernel_rfl) rfl rfl rfl hs324 (fun w' hw' => op_move ha326 rfl rfl) ?_
         intro a327 ha327; clear ha326 a326
         rcases Bool.eq_false_or_eq_true (wordB x310) with c328 | c328
         ·
          rw [c328] at ha327
          refine dr_val (i := 8) ha327 rfl (by kernel_rfl) (by kernel_rfl) (by kernel_rfl) rfl rfl rfl hs324 (fun w' hw' => op_move ha327 rfl rfl) ?_
          intro a329 ha329; clear ha327 a327
          refine dr_val (i := 9) ha329 rfl (by kernel_rfl) (by kernel_rfl) (by kernel_rfl) rfl rfl rfl hs324 (fun w' hw' => op_gtr ha329 rfl rfl rfl) ?_
          intro a330 ha330; clear ha329 a329
          refine dr_val (i := 10) ha330 rfl (by kernel_rfl) (by kernel_rfl) (by kernel_rfl) rfl rfl rfl hs324 (fun w' hw' => op_move ha330 rfl rfl) ?_
          intro a331 ha331; clear ha330 a330
          by_cases c332 : (0 : Int) < ((k : Nat) : Int)
          ·
           rw [decide_eq_true c332] at ha331
           refine dr_val (i := 11) ha331 rfl (by kernel_rfl) (by kernel_rfl) (by kernel_rfl) rfl rfl rfl hs324 (fun w' hw' => op_fieldAddr (sz := 0) ha331 rfl Try.underlying55 rfl rfl ti34 rfl) ?_
           intro a333 ha333; clear ha331 a331
           refine dr_val (i := 12) ha333 rfl (by kernel_rfl) (by kernel_rfl) (by kernel_rfl) rfl rfl rfl hs324 (fun w' hw' => op_loadF (off := 2) ha333 rfl Try.underlying34 rfl rfl (hf294.ext hw').cells rfl) ?_
           intro a334 ha334; clear ha333 a333
           refine dr_val (i := 13) ha334 rfl (by kernel_rfl) (by kernel_rfl) (by kernel_rfl) rfl rfl rfl hs324 (fun w' hw' => op_move ha334 rfl rfl) ?_
           intro a335 ha335; clear ha334 a334
           refine dr_val (i := 14) ha335 rfl (by kernel_rfl) (by kernel_rfl) (by kernel_rfl) rfl rfl rfl hs324 (fun w' hw' => (op_sub ha335 rfl rfl rfl).int (IntWalk.i64_in _ (by omega))) ?_
           intro a336 ha336; clear ha335 a335
           obtain ⟨x337, hx337⟩ := get_ex (xs := x14.2.2) (j := (k - 1)) (by omega)
           obtain ⟨p338, c339, hi340, hc341, hr342, hs343⟩ := Rds.at_ b24 hx337
           obtain ⟨rfl, b344⟩ := inv_shStr hr342
           refine dr_val (i := 15) ha336 rfl (by kernel_rfl) (by kernel_rfl) (by kernel_rfl) rfl rfl rfl hs324 (fun w' hw' => op_indexAddr ha336 rfl Try.underlying34 ti9 rfl rfl (by omega) hi340) ?_
           intro a345 ha345; clear ha336 a336
           refine dr_val (i := 16) ha345 rfl (by kernel_rfl) (by kernel_rfl) (by kernel_rfl) rfl rfl rfl hs324 (fun w' hw' => op_loadH ha345 rfl Try.underlying9 rfl rfl (hc341.ext (hx305.trans' hw')) rfl) ?_
           intro a346 ha346; clear ha345 a345
           refine dr_val (i := 17) ha346 rfl (by kernel_rfl) (by kernel_rfl) (by kernel_rfl) rfl rfl rfl hs324 (fun w' hw' => op_fieldAddr (sz := 0) ha346 rfl Try.underlying55 rfl rfl ti34 rfl) ?_
           intro a347 ha347; clear ha346 a346
           refine dr_val (i := 18) ha347 rfl (by kernel_rfl) (by kernel_rfl) (by kernel_rfl) rfl rfl rfl hs324 (fun w' hw' => op_loadF (off := 2) ha347 rfl Try.underlying34 rfl rfl (hf294.ext hw').cells rfl) ?_
           intro a348 ha348; clear ha347 a347
           refine dr_val (i := 19) ha348 rfl (by kernel_rfl) (by kernel_rfl) (by kernel_rfl) rfl rfl rfl hs324 (fun w' hw' => op_move ha348 rfl rfl) ?_
           intro a349 ha349; clear ha348 a348
           refine dr_val (i := 20) ha349 rfl (by kernel_rfl) (by kernel_rfl) (by kernel_rfl) rfl rfl rfl hs324 (fun w' hw' => op_indexAddr ha349 rfl Try.underlying34 ti9 rfl rfl (by omega) hi313) ?_
           intro a350 ha350; clear ha349 a349
           refine dr_val (i := 21) ha350 rfl (by kernel_rfl) (by kernel_rfl) (by kernel_rfl) rfl rfl rfl hs324 (fun w' hw' => op_loadH ha350 rfl Try.underlying9 rfl rfl (hc314.ext (hx305.trans' hw')) rfl) ?_
           intro a351 ha351; clear ha350 a350
           refine dr_val (i := 22) ha351 rfl (by kernel_rfl) (by kernel_rfl) (by kernel_rfl) rfl rfl rfl hs324 (fun w' hw' => (op_sgeq ha351 rfl rfl rfl).to (congrArg (fun b => Value.bool (!b)) (bytesLess_lt _ _))) ?_
           intro a352 ha352; clear ha351 a351
           refine dr_val (i := 23) ha352 rfl (by kernel_rfl) (by kernel_rfl) (by kernel_rfl) rfl rfl rfl hs324 (fun w' hw' => op_pick_t ha352 rfl rfl rfl) ?_
           intro a353 ha353; clear ha352 a352
           refine dr_val (i := 24) ha353 rfl (by kernel_rfl) (by kernel_rfl) (by kernel_rfl) rfl rfl rfl hs324 (fun w' hw' => op_pick_f ha353 rfl rfl rfl) ?_
           intro a354 ha354; clear ha353 a353
           refine dr_val (i := 25) ha354 rfl (by kernel_rfl) (by kernel_rfl) (by kernel_rfl) rfl rfl rfl hs324 (fun w' hw' => op_move ha354 rfl rfl) ?_
           intro a355 ha355; clear ha354 a354
           by_cases c356 : x337 < x310
           ·
            rw [decide_eq_true c356] at ha355
            refine dr_val (i := 26) ha355 rfl (by kernel_rfl) (by kernel_rfl) (by kernel_rfl) rfl rfl rfl hs324 (fun w' hw' => op_move ha355 rfl rfl) ?_
            intro a357 ha357; clear ha355 a355
            refine dr_val (i := 27) ha357 rfl (by kernel_rfl) (by kernel_rfl) (by kernel_rfl) rfl rfl rfl hs324 (fun w' hw' => op_fieldAddr (sz := 0) ha357 rfl Try.underlying55 rfl rfl ti34 rfl) ?_
            intro a358 ha358; clear ha357 a357
            refine dr_val (i := 28) ha358 rfl (by kernel_rfl) (by kernel_rfl) (by kernel_rfl) rfl rfl rfl hs324 (fun w' hw' => op_loadF (off := 2) ha358 rfl Try.underlying34 rfl rfl (hf294.ext hw').cells rfl) ?_
            intro a359 ha359; clear ha358 a358
            refine dr_val (i := 29) ha359 rfl (by kernel_rfl) (by kernel_rfl) (by kernel_rfl) rfl rfl rfl hs324 (fun w' hw' => op_move ha359 rfl rfl) ?_
            intro a360 ha360; clear ha359 a359
            refine dr_val (i := 30) ha360 rfl (by kernel_rfl) (by kernel_rfl) (by kernel_rfl) rfl rfl rfl hs324 (fun w' hw' => op_indexAddr ha360 rfl Try.underlying34 ti9 rfl rfl (by omega) hi313) ?_
            intro a361 ha361; clear ha360 a360
            refine dr_val (i := 31) ha361 rfl (by kernel_rfl) (by kernel_rfl) (by kernel_rfl) rfl rfl rfl hs324 (fun w' hw' => op_loadH ha361 rfl Try.underlying9 rfl rfl (hc314.ext (hx305.trans' hw')) rfl) ?_
            intro a362 ha362; clear ha361 a361
            refine dr_val (i := 33) ha362 rfl (by kernel_rfl) (by kernel_rfl) (by kernel_rfl) rfl rfl rfl hs324 (fun w' hw' => op_move ha362 rfl rfl) ?_
            intro a363 ha363; clear ha362 a362
            refine dr_one (i := 32) (by kernel_rfl) ?_
            refine po_callR ha363 rfl rfl rfl rfl (op_call ha363 rfl cb54 rfl) (c_spec_l30Owner _ v_list list x310 (h_list.ext pos_shCust (hx305.trans' hs324))) ?_
            rintro v364 w365 he366 rfl a367 ha367; clear ha363 a363
            have hs368 := hs324.trans' he366
            have hx369 := hx325.trans' he366
            have hzhx369 := he366.size
            refine ⟨hs368, ?_⟩
            refine dr_val (i := 34) ha367 rfl (by kernel_rfl) (by kernel_rfl) (by kernel_rfl) rfl rfl rfl hs368 (fun w' hw' => (op_neq ha367 rfl rfl rfl).to (congrArg Value.bool decide_not)) ?_
            intro a370 ha370; clear ha367 a367
            refine dr_val (i := 35) ha370 rfl (by kernel_rfl) (by kernel_rfl) (by kernel_rfl) rfl rfl rfl hs368 (fun w' hw' => op_pick_f ha370 rfl rfl rfl) ?_
            intro a371 ha371; clear ha370 a370
            refine dr_end (by kernel_rfl) ?_
            replace hf294 := hf294.ext hs368
            refine then_n ?_
            by_cases c372 : (owI list x310 : Int) = ((i : Nat) : Int)
            ·
             rw [decide_eq_true c372] at ha371
             refine cond_f ha371 rfl ?_
             refine wp_skip ?_
             refine block_n ?_
             refine then_n ?_
             refine wp_region_lit ?_
             refine wl_val ha371 rfl rfl rfl (op_move ha371 rfl rfl) ?_
             intro a373 ha373; clear ha371 a371
             refine wl_val ha373 rfl rfl rfl ((op_add ha373 rfl rfl rfl).int (IntWalk.i64_in _ (by omega))) ?_
             intro a374 ha374; clear ha373 a373
             refine wl_val ha374 rfl rfl rfl (op_assign ha374 rfl rfl) ?_
             intro a375 ha375; clear ha374 a374
             refine wpList_nil ?_
             refine round_end (x := k) ((k + 1)) ?_ ?_
             ·
              refine ⟨(Sl.cons_ ha375 rfl rfl (Sl.cons_ ha375 rfl rfl (Sl.cons_ ha375 rfl rfl (Sl.cons_ ha375 rfl (int_eq (by omega)) (Sl.nil_ ha375))))), hx369, hf294, (by omega), (by omega), (by exact upB_step hU (bkAt_ok hx310 (by assumption) (by first | (left; omega) | (right; exact ⟨_, hx337, by assumption⟩)))), (by exact all_snoc (p := fun y => owI (list.take i) y < 0) hB hx310 ((owI_here hx14 (List.mem_of_getElem? hx310)).1 (by assumption)))⟩
             ·show (x14.2.2.length - ((k + 1)) : Nat) < x14.2.2.length - k; omega
            ·
             rw [decide_eq_false c372] at ha371
             refine cond_t ha371 rfl ?_
             refine wp_seq ?_
             refine wp_region_lit ?_
             refine wl_val ha371 rfl rfl rfl (op_assign ha371 rfl rfl) ?_
             intro a376 ha376; clear ha371 a371
             refine wpList_nil ?_
             refine then_n ?_
             refine wp_ret ?_
             refine block_r ?_
             refine then_r ?_
             refine then_r ?_
             refine block_r ?_
             refine block_r ?_
             refine then_r ?_
             refine then_r ?_
             refine block_r ?_
             refine then_r ?_
             refine ret1 ha376 rfl rfl ?_
             clear ha376 a376
             exact ret_mk hx369 (congrArg Value.bool (by rw [cuB_no hx14 (cuAt_no hx14 (by first | (right; right; left; exact bkB_no hx310 (bkAt_no hx310 (by first | (left; assumption) | (right; exact ⟨by omega, _, hx337, by assumption⟩)))) | (right; right; right; right; exact ⟨_, List.mem_of_getElem? hx310, fun q => absurd ((owI_here hx14 (List.mem_of_getElem? hx310)).2 q) (by assumption)⟩)))]))
           ·
            rw [decide_eq_false c356] at ha355
            refine dr_skip (i := 26) ha355 rfl (by kernel_rfl) (by kernel_rfl) (by kernel_rfl) rfl rfl rfl hs324 ?_
            intro a377 ha377; clear ha355 a355
            refine dr_skip (i := 27) ha377 rfl (by kernel_rfl) (by kernel_rfl) (by kernel_rfl) rfl rfl rfl hs324 ?_
            intro a378 ha378; clear ha377 a377
            refine dr_skip (i := 28) ha378 rfl (by kernel_rfl) (by kernel_rfl) (by kernel_rfl) rfl rfl rfl hs324 ?_
            intro a379 ha379; clear ha378 a378
            refine dr_skip (i := 29) ha379 rfl (by kernel_rfl) (by kernel_rfl) (by kernel_rfl) rfl rfl rfl hs324 ?_
            intro a380 ha380; clear ha379 a379
            refine dr_skip (i := 30) ha380 rfl (by kernel_rfl) (by kernel_rfl) (by kernel_rfl) rfl rfl rfl hs324 ?_
            intro a381 ha381; clear ha380 a380
            refine dr_skip (i := 31) ha381 rfl (by kernel_rfl) (by kernel_rfl) (by kernel_rfl) rfl rfl rfl hs324 ?_
            intro a382 ha382; clear ha381 a381
            refine dr_skip (i := 32) ha382 rfl (by kernel_rfl) (by kernel_rfl) (by kernel_rfl) rfl rfl rfl hs324 ?_
            intro a383 ha383; clear ha382 a382
            refine dr_skip (i := 33) ha383 rfl (by kernel_rfl) (by kernel_rfl) (by kernel_rfl) rfl rfl rfl hs324 ?_
            intro a384 ha384; clear ha383 a383
            refine dr_skip (i := 34) ha384 rfl (by kernel_rfl) (by kernel_rfl) (by kernel_rfl) rfl rfl rfl hs324 ?_
            intro a385 ha385; clear ha384 a384
            refine dr_val (i := 35) ha385 rfl (by kernel_rfl) (by kernel_rfl) (by kernel_rfl) rfl rfl rfl hs324 (fun w' hw' => op_pick_t ha385 rfl rfl rfl) ?_
            intro a386 ha386; clear ha385 a385
            refine dr_end (by kernel_rfl) ?_
            replace hf294 := hf294.ext hs324
            refine then_n ?_
            refine cond_t ha386 rfl ?_
            refine wp_seq ?_
            refine wp_region_lit ?_
            refine wl_val ha386 rfl rfl rfl (op_assign ha386 rfl rfl) ?_
            intro a387 ha387; clear ha386 a386
            refine wpList_nil ?_
            refine then_n ?_
            refine wp_ret ?_
            refine block_r ?_
            refine then_r ?_
            refine then_r ?_
            refine block_r ?_
            refine block_r ?_
            refine then_r ?_
            refine then_r ?_
            refine block_r ?_
            refine then_r ?_
            refine ret1 ha387 rfl rfl ?_
            clear ha387 a387
            exact ret_mk hx325 (congrArg Value.bool (by rw [cuB_no hx14 (cuAt_no hx14 (by first | (right; right; left; exact bkB_no hx310 (bkAt_no hx310 (by first | (left; assumption) | (right; exact ⟨by omega, _, hx337, by assumption⟩)))) | (right; right; right; right; exact ⟨_, List.mem_of_getElem? hx310, fun q => absurd ((owI_here hx14 (List.mem_of_getElem? hx310)).2 q) (by assumption)⟩)))]))
          ·
           rw [decide_eq_false c332] at ha331
           refine dr_skip (i := 11) ha331 rfl (by kernel_rfl) (by kernel_rfl) (by kernel_rfl) rfl rfl rfl hs324 ?_
           intro a388 ha388; clear ha331 a331
           refine dr_skip (i := 12) ha388 rfl (by kernel_rfl) (by kernel_rfl) (by kernel_rfl) rfl rfl rfl hs324 ?_
           intro a389 ha389; clear ha388 a388
           refine dr_skip (i := 13) ha389 rfl (by kernel_rfl) (by kernel_rfl) (by kernel_rfl) rfl rfl rfl hs324 ?_
           intro a390 ha390; clear ha389 a389
           refine dr_skip (i := 14) ha390 rfl (by kernel_rfl) (by kernel_rfl) (by kernel_rfl) rfl rfl rfl hs324 ?_
           intro a391 ha391; clear ha390 a390
           refine dr_skip (i := 15) ha391 rfl (by kernel_rfl) (by kernel_rfl) (by kernel_rfl) rfl rfl rfl hs324 ?_
           intro a392 ha392; clear ha391 a391
           refine dr_skip (i := 16) ha392 rfl (by kernel_rfl) (by kernel_rfl) (by kernel_rfl) rfl rfl rfl hs324 ?_
           intro a393 ha393; clear ha392 a392
           refine dr_skip (i := 17) ha393 rfl (by kernel_rfl) (by kernel_rfl) (by kernel_rfl) rfl rfl rfl hs324 ?_
           intro a394 ha394; clear ha393 a393
           refine dr_skip (i := 18) ha394 rfl (by kernel_rfl) (by kernel_rfl) (by kernel_rfl) rfl rfl rfl hs324 ?_
           intro a395 ha395; clear ha394 a394
           refine dr_skip (i := 19) ha395 rfl (by kernel_rfl) (by kernel_rfl) (by kernel_rfl) rfl rfl rfl hs324 ?_
           intro a396 ha396; clear ha395 a395
           refine dr_skip (i := 20) ha396 rfl (by kernel_rfl) (by kernel_rfl) (by kernel_rfl) rfl rfl rfl hs324 ?_
           intro a397 ha397; clear ha396 a396
           refine dr_skip (i := 21) ha397 rfl (by kernel_rfl) (by kernel_rfl) (by kernel_rfl) rfl rfl rfl hs324 ?_
           intro a398 ha398; clear ha397 a397
           refine dr_skip (i := 22) ha398 rfl (by kernel_rfl) (by kernel_rfl) (by kernel_rfl) rfl rfl rfl hs324 ?_
           intro a399 ha399; clear ha398 a398
           refine dr_val (i := 23) ha399 rfl (by kernel_rfl) (by kernel_rfl) (by kernel_rfl) rfl rfl rfl hs324 (fun w' hw' => op_pick_f ha399 rfl rfl rfl) ?_
           intro a400 ha400; clear ha399 a399
           refine dr_val (i := 24) ha400 rfl (by kernel_rfl) (by kernel_rfl) (by kernel_rfl) rfl rfl rfl hs324 (fun w' hw' => op_pick_f ha400 rfl rfl rfl) ?_
           intro a401 ha401; clear ha400 a400
           refine dr_val (i := 25) ha401 rfl (by kernel_rfl) (by kernel_rfl) (by kernel_rfl) rfl rfl rfl hs324 (fun w' hw' => op_move ha401 rfl rfl) ?_
           intro a402 ha402; clear ha401 a401
           refine dr_val (i := 26) ha402 rfl (by kernel_rfl) (by kernel_rfl) (by kernel_rfl) rfl rfl rfl hs324 (fun w' hw' => op_move ha402 rfl rfl) ?_
           intro a403 ha403; clear ha402 a402
           refine dr_val (i := 27) ha403 rfl (by kernel_rfl) (by kernel_rfl) (by kernel_rfl) rfl rfl rfl hs324 (fun w' hw' => op_fieldAddr (sz := 0) ha403 rfl Try.underlying55 rfl rfl ti34 rfl) ?_
           intro a404 ha404; clear ha403 a403
           refine dr_val (i := 28) ha404 rfl (by kernel_rfl) (by kernel_rfl) (by kernel_rfl) rfl rfl rfl hs324 (fun w' hw' => op_loadF (off := 2) ha404 rfl Try.underlying34 rfl rfl (hf294.ext hw').cells rfl) ?_
           intro a405 ha405; clear ha404 a404
           refine dr_val (i := 29) ha405 rfl (by kernel_rfl) (by kernel_rfl) (by kernel_rfl) rfl rfl rfl hs324 (fun w' hw' => op_move ha405 rfl rfl) ?_
           intro a406 ha406; clear ha405 a405
           refine dr_val (i := 30) ha406 rfl (by kernel_rfl) (by kernel_rfl) (by kernel_rfl) rfl rfl rfl hs324 (fun w' hw' => op_indexAddr ha406 rfl Try.underlying34 ti9 rfl rfl (by omega) hi313) ?_
           intro a407 ha407; clear ha406 a406
           refine dr_val (i := 31) ha407 rfl (by kernel_rfl) (by kernel_rfl) (by kernel_rfl) rfl rfl rfl hs324 (fun w' hw' => op_loadH ha407 rfl Try.underlying9 rfl rfl (hc314.ext (hx305.trans' hw')) rfl) ?_
           intro a408 ha408; clear ha407 a407
           refine dr_val (i := 33) ha408 rfl (by kernel_rfl) (by kernel_rfl) (by kernel_rfl) rfl rfl rfl hs324 (fun w' hw' => op_move ha408 rfl rfl) ?_
           intro a409 ha409; clear ha408 a408
           refine dr_one (i := 32) (by kernel_rfl) ?_
           refine po_callR ha409 rfl rfl rfl rfl (op_call ha409 rfl cb54 rfl) (c_spec_l30Owner _ v_list list x310 (h_list.ext pos_shCust (hx305.trans' hs324))) ?_
           rintro v410 w411 he412 rfl a413 ha413; clear ha409 a409
           have hs414 := hs324.trans' he412
           have hx415 := hx325.trans' he412
           have hzhx415 := he412.size
           refine ⟨hs414, ?_⟩
           refine dr_val (i := 34) ha413 rfl (by kernel_rfl) (by kernel_rfl) (by kernel_rfl) rfl rfl rfl hs414 (fun w' hw' => (op_neq ha413 rfl rfl rfl).to (congrArg Value.bool decide_not)) ?_
           intro a416 ha416; clear ha413 a413
           refine dr_val (i := 35) ha416 rfl (by kernel_rfl) (by kernel_rfl) (by kernel_rfl) rfl rfl rfl hs414 (fun w' hw' => op_pick_f ha416 rfl rfl rfl) ?_
           intro a417 ha417; clear ha416 a416
           refine dr_end (by kernel_rfl) ?_
           replace hf294 := hf294.ext hs414
           refine then_n ?_
           by_cases c418 : (owI list x310 : Int) = ((i : Nat) : Int)
           ·
            rw [decide_eq_true c418] at ha417
            refine cond_f ha417 rfl ?_
            refine wp_skip ?_
            refine block_n ?_
            refine then_n ?_
            refine wp_region_lit ?_
            refine wl_val ha417 rfl rfl rfl (op_move ha417 rfl rfl) ?_
            intro a419 ha419; clear ha417 a417
            refine wl_val ha419 rfl rfl rfl ((op_add ha419 rfl rfl rfl).int (IntWalk.i64_in _ (by omega))) ?_
            intro a420 ha420; clear ha419 a419
            refine wl_val ha420 rfl rfl rfl (op_assign ha420 rfl rfl) ?_
            intro a421 ha421; clear ha420 a420
            refine wpList_nil ?_
            refine round_end (x := k) ((k + 1)) ?_ ?_
            ·
             refine ⟨(Sl.cons_ ha421 rfl rfl (Sl.cons_ ha421 rfl rfl (Sl.cons_ ha421 rfl rfl (Sl.cons_ ha421 rfl (int_eq (by omega)) (Sl.nil_ ha421))))), hx415, hf294, (by omega), (by omega), (by exact upB_step hU (bkAt_ok hx310 (by assumption) (by first | (left; omega) | (right; exact ⟨_, hx310, by assumption⟩)))), (by exact all_snoc (p := fun y => owI (list.take i) y < 0) hB hx310 ((owI_here hx14 (List.mem_of_getElem? hx310)).1 (by assumption)))⟩
            ·show (x14.2.2.length - ((k + 1)) : Nat) < x14.2.2.length - k; omega
           ·
            rw [decide_eq_false c418] at ha417
            refine cond_t ha417 rfl ?_
            refine wp_seq ?_
            refine wp_region_lit ?_
            refine wl_val ha417 rfl rfl rfl (op_assign ha417 rfl rfl) ?_
            intro a422 ha422; clear ha417 a417
            refine wpList_nil ?_
            refine then_n ?_
            refine wp_ret ?_
            refine block_r ?_
            refine then_r ?_
            refine then_r ?_
            refine block_r ?_
            refine block_r ?_
            refine then_r ?_
            refine then_r ?_
            refine block_r ?_
            refine then_r ?_
            refine ret1 ha422 rfl rfl ?_
            clear ha422 a422
            exact ret_mk hx415 (congrArg Value.bool (by rw [cuB_no hx14 (cuAt_no hx14 (by first | (right; right; left; exact bkB_no hx310 (bkAt_no hx310 (by first | (left; assumption) | (right; exact ⟨by omega, _, hx310, by assumption⟩)))) | (right; right; right; right; exact ⟨_, List.mem_of_getElem? hx310, fun q => absurd ((owI_here hx14 (List.mem_of_getElem? hx310)).2 q) (by assumption)⟩)))]))
         ·
          rw [c328] at ha327
          refine dr_skip (i := 8) ha327 rfl (by kernel_rfl) (by kernel_rfl) (by kernel_rfl) rfl rfl rfl hs324 ?_
          intro a423 ha423; clear ha327 a327
          refine dr_skip (i := 9) ha423 rfl (by kernel_rfl) (by kernel_rfl) (by kernel_rfl) rfl rfl rfl hs324 ?_
          intro a424 ha424; clear ha423 a423
          refine dr_skip (i := 10) ha424 rfl (by kernel_rfl) (by kernel_rfl) (by kernel_rfl) rfl rfl rfl hs324 ?_
          intro a425 ha425; clear ha424 a424
          refine dr_skip (i := 11) ha425 rfl (by kernel_rfl) (by kernel_rfl) (by kernel_rfl) rfl rfl rfl hs324 ?_
          intro a426 ha426; clear ha425 a425
          refine dr_skip (i := 12) ha426 rfl (by kernel_rfl) (by kernel_rfl) (by kernel_rfl) rfl rfl rfl hs324 ?_
          intro a427 ha427; clear ha426 a426
          refine dr_skip (i := 13) ha427 rfl (by kernel_rfl) (by kernel_rfl) (by kernel_rfl) rfl rfl rfl hs324 ?_
          intro a428 ha428; clear ha427 a427
          refine dr_skip (i := 14) ha428 rfl (by kernel_rfl) (by kernel_rfl) (by kernel_rfl) rfl rfl rfl hs324 ?_
          intro a429 ha429; clear ha428 a428
          refine dr_skip (i := 15) ha429 rfl (by kernel_rfl) (by kernel_rfl) (by kernel_rfl) rfl rfl rfl hs324 ?_
          intro a430 ha430; clear ha429 a429
          refine dr_skip (i := 16) ha430 rfl (by kernel_rfl) (by kernel_rfl) (by kernel_rfl) rfl rfl rfl hs324 ?_
          intro a431 ha431; clear ha430 a430
          refine dr_skip (i := 17) ha431 rfl (by kernel_rfl) (by kernel_rfl) (by kernel_rfl) rfl rfl rfl hs324 ?_
          intro a432 ha432; clear ha431 a431
          refine dr_skip (i := 18) ha432 rfl (by kernel_rfl) (by kernel_rfl) (by kernel_rfl) rfl rfl rfl hs324 ?_
          intro a433 ha433; clear ha432 a432
          refine dr_skip (i := 19) ha433 rfl (by kernel_rfl) (by kernel_rfl) (by kernel_rfl) rfl rfl rfl hs324 ?_
          intro a434 ha434; clear ha433 a433
          refine dr_skip (i := 20) ha434 rfl (by kernel_rfl) (by kernel_rfl) (by kernel_rfl) rfl rfl rfl hs324 ?_
          intro a435 ha435; clear ha434 a434
          refine dr_skip (i := 21) ha435 rfl (by kernel_rfl) (by kernel_rfl) (by kernel_rfl) rfl rfl rfl hs324 ?_
          intro a436 ha436; clear ha435 a435
          refine dr_skip (i := 22) ha436 rfl (by kernel_rfl) (by kernel_rfl) (by kernel_rfl) rfl rfl rfl hs324 ?_
          intro a437 ha437; clear ha436 a436
          refine dr_skip (i := 23) ha437 rfl (by kernel_rfl) (by kernel_rfl) (by kernel_rfl) rfl rfl rfl hs324 ?_
          intro a438 ha438; clear ha437 a437
          refine dr_val (i := 24) ha438 rfl (by kernel_rfl) (by kernel_rfl) (by kernel_rfl) rfl rfl rfl hs324 (fun w' hw' => op_pick_t ha438 rfl rfl rfl) ?_
          intro a439 ha439; clear ha438 a438
          refine dr_val (i := 25) ha439 rfl (by kernel_rfl) (by kernel_rfl) (by kernel_rfl) rfl rfl rfl hs324 (fun w' hw' => op_move ha439 rfl rfl) ?_
          intro a440 ha440; clear ha439 a439
          refine dr_skip (i := 26) ha440 rfl (by kernel_rfl) (by kernel_rfl) (by kernel_rfl) rfl rfl rfl hs324 ?_
          intro a441 ha441; clear ha440 a440
          refine dr_skip (i := 27) ha441 rfl (by kernel_rfl) (by kernel_rfl) (by kernel_rfl) rfl rfl rfl hs324 ?_
          intro a442 ha442; clear ha441 a441
          refine dr_skip (i := 28) ha442 rfl (by kernel_rfl) (by kernel_rfl) (by kernel_rfl) rfl rfl rfl hs324 ?_
          intro a443 ha443; clear ha442 a442
          refine dr_skip (i := 29) ha443 rfl (by kernel_rfl) (by kernel_rfl) (by kernel_rfl) rfl rfl rfl hs324 ?_
          intro a444 ha444; clear ha443 a443
          refine dr_skip (i := 30) ha444 rfl (by kernel_rfl) (by kernel_rfl) (by kernel_rfl) rfl rfl rfl hs324 ?_
          intro a445 ha445; clear ha444 a444
          refine dr_skip (i := 31) ha445 rfl (by kernel_rfl) (by kernel_rfl) (by kernel_rfl) rfl rfl rfl hs324 ?_
          intro a446 ha446; clear ha445 a445
          refine dr_skip (i := 32) ha446 rfl (by kernel_rfl) (by kernel_rfl) (by kernel_rfl) rfl rfl rfl hs324 ?_
          intro a447 ha447; clear ha446 a446
          refine dr_skip (i := 33) ha447 rfl (by kernel_rfl) (by kernel_rfl) (by kernel_rfl) rfl rfl rfl hs324 ?_
          intro a448 ha448; clear ha447 a447
          refine dr_skip (i := 34) ha448 rfl (by kernel_rfl) (by kernel_rfl) (by kernel_rfl) rfl rfl rfl hs324 ?_
          intro a449 ha449; clear ha448 a448
          refine dr_val (i := 35) ha449 rfl (by kernel_rfl) (by kernel_rfl) (by kernel_rfl) rfl rfl rfl hs324 (fun w' hw' => op_pick_t ha449 rfl rfl rfl) ?_
          intro a450 ha450; clear ha449 a449
          refine dr_end (by kernel_rfl) ?_
          replace hf294 := hf294.ext hs324
          refine then_n ?_
          refine cond_t ha450 rfl ?_
          refine wp_seq ?_
          refine wp_region_lit ?_
          refine wl_val ha450 rfl rfl rfl (op_assign ha450 rfl rfl) ?_
          intro a451 ha451; clear ha450 a450
          refine wpList_nil ?_
          refine then_n ?_
          refine wp_ret ?_
          refine block_r ?_
          refine then_r ?_
          refine then_r ?_
          refine block_r ?_
          refine block_r ?_
          refine then_r ?_
          refine then_r ?_
          refine block_r ?_
          refine then_r ?_
          refine ret1 ha451 rfl rfl ?_
          clear ha451 a451
          exact ret_mk hx325 (congrArg Value.bool (by rw [cuB_no hx14 (cuAt_no hx14 (by first | (right; right; left; exact bkB_no hx310 (bkAt_no hx310 (by first | (left; assumption) | (right; exact ⟨by omega, _, hx310, by assumption⟩)))) | (right; right; right; right; exact ⟨_, List.mem_of_getElem? hx310, fun q => absurd ((owI_here hx14 (List.mem_of_getElem? hx310)).2 q) (by assumption)⟩)))]))
        ·
         rw [decide_eq_false c302] at ha301
         refine cond_f ha301 rfl ?_
         refine wp_exit ?_
         refine then_e ?_
         refine then_e ?_
         refine block_hit ?_
         refine block_n ?_
         refine then_n ?_
         refine wp_region_lit ?_
         refine wl_val ha301 rfl rfl rfl (op_move ha301 rfl rfl) ?_
         intro a452 ha452; clear ha301 a301
         refine wl_val ha452 rfl rfl rfl ((op_add ha452 rfl rfl rfl).int (IntWalk.i64_in _ (by omega))) ?_
         intro a453 ha453; clear ha452 a452
         refine wl_val ha453 rfl rfl rfl (op_assign ha453 rfl rfl) ?_
         intro a454 ha454; clear ha453 a453
         refine wpList_nil ?_
         refine round_end (x := i) ((i + 1)) ?_ ?_
         ·
          refine ⟨(Sl.cons_ ha454 rfl rfl (Sl.cons_ ha454 rfl (int_eq (by omega)) (Sl.nil_ ha454))), hx293, (by omega), (by omega), (by have ek : k = x14.2.2.length := (by omega); rw [ek] at hU; exact upB_step hA (cuAt_ok hx14 (by assumption) (by unfold dateB; assumption) (bkB_ok (by omega) hU) (by first | (left; omega) | (right; exact ⟨_, hx14, by assumption⟩)) (all_mem hB (by omega))))⟩
         ·show (list.length - ((i + 1)) : Nat) < list.length - i; omega
    ·
     rw [c65] at ha64
     refine dr_skip (i := 11) ha64 rfl (by kernel_rfl) (by kernel_rfl) (by kernel_rfl) rfl rfl rfl hs60 ?_
     intro a455 ha455; clear ha64 a64
     refine dr_skip (i := 12) ha455 rfl (by kernel_rfl) (by kernel_rfl) (by kernel_rfl) rfl rfl rfl hs60 ?_
     intro a456 ha456; clear ha455 a455
     refine dr_skip (i := 13) ha456 rfl (by kernel_rfl) (by kernel_rfl) (by kernel_rfl) rfl rfl rfl hs60 ?_
     intro a457 ha457; clear ha456 a456
     refine dr_skip (i := 14) ha457 rfl (by kernel_rfl) (by kernel_rfl) (by kernel_rfl) rfl rfl rfl hs60 ?_
     intro a458 ha458; clear ha457 a457
     refine dr_val (i := 15) ha458 rfl (by kernel_rfl) (by kernel_rfl) (by kernel_rfl) rfl rfl rfl hs60 (fun w' hw' => op_pick_t ha458 rfl rfl rfl) ?_
     intro a459 ha459; clear ha458 a458
     refine dr_val (i := 16) ha459 rfl (by kernel_rfl) (by kernel_rfl) (by kernel_rfl) rfl rfl rfl hs60 (fun w' hw' => op_move ha459 rfl rfl) ?_
     intro a460 ha460; clear ha459 a459
     refine dr_skip (i := 17) ha460 rfl (by kernel_rfl) (by kernel_rfl) (by kernel_rfl) rfl rfl rfl hs60 ?_
     intro a461 ha461; clear ha460 a460
     refine dr_skip (i := 18) ha461 rfl (by kernel_rfl) (by kernel_rfl) (by kernel_rfl) rfl rfl rfl hs60 ?_
     intro a462 ha462; clear ha461 a461
     refine dr_skip (i := 19) ha462 rfl (by kernel_rfl) (by kernel_rfl) (by kernel_rfl) rfl rfl rfl hs60 ?_
     intro a463 ha463; clear ha462 a462
     refine dr_skip (i := 20) ha463 rfl (by kernel_rfl) (by kernel_rfl) (by kernel_rfl) rfl rfl rfl hs60 ?_
     intro a464 ha464; clear ha463 a463
     refine dr_skip (i := 21) ha464 rfl (by kernel_rfl) (by kernel_rfl) (by kernel_rfl) rfl rfl rfl hs60 ?_
     intro a465 ha465; clear ha464 a464
     refine dr_skip (i := 22) ha465 rfl (by kernel_rfl) (by kernel_rfl) (by kernel_rfl) rfl rfl rfl hs60 ?_
     intro a466 ha466; clear ha465 a465
     refine dr_skip (i := 23) ha466 rfl (by kernel_rfl) (by kernel_rfl) (by kernel_rfl) rfl rfl rfl hs60 ?_
     intro a467 ha467; clear ha466 a466
     refine dr_skip (i := 24) ha467 rfl (by kernel_rfl) (by kernel_rfl) (by kernel_rfl) rfl rfl rfl hs60 ?_
     intro a468 ha468; clear ha467 a467
     refine dr_skip (i := 25) ha468 rfl (by kernel_rfl) (by kernel_rfl) (by kernel_rfl) rfl rfl rfl hs60 ?_
     intro a469 ha469; clear ha468 a468
     refine dr_skip (i := 26) ha469 rfl (by kernel_rfl) (by kernel_rfl) (by kernel_rfl) rfl rfl rfl hs60 ?_
     intro a470 ha470; clear ha469 a469
     refine dr_skip (i := 27) ha470 rfl (by kernel_rfl) (by kernel_rfl) (by kernel_rfl) rfl rfl rfl hs60 ?_
     intro a471 ha471; clear ha470 a470
     refine dr_skip (i := 28) ha471 rfl (by kernel_rfl) (by kernel_rfl) (by kernel_rfl) rfl rfl rfl hs60 ?_
     intro a472 ha472; clear ha471 a471
     refine dr_skip (i := 29) ha472 rfl (by kernel_rfl) (by kernel_rfl) (by kernel_rfl) rfl rfl rfl hs60 ?_
     intro a473 ha473; clear ha472 a472
     refine dr_val (i := 30) ha473 rfl (by kernel_rfl) (by kernel_rfl) (by kernel_rfl) rfl rfl rfl hs60 (fun w' hw' => op_pick_t ha473 rfl rfl rfl) ?_
     intro a474 ha474; clear ha473 a473
     refine dr_end (by kernel_rfl) ?_
     replace hb36 := hb36.ext hs60
     refine then_n ?_
     refine cond_t ha474 rfl ?_
     refine wp_seq ?_
     refine wp_region_lit ?_
     refine wl_val ha474 rfl rfl rfl (op_assign ha474 rfl rfl) ?_
     intro a475 ha475; clear ha474 a474
     refine wpList_nil ?_
     refine then_n ?_
     refine wp_ret ?_
     refine then_r ?_
     refine block_r ?_
     refine then_r ?_
     refine then_r ?_
     refine block_r ?_
     refine then_r ?_
     refine ret1 ha475 rfl rfl ?_
     clear ha475 a475
     exact ret_mk hx61 (congrArg Value.bool (by rw [cuB_no hx14 (cuAt_no hx14 (by first | (left; assumption) | (right; left; unfold dateB; assumption) | (right; right; left; exact bkB_big (by omega)) | (right; right; right; left; exact ⟨by omega, _, hx14, by assumption⟩)))]))
   ·
    rw [c53] at ha52
    refine dr_skip (i := 5) ha52 rfl (by kernel_rfl) (by kernel_rfl) (by kernel_rfl) rfl rfl rfl hs49 ?_
    intro a476 ha476; clear ha52 a52
    refine dr_skip (i := 6) ha476 rfl (by kernel_rfl) (by kernel_rfl) (by kernel_rfl) rfl rfl rfl hs49 ?_
    intro a477 ha477; clear ha476 a476
    refine dr_skip (i := 7) ha477 rfl (by kernel_rfl) (by kernel_rfl) (by kernel_rfl) rfl rfl rfl hs49 ?_
    intro a478 ha478; clear ha477 a477
    refine dr_skip (i := 8) ha478 rfl (by kernel_rfl) (by kernel_rfl) (by kernel_rfl) rfl rfl rfl hs49 ?_
    intro a479 ha479; clear ha478 a478
    refine dr_val (i := 9) ha479 rfl (by kernel_rfl) (by kernel_rfl) (by kernel_rfl) rfl rfl rfl hs49 (fun w' hw' => op_pick_t ha479 rfl rfl rfl) ?_
    intro a480 ha480; clear ha479 a479
    refine dr_val (i := 10) ha480 rfl (by kernel_rfl) (by kernel_rfl) (by kernel_rfl) rfl rfl rfl hs49 (fun w' hw' => op_move ha480 rfl rfl) ?_
    intro a481 ha481; clear ha480 a480
    refine dr_skip (i := 11) ha481 rfl (by kernel_rfl) (by kernel_rfl) (by kernel_rfl) rfl rfl rfl hs49 ?_
    intro a482 ha482; clear ha481 a481
    refine dr_skip (i := 12) ha482 rfl (by kernel_rfl) (by kernel_rfl) (by kernel_rfl) rfl rfl rfl hs49 ?_
    intro a483 ha483; clear ha482 a482
    refine dr_skip (i := 13) ha483 rfl (by kernel_rfl) (by kernel_rfl) (by kernel_rfl) rfl rfl rfl hs49 ?_
    intro a484 ha484; clear ha483 a483
    refine dr_skip (i := 14) ha484 rfl (by kernel_rfl) (by kernel_rfl) (by kernel_rfl) rfl rfl rfl hs49 ?_
    intro a485 ha485; clear ha484 a484
    refine dr_val (i := 15) ha485 rfl (by kernel_rfl) (by kernel_rfl) (by kernel_rfl) rfl rfl rfl hs49 (fun w' hw' => op_pick_t ha485 rfl rfl rfl) ?_
    intro a486 ha486; clear ha485 a485
    refine dr_val (i := 16) ha486 rfl (by kernel_rfl) (by kernel_rfl) (by kernel_rfl) rfl rfl rfl hs49 (fun w' hw' => op_move ha486 rfl rfl) ?_
    intro a487 ha487; clear ha486 a486
    refine dr_skip (i := 17) ha487 rfl (by kernel_rfl) (by kernel_rfl) (by kernel_rfl) rfl rfl rfl hs49 ?_
    intro a488 ha488; clear ha487 a487
    refine dr_skip (i := 18) ha488 rfl (by kernel_rfl) (by kernel_rfl) (by kernel_rfl) rfl rfl rfl hs49 ?_
    intro a489 ha489; clear ha488 a488
    refine dr_skip (i := 19) ha489 rfl (by kernel_rfl) (by kernel_rfl) (by kernel_rfl) rfl rfl rfl hs49 ?_
    intro a490 ha490; clear ha489 a489
    refine dr_skip (i := 20) ha490 rfl (by kernel_rfl) (by kernel_rfl) (by kernel_rfl) rfl rfl rfl hs49 ?_
    intro a491 ha491; clear ha490 a490
    refine dr_skip (i := 21) ha491 rfl (by kernel_rfl) (by kernel_rfl) (by kernel_rfl) rfl rfl rfl hs49 ?_
    intro a492 ha492; clear ha491 a491
    refine dr_skip (i := 22) ha492 rfl (by kernel_rfl) (by kernel_rfl) (by kernel_rfl) rfl rfl rfl hs49 ?_
    intro a493 ha493; clear ha492 a492
    refine dr_skip (i := 23) ha493 rfl (by kernel_rfl) (by kernel_rfl) (by kernel_rfl) rfl rfl rfl hs49 ?_
    intro a494 ha494; clear ha493 a493
    refine dr_skip (i := 24) ha494 rfl (by kernel_rfl) (by kernel_rfl) (by kernel_rfl) rfl rfl rfl hs49 ?_
    intro a495 ha495; clear ha494 a494
    refine dr_skip (i := 25) ha495 rfl (by kernel_rfl) (by kernel_rfl) (by kernel_rfl) rfl rfl rfl hs49 ?_
    intro a496 ha496; clear ha495 a495
    refine dr_skip (i := 26) ha496 rfl (by kernel_rfl) (by kernel_rfl) (by kernel_rfl) rfl rfl rfl hs49 ?_
    intro a497 ha497; clear ha496 a496
    refine dr_skip (i := 27) ha497 rfl (by kernel_rfl) (by kernel_rfl) (by kernel_rfl) rfl rfl rfl hs49 ?_
    intro a498 ha498; clear ha497 a497
    refine dr_skip (i := 28) ha498 rfl (by kernel_rfl) (by kernel_rfl) (by kernel_rfl) rfl rfl rfl hs49 ?_
    intro a499 ha499; clear ha498 a498
    refine dr_skip (i := 29) ha499 rfl (by kernel_rfl) (by kernel_rfl) (by kernel_rfl) rfl rfl rfl hs49 ?_
    intro a500 ha500; clear ha499 a499
    refine dr_val (i := 30) ha500 rfl (by kernel_rfl) (by kernel_rfl) (by kernel_rfl) rfl rfl rfl hs49 (fun w' hw' => op_pick_t ha500 rfl rfl rfl) ?_
    intro a501 ha501; clear ha500 a500
    refine dr_end (by kernel_rfl) ?_
    replace hb36 := hb36.ext hs49
    refine then_n ?_
    refine cond_t ha501 rfl ?_
    refine wp_seq ?_
    refine wp_region_lit ?_
    refine wl_val ha501 rfl rfl rfl (op_assign ha501 rfl rfl) ?_
    intro a502 ha502; clear ha501 a501
    refine wpList_nil ?_
    refine then_n ?_
    refine wp_ret ?_
    refine then_r ?_
    refine block_r ?_
    refine then_r ?_
    refine then_r ?_
    refine block_r ?_
    refine then_r ?_
    refine ret1 ha502 rfl rfl ?_
    clear ha502 a502
    exact ret_mk hx50 (congrArg Value.bool (by rw [cuB_no hx14 (cuAt_no hx14 (by first | (left; assumption) | (right; left; unfold dateB; assumption) | (right; right; left; exact bkB_big (by omega)) | (right; right; right; left; exact ⟨by omega, _, hx14, by assumption⟩)))]))
  ·
   rw [decide_eq_false c11] at ha10
   refine cond_f ha10 rfl ?_
   refine wp_exit ?_
   refine then_e ?_
   refine then_e ?_
   refine block_hit ?_
   refine then_n ?_
   refine wp_seq ?_
   refine wp_region_lit ?_
   refine wl_val ha10 rfl rfl rfl (op_move ha10 rfl rfl) ?_
   intro a503 ha503; clear ha10 a10
   refine wl_val ha503 rfl rfl rfl (op_len_sl ha503 rfl Try.underlying25 rfl h_list) ?_
   intro a504 ha504; clear ha503 a503
   refine wl_val ha504 rfl rfl rfl (op_leq ha504 rfl rfl rfl) ?_
   intro a505 ha505; clear ha504 a504
   refine wl_val ha505 rfl rfl rfl (op_assign ha505 rfl rfl) ?_
   intro a506 ha506; clear ha505 a505
   refine wpList_nil ?_
   refine then_n ?_
   refine wp_ret ?_
   refine ret1 ha506 rfl rfl ?_
   clear ha506 a506
   exact ret_mk hx4 (congrArg Value.bool (by have e : i = list.length := (by omega); rw [e] at hA; unfold cuB; rw [hA]; simp; try omega))


end Go.Proofs.Ythbkedflhmeohaa
