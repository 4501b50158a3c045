/- Promises: the order of days, those that are kept. -/
import Derived.Test.YthbehhhblchhhaaGreatP2
import Derived.Test.YthbehhhblchhhaaGreatNarrow
namespace Go.Proofs.YthbehhhblchhhaaGreat
open Go Go.RowKit
set_option maxHeartbeats 16000000

/-- One more, behind those that are not greater. -/
def insK {α : Type} (key : α → Int) (x : α) : List α → List α
  | [] => [x]
  | y :: ys => if key x < key y then x :: y :: ys else y :: insK key x ys
theorem insK_len {α : Type} (key : α → Int) (x : α) : ∀ (xs : List α), (insK key x xs).length = xs.length + 1
  | [] => rfl
  | y :: ys => by rw [insK]; split <;> simp [insK_len key x ys]
theorem insK_map {α β : Type} {f : α → β} {key : α → Int} {key' : β → Int} {x : α} : ∀ {xs : List α}, key' (f x) = key x → (∀ y ∈ xs, key' (f y) = key y) → (insK key x xs).map f = insK key' (f x) (xs.map f)
  | [], _, _ => rfl
  | y :: ys, hx, h => by
    rw [insK, List.map_cons, insK, hx, h y (by simp)]; split
    · rfl
    · rw [List.map_cons, insK_map hx fun z hz => h z (by simp [hz])]
theorem insK_mem {α : Type} {key : α → Int} {x z : α} : ∀ {xs : List α}, z ∈ insK key x xs ↔ z = x ∨ z ∈ xs
  | [] => by simp [insK]
  | y :: ys => by
    rw [insK]; split
    · simp
    · rw [List.mem_cons, insK_mem, List.mem_cons]
      constructor
      · rintro (e | e | e) <;> simp [e]
      · rintro (e | e | e) <;> simp [e]
abbrev UpK {α : Type} (key : α → Int) (xs : List α) : Prop := xs.Pairwise fun x y => key x ≤ key y
theorem insK_up {α : Type} {key : α → Int} {x : α} : ∀ {xs : List α}, UpK key xs → UpK key (insK key x xs)
  | [], _ => by simp [insK, UpK]
  | y :: ys, h => by
    have h' := List.pairwise_cons.1 h
    rw [insK]; split
    · refine List.Pairwise.cons (fun z hz => ?_) h
      rcases List.mem_cons.1 hz with e | e
      · subst e; omega
      · have := h'.1 z e; omega
    · refine List.Pairwise.cons (fun z hz => ?_) (insK_up h'.2)
      rcases insK_mem.1 hz with e | e
      · subst e; omega
      · exact h'.1 z e
theorem insK_cut {α : Type} {key : α → Int} {x : α} : ∀ {xs : List α} {k : Nat}, (∀ j y, j < k → xs[j]? = some y → key y ≤ key x) → (∀ j y, k ≤ j → xs[j]? = some y → key x < key y) → insK key x xs = xs.take k ++ x :: xs.drop k
  | [], k, _, _ => by simp [insK]
  | y :: ys, 0, _, h => by rw [insK, if_pos (h 0 y (Nat.le_refl _) rfl)]; rfl
  | y :: ys, k + 1, h, h' => by
    rw [insK, if_neg (by have := h 0 y (by omega) rfl; omega), insK_cut (k := k) (fun j z hj hz => h (j + 1) z (by omega) (by simpa using hz)) (fun j z hj hz => h' (j + 1) z (by omega) (by simpa using hz))]
    rfl
theorem upK_at {α : Type} {key : α → Int} {xs : List α} (h : UpK key xs) {i j : Nat} {x y : α} (hij : i ≤ j) (hx : xs[i]? = some x) (hy : xs[j]? = some y) : key x ≤ key y := by
  obtain ⟨hi, rfl⟩ := List.getElem?_eq_some_iff.1 hx
  obtain ⟨hj, rfl⟩ := List.getElem?_eq_some_iff.1 hy
  rcases Nat.lt_or_ge i j with q | q
  · exact List.pairwise_iff_getElem.1 h _ _ hi hj q
  · have : i = j := by omega
    subst this; exact Int.le_refl _
theorem insK_back {α : Type} {key : α → Int} {x : α} {xs : List α} {k : Nat} (h : UpK key xs) (hk : ∀ j y, k ≤ j → xs[j]? = some y → key x < key y) (h0 : k = 0 ∨ ∃ b, xs[k - 1]? = some b ∧ ¬ key x < key b) : insK key x xs = xs.take k ++ x :: xs.drop k := by
  refine insK_cut (fun j y hj hy => ?_) hk
  rcases h0 with h0 | ⟨b, hb, h1⟩
  · omega
  · have := upK_at h (show j ≤ k - 1 by omega) hy hb; omega
theorem insK_front {α : Type} {key : α → Int} {x : α} {xs : List α} {k : Nat} (h : UpK key xs) (hk : ∀ j y, j < k → xs[j]? = some y → key y ≤ key x) (h0 : xs.length ≤ k ∨ ∃ b, xs[k]? = some b ∧ ¬ key b ≤ key x) : insK key x xs = xs.take k ++ x :: xs.drop k := by
  refine insK_cut hk (fun j y hj hy => ?_)
  rcases h0 with h0 | ⟨b, hb, h1⟩
  · have := (List.getElem?_eq_some_iff.1 hy).1; omega
  · have := upK_at h hj hb hy; omega
/-- What 'append, copy, store' makes of a list. -/
theorem ins_eq {α : Type} {acc : List α} {k : Nat} {x z : α} (hk : k ≤ acc.length) :
    (((acc ++ [z]).take (k + 1) ++ ((acc ++ [z]).drop k).take (min ((acc ++ [z]).length - (k + 1)) ((acc ++ [z]).length - k)) ++ (acc ++ [z]).drop (k + 1 + min ((acc ++ [z]).length - (k + 1)) ((acc ++ [z]).length - k))).set k x) = acc.take k ++ x :: acc.drop k := by
  have hl : (acc ++ [z]).length = acc.length + 1 := by simp
  have e1 : min ((acc ++ [z]).length - (k + 1)) ((acc ++ [z]).length - k) = acc.length - k := by omega
  rw [e1]
  have e2 : (acc ++ [z]).drop (k + 1 + (acc.length - k)) = [] := List.drop_of_length_le (by omega)
  have e3 : ((acc ++ [z]).drop k).take (acc.length - k) = acc.drop k := by
    rw [List.drop_append_of_le_length hk, List.take_append_of_le_length (by rw [List.length_drop]; omega), List.take_of_length_le (by rw [List.length_drop]; omega)]
  rw [e2, e3, List.append_nil]
  have hlt : k < (acc ++ [z]).length := by omega
  obtain ⟨q, hq⟩ := get_ex hlt
  rw [take_snoc hq, List.take_append_of_le_length hk, List.append_assoc, List.set_append_right _ _ (by rw [List.length_take]; omega), List.length_take, Nat.min_eq_left hk, Nat.sub_self]
  rfl

def gtP (xs : List Prom) (o : Int) : Prom := (xs[o.toNat]?).getD ([], 0, 0)
theorem gtP_eq {xs : List Prom} {o : Int} {p : Prom} (h : xs[o.toNat]? = some p) : gtP xs o = p := by unfold gtP; rw [h]; rfl
theorem gtP_nat {xs : List Prom} {i : Nat} {p : Prom} (h : xs[i]? = some p) : gtP xs (i : Int) = p := gtP_eq (by rw [Int.toNat_natCast]; exact h)
theorem gtP_mem {xs : List Prom} {o : Int} (h : 0 ≤ o ∧ o < xs.length) : gtP xs o ∈ xs := by
  obtain ⟨p, hp⟩ := get_ex (xs := xs) (j := o.toNat) (by omega)
  rw [gtP_eq hp]; exact List.mem_of_getElem? hp
def dyK (xs : List Prom) (o : Int) : Int := (gtP xs o).2.1
theorem dyK_el {xs : List Prom} {o : Int} {p : Prom} (h : xs[o.toNat]? = some p) : dyK xs o = p.2.1 := by unfold dyK; rw [gtP_eq h]
theorem dyK_nat {xs : List Prom} {i : Nat} {p : Prom} (h : xs[i]? = some p) : dyK xs (i : Int) = p.2.1 := dyK_el (by rw [Int.toNat_natCast]; exact h)
/-- The places of the first promises, by their days. -/
def odN (xs : List Prom) : Nat → List Int
  | 0 => []
  | i + 1 => insK (dyK xs) (i : Int) (odN xs i)
theorem odN_len (xs : List Prom) : ∀ n, (odN xs n).length = n
  | 0 => rfl
  | n + 1 => by rw [odN, insK_len, odN_len xs n]
theorem odN_up (xs : List Prom) : ∀ n, UpK (dyK xs) (odN xs n)
  | 0 => List.Pairwise.nil
  | n + 1 => by rw [odN]; exact insK_up (odN_up xs n)
theorem odN_in (xs : List Prom) : ∀ n, ∀ o ∈ odN xs n, 0 ≤ o ∧ o < (n : Int)
  | 0, o, h => by simp [odN] at h
  | n + 1, o, h => by
    rw [odN] at h
    rcases insK_mem.1 h with e | e
    · subst e; omega
    · have := odN_in xs n o e; omega
def mnP (ps : List Prom) (k : Nat) : Int := ((ps[k]?).getD ([], 0, 0)).2.2
theorem mnP_eq {ps : List Prom} {k : Nat} {p : Prom} (h : ps[k]? = some p) : mnP ps k = p.2.2 := by unfold mnP; rw [h]; rfl
/-- The place of the longest work among the first ones: the last of these. -/
def wsP (ps : List Prom) : Nat → Nat
  | 0 => 0
  | k + 1 => if mnP ps (wsP ps k) ≤ mnP ps k then k else wsP ps k
theorem wsP_lt (ps : List Prom) : ∀ {k : Nat}, 0 < k → wsP ps k < k
  | k + 1, _ => by
    rw [wsP]; split
    · omega
    · rename_i h
      rcases Nat.eq_zero_or_pos k with e | e
      · subst e; exact absurd (Int.le_refl _) h
      · have := wsP_lt ps e; omega
def cutL (t : List Int) (k : Nat) : List Int := t.take k ++ t.drop (k + 1)
theorem cutL_len {t : List Int} {k : Nat} (h : k < t.length) : (cutL t k).length + 1 = t.length := by unfold cutL; rw [List.length_append, List.length_take, List.length_drop]; omega
theorem cutL_mem {t : List Int} {k : Nat} {o : Int} (h : o ∈ cutL t k) : o ∈ t := by
  unfold cutL at h
  rcases List.mem_append.1 h with q | q
  · exact List.mem_of_mem_take q
  · exact List.mem_of_mem_drop q
def tkP (xs : List Prom) (t : List Int) : List Prom := t.map (gtP xs)
theorem tkP_len (xs : List Prom) (t : List Int) : (tkP xs t).length = t.length := List.length_map ..
theorem tkP_at {xs : List Prom} {t : List Int} {k : Nat} {o : Int} {p : Prom} (h : t[k]? = some o) (hp : xs[o.toNat]? = some p) : (tkP xs t)[k]? = some p := by unfold tkP; rw [List.getElem?_map, h, ← gtP_eq hp]; rfl
/-- One more promise taken; where that is too much, the longest work goes. -/
def kpS (xs : List Prom) (t : List Int) (o : Int) : List Int := if brS (tkP xs (t ++ [o])) = 0 then t ++ [o] else cutL (t ++ [o]) (wsP (tkP xs (t ++ [o])) (t ++ [o]).length)
theorem kpS_ok {xs : List Prom} {t : List Int} {o : Int} (h : brS (tkP xs (t ++ [o])) = 0) : kpS xs t o = t ++ [o] := if_pos h
theorem kpS_no {xs : List Prom} {t : List Int} {o : Int} (h : ¬ brS (tkP xs (t ++ [o])) = 0) : kpS xs t o = cutL (t ++ [o]) (wsP (tkP xs (t ++ [o])) (t ++ [o]).length) := if_neg h
theorem kpS_mem {xs : List Prom} {t : List Int} {o z : Int} (h : z ∈ kpS xs t o) : z = o ∨ z ∈ t := by
  have h1 : z ∈ t ++ [o] := by
    unfold kpS at h; split at h
    · exact h
    · exact cutL_mem h
  rcases List.mem_append.1 h1 with q | q
  · exact .inr q
  · exact .inl (by simpa using q)
theorem kpS_len (xs : List Prom) (t : List Int) (o : Int) : (kpS xs t o).length ≤ t.length + 1 := by
  unfold kpS; split
  · simp
  · have h1 : (t ++ [o]).length = t.length + 1 := by simp
    have := cutL_len (t := t ++ [o]) (k := wsP (tkP xs (t ++ [o])) (t ++ [o]).length) (wsP_lt _ (by omega)); omega
def kpG (xs : List Prom) : List Int → List Int → List Int
  | [], t => t
  | o :: os, t => kpG xs os (kpS xs t o)
def kpL (xs : List Prom) : List Int := kpG xs (odN xs xs.length) []
theorem kpG_mem {xs : List Prom} {z : Int} : ∀ {os t : List Int}, z ∈ kpG xs os t → z ∈ os ∨ z ∈ t
  | [], _, h => .inr h
  | o :: os, t, h => by
    rw [kpG] at h
    rcases kpG_mem h with q | q
    · exact .inl (by simp [q])
    · rcases kpS_mem q with e | e
      · exact .inl (by simp [e])
      · exact .inr e
theorem kpG_len {xs : List Prom} : ∀ {os t : List Int}, (kpG xs os t).length ≤ os.length + t.length
  | [], _ => by simp [kpG]
  | o :: os, t => by
    have h1 := kpG_len (xs := xs) (os := os) (t := kpS xs t o)
    have h2 := kpS_len xs t o
    rw [kpG, List.length_cons]; omega
theorem kpL_in (xs : List Prom) : ∀ o ∈ kpL xs, 0 ≤ o ∧ o < (xs.length : Int) := fun o h => by
  rcases kpG_mem h with q | q
  · exact odN_in xs _ o q
  · simp at q
theorem kpL_len (xs : List Prom) : (kpL xs).length ≤ xs.length := by
  have h1 := kpG_len (xs := xs) (os := odN xs xs.length) (t := [])
  rw [odN_len, List.length_nil] at h1; exact h1
theorem prK_tk {xs : List Prom} {t : List Int} (h : prK xs) (ht : t.length ≤ 41) (hb : ∀ o ∈ t, 0 ≤ o ∧ o < (xs.length : Int)) : prK (tkP xs t) := by
  refine ⟨by rw [tkP_len]; exact ht, fun p hp => ?_⟩
  obtain ⟨o, ho, rfl⟩ := List.mem_map.1 hp
  exact h.2 _ (gtP_mem (hb o ho))
theorem brS_bd {xs : List Prom} (h : prK xs) : 0 ≤ brS xs ∧ brS xs ≤ 1000 := brG_bd (fun p hp => (h.2 p hp).1) (by omega)
/-- The names of those at the places t, by their places. -/
def ktN (xs : List Prom) (t : List Int) : Nat → List Str
  | 0 => []
  | i + 1 => ktN xs t i ++ (t.filter fun o => decide (o = (i : Int))).map fun _ => (gtP xs i).1
theorem ktN_len {xs : List Prom} {t : List Int} : ∀ {n : Nat}, (ktN xs t n).length = (t.filter fun o => decide (0 ≤ o ∧ o < (n : Int))).length
  | 0 => by
    have e : (t.filter fun o => decide (0 ≤ o ∧ o < ((0 : Nat) : Int))) = [] := List.filter_eq_nil_iff.2 fun o _ => by rw [decide_eq_true_eq]; omega
    rw [e]; rfl
  | n + 1 => by
    rw [ktN, List.length_append, ktN_len (n := n), List.length_map]
    clear xs
    induction t with
    | nil => rfl
    | cons o t ih =>
      simp only [List.filter_cons]
      by_cases h1 : o = (n : Int)
      · subst h1
        rw [if_neg (by rw [decide_eq_true_eq]; omega), if_pos (by rw [decide_eq_true_eq]), if_pos (by rw [decide_eq_true_eq]; omega), List.length_cons, List.length_cons]; omega
      · by_cases h2 : 0 ≤ o ∧ o < (n : Int)
        · rw [if_pos (decide_eq_true h2), if_neg (by rw [decide_eq_true_eq]; exact h1), if_pos (by rw [decide_eq_true_eq]; omega), List.length_cons, List.length_cons]; omega
        · rw [if_neg (by rw [decide_eq_true_eq]; exact h2), if_neg (by rw [decide_eq_true_eq]; exact h1), if_neg (by rw [decide_eq_true_eq]; omega)]; exact ih
theorem kt_all (xs : List Prom) : (ktN xs (kpL xs) xs.length).length = (kpL xs).length := by
  rw [ktN_len, List.filter_eq_self.2]
  intro o h; exact decide_eq_true (kpL_in xs o h)
theorem kt_in {xs : List Prom} {t : List Int} {i k : Nat} {o : Int} {p : Prom} (ho : t[k]? = some o) (hp : xs[i]? = some p) (h : o = (i : Int)) : ((t.take (k + 1)).filter fun o => decide (o = (i : Int))).map (fun _ => (gtP xs i).1) = ((t.take k).filter fun o => decide (o = (i : Int))).map (fun _ => (gtP xs i).1) ++ [p.1] := by
  rw [take_snoc ho, List.filter_append, List.map_append, ← gtP_nat hp]; simp [h]
theorem kt_out {xs : List Prom} {t : List Int} {i k : Nat} {o : Int} (ho : t[k]? = some o) (h : ¬ o = (i : Int)) : ((t.take (k + 1)).filter fun o => decide (o = (i : Int))).map (fun _ => (gtP xs i).1) = ((t.take k).filter fun o => decide (o = (i : Int))).map (fun _ => (gtP xs i).1) := by
  rw [take_snoc ho, List.filter_append, List.map_append]; simp [h]

theorem c_impl_dayOrder (w0 : World) (v_list : Value) (list : List (Str × Int × Int)) {S_list : Nat → Prop} (h_list : Rds shProm S_list w0 v_list list) (g0 : prK list) :
    Calls Tryz.prog 144 #[v_list] w0 (Ret w0 (fun v w1 => Own shI64 3 w0.heap.size w0.heap.size w1.heap.size w1 v (odN list list.length))) := by
 refine enter (N := 51) Tryz.func144 rfl rfl rfl ?_
 intro A H
 have hx0 := Ext.rfl' w0
 have hl_list := h_list.length_le
 have hwk := g0.1
 revert A; refine go ?_; intro A H
 refine wv H (ln H U31 h_list) ?_
 clear H A; refine go ?_; intro A H
 refine loop_inv (X := Nat × Value × (List Int)) (fun ⟨i, v, os⟩ fr wl => Sl 51 fr [(0, v_list), (3, v), (7, v_list), (8, .int .i64 ((list.length : Nat) : Int)), (9, .int .i64 ((i : Nat) : Int))] ∧ Ext w0 wl ∧ Own shI64 3 w0.heap.size w0.heap.size wl.heap.size wl v os ∧ w0.heap.size ≤ wl.heap.size ∧ (i ≤ list.length) ∧ (os = odN list i)) (fun ⟨i, v, os⟩ => list.length - i) (0, (.slice none 0 0), []) ?_ ?_
 exact ⟨(sl H), hx0, (Own.nil _ _ _ _ _ _), (by omega), (by omega), (by rfl)⟩
 clear H A
 rintro ⟨i, v, os⟩ A w6 ⟨H, hx7, hf8, hzl10, hi, hO⟩
 have hzhx7 := hx7.size
 have hU := odN_up list i
 have hB := odN_in list i
 have hl := odN_len list i
 rw [← hO] at hU hB hl
 revert A; refine go ?_; intro A H
 by_cases c12 : ((i : Nat) : Int) < ((list.length : Nat) : Int)
 rw [decide_eq_true c12] at H
 revert A; refine go ?_; intro A H
 obtain ⟨x14, hx14⟩ := get_ex (xs := list) (j := i) (by omega)
 obtain ⟨p15, hi17, hc18, b21, b22, b23, hs20⟩ := at_shProm h_list hx14
 have hbx14 := prK_at g0 hx14
 refine wv H (ix H U31 ti67 hi17) ?_
 clear H A; intro A H
 refine wv H (ls H U67 ti67 (hc18.ext hx7)) ?_
 clear H A; intro A H
 refine we H (op_alloc' rfl ti67 rfl) ?_
 clear H A; rintro _ w27 ⟨rfl, he28, hb29, hz30⟩ A H
 obtain ⟨hx32, _⟩ := nx hx7 he28
 replace hf8 := hf8.ext he28
 refine wv H (op_assign H rfl rfl) ?_
 clear H A; intro A H
 refine ws H (op_sa H ti67 hb29) ?_
 rintro w34 ⟨hb36, hst35, hz37⟩
 obtain ⟨hx38, _⟩ := nb hx32 hst35
 replace hf8 := hf8.stp hst35 (by intro q hq; cases hq; omega)
 clear hb29
 revert A; refine go ?_; intro A H
 refine wv H (ln H U135 (hf8.rds pos_shI64)) ?_
 clear H A; intro A H
 refine wv H (op_assign H rfl rfl) ?_
 clear H A; intro A H
 refine wpList_nil ?_
 refine then_n ?_
 refine seq_mid (fun fr wl => ∃ (k : Nat), Sl 51 fr [(0, v_list), (3, v), (4, .int .i64 ((i : Nat) : Int)), (6, .int .i64 ((k : Nat) : Int)), (7, v_list), (8, .int .i64 ((list.length : Nat) : Int)), (9, .int .i64 ((i : Nat) : Int))] ∧ Ext w0 wl ∧ Own shI64 3 w0.heap.size w0.heap.size w6.heap.size wl v os ∧ w34.heap.size ≤ wl.heap.size ∧ (k ≤ os.length) ∧ (∀ (j : Nat) (y : Int), k ≤ j → os[j]? = some y → dyK list (i : Int) < dyK list y) ∧ (k = 0 ∨ ∃ b, os[k - 1]? = some b ∧ ¬ dyK list (i : Int) < dyK list b)) ?_ ?_
 refine wp_block ?_
 refine loop_inv (X := Nat) (fun k fr wl => Sl 51 fr [(0, v_list), (3, v), (4, .int .i64 ((i : Nat) : Int)), (5, .pointer (some (⟨w6.heap.size, 0, none⟩ : Addr))), (6, .int .i64 ((k : Nat) : Int)), (7, v_list), (8, .int .i64 ((list.length : Nat) : Int)), (9, .int .i64 ((i : Nat) : Int))] ∧ Ext w0 wl ∧ Own shI64 3 w0.heap.size w0.heap.size w6.heap.size wl v os ∧ Box wl w6.heap.size 67 [St x14.1, .int .i64 x14.2.1, .int .i64 x14.2.2] ∧ w34.heap.size ≤ wl.heap.size ∧ (k ≤ os.length) ∧ (∀ (j : Nat) (y : Int), k ≤ j → os[j]? = some y → dyK list (i : Int) < dyK list y)) (fun k => k) (os.length) ?_ ?_
 exact ⟨(sl H), hx38, hf8, hb36, (by omega), (by omega), (by intro j y hj hy; have := (List.getElem?_eq_some_iff.1 hy).1; omega)⟩
 clear H A
 rintro k A w45 ⟨H, hx46, hf47, hf48, hzl50, hk, hk2⟩
 have hzhx46 := hx46.size
 revert A; refine go ?_; intro A H
 refine dre Ext follows_mixed ?_
 intro w51 he52 hs54
 obtain ⟨hx53, _⟩ := nx hx46 he52
 replace hf47 := hf47.ext he52
 replace hf48 := hf48.ext he52
 revert A; refine dgo [0, 1, 2] hs54 ?_; intro A H
 by_cases c58 : (0 : Int) < ((k : Nat) : Int)
 rw [decide_eq_true c58] at H
 revert A; refine dgo [3, 4, 5] hs54 ?_; intro A H
 refine dw 6 H rfl hs54 ((op_sub H rfl rfl rfl).int (IntWalk.i64_in _ (by omega))) ?_
 clear H A; intro A H
 obtain ⟨x63, hx63⟩ := get_ex (xs := os) (j := (k - 1)) (by omega)
 obtain ⟨p64, hi66, hc67, b70, _, _⟩ := at_shI64 (hf47.rds pos_shI64) hx63
 have hobx63 := hB _ (List.mem_of_getElem? hx63)
 refine dw 7 H rfl hs54 (ix H U135 ti3 hi66) ?_
 clear H A; intro A H
 refine dv 8 H rfl hs54 (fun w' hw' => lh H U3 (hc67.ext hw')) ?_
 clear H A; intro A H
 obtain ⟨x73, hx73⟩ := get_ex (xs := list) (j := x63.toNat) (by omega)
 obtain ⟨p74, hi76, hc77, b80, b81, b82, hs79⟩ := at_shProm h_list hx73
 have hbx73 := prK_at g0 hx73
 refine dw 9 H rfl hs54 (ix H U31 ti67 hi76) ?_
 clear H A; intro A H
 refine dw 10 H rfl hs54 (fa H U67 ti2) ?_
 clear H A; intro A H
 refine dv 11 H rfl hs54 (fun w' hw' => lf 1 H U2 (hc77.ext (hx53.trans' hw'))) ?_
 clear H A; intro A H
 refine dw 12 H rfl hs54 (fa H U67 ti2) ?_
 clear H A; intro A H
 refine dv 13 H rfl hs54 (fun w' hw' => lf 1 H U2 (hf48.ext hw').cells) ?_
 clear H A; refine dgo [14, 15] hs54 ?_; intro A H
 refine dr_end (by kernel_rfl) ?_
 replace hf47 := hf47.ext hs54
 replace hf48 := hf48.ext hs54
 replace hc67 := hc67.ext hs54
 refine then_n ?_
 by_cases c90 : x14.2.1 < x73.2.1
 rw [decide_eq_true c90] at H
 clear hc67
 revert A; refine go ?_; intro A H
 refine wv H ((op_sub H rfl rfl rfl).int (IntWalk.i64_in _ (by omega))) ?_
 clear H A; refine go ?_; intro A H
 refine ⟨((k - 1)), ?_, ?_⟩
 refine ⟨(sl H), hx53, hf47, hf48, (by omega), (by omega), (by intro j y hj hy; by_cases e : j = k - 1; (subst e; rw [hx63] at hy; cases hy; rw [dyK_nat hx14, dyK_el hx73]; exact c90); exact hk2 j y (by omega) hy)⟩
 show (((k - 1)) : Nat) < k; omega
 rw [decide_eq_false c90] at H
 revert A; refine go ?_; intro A H
 refine ⟨k, (sl H), hx53, hf47, (by omega), (by omega), (by exact hk2), (by exact .inr ⟨_, hx63, by rw [dyK_nat hx14, dyK_el hx73]; exact c90⟩)⟩
 rw [decide_eq_false c58] at H
 revert A; refine dgo [3, 4, 5, 6, 7, 8, 9, 10, 11, 12, 13, 14, 15] hs54 ?_; intro A H
 refine dr_end (by kernel_rfl) ?_
 replace hf47 := hf47.ext hs54
 replace hf48 := hf48.ext hs54
 revert A; refine go ?_; intro A H
 refine ⟨k, (sl H), hx53, hf47, (by omega), (by omega), (by exact hk2), (by exact .inl (by omega))⟩
 clear H A
 rintro A w42 ⟨k, H, hx43, hf44, hzl108, hk, hk2, h0⟩
 have hzhx43 := hx43.size
 revert A; refine go ?_; intro A H
 refine we H (op_b1 (mk_shI64 ((0 : Int)) (by omega)) H pos_shI64 U135 ti3) ?_
 clear H A; rintro v110 w111 ⟨ho112, he113, hob114⟩ A H
 obtain ⟨hx116, _⟩ := nx hx43 he113
 replace hf44 := hf44.ext he113
 refine we H (op_ap (ts := #[]) H U135 ti3 pos_shI64 hf44 (ho112.rds pos_shI64) flat_shI64) ?_
 clear H A; rintro v117 w118 ⟨ho119, hst120, hob121⟩ A H
 obtain ⟨hx123, _⟩ := no hx116 hf44 hst120
 replace ho112 := ho112.stp hst120 (by intro q hq; have hq0 := hf44.lt q hq; omega)
 have hsp124 : ∀ q, Value.ownBlock v117 = some q → Value.ownBlock v110 ≠ some q := by intro q hq hb; have hq0 := ho112.lt q hb; rcases hob121 with h | h; (rw [h] at hq; first | (have hq1 := hf44.lt q hq; omega)); (rw [h] at hq; cases hq; omega)
 revert A; refine go ?_; intro A H
 clear ho112
 refine dre (fun wa_ wb_ => Stp wa_ wb_ (Value.ownBlock v117)) follows_mixed ?_
 intro w126 he127 hs129
 obtain ⟨hx128, _⟩ := nx hx123 he127
 replace ho119 := ho119.ext he127
 revert A; refine dgo [0, 1] (Stp.of_ext hs129 _) ?_; intro A H
 refine dw 2 H rfl (Stp.of_ext hs129 _) ((op_add H rfl rfl rfl).int (IntWalk.i64_in _ (by omega))) ?_
 clear H A; intro A H
 obtain ⟨u133, hu134, hpp136, hr135⟩ := Own.partw ho119 pos_shI64 (by simp) U135 ti3 (some (.int .i64 ((k + 1) : Nat))) none ((k + 1)) (((os ++ [(0 : Int)])).length) (.inr ⟨.i64, rfl⟩) (.inl ⟨rfl, rfl⟩) (by simp; omega) (by omega)
 replace hr135 := hr135.cast (ys := ((os ++ [(0 : Int)])).drop ((k + 1))) (by rw [List.take_length])
 refine dw 3 H rfl (Stp.of_ext hs129 _) (op_slice_f (by omega) H rfl rfl rfl hu134) ?_
 clear H A; refine dgo [4, 5] (Stp.of_ext hs129 _) ?_; intro A H
 obtain ⟨u140, hu141, hpp143, hr142⟩ := Own.partw ho119 pos_shI64 (by simp) U135 ti3 (some (.int .i64 (k : Nat))) none k (((os ++ [(0 : Int)])).length) (.inr ⟨.i64, rfl⟩) (.inl ⟨rfl, rfl⟩) (by simp; omega) (by omega)
 replace hr142 := hr142.cast (ys := ((os ++ [(0 : Int)])).drop k) (by rw [List.take_length])
 refine dw 6 H rfl (Stp.of_ext hs129 _) (op_slice_f (by omega) H rfl rfl rfl hu141) ?_
 clear H A; intro A H
 refine dr_one (i := 7) (by kernel_rfl) ?_
 replace ho119 := ho119.ext hs129
 replace hr135 := hr135.ext pos_shI64 hs129
 replace hr142 := hr142.ext pos_shI64 hs129
 refine pe H rfl (op_copyIn (s := shI64) H rfl U135 ti3 rfl rfl ho119 (by simp) hpp136 hpp143) ?_
 clear H A; rintro _ w145 ⟨rfl, ho147, hst146, hz148⟩ A H
 obtain ⟨hx150, _⟩ := no hx128 ho119 hst146
 clear ho119
 have hs151 := (Stp.of_ext hs129 (Value.ownBlock v117)).trans' hst146
 refine ⟨hs151, ?_⟩
 refine dr_end (by kernel_rfl) ?_
 revert A; refine go ?_; intro A H
 obtain ⟨x155, hx155⟩ := get_ex (xs := (((os ++ [(0 : Int)])).take ((k + 1)) ++ (((os ++ [(0 : Int)])).drop k).take (min (((os ++ [(0 : Int)])).length - (k + 1)) (((os ++ [(0 : Int)])).length - k)) ++ ((os ++ [(0 : Int)])).drop ((k + 1) + (min (((os ++ [(0 : Int)])).length - (k + 1)) (((os ++ [(0 : Int)])).length - k))))) (j := k) (by simp only [List.length_append, List.length_take, List.length_drop, List.length_singleton]; omega)
 obtain ⟨p156, hi158, hc159, b162, _, _⟩ := at_shI64 (ho147.rds pos_shI64) hx155
 refine wv H (ix H U135 ti3 hi158) ?_
 clear H A; intro A H
 refine ws H (op_setElem (s := shI64) (ds := [.int .i64 ((i : Nat) : Int)]) (S' := fun _ => False) H rfl ti3 rfl rfl rfl ho147 pos_shI64 hi158 (by simp only [List.length_append, List.length_take, List.length_drop, List.length_singleton]; omega) (mk_shI64 (((i : Nat) : Int)) (by omega)) (fun _ h => h.elim)) ?_
 rintro w164 ⟨ho166, hst165, hz167⟩
 obtain ⟨hx168, _⟩ := no hx150 ho147 hst165
 clear ho147
 have hlsho166 : ((((((os ++ [(0 : Int)])).take ((k + 1)) ++ (((os ++ [(0 : Int)])).drop k).take (min (((os ++ [(0 : Int)])).length - (k + 1)) (((os ++ [(0 : Int)])).length - k)) ++ ((os ++ [(0 : Int)])).drop ((k + 1) + (min (((os ++ [(0 : Int)])).length - (k + 1)) (((os ++ [(0 : Int)])).length - k))))).set k (((i : Nat) : Int)))).length = ((((os ++ [(0 : Int)])).take ((k + 1)) ++ (((os ++ [(0 : Int)])).drop k).take (min (((os ++ [(0 : Int)])).length - (k + 1)) (((os ++ [(0 : Int)])).length - k)) ++ ((os ++ [(0 : Int)])).drop ((k + 1) + (min (((os ++ [(0 : Int)])).length - (k + 1)) (((os ++ [(0 : Int)])).length - k))))).length := List.length_set
 revert A; refine go ?_; intro A H
 refine wv H ((op_add H rfl rfl rfl).int (IntWalk.i64_in _ (by omega))) ?_
 clear H A; refine go ?_; intro A H
 have hins := insK_back (key := dyK list) (x := (i : Int)) hU hk2 h0
 have hieq := ins_eq (acc := os) (k := k) (x := (i : Int)) (z := (0 : Int)) (by omega)
 rw [← hins] at hieq
 refine ⟨((i + 1), v117, (((((os ++ [(0 : Int)])).take ((k + 1)) ++ (((os ++ [(0 : Int)])).drop k).take (min (((os ++ [(0 : Int)])).length - (k + 1)) (((os ++ [(0 : Int)])).length - k)) ++ ((os ++ [(0 : Int)])).drop ((k + 1) + (min (((os ++ [(0 : Int)])).length - (k + 1)) (((os ++ [(0 : Int)])).length - k))))).set k (((i : Nat) : Int)))), ?_, ?_⟩
 refine ⟨(sl H), hx168, (fi ho166), (by omega), (by omega), (by rw [hieq, odN, hO])⟩
 show (list.length - ((i + 1)) : Nat) < list.length - i; omega
 rw [decide_eq_false c12] at H
 revert A; refine go ?_; intro A H
 refine ret1 H rfl rfl ?_
 clear H A
 refine ret_mk hx7 ?_
 refine (fi hf8).cast ?_
 have e : i = list.length := (by omega); rw [hO, e]



theorem c_spec_l01Own (w0 : World) (v_list : Value) (list : List Int) {S_list : Nat → Prop} (h_list : Rds shI64 S_list w0 v_list list) (g0 : list.length ≤ 1048576) :
    Calls Tryz.prog 164 #[v_list] w0 (Ret w0 (fun v w1 => Own shI64 2 w0.heap.size w0.heap.size w1.heap.size w1 v (list))) := by
 refine enter (N := 6) Tryz.func164 rfl rfl rfl ?_
 intro A H
 have hx0 := Ext.rfl' w0
 have hl_list := h_list.length_le
 revert A; refine go ?_; intro A H
 refine we H (op_b0 H pos_shI64 U55 ti2) ?_
 clear H A; rintro v2 w3 ⟨ho4, he5, hob6⟩ A H
 obtain ⟨hx8, _⟩ := nx hx0 he5
 refine wv H (op_move H rfl rfl) ?_
 clear H A; intro A H
 refine we H (op_ap (ts := #[]) H U55 ti2 pos_shI64 ho4 (h_list.ext pos_shI64 hx8) flat_shI64) ?_
 clear H A; rintro v10 w11 ⟨ho12, hst13, hob14⟩ A H
 replace ho12 := ho12.cast (List.nil_append _)
 obtain ⟨hx16, _⟩ := no hx8 ho4 hst13
 revert A; refine go ?_; intro A H
 refine ret1 H rfl rfl ?_
 clear H A
 refine ret_mk hx16 ?_
 refine (fi ho12).cast ?_
 rfl



theorem c_spec_l23Order (w0 : World) (v_list : Value) (list : List (Str × Int × Int)) {S_list : Nat → Prop} (h_list : Rds shProm S_list w0 v_list list) (g0 : prK list) :
    Calls Tryz.prog 163 #[v_list] w0 (Ret w0 (fun v w1 => Own shI64 2 w0.heap.size w0.heap.size w1.heap.size w1 v (odN list list.length))) := by
 refine enter (N := 47) Tryz.func163 rfl rfl rfl ?_
 intro A H
 have hx0 := Ext.rfl' w0
 have hl_list := h_list.length_le
 have hwk := g0.1
 revert A; refine go ?_; intro A H
 refine we H (op_b0 H pos_shI64 U55 ti2) ?_
 clear H A; rintro v2 w3 ⟨ho4, he5, hob6⟩ A H
 obtain ⟨hx8, _⟩ := nx hx0 he5
 revert A; refine go ?_; intro A H
 refine loop_inv (X := Nat × Value × (List Int)) (fun ⟨i, v, os⟩ fr wl => Sl 47 fr [(0, v_list), (3, v), (4, .int .i64 ((i : Nat) : Int))] ∧ Ext w0 wl ∧ Own shI64 2 w0.heap.size w0.heap.size wl.heap.size wl v os ∧ w3.heap.size ≤ wl.heap.size ∧ (i ≤ list.length) ∧ (os = odN list i)) (fun ⟨i, v, os⟩ => list.length - i) (0, v2, ([] : List Int)) ?_ ?_
 exact ⟨(sl H), hx8, (fi ho4), (by omega), (by omega), (by rfl)⟩
 clear H A
 rintro ⟨i, v, os⟩ A w11 ⟨H, hx12, hf13, hzl15, hi, hO⟩
 have hzhx12 := hx12.size
 have hU := odN_up list i
 have hB := odN_in list i
 have hl := odN_len list i
 rw [← hO] at hU hB hl
 revert A; refine go ?_; intro A H
 refine wv H (ln H U31 h_list) ?_
 clear H A; refine go ?_; intro A H
 by_cases c20 : ((i : Nat) : Int) < ((list.length : Nat) : Int)
 rw [decide_eq_true c20] at H
 refine cond_t H rfl ?_
 refine wp_skip ?_
 refine then_n ?_
 refine wp_seq ?_
 refine wp_block ?_
 refine wp_seq ?_
 refine wp_region_lit ?_
 refine wv H (op_assign H rfl rfl) ?_
 clear H A; intro A H
 refine wpList_nil ?_
 refine then_n ?_
 obtain ⟨x22, hx22⟩ := get_ex (xs := list) (j := i) (by omega)
 obtain ⟨p23, hi25, hc26, b29, b30, b31, hs28⟩ := at_shProm h_list hx22
 have hbx22 := prK_at g0 hx22
 refine seq_mid (fun fr wl => ∃ (k : Nat), Sl 47 fr [(0, v_list), (3, v), (4, .int .i64 ((i : Nat) : Int)), (5, .int .i64 ((k : Nat) : Int))] ∧ Ext w0 wl ∧ Own shI64 2 w0.heap.size w0.heap.size w11.heap.size wl v os ∧ w11.heap.size ≤ wl.heap.size ∧ (k ≤ os.length) ∧ (∀ (j : Nat) (o : Int), j < k → os[j]? = some o → dyK list o ≤ dyK list (i : Int)) ∧ (os.length ≤ k ∨ ∃ b, os[k]? = some b ∧ ¬ dyK list b ≤ dyK list (i : Int))) ?_ ?_
 refine wp_block ?_
 refine loop_inv (X := Nat) (fun k fr wl => Sl 47 fr [(0, v_list), (3, v), (4, .int .i64 ((i : Nat) : Int)), (5, .int .i64 ((k : Nat) : Int))] ∧ Ext w0 wl ∧ Own shI64 2 w0.heap.size w0.heap.size w11.heap.size wl v os ∧ w11.heap.size ≤ wl.heap.size ∧ (k ≤ os.length) ∧ (∀ (j : Nat) (o : Int), j < k → os[j]? = some o → dyK list o ≤ dyK list (i : Int))) (fun k => os.length - k) (0) ?_ ?_
 exact ⟨(sl H), hx12, hf13, (by omega), (by omega), (by exact all_zero)⟩
 clear H A
 rintro k A w35 ⟨H, hx36, hf37, hzl39, hk, hk2⟩
 have hzhx36 := hx36.size
 revert A; refine go ?_; intro A H
 refine dre Ext follows_mixed ?_
 intro w40 he41 hs43
 obtain ⟨hx42, _⟩ := nx hx36 he41
 replace hf37 := hf37.ext he41
 revert A; refine dgo [0, 1] hs43 ?_; intro A H
 refine dw 2 H rfl hs43 (ln H U55 (hf37.rds pos_shI64)) ?_
 clear H A; refine dgo [3, 4] hs43 ?_; intro A H
 by_cases c49 : ((k : Nat) : Int) < ((os.length : Nat) : Int)
 rw [decide_eq_true c49] at H
 revert A; refine dgo [5, 6, 7] hs43 ?_; intro A H
 obtain ⟨x53, hx53⟩ := get_ex (xs := os) (j := k) (by omega)
 obtain ⟨p54, hi56, hc57, b60, _, _⟩ := at_shI64 (hf37.rds pos_shI64) hx53
 have hobx53 := hB _ (List.mem_of_getElem? hx53)
 refine dw 8 H rfl hs43 (ix H U55 ti2 hi56) ?_
 clear H A; intro A H
 refine dv 9 H rfl hs43 (fun w' hw' => lh H U2 (hc57.ext hw')) ?_
 clear H A; intro A H
 obtain ⟨x63, hx63⟩ := get_ex (xs := list) (j := x53.toNat) (by omega)
 obtain ⟨p64, hi66, hc67, b70, b71, b72, hs69⟩ := at_shProm h_list hx63
 have hbx63 := prK_at g0 hx63
 refine dw 10 H rfl hs43 (ix H U31 ti67 hi66) ?_
 clear H A; intro A H
 refine dw 11 H rfl hs43 (fa H U67 ti2) ?_
 clear H A; intro A H
 refine dv 12 H rfl hs43 (fun w' hw' => lf 1 H U2 (hc67.ext (hx42.trans' hw'))) ?_
 clear H A; refine dgo [13, 14] hs43 ?_; intro A H
 refine dw 15 H rfl hs43 (ix H U31 ti67 hi25) ?_
 clear H A; intro A H
 refine dw 16 H rfl hs43 (fa H U67 ti2) ?_
 clear H A; intro A H
 refine dv 17 H rfl hs43 (fun w' hw' => lf 1 H U2 (hc26.ext (hx42.trans' hw'))) ?_
 clear H A; refine dgo [18, 19] hs43 ?_; intro A H
 refine dr_end (by kernel_rfl) ?_
 refine then_n ?_
 by_cases c83 : x63.2.1 ≤ x22.2.1
 rw [decide_eq_true c83] at H
 clear hc57
 revert A; refine go ?_; intro A H
 refine wv H ((op_add H rfl rfl rfl).int (IntWalk.i64_in _ (by omega))) ?_
 clear H A; refine go ?_; intro A H
 refine ⟨((k + 1)), ?_, ?_⟩
 refine ⟨(sl H), hx42, hf37, (by omega), (by omega), (by exact all_snoc (p := fun o => dyK list o ≤ dyK list (i : Int)) hk2 hx53 (by show dyK list x53 ≤ _; rw [dyK_el hx63, dyK_nat hx22]; exact c83))⟩
 show (os.length - ((k + 1)) : Nat) < os.length - k; omega
 rw [decide_eq_false c83] at H
 revert A; refine go ?_; intro A H
 refine ⟨k, (sl H), hx42, hf37, (by omega), (by omega), (by exact hk2), (by exact .inr ⟨_, hx53, by rw [dyK_el hx63, dyK_nat hx22]; exact c83⟩)⟩
 rw [decide_eq_false c49] at H
 revert A; refine dgo [5, 6, 7, 8, 9, 10, 11, 12, 13, 14, 15, 16, 17, 18, 19] hs43 ?_; intro A H
 refine dr_end (by kernel_rfl) ?_
 revert A; refine go ?_; intro A H
 refine ⟨k, (sl H), hx42, hf37, (by omega), (by omega), (by exact hk2), (by exact .inl (by omega))⟩
 clear H A
 rintro A w32 ⟨k, H, hx33, hf34, hzl103, hk, hk2, h0⟩
 have hzhx33 := hx33.size
 refine dre Ext follows_mixed ?_
 intro w104 he105 hs107
 obtain ⟨hx106, _⟩ := nx hx33 he105
 replace hf34 := hf34.ext he105
 refine dr_share (fun fr wl S => ∃ (q108 : Value) (q109 : Value) (q110 : Value) (n113 n114 : Nat) (n115 n116 : Nat), S = (fun w' => StpL wl w' (fun i => Value.ownBlock q108 = some i)) ∧ Sl 47 fr [(0, v_list), (4, .int .i64 ((i : Nat) : Int)), (38, q108), (40, q109), (44, q110)] ∧ Ext w0 wl ∧ Own shI64 2 n113 n113 n114 wl q108 (((os.take k))) ∧ Own shI64 2 n115 n115 n116 wl q109 ([((i : Nat) : Int)]) ∧ Rds shI64 ((Iv (min w0.heap.size w0.heap.size) w11.heap.size)) wl q110 (os.drop k) ∧ (w104.heap.size ≤ n113) ∧ (n114 ≤ wl.heap.size) ∧ (n113 ≤ n114) ∧ (w104.heap.size ≤ n115) ∧ (n116 ≤ wl.heap.size) ∧ (∀ q, Value.ownBlock q108 = some q → Value.ownBlock q109 ≠ some q) ∧ w104.heap.size ≤ wl.heap.size) 3 #[true, true, true, true, true, true, false, true, true, true, false, false] ?_ ?_
 clear H A
 rintro A w111 _ ⟨q108, q109, q110, n113, n114, n115, n116, rfl, H, hx112, hf117, hf118, hf119, hg122, hg123, hg124, hg125, hg126, hsp120, hzl121⟩
 have hzhx112 := hx112.size
 have hs128 : Ext w111 w111 := Ext.rfl' _
 refine dr_one (i := 6) (by kernel_rfl) ?_
 refine pe H rfl (op_ap (ts := #[]) H U55 ti2 pos_shI64 hf117 (hf118.rds pos_shI64) flat_shI64) ?_
 clear H A; rintro v129 w130 ⟨ho131, hst132, hob133⟩ A H
 obtain ⟨hx135, _⟩ := no hx112 hf117 hst132
 replace hf118 := hf118.stpF flat_shI64 hst132 (fun q hq => hsp120 q hq)
 replace hf119 := hf119.stp pos_shI64 hst132 (by intro q hq; have hq0 := hf117.lt q hq; exact not_iv (by omega))
 have hsp136 : ∀ q, Value.ownBlock v129 = some q → Value.ownBlock q109 ≠ some q := by intro q hq hb; have hq0 := hf118.lt q hb; rcases hob133 with h | h; (rw [h] at hq; exact hsp120 q hq hb); (rw [h] at hq; cases hq; omega)
 have hs137 := (StpL.of_ext (B := fun i => Value.ownBlock q108 = some i) hs128).trans' (Stp.toL hst132 (by intro q hq; exact hq))
 refine ⟨hs137, ?_⟩
 refine dr_narrow (S' := fun w' => StpL w130 w' (fun i => Value.ownBlock v129 = some i)) (fun w' h' => hs137.freshL h' (by intro i q; first | (rcases hob133 with h9 | h9; (exact Or.inl (h9.symm.trans q)); (rw [h9] at q; cases q; right; omega)))) _ _ _ _ ?_
 have hs138 : Ext w130 w130 := Ext.rfl' _
 refine dr_one (i := 10) (by kernel_rfl) ?_
 refine pe H rfl (op_ap (ts := #[]) H U55 ti2 pos_shI64 ho131 hf119 flat_shI64) ?_
 clear H A; rintro v139 w140 ⟨ho141, hst142, hob143⟩ A H
 obtain ⟨hx145, _⟩ := no hx135 ho131 hst142
 replace hf118 := hf118.stpF flat_shI64 hst142 (fun q hq => hsp136 q hq)
 replace hf119 := hf119.stp pos_shI64 hst142 (by intro q hq; have hq0 := ho131.lt q hq; exact not_iv (by omega))
 have hsp146 : ∀ q, Value.ownBlock v139 = some q → Value.ownBlock q109 ≠ some q := by intro q hq hb; have hq0 := hf118.lt q hb; rcases hob143 with h | h; (rw [h] at hq; exact hsp136 q hq hb); (rw [h] at hq; cases hq; omega)
 have hs147 := (StpL.of_ext (B := fun i => Value.ownBlock v129 = some i) hs138).trans' (Stp.toL hst142 (by intro q hq; exact hq))
 refine ⟨hs147, ?_⟩
 refine dr_narrow (S' := fun w' => Ext w140 w') (fun w' h' => StpL.trans' hs147 (StpL.of_ext h')) _ _ _ _ ?_
 have hs148 : Ext w140 w140 := Ext.rfl' _
 refine dw 11 H rfl hs148 (op_assign H rfl rfl) ?_
 clear H A; intro A H
 refine dr_end (by kernel_rfl) ?_
 clear hf118 hf119
 revert A; refine go ?_; intro A H
 refine wv H ((op_add H rfl rfl rfl).int (IntWalk.i64_in _ (by omega))) ?_
 clear H A; refine go ?_; intro A H
 have hins := insK_front (key := dyK list) (x := (i : Int)) hU hk2 h0
 have hieq : ((((os.take k)) ++ [((i : Nat) : Int)]) ++ os.drop k) = insK (dyK list) (i : Int) os := by rw [hins]; simp
 refine ⟨((i + 1), v139, ((((os.take k)) ++ [((i : Nat) : Int)]) ++ os.drop k)), ?_, ?_⟩
 refine ⟨(sl H), hx145, (fi ho141), (by omega), (by omega), (by rw [hieq, odN, hO])⟩
 show (list.length - ((i + 1)) : Nat) < list.length - i; omega
 intro hk153
 revert A; refine dgo [0, 1] hs107 ?_; intro A H
 obtain ⟨u156, hu157, hr158⟩ := Rds.part (hf34.rds pos_shI64) U55 ti2 none (some (.int .i64 (k : Nat))) 0 k (.inl ⟨rfl, rfl⟩) (.inr ⟨.i64, rfl⟩) (by omega) (by omega)
 replace hr158 := hr158.cast (ys := os.take k) (by simp)
 refine dw 2 H rfl hs107 (op_slice_t (by omega) H rfl rfl rfl hu157) ?_
 clear H A; refine dgo [4, 7, 8] hs107 ?_; intro A H
 obtain ⟨u163, hu164, hr165⟩ := Rds.part (hf34.rds pos_shI64) U55 ti2 (some (.int .i64 (k : Nat))) none k os.length (.inr ⟨.i64, rfl⟩) (.inl ⟨rfl, rfl⟩) (by omega) (by omega)
 replace hr165 := hr165.cast (ys := os.drop k) (by rw [List.take_length])
 refine dw 9 H rfl hs107 (op_slice_f (by omega) H rfl rfl rfl hu164) ?_
 clear H A; intro A H
 refine dr_two (i := 3) (j := 5) (by kernel_rfl) ?_ ?_
 refine pc H cb164 rfl (c_spec_l01Own _ u156 (os.take k) (hr158.ext pos_shI64 hs107) (by simp; omega)) ?_
 clear H A; rintro v167 w168 he169 ho170 A H
 have hs172 := hs107.trans' he169
 obtain ⟨hx173, _⟩ := nx hx106 he169
 refine ⟨hs172, ?_⟩
 replace hf34 := hf34.ext hs172
 replace hr158 := hr158.ext pos_shI64 hs172
 replace hr165 := hr165.ext pos_shI64 hs172
 refine dr_narrow (S' := fun w' => StpL w168 w' (fun i => Value.ownBlock v167 = some i)) (fun w' h' => hs172.freshL h' (by intro i q; first | (right; have hq0 := ho170.lt _ q; omega))) _ _ _ _ ?_
 have hs174 : Ext w168 w168 := Ext.rfl' _
 refine dr_one (i := 5) (by kernel_rfl) ?_
 refine pe H rfl (op_b1 (mk_shI64 (((i : Nat) : Int)) (by omega)) H pos_shI64 U55 ti2) ?_
 clear H A; rintro v175 w176 ⟨ho177, he178, hob179⟩ A H
 have hs181 := hs174.trans' he178
 obtain ⟨hx182, _⟩ := nx hx173 he178
 refine ⟨(StpL.of_ext hs181), ?_⟩
 replace hf34 := hf34.ext hs181
 replace hr158 := hr158.ext pos_shI64 hs181
 replace hr165 := hr165.ext pos_shI64 hs181
 replace ho170 := ho170.ext hs181
 refine dr_narrow (S' := fun w' => StpL w176 w' (fun i => Value.ownBlock v167 = some i)) (fun w' h' => ((StpL.of_ext hs181)).freshL h' (by intro i q; first | (exact Or.inl q))) _ _ _ _ ?_
 have hs183 : Ext w176 w176 := Ext.rfl' _
 exact dr_listed (by kernel_rfl) (hk153 _ _ _ ⟨v167, v175, u163, w104.heap.size, w168.heap.size, w168.heap.size, w176.heap.size, rfl, (sl H), hx182, ho170, ho177, hr165, (by omega), (by omega), (by omega), (by omega), (by omega), (by intro q hq hb; first | (have hq0 := ho170.lt q hq; have hq1 := ho177.lt q hb; omega)), (by omega)⟩)
 refine pe H rfl (op_b1 (mk_shI64 (((i : Nat) : Int)) (by omega)) H pos_shI64 U55 ti2) ?_
 clear H A; rintro v184 w185 ⟨ho186, he187, hob188⟩ A H
 have hs190 := hs107.trans' he187
 obtain ⟨hx191, _⟩ := nx hx106 he187
 refine ⟨hs190, ?_⟩
 replace hf34 := hf34.ext hs190
 replace hr158 := hr158.ext pos_shI64 hs190
 replace hr165 := hr165.ext pos_shI64 hs190
 refine drn hs190 ?_
 intro hs192
 refine dr_one (i := 3) (by kernel_rfl) ?_
 refine pc H cb164 rfl (c_spec_l01Own _ u156 (os.take k) (hr158.ext pos_shI64 hs192) (by simp; omega)) ?_
 clear H A; rintro v193 w194 he195 ho196 A H
 have hs198 := hs192.trans' he195
 obtain ⟨hx199, _⟩ := nx hx191 he195
 refine ⟨hs198, ?_⟩
 replace hf34 := hf34.ext hs198
 replace hr158 := hr158.ext pos_shI64 hs198
 replace hr165 := hr165.ext pos_shI64 hs198
 replace ho186 := ho186.ext hs198
 refine dr_narrow (S' := fun w' => StpL w194 w' (fun i => Value.ownBlock v193 = some i)) (fun w' h' => hs198.freshL h' (by intro i q; first | (right; have hq0 := ho196.lt _ q; omega))) _ _ _ _ ?_
 have hs200 : Ext w194 w194 := Ext.rfl' _
 exact dr_listed (by kernel_rfl) (hk153 _ _ _ ⟨v193, v184, u163, w185.heap.size, w194.heap.size, w104.heap.size, w185.heap.size, rfl, (sl H), hx199, ho196, ho186, hr165, (by omega), (by omega), (by omega), (by omega), (by omega), (by intro q hq hb; first | (have hq0 := ho196.lt q hq; have hq1 := ho186.lt q hb; omega)), (by omega)⟩)
 rw [decide_eq_false c20] at H
 revert A; refine go ?_; intro A H
 refine ret1 H rfl rfl ?_
 clear H A
 refine ret_mk hx12 ?_
 refine (fi hf13).cast ?_
 have e : i = list.length := (by omega); rw [hO, e]




end Go.Proofs.YthbehhhblchhhaaGreat
