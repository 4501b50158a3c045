/- Groups of rows. -/
import Derived.Test.YtjpldgicibnkcaaS0
namespace Go.Proofs.Ytjpldgicibnkcaa
open Go Go.RowKit

/-- What 'append, copy, store' makes of a list. -/
theorem ins_eq {α : Type} {acc : List α} {k : Nat} {x z : α} (hk : k ≤ acc.length) :
    (((acc ++ [z]).take (k + 1) ++ ((acc ++ [z]).drop k).take (min ((acc ++ [z]).length - (k + 1)) ((acc ++ [z]).length - k)) ++ (acc ++ [z]).drop (k + 1 + min ((acc ++ [z]).length - (k + 1)) ((acc ++ [z]).length - k))).set k x) = acc.take k ++ x :: acc.drop k := by
  have hl : (acc ++ [z]).length = acc.length + 1 := by simp
  have e1 : min ((acc ++ [z]).length - (k + 1)) ((acc ++ [z]).length - k) = acc.length - k := by omega
  rw [e1]
  have e2 : (acc ++ [z]).drop (k + 1 + (acc.length - k)) = [] := List.drop_of_length_le (by omega)
  have e3 : ((acc ++ [z]).drop k).take (acc.length - k) = acc.drop k := by
    rw [List.drop_append_of_le_length hk, List.take_append_of_le_length (by rw [List.length_drop]; omega), List.take_of_length_le (by rw [List.length_drop]; omega)]
  rw [e2, e3, List.append_nil]
  have hlt : k < (acc ++ [z]).length := by omega
  obtain ⟨q, hq⟩ := get_ex hlt
  rw [take_snoc hq, List.take_append_of_le_length hk, List.append_assoc, List.set_append_right _ _ (by rw [List.length_take]; omega), List.length_take, Nat.min_eq_left hk, Nat.sub_self]
  rfl

/-- One more pair in the groups: at its place. -/
def insG (k n : Int) : List (List Int) → List (List Int)
  | [] => [[k, n]]
  | y :: ys => if rowC 0 y < k then y :: insG k n ys else if rowC 0 y = k then y.set 1 (rowC 1 y + n) :: ys else [k, n] :: y :: ys
def grGo (c a : Int) : List (List Int) → List (List Int) → List (List Int)
  | [], acc => acc
  | r :: rs, acc => grGo c a rs (insG (rowC c r) (rowC a r) acc)
abbrev UpG (xs : List (List Int)) : Prop := xs.Pairwise fun x y => rowC 0 x < rowC 0 y
theorem rowC_set1 {y : List Int} {v : Int} : rowC 0 (y.set 1 v) = rowC 0 y := by
  unfold rowC; rw [List.getElem?_set_ne (by decide)]
theorem insG_key {k n : Int} : ∀ {xs : List (List Int)} {z : List Int}, z ∈ insG k n xs → rowC 0 z = k ∨ ∃ y ∈ xs, rowC 0 y = rowC 0 z
  | [], z, h => by simp [insG] at h; subst h; exact .inl rfl
  | y :: ys, z, h => by
    rw [insG] at h; split at h
    · rcases List.mem_cons.1 h with e | e
      · subst e; exact .inr ⟨z, by simp, rfl⟩
      · rcases insG_key e with q | ⟨w, hw, q⟩
        · exact .inl q
        · exact .inr ⟨w, by simp [hw], q⟩
    · split at h
      · rcases List.mem_cons.1 h with e | e
        · subst e; exact .inr ⟨y, by simp, rowC_set1.symm⟩
        · exact .inr ⟨z, by simp [e], rfl⟩
      · rcases List.mem_cons.1 h with e | e
        · subst e; exact .inl rfl
        · exact .inr ⟨z, e, rfl⟩
theorem insG_up {k n : Int} : ∀ {xs : List (List Int)}, UpG xs → UpG (insG k n xs)
  | [], _ => by simp [insG, UpG]
  | y :: ys, h => by
    have h' := List.pairwise_cons.1 h
    rw [insG]; split
    · refine List.Pairwise.cons (fun z hz => ?_) (insG_up h'.2)
      rcases insG_key hz with e | ⟨w, hw, e⟩
      · omega
      · have := h'.1 w hw; omega
    · split
      · refine List.Pairwise.cons (fun z hz => ?_) h'.2
        rw [rowC_set1]; exact h'.1 z hz
      · refine List.Pairwise.cons (fun z hz => ?_) h
        show rowC 0 [k, n] < _
        have e : rowC 0 [k, n] = k := rfl
        rcases List.mem_cons.1 hz with q | q
        · subst q; omega
        · have := h'.1 z q; omega
theorem insG_cut {key n : Int} : ∀ {xs : List (List Int)} {k : Nat}, (∀ j y, j < k → xs[j]? = some y → rowC 0 y < key) → (∀ j y, k ≤ j → xs[j]? = some y → key < rowC 0 y) → insG key n xs = xs.take k ++ [key, n] :: xs.drop k
  | [], k, _, _ => by simp [insG]
  | y :: ys, 0, _, h => by have := h 0 y (Nat.le_refl _) rfl; rw [insG, if_neg (by omega), if_neg (by omega)]; rfl
  | y :: ys, k + 1, h, h' => by
    rw [insG, if_pos (h 0 y (by omega) rfl), insG_cut (k := k) (fun j z hj hz => h (j + 1) z (by omega) (by simpa using hz)) (fun j z hj hz => h' (j + 1) z (by omega) (by simpa using hz))]
    rfl
theorem insG_hit {key n : Int} : ∀ {xs : List (List Int)} {k : Nat} {b : List Int}, (∀ j y, j < k → xs[j]? = some y → rowC 0 y < key) → xs[k]? = some b → rowC 0 b = key → insG key n xs = xs.set k (b.set 1 (rowC 1 b + n))
  | [], k, b, _, h, _ => by simp at h
  | y :: ys, 0, b, _, h, e => by simp at h; subst h; rw [insG, if_neg (by omega), if_pos e]; rfl
  | y :: ys, k + 1, b, h, h', e => by
    rw [insG, if_pos (h 0 y (by omega) rfl), insG_hit (k := k) (fun j z hj hz => h (j + 1) z (by omega) (by simpa using hz)) (by simpa using h') e]
    rfl
theorem upG_at {xs : List (List Int)} (h : UpG xs) {i j : Nat} {x y : List Int} (hij : i < j) (hx : xs[i]? = some x) (hy : xs[j]? = some y) : rowC 0 x < rowC 0 y := by
  obtain ⟨hi, rfl⟩ := List.getElem?_eq_some_iff.1 hx
  obtain ⟨hj, rfl⟩ := List.getElem?_eq_some_iff.1 hy
  exact List.pairwise_iff_getElem.1 h _ _ hi hj hij
/-- Gone through from the front: where it stops, and no such pair is there. -/
theorem insG_front {key n : Int} {xs : List (List Int)} {k : Nat} (h : UpG xs) (hk : ∀ j y, j < k → xs[j]? = some y → rowC 0 y < key) (h0 : xs.length ≤ k ∨ ∃ b, xs[k]? = some b ∧ ¬ rowC 0 b < key ∧ ¬ rowC 0 b = key) : insG key n xs = xs.take k ++ [key, n] :: xs.drop k := by
  refine insG_cut hk (fun j y hj hy => ?_)
  rcases h0 with h0 | ⟨b, hb, h1, h2⟩
  · have := (List.getElem?_eq_some_iff.1 hy).1; omega
  · by_cases e : j = k
    · subst e; rw [hb] at hy; cases hy; omega
    · have := upG_at h (show k < j by omega) hb hy; omega
theorem insG_back {key n : Int} {xs : List (List Int)} {k : Nat} (h : UpG xs) (hk : ∀ j y, k ≤ j → xs[j]? = some y → key < rowC 0 y) (h0 : k = 0 ∨ ∃ b, xs[k - 1]? = some b ∧ ¬ key < rowC 0 b ∧ ¬ rowC 0 b = key) : insG key n xs = xs.take k ++ [key, n] :: xs.drop k := by
  refine insG_cut (fun j y hj hy => ?_) hk
  rcases h0 with h0 | ⟨b, hb, h1, h2⟩
  · omega
  · by_cases e : j = k - 1
    · subst e; rw [hb] at hy; cases hy; omega
    · have := upG_at h (show j < k - 1 by omega) hy hb; omega
theorem insG_bhit {key n : Int} {xs : List (List Int)} {k : Nat} {b : List Int} (h : UpG xs) (hb : xs[k]? = some b) (e : rowC 0 b = key) : insG key n xs = xs.set k (b.set 1 (rowC 1 b + n)) :=
  insG_hit (fun j y hj hy => by have := upG_at h hj hy hb; omega) hb e
/-- Pairs with sums of at most so many values. -/
def GrI (m : Nat) (xs : List (List Int)) : Prop := ∀ z ∈ xs, z.length = 2 ∧ -1000000000000 ≤ rowC 0 z ∧ rowC 0 z ≤ 1000000000000 ∧ -1000000000000 * (m : Int) ≤ rowC 1 z ∧ rowC 1 z ≤ 1000000000000 * (m : Int)
theorem grI_ins {m : Nat} {k n : Int} (hk : -1000000000000 ≤ k ∧ k ≤ 1000000000000) (hn : -1000000000000 ≤ n ∧ n ≤ 1000000000000) : ∀ {xs : List (List Int)}, GrI m xs → GrI (m + 1) (insG k n xs)
  | [], _ => by
    intro z hz; simp [insG] at hz; subst hz
    exact ⟨rfl, by show _ ≤ k ∧ k ≤ _ ∧ _ ≤ n ∧ n ≤ _; omega⟩
  | y :: ys, h => by
    have hy := h y (by simp)
    have hs : GrI m ys := fun z hz => h z (by simp [hz])
    have hs' : GrI (m + 1) ys := fun z hz => by have := hs z hz; omega
    intro z hz
    rw [insG] at hz; split at hz
    · rcases List.mem_cons.1 hz with e | e
      · subst e; omega
      · exact grI_ins hk hn hs z e
    · split at hz
      · rcases List.mem_cons.1 hz with e | e
        · subst e
          have e1 : rowC 1 (y.set 1 (rowC 1 y + n)) = rowC 1 y + n := rowC_eq (by show (y.set 1 _)[1]? = _; rw [List.getElem?_set_self (by omega)])
          rw [rowC_set1, e1, List.length_set]; omega
        · exact hs' z e
      · rcases List.mem_cons.1 hz with e | e
        · subst e; exact ⟨rfl, by show _ ≤ k ∧ k ≤ _ ∧ _ ≤ n ∧ n ≤ _; omega⟩
        · have := h z e; omega
theorem insG_len (k n : Int) : ∀ xs : List (List Int), (insG k n xs).length ≤ xs.length + 1
  | [] => by simp [insG]
  | y :: ys => by
    have := insG_len k n ys
    rw [insG]; split
    · simp only [List.length_cons]; omega
    · split <;> simp
theorem grGo_len (c a : Int) : ∀ rs acc : List (List Int), (grGo c a rs acc).length ≤ rs.length + acc.length
  | [], acc => by simp [grGo]
  | r :: rs, acc => by
    have h1 := grGo_len c a rs (insG (rowC c r) (rowC a r) acc)
    have h2 := insG_len (rowC c r) (rowC a r) acc
    rw [grGo, List.length_cons]; omega
theorem grGo_two (c a : Int) : ∀ rs acc : List (List Int), (∀ z ∈ acc, z.length = 2) → ∀ z ∈ grGo c a rs acc, z.length = 2
  | [], acc, h => h
  | r :: rs, acc, h => grGo_two c a rs _ (by
    intro z hz
    clear rs
    generalize rowC c r = k at hz
    generalize rowC a r = n at hz
    induction acc with
    | nil => simp [insG] at hz; subst hz; rfl
    | cons y ys ih =>
      rw [insG] at hz; split at hz
      · rcases List.mem_cons.1 hz with e | e
        · subst e; exact h _ (by simp)
        · exact ih (fun w hw => h w (by simp [hw])) e
      · split at hz
        · rcases List.mem_cons.1 hz with e | e
          · subst e; rw [List.length_set]; exact h y (by simp)
          · exact h z (by simp [e])
        · rcases List.mem_cons.1 hz with e | e
          · subst e; rfl
          · exact h z e)
def cdG (t : Tab) (c a : Int) : Int := if cdT t c = 0 then cdT t a else cdT t c
theorem cdG_a {t : Tab} {c a : Int} (h : ¬ cdT t c = 0) : cdG t c a = cdT t c := by unfold cdG; rw [if_neg h]
theorem cdG_b {t : Tab} {c a : Int} (h : cdT t c = 0) : cdG t c a = cdT t a := by unfold cdG; rw [if_pos h]
theorem cdG_1 {t : Tab} {c a : Int} (h : tabB t = false) : cdG t c a = 1 := by rw [cdG_a (by rw [cdT_1 h]; decide), cdT_1 h]
theorem cdG_2 {t : Tab} {c a : Int} (h : tabB t = true) (h2 : colB t c = false ∨ colB t a = false) : cdG t c a = 2 := by
  cases hc : colB t c with
  | false => rw [cdG_a (by rw [cdT_2 h hc]; decide), cdT_2 h hc]
  | true =>
    rw [cdG_b (cdT_0 h hc)]
    rcases h2 with h2 | h2
    · rw [hc] at h2; cases h2
    · exact cdT_2 h h2
theorem cdG_0 {t : Tab} {c a : Int} (h : tabB t = true) (hc : colB t c = true) (ha : colB t a = true) : cdG t c a = 0 := by rw [cdG_b (cdT_0 h hc), cdT_0 h ha]
def grT (t : Tab) (c a : Int) : List (List Int) := if cdG t c a = 0 then grGo c a t.2 [] else []
theorem grT_ok {t : Tab} {c a : Int} (h : cdG t c a = 0) : grT t c a = grGo c a t.2 [] := by unfold grT; rw [if_pos h]
theorem grT_no {t : Tab} {c a : Int} (h : ¬ cdG t c a = 0) : grT t c a = [] := by unfold grT; rw [if_neg h]
theorem ins_perm {α : Type} (xs : List α) (k : Nat) (q : α) : (xs.take k ++ [q] ++ xs.drop k).Perm (xs ++ [q]) := by
  have h : (xs.take k ++ ([q] ++ xs.drop k)).Perm (xs.take k ++ (xs.drop k ++ [q])) := List.Perm.append_left _ List.perm_append_comm
  rw [← List.append_assoc, ← List.append_assoc, List.take_append_drop] at h; exact h
theorem row2 {r : List Int} (h : r.length = 2) : ∃ a b, r = [a, b] := by
  match r, h with
  | [a, b], _ => exact ⟨a, b, rfl⟩

set_option maxHeartbeats 4000000 in
theorem c_spec_GroupRows (w0 : World) (v_t0 : Value) (v_t1 : Value) (t : List Str × List (List Int)) {S_t0 : Nat → Prop} {S_t1 : Nat → Prop} (column : Int) (ad : Int) (h_t0 : Rds shStr S_t0 w0 v_t0 t.1) (h_t1 : Rds shRow S_t1 w0 v_t1 t.2) :
  Calls Try.prog 23 #[.agg #[v_t0, v_t1], .int .i64 column, .int .i64 ad] w0 (Ret w0 (fun v w1 => ∃ r0 z0, v = .tuple #[r0, .int .i64 (cdG t column ad)] ∧ Own shRowN 41 w0.heap.size w0.heap.size w1.heap.size w1 r0 z0 ∧ Nst shI64 2 (fun x : List Int => x) w0.heap.size w1.heap.size w1 z0 ∧ z0.map (·.1) = (grT t column ad))) := by
 refine enter (N := 107) Try.func23 rfl rfl rfl ?_
 intro a0 ha0
 have hx0 := Ext.rfl' w0
 have hl_t0 := h_t0.length_le
 have hl_t1 := h_t1.length_le
 refine wp_seq ?_
 refine wp_region_lit ?_
 refine wl_eff ha0 rfl rfl rfl (op_box' ha0 rfl rfl rfl) ?_
 rintro _ w2 ⟨rfl, he3, hb4, hz5⟩ a6 ha6; clear ha0 a0
 have hx7 := hx0.trans' he3
 have hzhx7 := he3.size
 refine wl_val ha6 rfl rfl rfl (op_assign ha6 rfl rfl) ?_
 intro a8 ha8; clear ha6 a6
 refine wl_val ha8 rfl rfl rfl (op_assign ha8 rfl rfl) ?_
 intro a9 ha9; clear ha8 a8
 refine wpList_nil ?_
 refine then_n ?_
 refine wp_seq ?_
 refine wp_region_lit ?_
 refine wl_val ha9 rfl rfl rfl (op_loadS ha9 rfl Try.underlying28 ti28 rfl rfl hb4.cells) ?_
 intro a10 ha10; clear ha9 a9
 refine wl_val ha10 rfl rfl rfl (op_move ha10 rfl rfl) ?_
 intro a11 ha11; clear ha10 a10
 refine wl_callR ha11 rfl rfl rfl (op_call ha11 rfl cb69 rfl) (c_spec_l31Code _ v_t0 v_t1 t column (h_t0.ext pos_shStr hx7) (h_t1.ext pos_shRow hx7)) ?_
 rintro v12 w13 he14 rfl a15 ha15; clear ha11 a11
 have hx16 := hx7.trans' he14
 have hzhx16 := he14.size
 replace hb4 := hb4.ext he14
 refine wl_val ha15 rfl rfl rfl (op_assign ha15 rfl rfl) ?_
 intro a17 ha17; clear ha15 a15
 refine wpList_nil ?_
 refine then_n ?_
 refine wp_seq ?_
 refine wp_seq ?_
 refine wp_region_lit ?_
 refine wl_val ha17 rfl rfl rfl (op_move ha17 rfl rfl) ?_
 intro a18 ha18; clear ha17 a17
 refine wl_val ha18 rfl rfl rfl (op_eql ha18 rfl rfl rfl) ?_
 intro a19 ha19; clear ha18 a18
 refine wpList_nil ?_
 refine then_n ?_
 by_cases c20 : (cdT t column : Int) = (0 : Int)
 ·
  rw [decide_eq_true c20] at ha19
  obtain ⟨hk1c20, hk2c20⟩ := cdT_ok c20
  have htbc20 := tab_bd hk1c20
  have htrc20 := tab_rows hk1c20
  have hcbc20 := col_bd hk2c20
  refine cond_t ha19 rfl ?_
  refine wp_region_lit ?_
  refine wl_val ha19 rfl rfl rfl (op_loadS ha19 rfl Try.underlying28 ti28 rfl rfl hb4.cells) ?_
  intro a21 ha21; clear ha19 a19
  refine wl_val ha21 rfl rfl rfl (op_move ha21 rfl rfl) ?_
  intro a22 ha22; clear ha21 a21
  refine wl_callR ha22 rfl rfl rfl (op_call ha22 rfl cb69 rfl) (c_spec_l31Code _ v_t0 v_t1 t ad (h_t0.ext pos_shStr hx16) (h_t1.ext pos_shRow hx16)) ?_
  rintro v23 w24 he25 rfl a26 ha26; clear ha22 a22
  have hx27 := hx16.trans' he25
  have hzhx27 := he25.size
  replace hb4 := hb4.ext he25
  refine wl_val ha26 rfl rfl rfl (op_assign ha26 rfl rfl) ?_
  intro a28 ha28; clear ha26 a26
  refine wpList_nil ?_
  refine then_n ?_
  refine wp_seq ?_
  refine wp_seq ?_
  refine wp_region_lit ?_
  refine wl_val ha28 rfl rfl rfl (op_move ha28 rfl rfl) ?_
  intro a29 ha29; clear ha28 a28
  refine wl_val ha29 rfl rfl rfl ((op_neq ha29 rfl rfl rfl).to (congrArg Value.bool decide_not)) ?_
  intro a30 ha30; clear ha29 a29
  refine wpList_nil ?_
  refine then_n ?_
  by_cases c31 : (cdT t ad : Int) = (0 : Int)
  ·
   rw [decide_eq_true c31] at ha30
   obtain ⟨hk1c31, hk2c31⟩ := cdT_ok c31
   have htbc31 := tab_bd hk1c31
   have htrc31 := tab_rows hk1c31
   have hcbc31 := col_bd hk2c31
   refine cond_f ha30 rfl ?_
   refine wp_skip ?_
   refine then_n ?_
   refine wp_seq ?_
   refine wp_region_lit ?_
   refine wl_eff ha30 rfl rfl rfl (op_buildSlice (s := shRowN) (xs := ([] : List ((List Int) × Value))) (cs := []) (vs := []) (S := fun _ => False) (le := w24.heap.size) ha30 rfl pos_shRowN Try.underlying23 ti41 rfl rfl (by decide) (by kernel_rfl) rfl (fun _ h => h.elim)) ?_
   rintro v32 w33 ⟨ho34, he35, hob36⟩ a37 ha37; clear ha30 a30
   have hx38 := hx27.trans' he35
   have hzhx38 := he35.size
   replace hb4 := hb4.ext he35
   have hN39 : Nst shI64 2 (fun x : List Int => x) w24.heap.size w33.heap.size w33 (([] : List ((List Int) × Value))) := Nst.nil _ _ _ _ _ _
   refine wl_val ha37 rfl rfl rfl (op_assign ha37 rfl rfl) ?_
   intro a40 ha40; clear ha37 a37
   refine wpList_nil ?_
   refine then_n ?_
   refine wp_seq ?_
   refine wp_seq ?_
   refine wp_region_lit ?_
   refine wl_val ha40 rfl rfl rfl (op_assign ha40 rfl rfl) ?_
   intro a41 ha41; clear ha40 a40
   refine wpList_nil ?_
   refine then_n ?_
   refine wp_block ?_
   refine loop_inv (X := Nat × Value × (List (List Int × Value))) (fun (⟨i, v, zs⟩ : Nat × Value × (List (List Int × Value))) fr wl => Sl 107 fr [(1, .int .i64 column), (2, .int .i64 ad), (3, .pointer (some (⟨w0.heap.size, 0, none⟩ : Addr))), (9, v), (10, .int .i64 ((i : Nat) : Int))] ∧ Ext w0 wl ∧ Box wl w0.heap.size 28 [v_t0, v_t1] ∧ Own shRowN 41 w24.heap.size w24.heap.size wl.heap.size wl v zs ∧ Nst shI64 2 (fun x : List Int => x) w24.heap.size wl.heap.size wl zs ∧ w33.heap.size ≤ wl.heap.size ∧ (i ≤ t.2.length) ∧ (zs.length ≤ i) ∧ (grGo column ad (t.2.drop i) (zs.map (·.1)) = grGo column ad t.2 []) ∧ (UpG (zs.map (·.1))) ∧ (GrI i (zs.map (·.1)))) (fun (⟨i, v, zs⟩ : Nat × Value × (List (List Int × Value))) => t.2.length - i) (0, v32, ([] : List ((List Int) × Value))) ?_ ?_
   ·
    exact ⟨(Sl.cons_ ha41 rfl rfl (Sl.cons_ ha41 rfl rfl (Sl.cons_ ha41 rfl rfl (Sl.cons_ ha41 rfl rfl (Sl.cons_ ha41 rfl (int_eq (by omega)) (Sl.nil_ ha41)))))), hx38, hb4, (ho34.fin (by omega) (by omega) (by omega)), (hN39.fin (by omega) (by omega)), (by omega), (by omega), (by exact Nat.le_refl _), (by rfl), (by exact List.Pairwise.nil), (by intro z hz; cases hz)⟩
   ·
    clear ha41 a41
    rintro ⟨i, v, zs⟩ a47 w42 ⟨ha47, hx43, hf44, hf45, hf46, hzl48, hi, hl, hF, hU, hG⟩
    have hzhx43 := hx43.size
    refine wp_seq ?_
    refine wp_seq ?_
    refine wp_region_lit ?_
    refine wl_val ha47 rfl rfl rfl (op_move ha47 rfl rfl) ?_
    intro a49 ha49; clear ha47 a47
    refine wl_val ha49 rfl rfl rfl (op_fieldAddr (sz := 0) ha49 rfl Try.underlying28 rfl rfl ti23 rfl) ?_
    intro a50 ha50; clear ha49 a49
    refine wl_val ha50 rfl rfl rfl (op_loadF (off := 1) ha50 rfl Try.underlying23 rfl rfl hf44.cells rfl) ?_
    intro a51 ha51; clear ha50 a50
    refine wl_val ha51 rfl rfl rfl (op_len_sl ha51 rfl Try.underlying23 rfl h_t1) ?_
    intro a52 ha52; clear ha51 a51
    refine wl_val ha52 rfl rfl rfl (op_lss ha52 rfl rfl rfl) ?_
    intro a53 ha53; clear ha52 a52
    refine wpList_nil ?_
    refine then_n ?_
    by_cases c54 : ((i : Nat) : Int) < ((t.2.length : Nat) : Int)
    ·
     rw [decide_eq_true c54] at ha53
     refine cond_t ha53 rfl ?_
     refine wp_skip ?_
     refine then_n ?_
     refine wp_seq ?_
     refine wp_block ?_
     refine wp_seq ?_
     refine dr_enter Ext follows_mixed ?_
     intro w55 he56
     have hx57 := hx43.trans' he56
     have hzhx57 := he56.size
     replace hf44 := hf44.ext he56
     replace hf45 := hf45.ext he56
     replace hf46 := hf46.ext he56
     have hs58 : Ext w55 w55 := Ext.rfl' _
     refine dr_val (i := 0) ha53 rfl (by kernel_rfl) (by kernel_rfl) (by kernel_rfl) rfl rfl rfl hs58 (fun w' hw' => op_fieldAddr (sz := 0) ha53 rfl Try.underlying28 rfl rfl ti23 rfl) ?_
     intro a59 ha59; clear ha53 a53
     refine dr_val (i := 1) ha59 rfl (by kernel_rfl) (by kernel_rfl) (by kernel_rfl) rfl rfl rfl hs58 (fun w' hw' => op_loadF (off := 1) ha59 rfl Try.underlying23 rfl rfl (hf44.ext hw').cells rfl) ?_
     intro a60 ha60; clear ha59 a59
     refine dr_val (i := 2) ha60 rfl (by kernel_rfl) (by kernel_rfl) (by kernel_rfl) rfl rfl rfl hs58 (fun w' hw' => op_move ha60 rfl rfl) ?_
     intro a61 ha61; clear ha60 a60
     obtain ⟨x62, hx62⟩ := get_ex (xs := t.2) (j := i) (by omega)
     obtain ⟨p63, c64, hi65, hc66, hr67, hs68⟩ := Rds.at_ h_t1 hx62
     obtain ⟨v69, rfl, b70⟩ := inv_shRow hr67
     have hlb70 := b70.length_le
     have hrbx62 := htrc20 _ (List.mem_of_getElem? hx62)
     refine dr_val (i := 3) ha61 rfl (by kernel_rfl) (by kernel_rfl) (by kernel_rfl) rfl rfl rfl hs58 (fun w' hw' => op_indexAddr ha61 rfl Try.underlying23 ti41 rfl rfl (by omega) hi65) ?_
     intro a71 ha71; clear ha61 a61
     refine dr_val (i := 4) ha71 rfl (by kernel_rfl) (by kernel_rfl) (by kernel_rfl) rfl rfl rfl hs58 (fun w' hw' => op_loadH ha71 rfl Try.underlying41 rfl rfl (hc66.ext (hx57.trans' hw')) rfl) ?_
     intro a72 ha72; clear ha71 a71
     refine dr_val (i := 5) ha72 rfl (by kernel_rfl) (by kernel_rfl) (by kernel_rfl) rfl rfl rfl hs58 (fun w' hw' => op_move ha72 rfl rfl) ?_
     intro a73 ha73; clear ha72 a72
     obtain ⟨x74, hx74⟩ := get_ex (xs := x62) (j := column.toNat) (by omega)
     obtain ⟨p75, c76, hi77, hc78, hr79, hs80⟩ := Rds.at_ b70 hx74
     obtain ⟨rfl, b81⟩ := inv_shI64 hr79
     have hvbx74 := hrbx62.2 _ (List.mem_of_getElem? hx74)
     refine dr_val (i := 6) ha73 rfl (by kernel_rfl) (by kernel_rfl) (by kernel_rfl) rfl rfl rfl hs58 (fun w' hw' => op_indexAddr ha73 rfl Try.underlying41 ti2 rfl rfl (by omega) hi77) ?_
     intro a82 ha82; clear ha73 a73
     refine dr_val (i := 7) ha82 rfl (by kernel_rfl) (by kernel_rfl) (by kernel_rfl) rfl rfl rfl hs58 (fun w' hw' => op_loadH ha82 rfl Try.underlying2 rfl rfl (hc78.ext (hx57.trans' hw')) rfl) ?_
     intro a83 ha83; clear ha82 a82
     refine dr_val (i := 8) ha83 rfl (by kernel_rfl) (by kernel_rfl) (by kernel_rfl) rfl rfl rfl hs58 (fun w' hw' => op_fieldAddr (sz := 0) ha83 rfl Try.underlying28 rfl rfl ti23 rfl) ?_
     intro a84 ha84; clear ha83 a83
     refine dr_val (i := 9) ha84 rfl (by kernel_rfl) (by kernel_rfl) (by kernel_rfl) rfl rfl rfl hs58 (fun w' hw' => op_loadF (off := 1) ha84 rfl Try.underlying23 rfl rfl (hf44.ext hw').cells rfl) ?_
     intro a85 ha85; clear ha84 a84
     refine dr_val (i := 10) ha85 rfl (by kernel_rfl) (by kernel_rfl) (by kernel_rfl) rfl rfl rfl hs58 (fun w' hw' => op_move ha85 rfl rfl) ?_
     intro a86 ha86; clear ha85 a85
     refine dr_val (i := 11) ha86 rfl (by kernel_rfl) (by kernel_rfl) (by kernel_rfl) rfl rfl rfl hs58 (fun w' hw' => op_indexAddr ha86 rfl Try.underlying23 ti41 rfl rfl (by omega) hi65) ?_
     intro a87 ha87; clear ha86 a86
     refine dr_val (i := 12) ha87 rfl (by kernel_rfl) (by kernel_rfl) (by kernel_rfl) rfl rfl rfl hs58 (fun w' hw' => op_loadH ha87 rfl Try.underlying41 rfl rfl (hc66.ext (hx57.trans' hw')) rfl) ?_
     intro a88 ha88; clear ha87 a87
     refine dr_val (i := 13) ha88 rfl (by kernel_rfl) (by kernel_rfl) (by kernel_rfl) rfl rfl rfl hs58 (fun w' hw' => op_move ha88 rfl rfl) ?_
     intro a89 ha89; clear ha88 a88
     obtain ⟨x90, hx90⟩ := get_ex (xs := x62) (j := ad.toNat) (by omega)
     obtain ⟨p91, c92, hi93, hc94, hr95, hs96⟩ := Rds.at_ b70 hx90
     obtain ⟨rfl, b97⟩ := inv_shI64 hr95
     have hvbx90 := hrbx62.2 _ (List.mem_of_getElem? hx90)
     refine dr_val (i := 14) ha89 rfl (by kernel_rfl) (by kernel_rfl) (by kernel_rfl) rfl rfl rfl hs58 (fun w' hw' => op_indexAddr ha89 rfl Try.underlying41 ti2 rfl rfl (by omega) hi93) ?_
     intro a98 ha98; clear ha89 a89
     refine dr_val (i := 15) ha98 rfl (by kernel_rfl) (by kernel_rfl) (by kernel_rfl) rfl rfl rfl hs58 (fun w' hw' => op_loadH ha98 rfl Try.underlying2 rfl rfl (hc94.ext (hx57.trans' hw')) rfl) ?_
     intro a99 ha99; clear ha98 a98
     refine dr_val (i := 16) ha99 rfl (by kernel_rfl) (by kernel_rfl) (by kernel_rfl) rfl rfl rfl hs58 (fun w' hw' => op_assign ha99 rfl rfl) ?_
     intro a100 ha100; clear ha99 a99
     refine dr_val (i := 17) ha100 rfl (by kernel_rfl) (by kernel_rfl) (by kernel_rfl) rfl rfl rfl hs58 (fun w' hw' => op_assign ha100 rfl rfl) ?_
     intro a101 ha101; clear ha100 a100
     refine dr_end (by kernel_rfl) ?_
     replace hf44 := hf44.ext hs58
     replace hf45 := hf45.ext hs58
     replace hf46 := hf46.ext hs58
     refine then_n ?_
     refine wp_seq ?_
     refine wp_region_lit ?_
     refine wl_val ha101 rfl rfl rfl (op_assign ha101 rfl rfl) ?_
     intro a102 ha102; clear ha101 a101
     refine wpList_nil ?_
     refine then_n ?_
     refine wp_seq ?_
     refine wp_block ?_
     refine loop_inv (X := Nat) (fun (k : Nat) fr wl => Sl 107 fr [(1, .int .i64 column), (2, .int .i64 ad), (3, .pointer (some (⟨w0.heap.size, 0, none⟩ : Addr))), (9, v), (10, .int .i64 ((i : Nat) : Int)), (11, .int .i64 x74), (12, .int .i64 x90), (13, .int .i64 ((k : Nat) : Int))] ∧ Ext w0 wl ∧ Box wl w0.heap.size 28 [v_t0, v_t1] ∧ Own shRowN 41 w24.heap.size w24.heap.size w42.heap.size wl v zs ∧ Nst shI64 2 (fun x : List Int => x) w24.heap.size w42.heap.size wl zs ∧ w55.heap.size ≤ wl.heap.size ∧ (k ≤ zs.length) ∧ (∀ (j : Nat) (y : List Int), j < k → (zs.map (·.1))[j]? = some y → rowC 0 y < x74)) (fun (k : Nat) => zs.length - k) (0) ?_ ?_
     ·
      exact ⟨(Sl.cons_ ha102 rfl rfl (Sl.cons_ ha102 rfl rfl (Sl.cons_ ha102 rfl rfl (Sl.cons_ ha102 rfl rfl (Sl.cons_ ha102 rfl rfl (Sl.cons_ ha102 rfl rfl (Sl.cons_ ha102 rfl rfl (Sl.cons_ ha102 rfl (int_eq (by omega)) (Sl.nil_ ha102))))))))), hx57, hf44, hf45, hf46, (by omega), (by omega), (by exact all_zero)⟩
     ·
      clear ha102 a102
      rintro k a108 w103 ⟨ha108, hx104, hf105, hf106, hf107, hzl109, hk, hk2⟩
      have hzhx104 := hx104.size
      refine wp_seq ?_
      refine wp_seq ?_
      refine wp_region_lit ?_
      refine wl_val ha108 rfl rfl rfl (op_move ha108 rfl rfl) ?_
      intro a110 ha110; clear ha108 a108
      refine wl_val ha110 rfl rfl rfl (op_move ha110 rfl rfl) ?_
      intro a111 ha111; clear ha110 a110
      refine wl_val ha111 rfl rfl rfl (op_len_sl ha111 rfl Try.underlying23 rfl (hf106.rds pos_shRowN)) ?_
      intro a112 ha112; clear ha111 a111
      refine wl_val ha112 rfl rfl rfl (op_lss ha112 rfl rfl rfl) ?_
      intro a113 ha113; clear ha112 a112
      refine wl_val ha113 rfl rfl rfl (op_move ha113 rfl rfl) ?_
      intro a114 ha114; clear ha113 a113
      by_cases c115 : ((k : Nat) : Int) < ((zs.length : Nat) : Int)
      ·
       rw [decide_eq_true c115] at ha114
       refine wl_val ha114 rfl rfl rfl (op_move ha114 rfl rfl) ?_
       intro a116 ha116; clear ha114 a114
       refine wl_val ha116 rfl rfl rfl (op_move ha116 rfl rfl) ?_
       intro a117 ha117; clear ha116 a116
       obtain ⟨x118, hx118⟩ := get_ex (xs := zs) (j := k) (by omega)
       obtain ⟨p119, c120, hi121, hc122, hr123, hs124⟩ := Rds.at_ (hf106.rds pos_shRowN) hx118
       obtain ⟨rfl, b125⟩ := inv_shRowN hr123
       have hn126 : Own shI64 2 w24.heap.size w24.heap.size w42.heap.size w103 x118.2 x118.1 := hf107.get hx118
       obtain ⟨_, _⟩ : _ ∧ _ := hs124
       have hgzx118 : x118.1.length = 2 ∧ -1000000000000 ≤ rowC 0 x118.1 ∧ rowC 0 x118.1 ≤ 1000000000000 ∧ -1000000000000 * (i : Int) ≤ rowC 1 x118.1 ∧ rowC 1 x118.1 ≤ 1000000000000 * (i : Int) := hG _ (List.mem_map_of_mem (List.mem_of_getElem? hx118))
       refine wl_val ha117 rfl rfl rfl (op_indexAddr ha117 rfl Try.underlying23 ti41 rfl rfl (by omega) hi121) ?_
       intro a127 ha127; clear ha117 a117
       refine wl_val ha127 rfl rfl rfl (op_loadH ha127 rfl Try.underlying41 rfl rfl hc122 rfl) ?_
       intro a128 ha128; clear ha127 a127
       obtain ⟨x129, hx129⟩ := get_ex (xs := x118.1) (j := 0) (by omega)
       obtain ⟨p130, c131, hi132, hc133, hr134, hs135⟩ := Rds.at_ (hn126.rds pos_shI64) hx129
       obtain ⟨rfl, b136⟩ := inv_shI64 hr134
       obtain ⟨_, _⟩ : _ ∧ _ := hs135
       have hrwx129 : rowC 0 x118.1 = x129 := rowC_eq (c := 0) hx129
       refine wl_val ha128 rfl rfl rfl (op_indexAddr ha128 rfl Try.underlying41 ti2 rfl rfl (by omega) hi132) ?_
       intro a137 ha137; clear ha128 a128
       refine wl_val ha137 rfl rfl rfl (op_loadH ha137 rfl Try.underlying2 rfl rfl hc133 rfl) ?_
       intro a138 ha138; clear ha137 a137
       refine wl_val ha138 rfl rfl rfl (op_move ha138 rfl rfl) ?_
       intro a139 ha139; clear ha138 a138
       refine wl_val ha139 rfl rfl rfl (op_lss ha139 rfl rfl rfl) ?_
       intro a140 ha140; clear ha139 a139
       refine wl_val ha140 rfl rfl rfl (op_pick_t ha140 rfl rfl rfl) ?_
       intro a141 ha141; clear ha140 a140
       refine wpList_nil ?_
       refine then_n ?_
       by_cases c142 : x129 < x74
       ·
        rw [decide_eq_true c142] at ha141
        refine cond_t ha141 rfl ?_
        refine wp_skip ?_
        refine then_n ?_
        refine wp_block ?_
        refine wp_region_lit ?_
        refine wl_val ha141 rfl rfl rfl (op_move ha141 rfl rfl) ?_
        intro a143 ha143; clear ha141 a141
        refine wl_val ha143 rfl rfl rfl ((op_add ha143 rfl rfl rfl).int (IntWalk.i64_in _ (by omega))) ?_
        intro a144 ha144; clear ha143 a143
        refine wl_val ha144 rfl rfl rfl (op_assign ha144 rfl rfl) ?_
        intro a145 ha145; clear ha144 a144
        refine wpList_nil ?_
        refine block_n ?_
        refine round_end (x := k) ((k + 1)) ?_ ?_
        ·
         refine ⟨(Sl.cons_ ha145 rfl rfl (Sl.cons_ ha145 rfl rfl (Sl.cons_ ha145 rfl rfl (Sl.cons_ ha145 rfl rfl (Sl.cons_ ha145 rfl rfl (Sl.cons_ ha145 rfl rfl (Sl.cons_ ha145 rfl rfl (Sl.cons_ ha145 rfl (int_eq (by omega)) (Sl.nil_ ha145))))))))), hx104, hf105, hf106, hf107, (by omega), (by omega), (by exact all_snoc (p := fun y => rowC 0 y < x74) hk2 (map_at hx118) (by show rowC 0 x118.1 < _; omega))⟩
        ·show (zs.length - ((k + 1)) : Nat) < zs.length - k; omega
       ·
        rw [decide_eq_false c142] at ha141
        refine cond_f ha141 rfl ?_
        refine wp_exit ?_
        refine then_e ?_
        refine then_e ?_
        refine block_hit ?_
        refine then_n ?_
        refine wp_seq ?_
        refine wp_region_lit ?_
        refine wl_val ha141 rfl rfl rfl (op_move ha141 rfl rfl) ?_
        intro a146 ha146; clear ha141 a141
        refine wl_val ha146 rfl rfl rfl (op_move ha146 rfl rfl) ?_
        intro a147 ha147; clear ha146 a146
        refine wl_val ha147 rfl rfl rfl (op_len_sl ha147 rfl Try.underlying23 rfl (hf106.rds pos_shRowN)) ?_
        intro a148 ha148; clear ha147 a147
        refine wl_val ha148 rfl rfl rfl (op_lss ha148 rfl rfl rfl) ?_
        intro a149 ha149; clear ha148 a148
        refine wl_val ha149 rfl rfl rfl (op_move ha149 rfl rfl) ?_
        intro a150 ha150; clear ha149 a149
        rw [decide_eq_true c115] at ha150
        refine wl_val ha150 rfl rfl rfl (op_move ha150 rfl rfl) ?_
        intro a151 ha151; clear ha150 a150
        refine wl_val ha151 rfl rfl rfl (op_move ha151 rfl rfl) ?_
        intro a152 ha152; clear ha151 a151
        refine wl_val ha152 rfl rfl rfl (op_indexAddr ha152 rfl Try.underlying23 ti41 rfl rfl (by omega) hi121) ?_
        intro a153 ha153; clear ha152 a152
        refine wl_val ha153 rfl rfl rfl (op_loadH ha153 rfl Try.underlying41 rfl rfl hc122 rfl) ?_
        intro a154 ha154; clear ha153 a153
        refine wl_val ha154 rfl rfl rfl (op_indexAddr ha154 rfl Try.underlying41 ti2 rfl rfl (by omega) hi132) ?_
        intro a155 ha155; clear ha154 a154
        refine wl_val ha155 rfl rfl rfl (op_loadH ha155 rfl Try.underlying2 rfl rfl hc133 rfl) ?_
        intro a156 ha156; clear ha155 a155
        refine wl_val ha156 rfl rfl rfl (op_move ha156 rfl rfl) ?_
        intro a157 ha157; clear ha156 a156
        refine wl_val ha157 rfl rfl rfl (op_eql ha157 rfl rfl rfl) ?_
        intro a158 ha158; clear ha157 a157
        refine wl_val ha158 rfl rfl rfl (op_pick_t ha158 rfl rfl rfl) ?_
        intro a159 ha159; clear ha158 a158
        refine wpList_nil ?_
        refine then_n ?_
        by_cases c160 : x129 = x74
        ·
         rw [decide_eq_true c160] at ha159
         refine cond_t ha159 rfl ?_
         refine dr_enter (fun wa_ wb_ => Stp wa_ wb_ (Value.ownBlock x118.2)) follows_mixed ?_
         intro w161 he162
         have hx163 := hx104.trans' he162
         have hzhx163 := he162.size
         replace hf105 := hf105.ext he162
         replace hf106 := hf106.ext he162
         replace hf107 := hf107.ext he162
         replace hn126 := hn126.ext he162
         replace hc122 := hc122.ext he162
         replace hc133 := hc133.ext he162
         have hs164 : Ext w161 w161 := Ext.rfl' _
         refine dr_val (i := 0) ha159 rfl (by kernel_rfl) (by kernel_rfl) (by kernel_rfl) rfl rfl rfl (Stp.of_ext hs164 _) (fun w' hw' => op_move ha159 rfl rfl) ?_
         intro a165 ha165; clear ha159 a159
         refine dr_val (i := 1) ha165 rfl (by kernel_rfl) (by kernel_rfl) (by kernel_rfl) rfl rfl rfl (Stp.of_ext hs164 _) (fun w' hw' => op_move ha165 rfl rfl) ?_
         intro a166 ha166; clear ha165 a165
         refine dr_val (i := 2) ha166 rfl (by kernel_rfl) (by kernel_rfl) (by kernel_rfl) rfl rfl rfl (Stp.of_ext hs164 _) (fun w' hw' => op_indexAddr ha166 rfl Try.underlying23 ti41 rfl rfl (by omega) hi121) ?_
         intro a167 ha167; clear ha166 a166
         refine dr_val (i := 4) ha167 rfl (by kernel_rfl) (by kernel_rfl) (by kernel_rfl) rfl rfl rfl (Stp.of_ext hs164 _) (fun w' hw' => op_move ha167 rfl rfl) ?_
         intro a168 ha168; clear ha167 a167
         refine dr_val (i := 5) ha168 rfl (by kernel_rfl) (by kernel_rfl) (by kernel_rfl) rfl rfl rfl (Stp.of_ext hs164 _) (fun w' hw' => op_move ha168 rfl rfl) ?_
         intro a169 ha169; clear ha168 a168
         refine dr_val (i := 6) ha169 rfl (by kernel_rfl) (by kernel_rfl) (by kernel_rfl) rfl rfl rfl (Stp.of_ext hs164 _) (fun w' hw' => op_indexAddr ha169 rfl Try.underlying23 ti41 rfl rfl (by omega) hi121) ?_
         intro a170 ha170; clear ha169 a169
         refine dr_val (i := 10) ha170 rfl (by kernel_rfl) (by kernel_rfl) (by kernel_rfl) rfl rfl rfl (Stp.of_ext hs164 _) (fun w' hw' => op_move ha170 rfl rfl) ?_
         intro a171 ha171; clear ha170 a170
         refine dr_two (i := 3) (j := 7) (by kernel_rfl) ?_ ?_
         ·
          refine po_to ha171 rfl rfl rfl rfl (op_loadH ha171 rfl Try.underlying41 rfl rfl (hc122.ext hs164) rfl) ?_
          intro a172 ha172; clear ha171 a171
          refine ⟨(Stp.of_ext hs164 _), ?_⟩
          refine dr_one (i := 7) (by kernel_rfl) ?_
          refine po_to ha172 rfl rfl rfl rfl (op_loadH ha172 rfl Try.underlying41 rfl rfl (hc122.ext hs164) rfl) ?_
          intro a173 ha173; clear ha172 a172
          refine ⟨(Stp.of_ext hs164 _), ?_⟩
          obtain ⟨x174, hx174⟩ := get_ex (xs := x118.1) (j := 1) (by omega)
          obtain ⟨p175, c176, hi177, hc178, hr179, hs180⟩ := Rds.at_ (hn126.rds pos_shI64) hx174
          obtain ⟨rfl, b181⟩ := inv_shI64 hr179
          obtain ⟨_, _⟩ : _ ∧ _ := hs180
          have hrwx174 : rowC 1 x118.1 = x174 := rowC_eq (c := 1) hx174
          refine dr_val (i := 8) ha173 rfl (by kernel_rfl) (by kernel_rfl) (by kernel_rfl) rfl rfl rfl (Stp.of_ext hs164 _) (fun w' hw' => op_indexAddr ha173 rfl Try.underlying41 ti2 rfl rfl (by omega) hi177) ?_
          intro a182 ha182; clear ha173 a173
          refine dr_one (i := 9) (by kernel_rfl) ?_
          refine po_to ha182 rfl rfl rfl rfl (op_loadH ha182 rfl Try.underlying2 rfl rfl (hc178.ext hs164) rfl) ?_
          intro a183 ha183; clear ha182 a182
          refine ⟨(Stp.of_ext hs164 _), ?_⟩
          refine dr_val (i := 11) ha183 rfl (by kernel_rfl) (by kernel_rfl) (by kernel_rfl) rfl rfl rfl (Stp.of_ext hs164 _) (fun w' hw' => (op_add ha183 rfl rfl rfl).int (IntWalk.i64_in _ (by omega))) ?_
          intro a184 ha184; clear ha183 a183
          refine dr_val (i := 12) ha184 rfl (by kernel_rfl) (by kernel_rfl) (by kernel_rfl) rfl rfl rfl (Stp.of_ext hs164 _) (fun w' hw' => op_indexAddr ha184 rfl Try.underlying41 ti2 rfl rfl (by omega) hi177) ?_
          intro a185 ha185; clear ha184 a184
          refine dr_one (i := 13) (by kernel_rfl) ?_
          replace hf105 := hf105.ext hs164
          replace hf106 := hf106.ext hs164
          replace hf107 := hf107.ext hs164
          replace hn126 := hn126.ext hs164
          replace hc122 := hc122.ext hs164
          replace hc133 := hc133.ext hs164
          replace hc178 := hc178.ext hs164
          refine po_effS ha185 rfl rfl rfl (op_setElem (s := shI64) (ds := [.int .i64 (x174 + x90)]) (S' := fun _ => False) ha185 rfl ti2 rfl rfl rfl hn126 pos_shI64 hi177 (by omega) (mk_shI64 ((x174 + x90)) (by first | assumption | omega | (simp; omega))) (fun _ h => h.elim)) ?_
          rintro w186 ⟨ho188, hst187, hz189⟩
          have hx190 := hx163.stp hst187 (by intro q hq; have hq0 := hn126.lt q hq; omega)
          have hzhx190 := hst187.size
          replace hf105 := hf105.stp hst187 (by intro q hq; have hq0 := hn126.lt q hq; omega)
          replace hf106 : Own shRowN 41 w24.heap.size w24.heap.size w42.heap.size w186 v zs := by first | exact hf106.stp hst187 (by intro q hq; have hq0 := hn126.lt q hq; omega) | exact hf106.stpF flat_shRowN hst187 (hf106.ne hn126 rfl)
          have hlsho188 : ((x118.1.set 1 ((x174 + x90)))).length = x118.1.length := List.length_set
          have ho191 : Own shRowN 41 w24.heap.size w24.heap.size w42.heap.size w186 v ((zs.set k ((((x118.1.set 1 ((x174 + x90)))) : List Int), (x118.2 : Value)))) := hf106.ghost hx118 fun _ _ _ h => h
          have hN192 : Nst shI64 2 (fun x : List Int => x) w24.heap.size w42.heap.size w186 ((zs.set k ((((x118.1.set 1 ((x174 + x90)))) : List Int), (x118.2 : Value)))) := hf107.put flat_shI64 hx118 hst187 ho188 (.inl rfl) (by omega)
          clear hf106 hf107
          have hlsho191 : ((zs.set k ((((x118.1.set 1 ((x174 + x90)))) : List Int), (x118.2 : Value)))).length = zs.length := List.length_set
          have hs193 := (Stp.of_ext hs164 (Value.ownBlock x118.2)).trans' hst187
          refine ⟨hs193, ?_⟩
          refine dr_end (by kernel_rfl) ?_
          refine block_n ?_
          refine then_n ?_
          refine wp_region_lit ?_
          refine wl_val ha185 rfl rfl rfl (op_move ha185 rfl rfl) ?_
          intro a194 ha194; clear ha185 a185
          refine wl_val ha194 rfl rfl rfl ((op_add ha194 rfl rfl rfl).int (IntWalk.i64_in _ (by omega))) ?_
          intro a195 ha195; clear ha194 a194
          refine wl_val ha195 rfl rfl rfl (op_assign ha195 rfl rfl) ?_
          intro a196 ha196; clear ha195 a195
          refine wpList_nil ?_
          refine round_end (x := (i, v, zs)) ((i + 1), v, (zs.set k ((((x118.1.set 1 ((x174 + x90)))) : List Int), (x118.2 : Value)))) ?_ ?_
          ·
           refine ⟨(Sl.cons_ ha196 rfl rfl (Sl.cons_ ha196 rfl rfl (Sl.cons_ ha196 rfl rfl (Sl.cons_ ha196 rfl rfl (Sl.cons_ ha196 rfl (int_eq (by omega)) (Sl.nil_ ha196)))))), hx190, hf105, (ho191.fin (by omega) (by omega) (by omega)), (hN192.fin (by omega) (by omega)), (by omega), (by omega), (by first | omega | (simp; omega)), (by have hic := insG_hit (n := x90) hk2 (map_at hx118) (by show rowC 0 x118.1 = _; omega); rw [hrwx174] at hic; rw [drop_cons hx62, grGo, rowC_eq hx74, rowC_eq hx90, hic] at hF; rw [← hF]; congr 1; simp), (by have hic := insG_hit (n := x90) hk2 (map_at hx118) (by show rowC 0 x118.1 = _; omega); rw [hrwx174] at hic; have h9 := insG_up (k := x74) (n := x90) hU; rw [hic] at h9; simpa using h9), (by have hic := insG_hit (n := x90) hk2 (map_at hx118) (by show rowC 0 x118.1 = _; omega); rw [hrwx174] at hic; have h9 := grI_ins (k := x74) (n := x90) hvbx74 hvbx90 hG; rw [hic] at h9; simpa using h9)⟩
          ·show (t.2.length - ((i + 1)) : Nat) < t.2.length - i; omega
         ·
          refine po_to ha171 rfl rfl rfl rfl (op_loadH ha171 rfl Try.underlying41 rfl rfl (hc122.ext hs164) rfl) ?_
          intro a197 ha197; clear ha171 a171
          refine ⟨(Stp.of_ext hs164 _), ?_⟩
          obtain ⟨x198, hx198⟩ := get_ex (xs := x118.1) (j := 1) (by omega)
          obtain ⟨p199, c200, hi201, hc202, hr203, hs204⟩ := Rds.at_ (hn126.rds pos_shI64) hx198
          obtain ⟨rfl, b205⟩ := inv_shI64 hr203
          obtain ⟨_, _⟩ : _ ∧ _ := hs204
          have hrwx198 : rowC 1 x118.1 = x198 := rowC_eq (c := 1) hx198
          refine dr_val (i := 8) ha197 rfl (by kernel_rfl) (by kernel_rfl) (by kernel_rfl) rfl rfl rfl (Stp.of_ext hs164 _) (fun w' hw' => op_indexAddr ha197 rfl Try.underlying41 ti2 rfl rfl (by omega) hi201) ?_
          intro a206 ha206; clear ha197 a197
          refine dr_two (i := 3) (j := 9) (by kernel_rfl) ?_ ?_
          ·
           refine po_to ha206 rfl rfl rfl rfl (op_loadH ha206 rfl Try.underlying41 rfl rfl (hc122.ext hs164) rfl) ?_
           intro a207 ha207; clear ha206 a206
           refine ⟨(Stp.of_ext hs164 _), ?_⟩
           refine dr_one (i := 9) (by kernel_rfl) ?_
           refine po_to ha207 rfl rfl rfl rfl (op_loadH ha207 rfl Try.underlying2 rfl rfl (hc202.ext hs164) rfl) ?_
           intro a208 ha208; clear ha207 a207
           refine ⟨(Stp.of_ext hs164 _), ?_⟩
           refine dr_val (i := 11) ha208 rfl (by kernel_rfl) (by kernel_rfl) (by kernel_rfl) rfl rfl rfl (Stp.of_ext hs164 _) (fun w' hw' => (op_add ha208 rfl rfl rfl).int (IntWalk.i64_in _ (by omega))) ?_
           intro a209 ha209; clear ha208 a208
           refine dr_val (i := 12) ha209 rfl (by kernel_rfl) (by kernel_rfl) (by kernel_rfl) rfl rfl rfl (Stp.of_ext hs164 _) (fun w' hw' => op_indexAddr ha209 rfl Try.underlying41 ti2 rfl rfl (by omega) hi201) ?_
           intro a210 ha210; clear ha209 a209
           refine dr_one (i := 13) (by kernel_rfl) ?_
           replace hf105 := hf105.ext hs164
           replace hf106 := hf106.ext hs164
           replace hf107 := hf107.ext hs164
           replace hn126 := hn126.ext hs164
           replace hc122 := hc122.ext hs164
           replace hc133 := hc133.ext hs164
           replace hc202 := hc202.ext hs164
           refine po_effS ha210 rfl rfl rfl (op_setElem (s := shI64) (ds := [.int .i64 (x198 + x90)]) (S' := fun _ => False) ha210 rfl ti2 rfl rfl rfl hn126 pos_shI64 hi201 (by omega) (mk_shI64 ((x198 + x90)) (by first | assumption | omega | (simp; omega))) (fun _ h => h.elim)) ?_
           rintro w211 ⟨ho213, hst212, hz214⟩
           have hx215 := hx163.stp hst212 (by intro q hq; have hq0 := hn126.lt q hq; omega)
           have hzhx215 := hst212.size
           replace hf105 := hf105.stp hst212 (by intro q hq; have hq0 := hn126.lt q hq; omega)
           replace hf106 : Own shRowN 41 w24.heap.size w24.heap.size w42.heap.size w211 v zs := by first | exact hf106.stp hst212 (by intro q hq; have hq0 := hn126.lt q hq; omega) | exact hf106.stpF flat_shRowN hst212 (hf106.ne hn126 rfl)
           have hlsho213 : ((x118.1.set 1 ((x198 + x90)))).length = x118.1.length := List.length_set
           have ho216 : Own shRowN 41 w24.heap.size w24.heap.size w42.heap.size w211 v ((zs.set k ((((x118.1.set 1 ((x198 + x90)))) : List Int), (x118.2 : Value)))) := hf106.ghost hx118 fun _ _ _ h => h
           have hN217 : Nst shI64 2 (fun x : List Int => x) w24.heap.size w42.heap.size w211 ((zs.set k ((((x118.1.set 1 ((x198 + x90)))) : List Int), (x118.2 : Value)))) := hf107.put flat_shI64 hx118 hst212 ho213 (.inl rfl) (by omega)
           clear hf106 hf107
           have hlsho216 : ((zs.set k ((((x118.1.set 1 ((x198 + x90)))) : List Int), (x118.2 : Value)))).length = zs.length := List.length_set
           have hs218 := (Stp.of_ext hs164 (Value.ownBlock x118.2)).trans' hst212
           refine ⟨hs218, ?_⟩
           refine dr_end (by kernel_rfl) ?_
           refine block_n ?_
           refine then_n ?_
           refine wp_region_lit ?_
           refine wl_val ha210 rfl rfl rfl (op_move ha210 rfl rfl) ?_
           intro a219 ha219; clear ha210 a210
           refine wl_val ha219 rfl rfl rfl ((op_add ha219 rfl rfl rfl).int (IntWalk.i64_in _ (by omega))) ?_
           intro a220 ha220; clear ha219 a219
           refine wl_val ha220 rfl rfl rfl (op_assign ha220 rfl rfl) ?_
           intro a221 ha221; clear ha220 a220
           refine wpList_nil ?_
           refine round_end (x := (i, v, zs)) ((i + 1), v, (zs.set k ((((x118.1.set 1 ((x198 + x90)))) : List Int), (x118.2 : Value)))) ?_ ?_
           ·
            refine ⟨(Sl.cons_ ha221 rfl rfl (Sl.cons_ ha221 rfl rfl (Sl.cons_ ha221 rfl rfl (Sl.cons_ ha221 rfl rfl (Sl.cons_ ha221 rfl (int_eq (by omega)) (Sl.nil_ ha221)))))), hx215, hf105, (ho216.fin (by omega) (by omega) (by omega)), (hN217.fin (by omega) (by omega)), (by omega), (by omega), (by first | omega | (simp; omega)), (by have hic := insG_hit (n := x90) hk2 (map_at hx118) (by show rowC 0 x118.1 = _; omega); rw [hrwx198] at hic; rw [drop_cons hx62, grGo, rowC_eq hx74, rowC_eq hx90, hic] at hF; rw [← hF]; congr 1; simp), (by have hic := insG_hit (n := x90) hk2 (map_at hx118) (by show rowC 0 x118.1 = _; omega); rw [hrwx198] at hic; have h9 := insG_up (k := x74) (n := x90) hU; rw [hic] at h9; simpa using h9), (by have hic := insG_hit (n := x90) hk2 (map_at hx118) (by show rowC 0 x118.1 = _; omega); rw [hrwx198] at hic; have h9 := grI_ins (k := x74) (n := x90) hvbx74 hvbx90 hG; rw [hic] at h9; simpa using h9)⟩
           ·show (t.2.length - ((i + 1)) : Nat) < t.2.length - i; omega
          ·
           refine po_to ha206 rfl rfl rfl rfl (op_loadH ha206 rfl Try.underlying2 rfl rfl (hc202.ext hs164) rfl) ?_
           intro a222 ha222; clear ha206 a206
           refine ⟨(Stp.of_ext hs164 _), ?_⟩
           refine dr_val (i := 11) ha222 rfl (by kernel_rfl) (by kernel_rfl) (by kernel_rfl) rfl rfl rfl (Stp.of_ext hs164 _) (fun w' hw' => (op_add ha222 rfl rfl rfl).int (IntWalk.i64_in _ (by omega))) ?_
           intro a223 ha223; clear ha222 a222
           refine dr_one (i := 3) (by kernel_rfl) ?_
           refine po_to ha223 rfl rfl rfl rfl (op_loadH ha223 rfl Try.underlying41 rfl rfl (hc122.ext hs164) rfl) ?_
           intro a224 ha224; clear ha223 a223
           refine ⟨(Stp.of_ext hs164 _), ?_⟩
           refine dr_val (i := 12) ha224 rfl (by kernel_rfl) (by kernel_rfl) (by kernel_rfl) rfl rfl rfl (Stp.of_ext hs164 _) (fun w' hw' => op_indexAddr ha224 rfl Try.underlying41 ti2 rfl rfl (by omega) hi201) ?_
           intro a225 ha225; clear ha224 a224
           refine dr_one (i := 13) (by kernel_rfl) ?_
           replace hf105 := hf105.ext hs164
           replace hf106 := hf106.ext hs164
           replace hf107 := hf107.ext hs164
           replace hn126 := hn126.ext hs164
           replace hc122 := hc122.ext hs164
           replace hc133 := hc133.ext hs164
           replace hc202 := hc202.ext hs164
           refine po_effS ha225 rfl rfl rfl (op_setElem (s := shI64) (ds := [.int .i64 (x198 + x90)]) (S' := fun _ => False) ha225 rfl ti2 rfl rfl rfl hn126 pos_shI64 hi201 (by omega) (mk_shI64 ((x198 + x90)) (by first | assumption | omega | (simp; omega))) (fun _ h => h.elim)) ?_
           rintro w226 ⟨ho228, hst227, hz229⟩
           have hx230 := hx163.stp hst227 (by intro q hq; have hq0 := hn126.lt q hq; omega)
           have hzhx230 := hst227.size
           replace hf105 := hf105.stp hst227 (by intro q hq; have hq0 := hn126.lt q hq; omega)
           replace hf106 : Own shRowN 41 w24.heap.size w24.heap.size w42.heap.size w226 v zs := by first | exact hf106.stp hst227 (by intro q hq; have hq0 := hn126.lt q hq; omega) | exact hf106.stpF flat_shRowN hst227 (hf106.ne hn126 rfl)
           have hlsho228 : ((x118.1.set 1 ((x198 + x90)))).length = x118.1.length := List.length_set
           have ho231 : Own shRowN 41 w24.heap.size w24.heap.size w42.heap.size w226 v ((zs.set k ((((x118.1.set 1 ((x198 + x90)))) : List Int), (x118.2 : Value)))) := hf106.ghost hx118 fun _ _ _ h => h
           have hN232 : Nst shI64 2 (fun x : List Int => x) w24.heap.size w42.heap.size w226 ((zs.set k ((((x118.1.set 1 ((x198 + x90)))) : List Int), (x118.2 : Value)))) := hf107.put flat_shI64 hx118 hst227 ho228 (.inl rfl) (by omega)
           clear hf106 hf107
           have hlsho231 : ((zs.set k ((((x118.1.set 1 ((x198 + x90)))) : List Int), (x118.2 : Value)))).length = zs.length := List.length_set
           have hs233 := (Stp.of_ext hs164 (Value.ownBlock x118.2)).trans' hst227
           refine ⟨hs233, ?_⟩
           refine dr_end (by kernel_rfl) ?_
           refine block_n ?_
           refine then_n ?_
           refine wp_region_lit ?_
           refine wl_val ha225 rfl rfl rfl (op_move ha225 rfl rfl) ?_
           intro a234 ha234; clear ha225 a225
           refine wl_val ha234 rfl rfl rfl ((op_add ha234 rfl rfl rfl).int (IntWalk.i64_in _ (by omega))) ?_
           intro a235 ha235; clear ha234 a234
           refine wl_val ha235 rfl rfl rfl (op_assign ha235 rfl rfl) ?_
           intro a236 ha236; clear ha235 a235
           refine wpList_nil ?_
           refine round_end (x := (i, v, zs)) ((i + 1), v, (zs.set k ((((x118.1.set 1 ((x198 + x90)))) : List Int), (x118.2 : Value)))) ?_ ?_
           ·
            refine ⟨(Sl.cons_ ha236 rfl rfl (Sl.cons_ ha236 rfl rfl (Sl.cons_ ha236 rfl rfl (Sl.cons_ ha236 rfl rfl (Sl.cons_ ha236 rfl (int_eq (by omega)) (Sl.nil_ ha236)))))), hx230, hf105, (ho231.fin (by omega) (by omega) (by omega)), (hN232.fin (by omega) (by omega)), (by omega), (by omega), (by first | omega | (simp; omega)), (by have hic := insG_hit (n := x90) hk2 (map_at hx118) (by show rowC 0 x118.1 = _; omega); rw [hrwx198] at hic; rw [drop_cons hx62, grGo, rowC_eq hx74, rowC_eq hx90, hic] at hF; rw [← hF]; congr 1; simp), (by have hic := insG_hit (n := x90) hk2 (map_at hx118) (by show rowC 0 x118.1 = _; omega); rw [hrwx198] at hic; have h9 := insG_up (k := x74) (n := x90) hU; rw [hic] at h9; simpa using h9), (by have hic := insG_hit (n := x90) hk2 (map_at hx118) (by show rowC 0 x118.1 = _; omega); rw [hrwx198] at hic; have h9 := grI_ins (k := x74) (n := x90) hvbx74 hvbx90 hG; rw [hic] at h9; simpa using h9)⟩
           ·show (t.2.length - ((i + 1)) : Nat) < t.2.length - i; omega
        ·
         rw [decide_eq_false c160] at ha159
         refine cond_f ha159 rfl ?_
         refine dr_enter Ext follows_mixed ?_
         intro w237 he238
         have hx239 := hx104.trans' he238
         have hzhx239 := he238.size
         replace hf105 := hf105.ext he238
         replace hf106 := hf106.ext he238
         replace hf107 := hf107.ext he238
         replace hn126 := hn126.ext he238
         replace hc122 := hc122.ext he238
         replace hc133 := hc133.ext he238
         have hs240 : Ext w237 w237 := Ext.rfl' _
         refine dr_val (i := 1) ha159 rfl (by kernel_rfl) (by kernel_rfl) (by kernel_rfl) rfl rfl rfl hs240 (fun w' hw' => op_move ha159 rfl rfl) ?_
         intro a241 ha241; clear ha159 a159
         refine dr_val (i := 2) ha241 rfl (by kernel_rfl) (by kernel_rfl) (by kernel_rfl) rfl rfl rfl hs240 (fun w' hw' => op_move ha241 rfl rfl) ?_
         intro a242 ha242; clear ha241 a241
         obtain ⟨u243, hu244, hr245⟩ := Rds.part (hf106.rds pos_shRowN) Try.underlying23 ti41 none (some (.int .i64 (k : Nat))) 0 k (.inl ⟨rfl, rfl⟩) (.inr ⟨.i64, rfl⟩) (by omega) (by omega)
         replace hr245 := hr245.cast (ys := zs.take k) (by first | rw [List.take_length] | simp)
         refine dr_val (i := 3) ha242 rfl (by kernel_rfl) (by kernel_rfl) (by kernel_rfl) rfl rfl rfl hs240 (fun w' hw' => op_slice_t (by omega) ha242 rfl rfl rfl hu244) ?_
         intro a246 ha246; clear ha242 a242
         refine dr_val (i := 5) ha246 rfl (by kernel_rfl) (by kernel_rfl) (by kernel_rfl) rfl rfl rfl hs240 (fun w' hw' => op_move ha246 rfl rfl) ?_
         intro a247 ha247; clear ha246 a246
         refine dr_val (i := 6) ha247 rfl (by kernel_rfl) (by kernel_rfl) (by kernel_rfl) rfl rfl rfl hs240 (fun w' hw' => op_move ha247 rfl rfl) ?_
         intro a248 ha248; clear ha247 a247
         refine dr_val (i := 10) ha248 rfl (by kernel_rfl) (by kernel_rfl) (by kernel_rfl) rfl rfl rfl hs240 (fun w' hw' => op_move ha248 rfl rfl) ?_
         intro a249 ha249; clear ha248 a248
         refine dr_val (i := 11) ha249 rfl (by kernel_rfl) (by kernel_rfl) (by kernel_rfl) rfl rfl rfl hs240 (fun w' hw' => op_move ha249 rfl rfl) ?_
         intro a250 ha250; clear ha249 a249
         obtain ⟨u251, hu252, hr253⟩ := Rds.part (hf106.rds pos_shRowN) Try.underlying23 ti41 (some (.int .i64 (k : Nat))) none k zs.length (.inr ⟨.i64, rfl⟩) (.inl ⟨rfl, rfl⟩) (by omega) (by omega)
         replace hr253 := hr253.cast (ys := zs.drop k) (by first | rw [List.take_length] | simp)
         refine dr_val (i := 12) ha250 rfl (by kernel_rfl) (by kernel_rfl) (by kernel_rfl) rfl rfl rfl hs240 (fun w' hw' => op_slice_f (by omega) ha250 rfl rfl rfl hu252) ?_
         intro a254 ha254; clear ha250 a250
         refine dr_two (i := 0) (j := 7) (by kernel_rfl) ?_ ?_
         ·
          refine po_eff ha254 rfl rfl rfl rfl (op_buildSlice (s := shRowN) (xs := ([] : List ((List Int) × Value))) (cs := []) (vs := []) (S := fun _ => False) (le := w237.heap.size) ha254 rfl pos_shRowN Try.underlying23 ti41 rfl rfl (by decide) (by kernel_rfl) rfl (fun _ h => h.elim)) ?_
          rintro v255 w256 ⟨ho257, he258, hob259⟩ a260 ha260; clear ha254 a254
          have hs261 := hs240.trans' he258
          have hx262 := hx239.trans' he258
          have hzhx262 := he258.size
          refine ⟨hs261, ?_⟩
          have hN263 : Nst shI64 2 (fun x : List Int => x) w237.heap.size w256.heap.size w256 (([] : List ((List Int) × Value))) := Nst.nil _ _ _ _ _ _
          refine dr_two (i := 4) (j := 7) (by kernel_rfl) ?_ ?_
          ·
           refine po_eff ha260 rfl rfl rfl rfl (op_append (ts := #[]) (s := shRowN) ha260 rfl Try.underlying23 ti41 rfl pos_shRowN rfl rfl ho257 (hr245.ext pos_shRowN hs261) (by omega) (by omega) (by first | omega | (simp; omega)) (by first | omega | (simp; omega)) (.inl flat_shRowN)) ?_
           rintro v264 w265 ⟨ho266, hst267, hob268⟩ a269 ha269; clear ha260 a260
           replace ho266 := ho266.cast (List.nil_append _)
           have hs270 := hs261.stp hst267 (by intro q hq; have hq0 := ho257.lt q hq; omega)
           have hx271 := hx262.stp hst267 (by intro q hq; have hq0 := ho257.lt q hq; omega)
           have hzhx271 := hst267.size
           replace hN263 : Nst shI64 2 (fun x : List Int => x) w237.heap.size w256.heap.size w265 (([] : List ((List Int) × Value))) := by first | exact hN263.stpF flat_shI64 hst267 ho257 rfl | exact hN263.stp hst267 (by intro q hq; have hq0 := ho257.lt q hq; omega)
           have hsp272 : ∀ q, Value.ownBlock v264 = some q → Value.ownBlock v ≠ some q := by intro q hq hb; have hq0 := hf106.lt q hb; rcases hob268 with h | h; (rw [h] at hq; first | (have hq1 := ho257.lt q hq; omega)); (rw [h] at hq; cases hq; omega)
           refine ⟨hs270, ?_⟩
           refine dr_one (i := 7) (by kernel_rfl) ?_
           refine po_eff ha269 rfl rfl rfl rfl (op_buildSlice (s := shI64) (xs := [x74, x90]) (cs := [.int .i64 x74, .int .i64 x90]) (vs := [(0, .int .i64 x74), (1, .int .i64 x90)]) (S := fun _ => False) (le := w265.heap.size) ha269 rfl pos_shI64 Try.underlying41 ti2 rfl rfl (by decide) (by kernel_rfl) ⟨mk_shI64 x74 (by first | assumption | omega | (simp; omega)), mk_shI64 x90 (by first | assumption | omega | (simp; omega)), rfl⟩ (fun _ h => h.elim)) ?_
           rintro v273 w274 ⟨ho275, he276, hob277⟩ a278 ha278; clear ha269 a269
           have hs279 := hs270.trans' he276
           have hx280 := hx271.trans' he276
           have hzhx280 := he276.size
           replace hN263 := hN263.ext he276
           replace ho266 := ho266.ext he276
           refine ⟨hs279, ?_⟩
           refine dr_one (i := 8) (by kernel_rfl) ?_
           refine po_eff ha278 rfl rfl rfl rfl (op_buildSlice (s := shRowN) (xs := [(([x74, x90] : List Int), (v273 : Value))]) (cs := [v273]) (vs := [(0, v273)]) (S := fun _ => False) (le := w274.heap.size) ha278 rfl pos_shRowN Try.underlying23 ti41 rfl rfl (by decide) ((fill_one (off := 0) ho275.cells1 (by kernel_rfl) (by kernel_rfl)).trans (by kernel_rfl)) (Els.single (mk_shRowN ((([x74, x90] : List Int), (v273 : Value))) ho275.one)) (fun _ h => h.elim)) ?_
           rintro v281 w282 ⟨ho283, he284, hob285⟩ a286 ha286; clear ha278 a278
           have hs287 := hs279.trans' he284
           have hx288 := hx280.trans' he284
           have hzhx288 := he284.size
           replace hN263 := hN263.ext he284
           replace ho266 := ho266.ext he284
           replace ho275 := ho275.ext he284
           refine ⟨hs287, ?_⟩
           have hN289 : Nst shI64 2 (fun x : List Int => x) w265.heap.size w282.heap.size w282 ([(([x74, x90] : List Int), (v273 : Value))]) := Nst.one (ho275.fin (by omega) (by omega) (by omega))
           refine dr_one (i := 9) (by kernel_rfl) ?_
           refine po_eff ha286 rfl rfl rfl rfl (op_append (ts := #[]) (s := shRowN) ha286 rfl Try.underlying23 ti41 rfl pos_shRowN rfl rfl ho266 (ho283.rds pos_shRowN) (by omega) (by omega) (by first | omega | (simp; omega)) (by first | omega | (simp; omega)) (.inl flat_shRowN)) ?_
           rintro v290 w291 ⟨ho292, hst293, hob294⟩ a295 ha295; clear ha286 a286
           have hs296 := hs287.stp hst293 (by intro q hq; have hq0 := ho266.lt q hq; omega)
           have hx297 := hx288.stp hst293 (by intro q hq; have hq0 := ho266.lt q hq; omega)
           have hzhx297 := hst293.size
           replace hN263 : Nst shI64 2 (fun x : List Int => x) w237.heap.size w256.heap.size w291 (([] : List ((List Int) × Value))) := by first | exact hN263.stpF flat_shI64 hst293 ho266 rfl | exact hN263.stp hst293 (by intro q hq; have hq0 := ho266.lt q hq; omega)
           replace ho275 := ho275.stp hst293 (by intro q hq; have hq0 := ho266.lt q hq; omega)
           replace ho283 := ho283.stp hst293 (by intro q hq; have hq0 := ho266.lt q hq; omega)
           replace hN289 := hN289.stp hst293 (by intro q hq; have hq0 := ho266.lt q hq; omega)
           have hsp298 : ∀ q, Value.ownBlock v290 = some q → Value.ownBlock v ≠ some q := by intro q hq hb; have hq0 := hf106.lt q hb; rcases hob294 with h | h; (rw [h] at hq; first | (have hq1 := ho266.lt q hq; omega) | exact hsp272 q hq hb); (rw [h] at hq; cases hq; omega)
           have hsp299 : ∀ q, Value.ownBlock v290 = some q → Value.ownBlock v281 ≠ some q := by intro q hq hb; have hq0 := ho283.lt q hb; rcases hob294 with h | h; (rw [h] at hq; first | (have hq1 := ho266.lt q hq; omega)); (rw [h] at hq; cases hq; omega)
           refine ⟨hs296, ?_⟩
           refine dr_one (i := 13) (by kernel_rfl) ?_
           refine po_eff ha295 rfl rfl rfl rfl (op_append (ts := #[]) (s := shRowN) ha295 rfl Try.underlying23 ti41 rfl pos_shRowN rfl rfl ho292 (hr253.ext pos_shRowN hs296) (by omega) (by omega) (by first | omega | (simp; omega)) (by first | omega | (simp; omega)) (.inl flat_shRowN)) ?_
           rintro v300 w301 ⟨ho302, hst303, hob304⟩ a305 ha305; clear ha295 a295
           have hs306 := hs296.stp hst303 (by intro q hq; have hq0 := ho292.lt q hq; omega)
           have hx307 := hx297.stp hst303 (by intro q hq; have hq0 := ho292.lt q hq; omega)
           have hzhx307 := hst303.size
           replace hN263 : Nst shI64 2 (fun x : List Int => x) w237.heap.size w256.heap.size w301 (([] : List ((List Int) × Value))) := by first | exact hN263.stpF flat_shI64 hst303 ho292 rfl | exact hN263.stp hst303 (by intro q hq; have hq0 := ho292.lt q hq; omega)
           replace ho275 : Own shI64 2 w265.heap.size w265.heap.size w274.heap.size w301 v273 ([x74, x90]) := by first | exact ho275.stp hst303 (by intro q hq; have hq0 := ho292.lt q hq; omega) | exact ho275.stpF flat_shI64 hst303 (ho275.ne ho292 rfl)
           replace ho283 : Own shRowN 41 w274.heap.size w274.heap.size w282.heap.size w301 v281 ([(([x74, x90] : List Int), (v273 : Value))]) := by first | exact ho283.stp hst303 (by intro q hq; have hq0 := ho292.lt q hq; omega) | exact ho283.stpF flat_shRowN hst303 (fun q hq => hsp299 q hq)
           replace hN289 : Nst shI64 2 (fun x : List Int => x) w265.heap.size w282.heap.size w301 ([(([x74, x90] : List Int), (v273 : Value))]) := by first | exact hN289.stpF flat_shI64 hst303 ho292 rfl | exact hN289.stp hst303 (by intro q hq; have hq0 := ho292.lt q hq; omega)
           have hsp308 : ∀ q, Value.ownBlock v300 = some q → Value.ownBlock v ≠ some q := by intro q hq hb; have hq0 := hf106.lt q hb; rcases hob304 with h | h; (rw [h] at hq; first | (have hq1 := ho292.lt q hq; omega) | exact hsp298 q hq hb); (rw [h] at hq; cases hq; omega)
           have hsp309 : ∀ q, Value.ownBlock v300 = some q → Value.ownBlock v281 ≠ some q := by intro q hq hb; have hq0 := ho283.lt q hb; rcases hob304 with h | h; (rw [h] at hq; first | (have hq1 := ho292.lt q hq; omega) | exact hsp299 q hq hb); (rw [h] at hq; cases hq; omega)
           refine ⟨hs306, ?_⟩
           refine dr_val (i := 14) ha305 rfl (by kernel_rfl) (by kernel_rfl) (by kernel_rfl) rfl rfl rfl hs306 (fun w' hw' => op_assign ha305 rfl rfl) ?_
           intro a310 ha310; clear ha305 a305
           refine dr_end (by kernel_rfl) ?_
           replace hf105 := hf105.ext hs306
           replace hf106 := hf106.ext hs306
           replace hf107 := hf107.ext hs306
           replace hn126 := hn126.ext hs306
           replace hc122 := hc122.ext hs306
           replace hc133 := hc133.ext hs306
           replace hr245 := hr245.ext pos_shRowN hs306
           replace hr253 := hr253.ext pos_shRowN hs306
           refine block_n ?_
           refine then_n ?_
           refine wp_region_lit ?_
           refine wl_val ha310 rfl rfl rfl (op_move ha310 rfl rfl) ?_
           intro a311 ha311; clear ha310 a310
           refine wl_val ha311 rfl rfl rfl ((op_add ha311 rfl rfl rfl).int (IntWalk.i64_in _ (by omega))) ?_
           intro a312 ha312; clear ha311 a311
           refine wl_val ha312 rfl rfl rfl (op_assign ha312 rfl rfl) ?_
           intro a313 ha313; clear ha312 a312
           refine wpList_nil ?_
           refine round_end (x := (i, v, zs)) ((i + 1), v300, ((zs.take k ++ [(([x74, x90] : List Int), (v273 : Value))]) ++ zs.drop k)) ?_ ?_
           ·
            refine ⟨(Sl.cons_ ha313 rfl rfl (Sl.cons_ ha313 rfl rfl (Sl.cons_ ha313 rfl rfl (Sl.cons_ ha313 rfl rfl (Sl.cons_ ha313 rfl (int_eq (by omega)) (Sl.nil_ ha313)))))), hx307, hf105, (ho302.fin (by omega) (by omega) (by omega)), (by exact ((hf107.app hN289 (by omega) (by omega) (by omega)).perm (ins_perm _ _ _)).fin (by omega) (by omega)), (by omega), (by omega), (by first | omega | (simp; omega)), (by have hic := insG_front (n := x90) hU hk2 (.inr ⟨_, map_at hx118, (by show ¬ rowC 0 x118.1 < _; omega), (by show ¬ rowC 0 x118.1 = _; omega)⟩); rw [drop_cons hx62, grGo, rowC_eq hx74, rowC_eq hx90, hic] at hF; rw [← hF]; congr 1; simp), (by have hic := insG_front (n := x90) hU hk2 (.inr ⟨_, map_at hx118, (by show ¬ rowC 0 x118.1 < _; omega), (by show ¬ rowC 0 x118.1 = _; omega)⟩); have h9 := insG_up (k := x74) (n := x90) hU; rw [hic] at h9; simpa using h9), (by have hic := insG_front (n := x90) hU hk2 (.inr ⟨_, map_at hx118, (by show ¬ rowC 0 x118.1 < _; omega), (by show ¬ rowC 0 x118.1 = _; omega)⟩); have h9 := grI_ins (k := x74) (n := x90) hvbx74 hvbx90 hG; rw [hic] at h9; simpa using h9)⟩
           ·show (t.2.length - ((i + 1)) : Nat) < t.2.length - i; omega
          ·
           refine po_eff ha260 rfl rfl rfl rfl (op_buildSlice (s := shI64) (xs := [x74, x90]) (cs := [.int .i64 x74, .int .i64 x90]) (vs := [(0, .int .i64 x74), (1, .int .i64 x90)]) (S := fun _ => False) (le := w256.heap.size) ha260 rfl pos_shI64 Try.underlying41 ti2 rfl rfl (by decide) (by kernel_rfl) ⟨mk_shI64 x74 (by first | assumption | omega | (simp; omega)), mk_shI64 x90 (by first | assumption | omega | (simp; omega)), rfl⟩ (fun _ h => h.elim)) ?_
           rintro v314 w315 ⟨ho316, he317, hob318⟩ a319 ha319; clear ha260 a260
           have hs320 := hs261.trans' he317
           have hx321 := hx262.trans' he317
           have hzhx321 := he317.size
           replace ho257 := ho257.ext he317
           replace hN263 := hN263.ext he317
           refine ⟨hs320, ?_⟩
           refine dr_two (i := 4) (j := 8) (by kernel_rfl) ?_ ?_
           ·
            refine po_eff ha319 rfl rfl rfl rfl (op_append (ts := #[]) (s := shRowN) ha319 rfl Try.underlying23 ti41 rfl pos_shRowN rfl rfl ho257 (hr245.ext pos_shRowN hs320) (by omega) (by omega) (by first | omega | (simp; omega)) (by first | omega | (simp; omega)) (.inl flat_shRowN)) ?_
            rintro v322 w323 ⟨ho324, hst325, hob326⟩ a327 ha327; clear ha319 a319
            replace ho324 := ho324.cast (List.nil_append _)
            have hs328 := hs320.stp hst325 (by intro q hq; have hq0 := ho257.lt q hq; omega)
            have hx329 := hx321.stp hst325 (by intro q hq; have hq0 := ho257.lt q hq; omega)
            have hzhx329 := hst325.size
            replace hN263 : Nst shI64 2 (fun x : List Int => x) w237.heap.size w256.heap.size w323 (([] : List ((List Int) × Value))) := by first | exact hN263.stpF flat_shI64 hst325 ho257 rfl | exact hN263.stp hst325 (by intro q hq; have hq0 := ho257.lt q hq; omega)
            replace ho316 := ho316.stp hst325 (by intro q hq; have hq0 := ho257.lt q hq; omega)
            have hsp330 : ∀ q, Value.ownBlock v322 = some q → Value.ownBlock v ≠ some q := by intro q hq hb; have hq0 := hf106.lt q hb; rcases hob326 with h | h; (rw [h] at hq; first | (have hq1 := ho257.lt q hq; omega)); (rw [h] at hq; cases hq; omega)
            refine ⟨hs328, ?_⟩
            refine dr_one (i := 8) (by kernel_rfl) ?_
            refine po_eff ha327 rfl rfl rfl rfl (op_buildSlice (s := shRowN) (xs := [(([x74, x90] : List Int), (v314 : Value))]) (cs := [v314]) (vs := [(0, v314)]) (S := fun _ => False) (le := w323.heap.size) ha327 rfl pos_shRowN Try.underlying23 ti41 rfl rfl (by decide) ((fill_one (off := 0) ho316.cells1 (by kernel_rfl) (by kernel_rfl)).trans (by kernel_rfl)) (Els.single (mk_shRowN ((([x74, x90] : List Int), (v314 : Value))) ho316.one)) (fun _ h => h.elim)) ?_
            rintro v331 w332 ⟨ho333, he334, hob335⟩ a336 ha336; clear ha327 a327
            have hs337 := hs328.trans' he334
            have hx338 := hx329.trans' he334
            have hzhx338 := he334.size
            replace hN263 := hN263.ext he334
            replace ho316 := ho316.ext he334
            replace ho324 := ho324.ext he334
            refine ⟨hs337, ?_⟩
            have hN339 : Nst shI64 2 (fun x : List Int => x) w256.heap.size w332.heap.size w332 ([(([x74, x90] : List Int), (v314 : Value))]) := Nst.one (ho316.fin (by omega) (by omega) (by omega))
            refine dr_one (i := 9) (by kernel_rfl) ?_
            refine po_eff ha336 rfl rfl rfl rfl (op_append (ts := #[]) (s := shRowN) ha336 rfl Try.underlying23 ti41 rfl pos_shRowN rfl rfl ho324 (ho333.rds pos_shRowN) (by omega) (by omega) (by first | omega | (simp; omega)) (by first | omega | (simp; omega)) (.inl flat_shRowN)) ?_
            rintro v340 w341 ⟨ho342, hst343, hob344⟩ a345 ha345; clear ha336 a336
            have hs346 := hs337.stp hst343 (by intro q hq; have hq0 := ho324.lt q hq; omega)
            have hx347 := hx338.stp hst343 (by intro q hq; have hq0 := ho324.lt q hq; omega)
            have hzhx347 := hst343.size
            replace hN263 : Nst shI64 2 (fun x : List Int => x) w237.heap.size w256.heap.size w341 (([] : List ((List Int) × Value))) := by first | exact hN263.stpF flat_shI64 hst343 ho324 rfl | exact hN263.stp hst343 (by intro q hq; have hq0 := ho324.lt q hq; omega)
            replace ho316 : Own shI64 2 w256.heap.size w256.heap.size w315.heap.size w341 v314 ([x74, x90]) := by first | exact ho316.stp hst343 (by intro q hq; have hq0 := ho324.lt q hq; omega) | exact ho316.stpF flat_shI64 hst343 (ho316.ne ho324 rfl)
            replace ho333 := ho333.stp hst343 (by intro q hq; have hq0 := ho324.lt q hq; omega)
            replace hN339 : Nst shI64 2 (fun x : List Int => x) w256.heap.size w332.heap.size w341 ([(([x74, x90] : List Int), (v314 : Value))]) := by first | exact hN339.stpF flat_shI64 hst343 ho324 rfl | exact hN339.stp hst343 (by intro q hq; have hq0 := ho324.lt q hq; omega)
            have hsp348 : ∀ q, Value.ownBlock v340 = some q → Value.ownBlock v ≠ some q := by intro q hq hb; have hq0 := hf106.lt q hb; rcases hob344 with h | h; (rw [h] at hq; first | (have hq1 := ho324.lt q hq; omega) | exact hsp330 q hq hb); (rw [h] at hq; cases hq; omega)
            have hsp349 : ∀ q, Value.ownBlock v340 = some q → Value.ownBlock v331 ≠ some q := by intro q hq hb; have hq0 := ho333.lt q hb; rcases hob344 with h | h; (rw [h] at hq; first | (have hq1 := ho324.lt q hq; omega)); (rw [h] at hq; cases hq; omega)
            refine ⟨hs346, ?_⟩
            refine dr_one (i := 13) (by kernel_rfl) ?_
            refine po_eff ha345 rfl rfl rfl rfl (op_append (ts := #[]) (s := shRowN) ha345 rfl Try.underlying23 ti41 rfl pos_shRowN rfl rfl ho342 (hr253.ext pos_shRowN hs346) (by omega) (by omega) (by first | omega | (simp; omega)) (by first | omega | (simp; omega)) (.inl flat_shRowN)) ?_
            rintro v350 w351 ⟨ho352, hst353, hob354⟩ a355 ha355; clear ha345 a345
            have hs356 := hs346.stp hst353 (by intro q hq; have hq0 := ho342.lt q hq; omega)
            have hx357 := hx347.stp hst353 (by intro q hq; have hq0 := ho342.lt q hq; omega)
            have hzhx357 := hst353.size
            replace hN263 : Nst shI64 2 (fun x : List Int => x) w237.heap.size w256.heap.size w351 (([] : List ((List Int) × Value))) := by first | exact hN263.stpF flat_shI64 hst353 ho342 rfl | exact hN263.stp hst353 (by intro q hq; have hq0 := ho342.lt q hq; omega)
            replace ho316 : Own shI64 2 w256.heap.size w256.heap.size w315.heap.size w351 v314 ([x74, x90]) := by first | exact ho316.stp hst353 (by intro q hq; have hq0 := ho342.lt q hq; omega) | exact ho316.stpF flat_shI64 hst353 (ho316.ne ho342 rfl)
            replace ho333 : Own shRowN 41 w323.heap.size w323.heap.size w332.heap.size w351 v331 ([(([x74, x90] : List Int), (v314 : Value))]) := by first | exact ho333.stp hst353 (by intro q hq; have hq0 := ho342.lt q hq; omega) | exact ho333.stpF flat_shRowN hst353 (fun q hq => hsp349 q hq)
            replace hN339 : Nst shI64 2 (fun x : List Int => x) w256.heap.size w332.heap.size w351 ([(([x74, x90] : List Int), (v314 : Value))]) := by first | exact hN339.stpF flat_shI64 hst353 ho342 rfl | exact hN339.stp hst353 (by intro q hq; have hq0 := ho342.lt q hq; omega)
            have hsp358 : ∀ q, Value.ownBlock v350 = some q → Value.ownBlock v ≠ some q := by intro q hq hb; have hq0 := hf106.lt q hb; rcases hob354 with h | h; (rw [h] at hq; first | (have hq1 := ho342.lt q hq; omega) | exact hsp348 q hq hb); (rw [h] at hq; cases hq; omega)
            have hsp359 : ∀ q, Value.ownBlock v350 = some q → Value.ownBlock v331 ≠ some q := by intro q hq hb; have hq0 := ho333.lt q hb; rcases hob354 with h | h; (rw [h] at hq; first | (have hq1 := ho342.lt q hq; omega) | exact hsp349 q hq hb); (rw [h] at hq; cases hq; omega)
            refine ⟨hs356, ?_⟩
            refine dr_val (i := 14) ha355 rfl (by kernel_rfl) (by kernel_rfl) (by kernel_rfl) rfl rfl rfl hs356 (fun w' hw' => op_assign ha355 rfl rfl) ?_
            intro a360 ha360; clear ha355 a355
            refine dr_end (by kernel_rfl) ?_
            replace hf105 := hf105.ext hs356
            replace hf106 := hf106.ext hs356
            replace hf107 := hf107.ext hs356
            replace hn126 := hn126.ext hs356
            replace hc122 := hc122.ext hs356
            replace hc133 := hc133.ext hs356
            replace hr245 := hr245.ext pos_shRowN hs356
            replace hr253 := hr253.ext pos_shRowN hs356
            refine block_n ?_
            refine then_n ?_
            refine wp_region_lit ?_
            refine wl_val ha360 rfl rfl rfl (op_move ha360 rfl rfl) ?_
            intro a361 ha361; clear ha360 a360
            refine wl_val ha361 rfl rfl rfl ((op_add ha361 rfl rfl rfl).int (IntWalk.i64_in _ (by omega))) ?_
            intro a362 ha362; clear ha361 a361
            refine wl_val ha362 rfl rfl rfl (op_assign ha362 rfl rfl) ?_
            intro a363 ha363; clear ha362 a362
            refine wpList_nil ?_
            refine round_end (x := (i, v, zs)) ((i + 1), v350, ((zs.take k ++ [(([x74, x90] : List Int), (v314 : Value))]) ++ zs.drop k)) ?_ ?_
            ·
             refine ⟨(Sl.cons_ ha363 rfl rfl (Sl.cons_ ha363 rfl rfl (Sl.cons_ ha363 rfl rfl (Sl.cons_ ha363 rfl rfl (Sl.cons_ ha363 rfl (int_eq (by omega)) (Sl.nil_ ha363)))))), hx357, hf105, (ho352.fin (by omega) (by omega) (by omega)), (by exact ((hf107.app hN339 (by omega) (by omega) (by omega)).perm (ins_perm _ _ _)).fin (by omega) (by omega)), (by omega), (by omega), (by first | omega | (simp; omega)), (by have hic := insG_front (n := x90) hU hk2 (.inr ⟨_, map_at hx118, (by show ¬ rowC 0 x118.1 < _; omega), (by show ¬ rowC 0 x118.1 = _; omega)⟩); rw [drop_cons hx62, grGo, rowC_eq hx74, rowC_eq hx90, hic] at hF; rw [← hF]; congr 1; simp), (by have hic := insG_front (n := x90) hU hk2 (.inr ⟨_, map_at hx118, (by show ¬ rowC 0 x118.1 < _; omega), (by show ¬ rowC 0 x118.1 = _; omega)⟩); have h9 := insG_up (k := x74) (n := x90) hU; rw [hic] at h9; simpa using h9), (by have hic := insG_front (n := x90) hU hk2 (.inr ⟨_, map_at hx118, (by show ¬ rowC 0 x118.1 < _; omega), (by show ¬ rowC 0 x118.1 = _; omega)⟩); have h9 := grI_ins (k := x74) (n := x90) hvbx74 hvbx90 hG; rw [hic] at h9; simpa using h9)⟩
            ·show (t.2.length - ((i + 1)) : Nat) < t.2.length - i; omega
           ·
            refine po_eff ha319 rfl rfl rfl rfl (op_buildSlice (s := shRowN) (xs := [(([x74, x90] : List Int), (v314 : Value))]) (cs := [v314]) (vs := [(0, v314)]) (S := fun _ => False) (le := w315.heap.size) ha319 rfl pos_shRowN Try.underlying23 ti41 rfl rfl (by decide) ((fill_one (off := 0) ho316.cells1 (by kernel_rfl) (by kernel_rfl)).trans (by kernel_rfl)) (Els.single (mk_shRowN ((([x74, x90] : List Int), (v314 : Value))) ho316.one)) (fun _ h => h.elim)) ?_
            rintro v364 w365 ⟨ho366, he367, hob368⟩ a369 ha369; clear ha319 a319
            have hs370 := hs320.trans' he367
            have hx371 := hx321.trans' he367
            have hzhx371 := he367.size
            replace ho257 := ho257.ext he367
            replace hN263 := hN263.ext he367
            replace ho316 := ho316.ext he367
            refine ⟨hs370, ?_⟩
            have hN372 : Nst shI64 2 (fun x : List Int => x) w256.heap.size w365.heap.size w365 ([(([x74, x90] : List Int), (v314 : Value))]) := Nst.one (ho316.fin (by omega) (by omega) (by omega))
            refine dr_one (i := 4) (by kernel_rfl) ?_
            refine po_eff ha369 rfl rfl rfl rfl (op_append (ts := #[]) (s := shRowN) ha369 rfl Try.underlying23 ti41 rfl pos_shRowN rfl rfl ho257 (hr245.ext pos_shRowN hs370) (by omega) (by omega) (by first | omega | (simp; omega)) (by first | omega | (simp; omega)) (.inl flat_shRowN)) ?_
            rintro v373 w374 ⟨ho375, hst376, hob377⟩ a378 ha378; clear ha369 a369
            replace ho375 := ho375.cast (List.nil_append _)
            have hs379 := hs370.stp hst376 (by intro q hq; have hq0 := ho257.lt q hq; omega)
            have hx380 := hx371.stp hst376 (by intro q hq; have hq0 := ho257.lt q hq; omega)
            have hzhx380 := hst376.size
            replace hN263 : Nst shI64 2 (fun x : List Int => x) w237.heap.size w256.heap.size w374 (([] : List ((List Int) × Value))) := by first | exact hN263.stpF flat_shI64 hst376 ho257 rfl | exact hN263.stp hst376 (by intro q hq; have hq0 := ho257.lt q hq; omega)
            replace ho316 := ho316.stp hst376 (by intro q hq; have hq0 := ho257.lt q hq; omega)
            replace ho366 := ho366.stp hst376 (by intro q hq; have hq0 := ho257.lt q hq; omega)
            replace hN372 := hN372.stp hst376 (by intro q hq; have hq0 := ho257.lt q hq; omega)
            have hsp381 : ∀ q, Value.ownBlock v373 = some q → Value.ownBlock v ≠ some q := by intro q hq hb; have hq0 := hf106.lt q hb; rcases hob377 with h | h; (rw [h] at hq; first | (have hq1 := ho257.lt q hq; omega)); (rw [h] at hq; cases hq; omega)
            have hsp382 : ∀ q, Value.ownBlock v373 = some q → Value.ownBlock v364 ≠ some q := by intro q hq hb; have hq0 := ho366.lt q hb; rcases hob377 with h | h; (rw [h] at hq; first | (have hq1 := ho257.lt q hq; omega)); (rw [h] at hq; cases hq; omega)
            refine ⟨hs379, ?_⟩
            refine dr_one (i := 9) (by kernel_rfl) ?_
            refine po_eff ha378 rfl rfl rfl rfl (op_append (ts := #[]) (s := shRowN) ha378 rfl Try.underlying23 ti41 rfl pos_shRowN rfl rfl ho375 (ho366.rds pos_shRowN) (by omega) (by omega) (by first | omega | (simp; omega)) (by first | omega | (simp; omega)) (.inl flat_shRowN)) ?_
            rintro v383 w384 ⟨ho385, hst386, hob387⟩ a388 ha388; clear ha378 a378
            have hs389 := hs379.stp hst386 (by intro q hq; have hq0 := ho375.lt q hq; omega)
            have hx390 := hx380.stp hst386 (by intro q hq; have hq0 := ho375.lt q hq; omega)
            have hzhx390 := hst386.size
            replace hN263 : Nst shI64 2 (fun x : List Int => x) w237.heap.size w256.heap.size w384 (([] : List ((List Int) × Value))) := by first | exact hN263.stpF flat_shI64 hst386 ho375 rfl | exact hN263.stp hst386 (by intro q hq; have hq0 := ho375.lt q hq; omega)
            replace ho316 : Own shI64 2 w256.heap.size w256.heap.size w315.heap.size w384 v314 ([x74, x90]) := by first | exact ho316.stp hst386 (by intro q hq; have hq0 := ho375.lt q hq; omega) | exact ho316.stpF flat_shI64 hst386 (ho316.ne ho375 rfl)
            replace ho366 : Own shRowN 41 w315.heap.size w315.heap.size w365.heap.size w384 v364 ([(([x74, x90] : List Int), (v314 : Value))]) := by first | exact ho366.stp hst386 (by intro q hq; have hq0 := ho375.lt q hq; omega) | exact ho366.stpF flat_shRowN hst386 (fun q hq => hsp382 q hq)
            replace hN372 : Nst shI64 2 (fun x : List Int => x) w256.heap.size w365.heap.size w384 ([(([x74, x90] : List Int), (v314 : Value))]) := by first | exact hN372.stpF flat_shI64 hst386 ho375 rfl | exact hN372.stp hst386 (by intro q hq; have hq0 := ho375.lt q hq; omega)
            have hsp391 : ∀ q, Value.ownBlock v383 = some q → Value.ownBlock v ≠ some q := by intro q hq hb; have hq0 := hf106.lt q hb; rcases hob387 with h | h; (rw [h] at hq; first | (have hq1 := ho375.lt q hq; omega) | exact hsp381 q hq hb); (rw [h] at hq; cases hq; omega)
            have hsp392 : ∀ q, Value.ownBlock v383 = some q → Value.ownBlock v364 ≠ some q := by intro q hq hb; have hq0 := ho366.lt q hb; rcases hob387 with h | h; (rw [h] at hq; first | (have hq1 := ho375.lt q hq; omega) | exact hsp382 q hq hb); (rw [h] at hq; cases hq; omega)
            refine ⟨hs389, ?_⟩
            refine dr_one (i := 13) (by kernel_rfl) ?_
            refine po_eff ha388 rfl rfl rfl rfl (op_append (ts := #[]) (s := shRowN) ha388 rfl Try.underlying23 ti41 rfl pos_shRowN rfl rfl ho385 (hr253.ext pos_shRowN hs389) (by omega) (by omega) (by first | omega | (simp; omega)) (by first | omega | (simp; omega)) (.inl flat_shRowN)) ?_
            rintro v393 w394 ⟨ho395, hst396, hob397⟩ a398 ha398; clear ha388 a388
            have hs399 := hs389.stp hst396 (by intro q hq; have hq0 := ho385.lt q hq; omega)
            have hx400 := hx390.stp hst396 (by intro q hq; have hq0 := ho385.lt q hq; omega)
            have hzhx400 := hst396.size
            replace hN263 : Nst shI64 2 (fun x : List Int => x) w237.heap.size w256.heap.size w394 (([] : List ((List Int) × Value))) := by first | exact hN263.stpF flat_shI64 hst396 ho385 rfl | exact hN263.stp hst396 (by intro q hq; have hq0 := ho385.lt q hq; omega)
            replace ho316 : Own shI64 2 w256.heap.size w256.heap.size w315.heap.size w394 v314 ([x74, x90]) := by first | exact ho316.stp hst396 (by intro q hq; have hq0 := ho385.lt q hq; omega) | exact ho316.stpF flat_shI64 hst396 (ho316.ne ho385 rfl)
            replace ho366 : Own shRowN 41 w315.heap.size w315.heap.size w365.heap.size w394 v364 ([(([x74, x90] : List Int), (v314 : Value))]) := by first | exact ho366.stp hst396 (by intro q hq; have hq0 := ho385.lt q hq; omega) | exact ho366.stpF flat_shRowN hst396 (fun q hq => hsp392 q hq)
            replace hN372 : Nst shI64 2 (fun x : List Int => x) w256.heap.size w365.heap.size w394 ([(([x74, x90] : List Int), (v314 : Value))]) := by first | exact hN372.stpF flat_shI64 hst396 ho385 rfl | exact hN372.stp hst396 (by intro q hq; have hq0 := ho385.lt q hq; omega)
            have hsp401 : ∀ q, Value.ownBlock v393 = some q → Value.ownBlock v ≠ some q := by intro q hq hb; have hq0 := hf106.lt q hb; rcases hob397 with h | h; (rw [h] at hq; first | (have hq1 := ho385.lt q hq; omega) | exact hsp391 q hq hb); (rw [h] at hq; cases hq; omega)
            have hsp402 : ∀ q, Value.ownBlock v393 = some q → Value.ownBlock v364 ≠ some q := by intro q hq hb; have hq0 := ho366.lt q hb; rcases hob397 with h | h; (rw [h] at hq; first | (have hq1 := ho385.lt q hq; omega) | exact hsp392 q hq hb); (rw [h] at hq; cases hq; omega)
            refine ⟨hs399, ?_⟩
            refine dr_val (i := 14) ha398 rfl (by kernel_rfl) (by kernel_rfl) (by kernel_rfl) rfl rfl rfl hs399 (fun w' hw' => op_assign ha398 rfl rfl) ?_
            intro a403 ha403; clear ha398 a398
            refine dr_end (by kernel_rfl) ?_
            replace hf105 := hf105.ext hs399
            replace hf106 := hf106.ext hs399
            replace hf107 := hf107.ext hs399
            replace hn126 := hn126.ext hs399
            replace hc122 := hc122.ext hs399
            replace hc133 := hc133.ext hs399
            replace hr245 := hr245.ext pos_shRowN hs399
            replace hr253 := hr253.ext pos_shRowN hs399
            refine block_n ?_
            refine then_n ?_
            refine wp_region_lit ?_
            refine wl_val ha403 rfl rfl rfl (op_move ha403 rfl rfl) ?_
            intro a404 ha404; clear ha403 a403
            refine wl_val ha404 rfl rfl rfl ((op_add ha404 rfl rfl rfl).int (IntWalk.i64_in _ (by omega))) ?_
            intro a405 ha405; clear ha404 a404
            refine wl_val ha405 rfl rfl rfl (op_assign ha405 rfl rfl) ?_
            intro a406 ha406; clear ha405 a405
            refine wpList_nil ?_
            refine round_end (x := (i, v, zs)) ((i + 1), v393, ((zs.take k ++ [(([x74, x90] : List Int), (v314 : Value))]) ++ zs.drop k)) ?_ ?_
            ·
             refine ⟨(Sl.cons_ ha406 rfl rfl (Sl.cons_ ha406 rfl rfl (Sl.cons_ ha406 rfl rfl (Sl.cons_ ha406 rfl rfl (Sl.cons_ ha406 rfl (int_eq (by omega)) (Sl.nil_ ha406)))))), hx400, hf105, (ho395.fin (by omega) (by omega) (by omega)), (by exact ((hf107.app hN372 (by omega) (by omega) (by omega)).perm (ins_perm _ _ _)).fin (by omega) (by omega)), (by omega), (by omega), (by first | omega | (simp; omega)), (by have hic := insG_front (n := x90) hU hk2 (.inr ⟨_, map_at hx118, (by show ¬ rowC 0 x118.1 < _; omega), (by show ¬ rowC 0 x118.1 = _; omega)⟩); rw [drop_cons hx62, grGo, rowC_eq hx74, rowC_eq hx90, hic] at hF; rw [← hF]; congr 1; simp), (by have hic := insG_front (n := x90) hU hk2 (.inr ⟨_, map_at hx118, (by show ¬ rowC 0 x118.1 < _; omega), (by show ¬ rowC 0 x118.1 = _; omega)⟩); have h9 := insG_up (k := x74) (n := x90) hU; rw [hic] at h9; simpa using h9), (by have hic := insG_front (n := x90) hU hk2 (.inr ⟨_, map_at hx118, (by show ¬ rowC 0 x118.1 < _; omega), (by show ¬ rowC 0 x118.1 = _; omega)⟩); have h9 := grI_ins (k := x74) (n := x90) hvbx74 hvbx90 hG; rw [hic] at h9; simpa using h9)⟩
            ·show (t.2.length - ((i + 1)) : Nat) < t.2.length - i; omega
         ·
          refine po_eff ha254 rfl rfl rfl rfl (op_buildSlice (s := shI64) (xs := [x74, x90]) (cs := [.int .i64 x74, .int .i64 x90]) (vs := [(0, .int .i64 x74), (1, .int .i64 x90)]) (S := fun _ => False) (le := w237.heap.size) ha254 rfl pos_shI64 Try.underlying41 ti2 rfl rfl (by decide) (by kernel_rfl) ⟨mk_shI64 x74 (by first | assumption | omega | (simp; omega)), mk_shI64 x90 (by first | assumption | omega | (simp; omega)), rfl⟩ (fun _ h => h.elim)) ?_
          rintro v407 w408 ⟨ho409, he410, hob411⟩ a412 ha412; clear ha254 a254
          have hs413 := hs240.trans' he410
          have hx414 := hx239.trans' he410
          have hzhx414 := he410.size
          refine ⟨hs413, ?_⟩
          refine dr_two (i := 0) (j := 8) (by kernel_rfl) ?_ ?_
          ·
           refine po_eff ha412 rfl rfl rfl rfl (op_buildSlice (s := shRowN) (xs := ([] : List ((List Int) × Value))) (cs := []) (vs := []) (S := fun _ => False) (le := w408.heap.size) ha412 rfl pos_shRowN Try.underlying23 ti41 rfl rfl (by decide) (by kernel_rfl) rfl (fun _ h => h.elim)) ?_
           rintro v415 w416 ⟨ho417, he418, hob419⟩ a420 ha420; clear ha412 a412
           have hs421 := hs413.trans' he418
           have hx422 := hx414.trans' he418
           have hzhx422 := he418.size
           replace ho409 := ho409.ext he418
           refine ⟨hs421, ?_⟩
           have hN423 : Nst shI64 2 (fun x : List Int => x) w408.heap.size w416.heap.size w416 (([] : List ((List Int) × Value))) := Nst.nil _ _ _ _ _ _
           refine dr_two (i := 4) (j := 8) (by kernel_rfl) ?_ ?_
           ·
            refine po_eff ha420 rfl rfl rfl rfl (op_append (ts := #[]) (s := shRowN) ha420 rfl Try.underlying23 ti41 rfl pos_shRowN rfl rfl ho417 (hr245.ext pos_shRowN hs421) (by omega) (by omega) (by first | omega | (simp; omega)) (by first | omega | (simp; omega)) (.inl flat_shRowN)) ?_
            rintro v424 w425 ⟨ho426, hst427, hob428⟩ a429 ha429; clear ha420 a420
            replace ho426 := ho426.cast (List.nil_append _)
            have hs430 := hs421.stp hst427 (by intro q hq; have hq0 := ho417.lt q hq; omega)
            have hx431 := hx422.stp hst427 (by intro q hq; have hq0 := ho417.lt q hq; omega)
            have hzhx431 := hst427.size
            replace ho409 := ho409.stp hst427 (by intro q hq; have hq0 := ho417.lt q hq; omega)
            replace hN423 : Nst shI64 2 (fun x : List Int => x) w408.heap.size w416.heap.size w425 (([] : List ((List Int) × Value))) := by first | exact hN423.stpF flat_shI64 hst427 ho417 rfl | exact hN423.stp hst427 (by intro q hq; have hq0 := ho417.lt q hq; omega)
            have hsp432 : ∀ q, Value.ownBlock v424 = some q → Value.ownBlock v ≠ some q := by intro q hq hb; have hq0 := hf106.lt q hb; rcases hob428 with h | h; (rw [h] at hq; first | (have hq1 := ho417.lt q hq; omega)); (rw [h] at hq; cases hq; omega)
            refine ⟨hs430, ?_⟩
            refine dr_one (i := 8) (by kernel_rfl) ?_
            refine po_eff ha429 rfl rfl rfl rfl (op_buildSlice (s := shRowN) (xs := [(([x74, x90] : List Int), (v407 : Value))]) (cs := [v407]) (vs := [(0, v407)]) (S := fun _ => False) (le := w425.heap.size) ha429 rfl pos_shRowN Try.underlying23 ti41 rfl rfl (by decide) ((fill_one (off := 0) ho409.cells1 (by kernel_rfl) (by kernel_rfl)).trans (by kernel_rfl)) (Els.single (mk_shRowN ((([x74, x90] : List Int), (v407 : Value))) ho409.one)) (fun _ h => h.elim)) ?_
            rintro v433 w434 ⟨ho435, he436, hob437⟩ a438 ha438; clear ha429 a429
            have hs439 := hs430.trans' he436
            have hx440 := hx431.trans' he436
            have hzhx440 := he436.size
            replace ho409 := ho409.ext he436
            replace hN423 := hN423.ext he436
            replace ho426 := ho426.ext he436
            refine ⟨hs439, ?_⟩
            have hN441 : Nst shI64 2 (fun x : List Int => x) w237.heap.size w434.heap.size w434 ([(([x74, x90] : List Int), (v407 : Value))]) := Nst.one (ho409.fin (by omega) (by omega) (by omega))
            refine dr_one (i := 9) (by kernel_rfl) ?_
            refine po_eff ha438 rfl rfl rfl rfl (op_append (ts := #[]) (s := shRowN) ha438 rfl Try.underlying23 ti41 rfl pos_shRowN rfl rfl ho426 (ho435.rds pos_shRowN) (by omega) (by omega) (by first | omega | (simp; omega)) (by first | omega | (simp; omega)) (.inl flat_shRowN)) ?_
            rintro v442 w443 ⟨ho444, hst445, hob446⟩ a447 ha447; clear ha438 a438
            have hs448 := hs439.stp hst445 (by intro q hq; have hq0 := ho426.lt q hq; omega)
            have hx449 := hx440.stp hst445 (by intro q hq; have hq0 := ho426.lt q hq; omega)
            have hzhx449 := hst445.size
            replace ho409 := ho409.stp hst445 (by intro q hq; have hq0 := ho426.lt q hq; omega)
            replace hN423 : Nst shI64 2 (fun x : List Int => x) w408.heap.size w416.heap.size w443 (([] : List ((List Int) × Value))) := by first | exact hN423.stpF flat_shI64 hst445 ho426 rfl | exact hN423.stp hst445 (by intro q hq; have hq0 := ho426.lt q hq; omega)
            replace ho435 := ho435.stp hst445 (by intro q hq; have hq0 := ho426.lt q hq; omega)
            replace hN441 : Nst shI64 2 (fun x : List Int => x) w237.heap.size w434.heap.size w443 ([(([x74, x90] : List Int), (v407 : Value))]) := by first | exact hN441.stpF flat_shI64 hst445 ho426 rfl | exact hN441.stp hst445 (by intro q hq; have hq0 := ho426.lt q hq; omega)
            have hsp450 : ∀ q, Value.ownBlock v442 = some q → Value.ownBlock v ≠ some q := by intro q hq hb; have hq0 := hf106.lt q hb; rcases hob446 with h | h; (rw [h] at hq; first | (have hq1 := ho426.lt q hq; omega) | exact hsp432 q hq hb); (rw [h] at hq; cases hq; omega)
            have hsp451 : ∀ q, Value.ownBlock v442 = some q → Value.ownBlock v433 ≠ some q := by intro q hq hb; have hq0 := ho435.lt q hb; rcases hob446 with h | h; (rw [h] at hq; first | (have hq1 := ho426.lt q hq; omega)); (rw [h] at hq; cases hq; omega)
            refine ⟨hs448, ?_⟩
            refine dr_one (i := 13) (by kernel_rfl) ?_
            refine po_eff ha447 rfl rfl rfl rfl (op_append (ts := #[]) (s := shRowN) ha447 rfl Try.underlying23 ti41 rfl pos_shRowN rfl rfl ho444 (hr253.ext pos_shRowN hs448) (by omega) (by omega) (by first | omega | (simp; omega)) (by first | omega | (simp; omega)) (.inl flat_shRowN)) ?_
            rintro v452 w453 ⟨ho454, hst455, hob456⟩ a457 ha457; clear ha447 a447
            have hs458 := hs448.stp hst455 (by intro q hq; have hq0 := ho444.lt q hq; omega)
            have hx459 := hx449.stp hst455 (by intro q hq; have hq0 := ho444.lt q hq; omega)
            have hzhx459 := hst455.size
            replace ho409 := ho409.stp hst455 (by intro q hq; have hq0 := ho444.lt q hq; omega)
            replace hN423 : Nst shI64 2 (fun x : List Int => x) w408.heap.size w416.heap.size w453 (([] : List ((List Int) × Value))) := by first | exact hN423.stpF flat_shI64 hst455 ho444 rfl | exact hN423.stp hst455 (by intro q hq; have hq0 := ho444.lt q hq; omega)
            replace ho435 : Own shRowN 41 w425.heap.size w425.heap.size w434.heap.size w453 v433 ([(([x74, x90] : List Int), (v407 : Value))]) := by first | exact ho435.stp hst455 (by intro q hq; have hq0 := ho444.lt q hq; omega) | exact ho435.stpF flat_shRowN hst455 (fun q hq => hsp451 q hq)
            replace hN441 : Nst shI64 2 (fun x : List Int => x) w237.heap.size w434.heap.size w453 ([(([x74, x90] : List Int), (v407 : Value))]) := by first | exact hN441.stpF flat_shI64 hst455 ho444 rfl | exact hN441.stp hst455 (by intro q hq; have hq0 := ho444.lt q hq; omega)
            have hsp460 : ∀ q, Value.ownBlock v452 = some q → Value.ownBlock v ≠ some q := by intro q hq hb; have hq0 := hf106.lt q hb; rcases hob456 with h | h; (rw [h] at hq; first | (have hq1 := ho444.lt q hq; omega) | exact hsp450 q hq hb); (rw [h] at hq; cases hq; omega)
            have hsp461 : ∀ q, Value.ownBlock v452 = some q → Value.ownBlock v433 ≠ some q := by intro q hq hb; have hq0 := ho435.lt q hb; rcases hob456 with h | h; (rw [h] at hq; first | (have hq1 := ho444.lt q hq; omega) | exact hsp451 q hq hb); (rw [h] at hq; cases hq; omega)
            refine ⟨hs458, ?_⟩
            refine dr_val (i := 14) ha457 rfl (by kernel_rfl) (by kernel_rfl) (by kernel_rfl) rfl rfl rfl hs458 (fun w' hw' => op_assign ha457 rfl rfl) ?_
            intro a462 ha462; clear ha457 a457
            refine dr_end (by kernel_rfl) ?_
            replace hf105 := hf105.ext hs458
            replace hf106 := hf106.ext hs458
            replace hf107 := hf107.ext hs458
            replace hn126 := hn126.ext hs458
            replace hc122 := hc122.ext hs458
            replace hc133 := hc133.ext hs458
            replace hr245 := hr245.ext pos_shRowN hs458
            replace hr253 := hr253.ext pos_shRowN hs458
            refine block_n ?_
            refine then_n ?_
            refine wp_region_lit ?_
            refine wl_val ha462 rfl rfl rfl (op_move ha462 rfl rfl) ?_
            intro a463 ha463; clear ha462 a462
            refine wl_val ha463 rfl rfl rfl ((op_add ha463 rfl rfl rfl).int (IntWalk.i64_in _ (by omega))) ?_
            intro a464 ha464; clear ha463 a463
            refine wl_val ha464 rfl rfl rfl (op_assign ha464 rfl rfl) ?_
            intro a465 ha465; clear ha464 a464
            refine wpList_nil ?_
            refine round_end (x := (i, v, zs)) ((i + 1), v452, ((zs.take k ++ [(([x74, x90] : List Int), (v407 : Value))]) ++ zs.drop k)) ?_ ?_
            ·
             refine ⟨(Sl.cons_ ha465 rfl rfl (Sl.cons_ ha465 rfl rfl (Sl.cons_ ha465 rfl rfl (Sl.cons_ ha465 rfl rfl (Sl.cons_ ha465 rfl (int_eq (by omega)) (Sl.nil_ ha465)))))), hx459, hf105, (ho454.fin (by omega) (by omega) (by omega)), (by exact ((hf107.app hN441 (by omega) (by omega) (by omega)).perm (ins_perm _ _ _)).fin (by omega) (by omega)), (by omega), (by omega), (by first | omega | (simp; omega)), (by have hic := insG_front (n := x90) hU hk2 (.inr ⟨_, map_at hx118, (by show ¬ rowC 0 x118.1 < _; omega), (by show ¬ rowC 0 x118.1 = _; omega)⟩); rw [drop_cons hx62, grGo, rowC_eq hx74, rowC_eq hx90, hic] at hF; rw [← hF]; congr 1; simp), (by have hic := insG_front (n := x90) hU hk2 (.inr ⟨_, map_at hx118, (by show ¬ rowC 0 x118.1 < _; omega), (by show ¬ rowC 0 x118.1 = _; omega)⟩); have h9 := insG_up (k := x74) (n := x90) hU; rw [hic] at h9; simpa using h9), (by have hic := insG_front (n := x90) hU hk2 (.inr ⟨_, map_at hx118, (by show ¬ rowC 0 x118.1 < _; omega), (by show ¬ rowC 0 x118.1 = _; omega)⟩); have h9 := grI_ins (k := x74) (n := x90) hvbx74 hvbx90 hG; rw [hic] at h9; simpa using h9)⟩
            ·show (t.2.length - ((i + 1)) : Nat) < t.2.length - i; omega
           ·
            refine po_eff ha420 rfl rfl rfl rfl (op_buildSlice (s := shRowN) (xs := [(([x74, x90] : List Int), (v407 : Value))]) (cs := [v407]) (vs := [(0, v407)]) (S := fun _ => False) (le := w416.heap.size) ha420 rfl pos_shRowN Try.underlying23 ti41 rfl rfl (by decide) ((fill_one (off := 0) ho409.cells1 (by kernel_rfl) (by kernel_rfl)).trans (by kernel_rfl)) (Els.single (mk_shRowN ((([x74, x90] : List Int), (v407 : Value))) ho409.one)) (fun _ h => h.elim)) ?_
            rintro v466 w467 ⟨ho468, he469, hob470⟩ a471 ha471; clear ha420 a420
            have hs472 := hs421.trans' he469
            have hx473 := hx422.trans' he469
            have hzhx473 := he469.size
            replace ho409 := ho409.ext he469
            replace ho417 := ho417.ext he469
            replace hN423 := hN423.ext he469
            refine ⟨hs472, ?_⟩
            have hN474 : Nst shI64 2 (fun x : List Int => x) w237.heap.size w467.heap.size w467 ([(([x74, x90] : List Int), (v407 : Value))]) := Nst.one (ho409.fin (by omega) (by omega) (by omega))
            refine dr_one (i := 4) (by kernel_rfl) ?_
            refine po_eff ha471 rfl rfl rfl rfl (op_append (ts := #[]) (s := shRowN) ha471 rfl Try.underlying23 ti41 rfl pos_shRowN rfl rfl ho417 (hr245.ext pos_shRowN hs472) (by omega) (by omega) (by first | omega | (simp; omega)) (by first | omega | (simp; omega)) (.inl flat_shRowN)) ?_
            rintro v475 w476 ⟨ho477, hst478, hob479⟩ a480 ha480; clear ha471 a471
            replace ho477 := ho477.cast (List.nil_append _)
            have hs481 := hs472.stp hst478 (by intro q hq; have hq0 := ho417.lt q hq; omega)
            have hx482 := hx473.stp hst478 (by intro q hq; have hq0 := ho417.lt q hq; omega)
            have hzhx482 := hst478.size
            replace ho409 := ho409.stp hst478 (by intro q hq; have hq0 := ho417.lt q hq; omega)
            replace hN423 : Nst shI64 2 (fun x : List Int => x) w408.heap.size w416.heap.size w476 (([] : List ((List Int) × Value))) := by first | exact hN423.stpF flat_shI64 hst478 ho417 rfl | exact hN423.stp hst478 (by intro q hq; have hq0 := ho417.lt q hq; omega)
            replace ho468 := ho468.stp hst478 (by intro q hq; have hq0 := ho417.lt q hq; omega)
            replace hN474 : Nst shI64 2 (fun x : List Int => x) w237.heap.size w467.heap.size w476 ([(([x74, x90] : List Int), (v407 : Value))]) := by first | exact hN474.stpF flat_shI64 hst478 ho417 rfl | exact hN474.stp hst478 (by intro q hq; have hq0 := ho417.lt q hq; omega)
            have hsp483 : ∀ q, Value.ownBlock v475 = some q → Value.ownBlock v ≠ some q := by intro q hq hb; have hq0 := hf106.lt q hb; rcases hob479 with h | h; (rw [h] at hq; first | (have hq1 := ho417.lt q hq; omega)); (rw [h] at hq; cases hq; omega)
            have hsp484 : ∀ q, Value.ownBlock v475 = some q → Value.ownBlock v466 ≠ some q := by intro q hq hb; have hq0 := ho468.lt q hb; rcases hob479 with h | h; (rw [h] at hq; first | (have hq1 := ho417.lt q hq; omega)); (rw [h] at hq; cases hq; omega)
            refine ⟨hs481, ?_⟩
            refine dr_one (i := 9) (by kernel_rfl) ?_
            refine po_eff ha480 rfl rfl rfl rfl (op_append (ts := #[]) (s := shRowN) ha480 rfl Try.underlying23 ti41 rfl pos_shRowN rfl rfl ho477 (ho468.rds pos_shRowN) (by omega) (by omega) (by first | omega | (simp; omega)) (by first | omega | (simp; omega)) (.inl flat_shRowN)) ?_
            rintro v485 w486 ⟨ho487, hst488, hob489⟩ a490 ha490; clear ha480 a480
            have hs491 := hs481.stp hst488 (by intro q hq; have hq0 := ho477.lt q hq; omega)
            have hx492 := hx482.stp hst488 (by intro q hq; have hq0 := ho477.lt q hq; omega)
            have hzhx492 := hst488.size
            replace ho409 := ho409.stp hst488 (by intro q hq; have hq0 := ho477.lt q hq; omega)
            replace hN423 : Nst shI64 2 (fun x : List Int => x) w408.heap.size w416.heap.size w486 (([] : List ((List Int) × Value))) := by first | exact hN423.stpF flat_shI64 hst488 ho477 rfl | exact hN423.stp hst488 (by intro q hq; have hq0 := ho477.lt q hq; omega)
            replace ho468 : Own shRowN 41 w416.heap.size w416.heap.size w467.heap.size w486 v466 ([(([x74, x90] : List Int), (v407 : Value))]) := by first | exact ho468.stp hst488 (by intro q hq; have hq0 := ho477.lt q hq; omega) | exact ho468.stpF flat_shRowN hst488 (fun q hq => hsp484 q hq)
            replace hN474 : Nst shI64 2 (fun x : List Int => x) w237.heap.size w467.heap.size w486 ([(([x74, x90] : List Int), (v407 : Value))]) := by first | exact hN474.stpF flat_shI64 hst488 ho477 rfl | exact hN474.stp hst488 (by intro q hq; have hq0 := ho477.lt q hq; omega)
            have hsp493 : ∀ q, Value.ownBlock v485 = some q → Value.ownBlock v ≠ some q := by intro q hq hb; have hq0 := hf106.lt q hb; rcases hob489 with h | h; (rw [h] at hq; first | (have hq1 := ho477.lt q hq; omega) | exact hsp483 q hq hb); (rw [h] at hq; cases hq; omega)
            have hsp494 : ∀ q, Value.ownBlock v485 = some q → Value.ownBlock v466 ≠ some q := by intro q hq hb; have hq0 := ho468.lt q hb; rcases hob489 with h | h; (rw [h] at hq; first | (have hq1 := ho477.lt q hq; omega) | exact hsp484 q hq hb); (rw [h] at hq; cases hq; omega)
            refine ⟨hs491, ?_⟩
            refine dr_one (i := 13) (by kernel_rfl) ?_
            refine po_eff ha490 rfl rfl rfl rfl (op_append (ts := #[]) (s := shRowN) ha490 rfl Try.underlying23 ti41 rfl pos_shRowN rfl rfl ho487 (hr253.ext pos_shRowN hs491) (by omega) (by omega) (by first | omega | (simp; omega)) (by first | omega | (simp; omega)) (.inl flat_shRowN)) ?_
            rintro v495 w496 ⟨ho497, hst498, hob499⟩ a500 ha500; clear ha490 a490
            have hs501 := hs491.stp hst498 (by intro q hq; have hq0 := ho487.lt q hq; omega)
            have hx502 := hx492.stp hst498 (by intro q hq; have hq0 := ho487.lt q hq; omega)
            have hzhx502 := hst498.size
            replace ho409 := ho409.stp hst498 (by intro q hq; have hq0 := ho487.lt q hq; omega)
            replace hN423 : Nst shI64 2 (fun x : List Int => x) w408.heap.size w416.heap.size w496 (([] : List ((List Int) × Value))) := by first | exact hN423.stpF flat_shI64 hst498 ho487 rfl | exact hN423.stp hst498 (by intro q hq; have hq0 := ho487.lt q hq; omega)
            replace ho468 : Own shRowN 41 w416.heap.size w416.heap.size w467.heap.size w496 v466 ([(([x74, x90] : List Int), (v407 : Value))]) := by first | exact ho468.stp hst498 (by intro q hq; have hq0 := ho487.lt q hq; omega) | exact ho468.stpF flat_shRowN hst498 (fun q hq => hsp494 q hq)
            replace hN474 : Nst shI64 2 (fun x : List Int => x) w237.heap.size w467.heap.size w496 ([(([x74, x90] : List Int), (v407 : Value))]) := by first | exact hN474.stpF flat_shI64 hst498 ho487 rfl | exact hN474.stp hst498 (by intro q hq; have hq0 := ho487.lt q hq; omega)
            have hsp503 : ∀ q, Value.ownBlock v495 = some q → Value.ownBlock v ≠ some q := by intro q hq hb; have hq0 := hf106.lt q hb; rcases hob499 with h | h; (rw [h] at hq; first | (have hq1 := ho487.lt q hq; omega) | exact hsp493 q hq hb); (rw [h] at hq; cases hq; omega)
            have hsp504 : ∀ q, Value.ownBlock v495 = some q → Value.ownBlock v466 ≠ some q := by intro q hq hb; have hq0 := ho468.lt q hb; rcases hob499 with h | h; (rw [h] at hq; first | (have hq1 := ho487.lt q hq; omega) | exact hsp494 q hq hb); (rw [h] at hq; cases hq; omega)
            refine ⟨hs501, ?_⟩
            refine dr_val (i := 14) ha500 rfl (by kernel_rfl) (by kernel_rfl) (by kernel_rfl) rfl rfl rfl hs501 (fun w' hw' => op_assign ha500 rfl rfl) ?_
            intro a505 ha505; clear ha500 a500
            refine dr_end (by kernel_rfl) ?_
            replace hf105 := hf105.ext hs501
            replace hf106 := hf106.ext hs501
            replace hf107 := hf107.ext hs501
            replace hn126 := hn126.ext hs501
            replace hc122 := hc122.ext hs501
            replace hc133 := hc133.ext hs501
            replace hr245 := hr245.ext pos_shRowN hs501
            replace hr253 := hr253.ext pos_shRowN hs501
            refine block_n ?_
            refine then_n ?_
            refine wp_region_lit ?_
            refine wl_val ha505 rfl rfl rfl (op_move ha505 rfl rfl) ?_
            intro a506 ha506; clear ha505 a505
            refine wl_val ha506 rfl rfl rfl ((op_add ha506 rfl rfl rfl).int (IntWalk.i64_in _ (by omega))) ?_
            intro a507 ha507; clear ha506 a506
            refine wl_val ha507 rfl rfl rfl (op_assign ha507 rfl rfl) ?_
            intro a508 ha508; clear ha507 a507
            refine wpList_nil ?_
            refine round_end (x := (i, v, zs)) ((i + 1), v495, ((zs.take k ++ [(([x74, x90] : List Int), (v407 : Value))]) ++ zs.drop k)) ?_ ?_
            ·
             refine ⟨(Sl.cons_ ha508 rfl rfl (Sl.cons_ ha508 rfl rfl (Sl.cons_ ha508 rfl rfl (Sl.cons_ ha508 rfl rfl (Sl.cons_ ha508 rfl (int_eq (by omega)) (Sl.nil_ ha508)))))), hx502, hf105, (ho497.fin (by omega) (by omega) (by omega)), (by exact ((hf107.app hN474 (by omega) (by omega) (by omega)).perm (ins_perm _ _ _)).fin (by omega) (by omega)), (by omega), (by omega), (by first | omega | (simp; omega)), (by have hic := insG_front (n := x90) hU hk2 (.inr ⟨_, map_at hx118, (by show ¬ rowC 0 x118.1 < _; omega), (by show ¬ rowC 0 x118.1 = _; omega)⟩); rw [drop_cons hx62, grGo, rowC_eq hx74, rowC_eq hx90, hic] at hF; rw [← hF]; congr 1; simp), (by have hic := insG_front (n := x90) hU hk2 (.inr ⟨_, map_at hx118, (by show ¬ rowC 0 x118.1 < _; omega), (by show ¬ rowC 0 x118.1 = _; omega)⟩); have h9 := insG_up (k := x74) (n := x90) hU; rw [hic] at h9; simpa using h9), (by have hic := insG_front (n := x90) hU hk2 (.inr ⟨_, map_at hx118, (by show ¬ rowC 0 x118.1 < _; omega), (by show ¬ rowC 0 x118.1 = _; omega)⟩); have h9 := grI_ins (k := x74) (n := x90) hvbx74 hvbx90 hG; rw [hic] at h9; simpa using h9)⟩
            ·show (t.2.length - ((i + 1)) : Nat) < t.2.length - i; omega
          ·
           refine po_eff ha412 rfl rfl rfl rfl (op_buildSlice (s := shRowN) (xs := [(([x74, x90] : List Int), (v407 : Value))]) (cs := [v407]) (vs := [(0, v407)]) (S := fun _ => False) (le := w408.heap.size) ha412 rfl pos_shRowN Try.underlying23 ti41 rfl rfl (by decide) ((fill_one (off := 0) ho409.cells1 (by kernel_rfl) (by kernel_rfl)).trans (by kernel_rfl)) (Els.single (mk_shRowN ((([x74, x90] : List Int), (v407 : Value))) ho409.one)) (fun _ h => h.elim)) ?_
           rintro v509 w510 ⟨ho511, he512, hob513⟩ a514 ha514; clear ha412 a412
           have hs515 := hs413.trans' he512
           have hx516 := hx414.trans' he512
           have hzhx516 := he512.size
           replace ho409 := ho409.ext he512
           refine ⟨hs515, ?_⟩
           have hN517 : Nst shI64 2 (fun x : List Int => x) w237.heap.size w510.heap.size w510 ([(([x74, x90] : List Int), (v407 : Value))]) := Nst.one (ho409.fin (by omega) (by omega) (by omega))
           refine dr_one (i := 0) (by kernel_rfl) ?_
           refine po_eff ha514 rfl rfl rfl rfl (op_buildSlice (s := shRowN) (xs := ([] : List ((List Int) × Value))) (cs := []) (vs := []) (S := fun _ => False) (le := w510.heap.size) ha514 rfl pos_shRowN Try.underlying23 ti41 rfl rfl (by decide) (by kernel_rfl) rfl (fun _ h => h.elim)) ?_
           rintro v518 w519 ⟨ho520, he521, hob522⟩ a523 ha523; clear ha514 a514
           have hs524 := hs515.trans' he521
           have hx525 := hx516.trans' he521
           have hzhx525 := he521.size
           replace ho409 := ho409.ext he521
           replace ho511 := ho511.ext he521
           replace hN517 := hN517.ext he521
           refine ⟨hs524, ?_⟩
           have hN526 : Nst shI64 2 (fun x : List Int => x) w510.heap.size w519.heap.size w519 (([] : List ((List Int) × Value))) := Nst.nil _ _ _ _ _ _
           refine dr_one (i := 4) (by kernel_rfl) ?_
           refine po_eff ha523 rfl rfl rfl rfl (op_append (ts := #[]) (s := shRowN) ha523 rfl Try.underlying23 ti41 rfl pos_shRowN rfl rfl ho520 (hr245.ext pos_shRowN hs524) (by omega) (by omega) (by first | omega | (simp; omega)) (by first | omega | (simp; omega)) (.inl flat_shRowN)) ?_
           rintro v527 w528 ⟨ho529, hst530, hob531⟩ a532 ha532; clear ha523 a523
           replace ho529 := ho529.cast (List.nil_append _)
           have hs533 := hs524.stp hst530 (by intro q hq; have hq0 := ho520.lt q hq; omega)
           have hx534 := hx525.stp hst530 (by intro q hq; have hq0 := ho520.lt q hq; omega)
           have hzhx534 := hst530.size
           replace ho409 := ho409.stp hst530 (by intro q hq; have hq0 := ho520.lt q hq; omega)
           replace ho511 := ho511.stp hst530 (by intro q hq; have hq0 := ho520.lt q hq; omega)
           replace hN517 := hN517.stp hst530 (by intro q hq; have hq0 := ho520.lt q hq; omega)
           replace hN526 : Nst shI64 2 (fun x : List Int => x) w510.heap.size w519.heap.size w528 (([] : List ((List Int) × Value))) := by first | exact hN526.stpF flat_shI64 hst530 ho520 rfl | exact hN526.stp hst530 (by intro q hq; have hq0 := ho520.lt q hq; omega)
           have hsp535 : ∀ q, Value.ownBlock v527 = some q → Value.ownBlock v ≠ some q := by intro q hq hb; have hq0 := hf106.lt q hb; rcases hob531 with h | h; (rw [h] at hq; first | (have hq1 := ho520.lt q hq; omega)); (rw [h] at hq; cases hq; omega)
           have hsp536 : ∀ q, Value.ownBlock v527 = some q → Value.ownBlock v509 ≠ some q := by intro q hq hb; have hq0 := ho511.lt q hb; rcases hob531 with h | h; (rw [h] at hq; first | (have hq1 := ho520.lt q hq; omega)); (rw [h] at hq; cases hq; omega)
           refine ⟨hs533, ?_⟩
           refine dr_one (i := 9) (by kernel_rfl) ?_
           refine po_eff ha532 rfl rfl rfl rfl (op_append (ts := #[]) (s := shRowN) ha532 rfl Try.underlying23 ti41 rfl pos_shRowN rfl rfl ho529 (ho511.rds pos_shRowN) (by omega) (by omega) (by first | omega | (simp; omega)) (by first | omega | (simp; omega)) (.inl flat_shRowN)) ?_
           rintro v537 w538 ⟨ho539, hst540, hob541⟩ a542 ha542; clear ha532 a532
           have hs543 := hs533.stp hst540 (by intro q hq; have hq0 := ho529.lt q hq; omega)
           have hx544 := hx534.stp hst540 (by intro q hq; have hq0 := ho529.lt q hq; omega)
           have hzhx544 := hst540.size
           replace ho409 := ho409.stp hst540 (by intro q hq; have hq0 := ho529.lt q hq; omega)
           replace ho511 := ho511.stp hst540 (by intro q hq; have hq0 := ho529.lt q hq; omega)
           replace hN517 := hN517.stp hst540 (by intro q hq; have hq0 := ho529.lt q hq; omega)
           replace hN526 : Nst shI64 2 (fun x : List Int => x) w510.heap.size w519.heap.size w538 (([] : List ((List Int) × Value))) := by first | exact hN526.stpF flat_shI64 hst540 ho529 rfl | exact hN526.stp hst540 (by intro q hq; have hq0 := ho529.lt q hq; omega)
           have hsp545 : ∀ q, Value.ownBlock v537 = some q → Value.ownBlock v ≠ some q := by intro q hq hb; have hq0 := hf106.lt q hb; rcases hob541 with h | h; (rw [h] at hq; first | (have hq1 := ho529.lt q hq; omega) | exact hsp535 q hq hb); (rw [h] at hq; cases hq; omega)
           have hsp546 : ∀ q, Value.ownBlock v537 = some q → Value.ownBlock v509 ≠ some q := by intro q hq hb; have hq0 := ho511.lt q hb; rcases hob541 with h | h; (rw [h] at hq; first | (have hq1 := ho529.lt q hq; omega) | exact hsp536 q hq hb); (rw [h] at hq; cases hq; omega)
           refine ⟨hs543, ?_⟩
           refine dr_one (i := 13) (by kernel_rfl) ?_
           refine po_eff ha542 rfl rfl rfl rfl (op_append (ts := #[]) (s := shRowN) ha542 rfl Try.underlying23 ti41 rfl pos_shRowN rfl rfl ho539 (hr253.ext pos_shRowN hs543) (by omega) (by omega) (by first | omega | (simp; omega)) (by first | omega | (simp; omega)) (.inl flat_shRowN)) ?_
           rintro v547 w548 ⟨ho549, hst550, hob551⟩ a552 ha552; clear ha542 a542
           have hs553 := hs543.stp hst550 (by intro q hq; have hq0 := ho539.lt q hq; omega)
           have hx554 := hx544.stp hst550 (by intro q hq; have hq0 := ho539.lt q hq; omega)
           have hzhx554 := hst550.size
           replace ho409 := ho409.stp hst550 (by intro q hq; have hq0 := ho539.lt q hq; omega)
           replace ho511 := ho511.stp hst550 (by intro q hq; have hq0 := ho539.lt q hq; omega)
           replace hN517 := hN517.stp hst550 (by intro q hq; have hq0 := ho539.lt q hq; omega)
           replace hN526 : Nst shI64 2 (fun x : List Int => x) w510.heap.size w519.heap.size w548 (([] : List ((List Int) × Value))) := by first | exact hN526.stpF flat_shI64 hst550 ho539 rfl | exact hN526.stp hst550 (by intro q hq; have hq0 := ho539.lt q hq; omega)
           have hsp555 : ∀ q, Value.ownBlock v547 = some q → Value.ownBlock v ≠ some q := by intro q hq hb; have hq0 := hf106.lt q hb; rcases hob551 with h | h; (rw [h] at hq; first | (have hq1 := ho539.lt q hq; omega) | exact hsp545 q hq hb); (rw [h] at hq; cases hq; omega)
           have hsp556 : ∀ q, Value.ownBlock v547 = some q → Value.ownBlock v509 ≠ some q := by intro q hq hb; have hq0 := ho511.lt q hb; rcases hob551 with h | h; (rw [h] at hq; first | (have hq1 := ho539.lt q hq; omega) | exact hsp546 q hq hb); (rw [h] at hq; cases hq; omega)
           refine ⟨hs553, ?_⟩
           refine dr_val (i := 14) ha552 rfl (by kernel_rfl) (by kernel_rfl) (by kernel_rfl) rfl rfl rfl hs553 (fun w' hw' => op_assign ha552 rfl rfl) ?_
           intro a557 ha557; clear ha552 a552
           refine dr_end (by kernel_rfl) ?_
           replace hf105 := hf105.ext hs553
           replace hf106 := hf106.ext hs553
           replace hf107 := hf107.ext hs553
           replace hn126 := hn126.ext hs553
           replace hc122 := hc122.ext hs553
           replace hc133 := hc133.ext hs553
           replace hr245 := hr245.ext pos_shRowN hs553
           replace hr253 := hr253.ext pos_shRowN hs553
           refine block_n ?_
           refine then_n ?_
           refine wp_region_lit ?_
           refine wl_val ha557 rfl rfl rfl (op_move ha557 rfl rfl) ?_
           intro a558 ha558; clear ha557 a557
           refine wl_val ha558 rfl rfl rfl ((op_add ha558 rfl rfl rfl).int (IntWalk.i64_in _ (by omega))) ?_
           intro a559 ha559; clear ha558 a558
           refine wl_val ha559 rfl rfl rfl (op_assign ha559 rfl rfl) ?_
           intro a560 ha560; clear ha559 a559
           refine wpList_nil ?_
           refine round_end (x := (i, v, zs)) ((i + 1), v547, ((zs.take k ++ [(([x74, x90] : List Int), (v407 : Value))]) ++ zs.drop k)) ?_ ?_
           ·
            refine ⟨(Sl.cons_ ha560 rfl rfl (Sl.cons_ ha560 rfl rfl (Sl.cons_ ha560 rfl rfl (Sl.cons_ ha560 rfl rfl (Sl.cons_ ha560 rfl (int_eq (by omega)) (Sl.nil_ ha560)))))), hx554, hf105, (ho549.fin (by omega) (by omega) (by omega)), (by exact ((hf107.app hN517 (by omega) (by omega) (by omega)).perm (ins_perm _ _ _)).fin (by omega) (by omega)), (by omega), (by omega), (by first | omega | (simp; omega)), (by have hic := insG_front (n := x90) hU hk2 (.inr ⟨_, map_at hx118, (by show ¬ rowC 0 x118.1 < _; omega), (by show ¬ rowC 0 x118.1 = _; omega)⟩); rw [drop_cons hx62, grGo, rowC_eq hx74, rowC_eq hx90, hic] at hF; rw [← hF]; congr 1; simp), (by have hic := insG_front (n := x90) hU hk2 (.inr ⟨_, map_at hx118, (by show ¬ rowC 0 x118.1 < _; omega), (by show ¬ rowC 0 x118.1 = _; omega)⟩); have h9 := insG_up (k := x74) (n := x90) hU; rw [hic] at h9; simpa using h9), (by have hic := insG_front (n := x90) hU hk2 (.inr ⟨_, map_at hx118, (by show ¬ rowC 0 x118.1 < _; omega), (by show ¬ rowC 0 x118.1 = _; omega)⟩); have h9 := grI_ins (k := x74) (n := x90) hvbx74 hvbx90 hG; rw [hic] at h9; simpa using h9)⟩
           ·show (t.2.length - ((i + 1)) : Nat) < t.2.length - i; omega
      ·
       rw [decide_eq_false c115] at ha114
       refine wl_skip ha114 rfl rfl rfl ?_
       intro a561 ha561; clear ha114 a114
       refine wl_skip ha561 rfl rfl rfl ?_
       intro a562 ha562; clear ha561 a561
       refine wl_skip ha562 rfl rfl rfl ?_
       intro a563 ha563; clear ha562 a562
       refine wl_skip ha563 rfl rfl rfl ?_
       intro a564 ha564; clear ha563 a563
       refine wl_skip ha564 rfl rfl rfl ?_
       intro a565 ha565; clear ha564 a564
       refine wl_skip ha565 rfl rfl rfl ?_
       intro a566 ha566; clear ha565 a565
       refine wl_skip ha566 rfl rfl rfl ?_
       intro a567 ha567; clear ha566 a566
       refine wl_skip ha567 rfl rfl rfl ?_
       intro a568 ha568; clear ha567 a567
       refine wl_val ha568 rfl rfl rfl (op_pick_f ha568 rfl rfl rfl) ?_
       intro a569 ha569; clear ha568 a568
       refine wpList_nil ?_
       refine then_n ?_
       refine cond_f ha569 rfl ?_
       refine wp_exit ?_
       refine then_e ?_
       refine then_e ?_
       refine block_hit ?_
       refine then_n ?_
       refine wp_seq ?_
       refine wp_region_lit ?_
       refine wl_val ha569 rfl rfl rfl (op_move ha569 rfl rfl) ?_
       intro a570 ha570; clear ha569 a569
       refine wl_val ha570 rfl rfl rfl (op_move ha570 rfl rfl) ?_
       intro a571 ha571; clear ha570 a570
       refine wl_val ha571 rfl rfl rfl (op_len_sl ha571 rfl Try.underlying23 rfl (hf106.rds pos_shRowN)) ?_
       intro a572 ha572; clear ha571 a571
       refine wl_val ha572 rfl rfl rfl (op_lss ha572 rfl rfl rfl) ?_
       intro a573 ha573; clear ha572 a572
       refine wl_val ha573 rfl rfl rfl (op_move ha573 rfl rfl) ?_
       intro a574 ha574; clear ha573 a573
       rw [decide_eq_false c115] at ha574
       refine wl_skip ha574 rfl rfl rfl ?_
       intro a575 ha575; clear ha574 a574
       refine wl_skip ha575 rfl rfl rfl ?_
       intro a576 ha576; clear ha575 a575
       refine wl_skip ha576 rfl rfl rfl ?_
       intro a577 ha577; clear ha576 a576
       refine wl_skip ha577 rfl rfl rfl ?_
       intro a578 ha578; clear ha577 a577
       refine wl_skip ha578 rfl rfl rfl ?_
       intro a579 ha579; clear ha578 a578
       refine wl_skip ha579 rfl rfl rfl ?_
       intro a580 ha580; clear ha579 a579
       refine wl_skip ha580 rfl rfl rfl ?_
       intro a581 ha581; clear ha580 a580
       refine wl_skip ha581 rfl rfl rfl ?_
       intro a582 ha582; clear ha581 a581
       refine wl_val ha582 rfl rfl rfl (op_pick_f ha582 rfl rfl rfl) ?_
       intro a583 ha583; clear ha582 a582
       refine wpList_nil ?_
       refine then_n ?_
       refine cond_f ha583 rfl ?_
       refine dr_enter Ext follows_mixed ?_
       intro w584 he585
       have hx586 := hx104.trans' he585
       have hzhx586 := he585.size
       replace hf105 := hf105.ext he585
       replace hf106 := hf106.ext he585
       replace hf107 := hf107.ext he585
       have hs587 : Ext w584 w584 := Ext.rfl' _
       refine dr_val (i := 1) ha583 rfl (by kernel_rfl) (by kernel_rfl) (by kernel_rfl) rfl rfl rfl hs587 (fun w' hw' => op_move ha583 rfl rfl) ?_
       intro a588 ha588; clear ha583 a583
       refine dr_val (i := 2) ha588 rfl (by kernel_rfl) (by kernel_rfl) (by kernel_rfl) rfl rfl rfl hs587 (fun w' hw' => op_move ha588 rfl rfl) ?_
       intro a589 ha589; clear ha588 a588
       obtain ⟨u590, hu591, hr592⟩ := Rds.part (hf106.rds pos_shRowN) Try.underlying23 ti41 none (some (.int .i64 (k : Nat))) 0 k (.inl ⟨rfl, rfl⟩) (.inr ⟨.i64, rfl⟩) (by omega) (by omega)
       replace hr592 := hr592.cast (ys := zs.take k) (by first | rw [List.take_length] | simp)
       refine dr_val (i := 3) ha589 rfl (by kernel_rfl) (by kernel_rfl) (by kernel_rfl) rfl rfl rfl hs587 (fun w' hw' => op_slice_t (by omega) ha589 rfl rfl rfl hu591) ?_
       intro a593 ha593; clear ha589 a589
       refine dr_val (i := 5) ha593 rfl (by kernel_rfl) (by kernel_rfl) (by kernel_rfl) rfl rfl rfl hs587 (fun w' hw' => op_move ha593 rfl rfl) ?_
       intro a594 ha594; clear ha593 a593
       refine dr_val (i := 6) ha594 rfl (by kernel_rfl) (by kernel_rfl) (by kernel_rfl) rfl rfl rfl hs587 (fun w' hw' => op_move ha594 rfl rfl) ?_
       intro a595 ha595; clear ha594 a594
       refine dr_val (i := 10) ha595 rfl (by kernel_rfl) (by kernel_rfl) (by kernel_rfl) rfl rfl rfl hs587 (fun w' hw' => op_move ha595 rfl rfl) ?_
       intro a596 ha596; clear ha595 a595
       refine dr_val (i := 11) ha596 rfl (by kernel_rfl) (by kernel_rfl) (by kernel_rfl) rfl rfl rfl hs587 (fun w' hw' => op_move ha596 rfl rfl) ?_
       intro a597 ha597; clear ha596 a596
       obtain ⟨u598, hu599, hr600⟩ := Rds.part (hf106.rds pos_shRowN) Try.underlying23 ti41 (some (.int .i64 (k : Nat))) none k zs.length (.inr ⟨.i64, rfl⟩) (.inl ⟨rfl, rfl⟩) (by omega) (by omega)
       replace hr600 := hr600.cast (ys := zs.drop k) (by first | rw [List.take_length] | simp)
       refine dr_val (i := 12) ha597 rfl (by kernel_rfl) (by kernel_rfl) (by kernel_rfl) rfl rfl rfl hs587 (fun w' hw' => op_slice_f (by omega) ha597 rfl rfl rfl hu599) ?_
       intro a601 ha601; clear ha597 a597
       refine dr_two (i := 0) (j := 7) (by kernel_rfl) ?_ ?_
       ·
        refine po_eff ha601 rfl rfl rfl rfl (op_buildSlice (s := shRowN) (xs := ([] : List ((List Int) × Value))) (cs := []) (vs := []) (S := fun _ => False) (le := w584.heap.size) ha601 rfl pos_shRowN Try.underlying23 ti41 rfl rfl (by decide) (by kernel_rfl) rfl (fun _ h => h.elim)) ?_
        rintro v602 w603 ⟨ho604, he605, hob606⟩ a607 ha607; clear ha601 a601
        have hs608 := hs587.trans' he605
        have hx609 := hx586.trans' he605
        have hzhx609 := he605.size
        refine ⟨hs608, ?_⟩
        have hN610 : Nst shI64 2 (fun x : List Int => x) w584.heap.size w603.heap.size w603 (([] : List ((List Int) × Value))) := Nst.nil _ _ _ _ _ _
        refine dr_two (i := 4) (j := 7) (by kernel_rfl) ?_ ?_
        ·
         refine po_eff ha607 rfl rfl rfl rfl (op_append (ts := #[]) (s := shRowN) ha607 rfl Try.underlying23 ti41 rfl pos_shRowN rfl rfl ho604 (hr592.ext pos_shRowN hs608) (by omega) (by omega) (by first | omega | (simp; omega)) (by first | omega | (simp; omega)) (.inl flat_shRowN)) ?_
         rintro v611 w612 ⟨ho613, hst614, hob615⟩ a616 ha616; clear ha607 a607
         replace ho613 := ho613.cast (List.nil_append _)
         have hs617 := hs608.stp hst614 (by intro q hq; have hq0 := ho604.lt q hq; omega)
         have hx618 := hx609.stp hst614 (by intro q hq; have hq0 := ho604.lt q hq; omega)
         have hzhx618 := hst614.size
         replace hN610 : Nst shI64 2 (fun x : List Int => x) w584.heap.size w603.heap.size w612 (([] : List ((List Int) × Value))) := by first | exact hN610.stpF flat_shI64 hst614 ho604 rfl | exact hN610.stp hst614 (by intro q hq; have hq0 := ho604.lt q hq; omega)
         have hsp619 : ∀ q, Value.ownBlock v611 = some q → Value.ownBlock v ≠ some q := by intro q hq hb; have hq0 := hf106.lt q hb; rcases hob615 with h | h; (rw [h] at hq; first | (have hq1 := ho604.lt q hq; omega)); (rw [h] at hq; cases hq; omega)
         refine ⟨hs617, ?_⟩
         refine dr_one (i := 7) (by kernel_rfl) ?_
         refine po_eff ha616 rfl rfl rfl rfl (op_buildSlice (s := shI64) (xs := [x74, x90]) (cs := [.int .i64 x74, .int .i64 x90]) (vs := [(0, .int .i64 x74), (1, .int .i64 x90)]) (S := fun _ => False) (le := w612.heap.size) ha616 rfl pos_shI64 Try.underlying41 ti2 rfl rfl (by decide) (by kernel_rfl) ⟨mk_shI64 x74 (by first | assumption | omega | (simp; omega)), mk_shI64 x90 (by first | assumption | omega | (simp; omega)), rfl⟩ (fun _ h => h.elim)) ?_
         rintro v620 w621 ⟨ho622, he623, hob624⟩ a625 ha625; clear ha616 a616
         have hs626 := hs617.trans' he623
         have hx627 := hx618.trans' he623
         have hzhx627 := he623.size
         replace hN610 := hN610.ext he623
         replace ho613 := ho613.ext he623
         refine ⟨hs626, ?_⟩
         refine dr_one (i := 8) (by kernel_rfl) ?_
         refine po_eff ha625 rfl rfl rfl rfl (op_buildSlice (s := shRowN) (xs := [(([x74, x90] : List Int), (v620 : Value))]) (cs := [v620]) (vs := [(0, v620)]) (S := fun _ => False) (le := w621.heap.size) ha625 rfl pos_shRowN Try.underlying23 ti41 rfl rfl (by decide) ((fill_one (off := 0) ho622.cells1 (by kernel_rfl) (by kernel_rfl)).trans (by kernel_rfl)) (Els.single (mk_shRowN ((([x74, x90] : List Int), (v620 : Value))) ho622.one)) (fun _ h => h.elim)) ?_
         rintro v628 w629 ⟨ho630, he631, hob632⟩ a633 ha633; clear ha625 a625
         have hs634 := hs626.trans' he631
         have hx635 := hx627.trans' he631
         have hzhx635 := he631.size
         replace hN610 := hN610.ext he631
         replace ho613 := ho613.ext he631
         replace ho622 := ho622.ext he631
         refine ⟨hs634, ?_⟩
         have hN636 : Nst shI64 2 (fun x : List Int => x) w612.heap.size w629.heap.size w629 ([(([x74, x90] : List Int), (v620 : Value))]) := Nst.one (ho622.fin (by omega) (by omega) (by omega))
         refine dr_one (i := 9) (by kernel_rfl) ?_
         refine po_eff ha633 rfl rfl rfl rfl (op_append (ts := #[]) (s := shRowN) ha633 rfl Try.underlying23 ti41 rfl pos_shRowN rfl rfl ho613 (ho630.rds pos_shRowN) (by omega) (by omega) (by first | omega | (simp; omega)) (by first | omega | (simp; omega)) (.inl flat_shRowN)) ?_
         rintro v637 w638 ⟨ho639, hst640, hob641⟩ a642 ha642; clear ha633 a633
         have hs643 := hs634.stp hst640 (by intro q hq; have hq0 := ho613.lt q hq; omega)
         have hx644 := hx635.stp hst640 (by intro q hq; have hq0 := ho613.lt q hq; omega)
         have hzhx644 := hst640.size
         replace hN610 : Nst shI64 2 (fun x : List Int => x) w584.heap.size w603.heap.size w638 (([] : List ((List Int) × Value))) := by first | exact hN610.stpF flat_shI64 hst640 ho613 rfl | exact hN610.stp hst640 (by intro q hq; have hq0 := ho613.lt q hq; omega)
         replace ho622 := ho622.stp hst640 (by intro q hq; have hq0 := ho613.lt q hq; omega)
         replace ho630 := ho630.stp hst640 (by intro q hq; have hq0 := ho613.lt q hq; omega)
         replace hN636 := hN636.stp hst640 (by intro q hq; have hq0 := ho613.lt q hq; omega)
         have hsp645 : ∀ q, Value.ownBlock v637 = some q → Value.ownBlock v ≠ some q := by intro q hq hb; have hq0 := hf106.lt q hb; rcases hob641 with h | h; (rw [h] at hq; first | (have hq1 := ho613.lt q hq; omega) | exact hsp619 q hq hb); (rw [h] at hq; cases hq; omega)
         have hsp646 : ∀ q, Value.ownBlock v637 = some q → Value.ownBlock v628 ≠ some q := by intro q hq hb; have hq0 := ho630.lt q hb; rcases hob641 with h | h; (rw [h] at hq; first | (have hq1 := ho613.lt q hq; omega)); (rw [h] at hq; cases hq; omega)
         refine ⟨hs643, ?_⟩
         refine dr_one (i := 13) (by kernel_rfl) ?_
         refine po_eff ha642 rfl rfl rfl rfl (op_append (ts := #[]) (s := shRowN) ha642 rfl Try.underlying23 ti41 rfl pos_shRowN rfl rfl ho639 (hr600.ext pos_shRowN hs643) (by omega) (by omega) (by first | omega | (simp; omega)) (by first | omega | (simp; omega)) (.inl flat_shRowN)) ?_
         rintro v647 w648 ⟨ho649, hst650, hob651⟩ a652 ha652; clear ha642 a642
         have hs653 := hs643.stp hst650 (by intro q hq; have hq0 := ho639.lt q hq; omega)
         have hx654 := hx644.stp hst650 (by intro q hq; have hq0 := ho639.lt q hq; omega)
         have hzhx654 := hst650.size
         replace hN610 : Nst shI64 2 (fun x : List Int => x) w584.heap.size w603.heap.size w648 (([] : List ((List Int) × Value))) := by first | exact hN610.stpF flat_shI64 hst650 ho639 rfl | exact hN610.stp hst650 (by intro q hq; have hq0 := ho639.lt q hq; omega)
         replace ho622 : Own shI64 2 w612.heap.size w612.heap.size w621.heap.size w648 v620 ([x74, x90]) := by first | exact ho622.stp hst650 (by intro q hq; have hq0 := ho639.lt q hq; omega) | exact ho622.stpF flat_shI64 hst650 (ho622.ne ho639 rfl)
         replace ho630 : Own shRowN 41 w621.heap.size w621.heap.size w629.heap.size w648 v628 ([(([x74, x90] : List Int), (v620 : Value))]) := by first | exact ho630.stp hst650 (by intro q hq; have hq0 := ho639.lt q hq; omega) | exact ho630.stpF flat_shRowN hst650 (fun q hq => hsp646 q hq)
         replace hN636 : Nst shI64 2 (fun x : List Int => x) w612.heap.size w629.heap.size w648 ([(([x74, x90] : List Int), (v620 : Value))]) := by first | exact hN636.stpF flat_shI64 hst650 ho639 rfl | exact hN636.stp hst650 (by intro q hq; have hq0 := ho639.lt q hq; omega)
         have hsp655 : ∀ q, Value.ownBlock v647 = some q → Value.ownBlock v ≠ some q := by intro q hq hb; have hq0 := hf106.lt q hb; rcases hob651 with h | h; (rw [h] at hq; first | (have hq1 := ho639.lt q hq; omega) | exact hsp645 q hq hb); (rw [h] at hq; cases hq; omega)
         have hsp656 : ∀ q, Value.ownBlock v647 = some q → Value.ownBlock v628 ≠ some q := by intro q hq hb; have hq0 := ho630.lt q hb; rcases hob651 with h | h; (rw [h] at hq; first | (have hq1 := ho639.lt q hq; omega) | exact hsp646 q hq hb); (rw [h] at hq; cases hq; omega)
         refine ⟨hs653, ?_⟩
         refine dr_val (i := 14) ha652 rfl (by kernel_rfl) (by kernel_rfl) (by kernel_rfl) rfl rfl rfl hs653 (fun w' hw' => op_assign ha652 rfl rfl) ?_
         intro a657 ha657; clear ha652 a652
         refine dr_end (by kernel_rfl) ?_
         replace hf105 := hf105.ext hs653
         replace hf106 := hf106.ext hs653
         replace hf107 := hf107.ext hs653
         replace hr592 := hr592.ext pos_shRowN hs653
         replace hr600 := hr600.ext pos_shRowN hs653
         refine block_n ?_
         refine then_n ?_
         refine wp_region_lit ?_
         refine wl_val ha657 rfl rfl rfl (op_move ha657 rfl rfl) ?_
         intro a658 ha658; clear ha657 a657
         refine wl_val ha658 rfl rfl rfl ((op_add ha658 rfl rfl rfl).int (IntWalk.i64_in _ (by omega))) ?_
         intro a659 ha659; clear ha658 a658
         refine wl_val ha659 rfl rfl rfl (op_assign ha659 rfl rfl) ?_
         intro a660 ha660; clear ha659 a659
         refine wpList_nil ?_
         refine round_end (x := (i, v, zs)) ((i + 1), v647, ((zs.take k ++ [(([x74, x90] : List Int), (v620 : Value))]) ++ zs.drop k)) ?_ ?_
         ·
          refine ⟨(Sl.cons_ ha660 rfl rfl (Sl.cons_ ha660 rfl rfl (Sl.cons_ ha660 rfl rfl (Sl.cons_ ha660 rfl rfl (Sl.cons_ ha660 rfl (int_eq (by omega)) (Sl.nil_ ha660)))))), hx654, hf105, (ho649.fin (by omega) (by omega) (by omega)), (by exact ((hf107.app hN636 (by omega) (by omega) (by omega)).perm (ins_perm _ _ _)).fin (by omega) (by omega)), (by omega), (by omega), (by first | omega | (simp; omega)), (by have hic := insG_front (n := x90) hU hk2 (.inl (by rw [List.length_map]; omega)); rw [drop_cons hx62, grGo, rowC_eq hx74, rowC_eq hx90, hic] at hF; rw [← hF]; congr 1; simp), (by have hic := insG_front (n := x90) hU hk2 (.inl (by rw [List.length_map]; omega)); have h9 := insG_up (k := x74) (n := x90) hU; rw [hic] at h9; simpa using h9), (by have hic := insG_front (n := x90) hU hk2 (.inl (by rw [List.length_map]; omega)); have h9 := grI_ins (k := x74) (n := x90) hvbx74 hvbx90 hG; rw [hic] at h9; simpa using h9)⟩
         ·show (t.2.length - ((i + 1)) : Nat) < t.2.length - i; omega
        ·
         refine po_eff ha607 rfl rfl rfl rfl (op_buildSlice (s := shI64) (xs := [x74, x90]) (cs := [.int .i64 x74, .int .i64 x90]) (vs := [(0, .int .i64 x74), (1, .int .i64 x90)]) (S := fun _ => False) (le := w603.heap.size) ha607 rfl pos_shI64 Try.underlying41 ti2 rfl rfl (by decide) (by kernel_rfl) ⟨mk_shI64 x74 (by first | assumption | omega | (simp; omega)), mk_shI64 x90 (by first | assumption | omega | (simp; omega)), rfl⟩ (fun _ h => h.elim)) ?_
         rintro v661 w662 ⟨ho663, he664, hob665⟩ a666 ha666; clear ha607 a607
         have hs667 := hs608.trans' he664
         have hx668 := hx609.trans' he664
         have hzhx668 := he664.size
         replace ho604 := ho604.ext he664
         replace hN610 := hN610.ext he664
         refine ⟨hs667, ?_⟩
         refine dr_two (i := 4) (j := 8) (by kernel_rfl) ?_ ?_
         ·
          refine po_eff ha666 rfl rfl rfl rfl (op_append (ts := #[]) (s := shRowN) ha666 rfl Try.underlying23 ti41 rfl pos_shRowN rfl rfl ho604 (hr592.ext pos_shRowN hs667) (by omega) (by omega) (by first | omega | (simp; omega)) (by first | omega | (simp; omega)) (.inl flat_shRowN)) ?_
          rintro v669 w670 ⟨ho671, hst672, hob673⟩ a674 ha674; clear ha666 a666
          replace ho671 := ho671.cast (List.nil_append _)
          have hs675 := hs667.stp hst672 (by intro q hq; have hq0 := ho604.lt q hq; omega)
          have hx676 := hx668.stp hst672 (by intro q hq; have hq0 := ho604.lt q hq; omega)
          have hzhx676 := hst672.size
          replace hN610 : Nst shI64 2 (fun x : List Int => x) w584.heap.size w603.heap.size w670 (([] : List ((List Int) × Value))) := by first | exact hN610.stpF flat_shI64 hst672 ho604 rfl | exact hN610.stp hst672 (by intro q hq; have hq0 := ho604.lt q hq; omega)
          replace ho663 := ho663.stp hst672 (by intro q hq; have hq0 := ho604.lt q hq; omega)
          have hsp677 : ∀ q, Value.ownBlock v669 = some q → Value.ownBlock v ≠ some q := by intro q hq hb; have hq0 := hf106.lt q hb; rcases hob673 with h | h; (rw [h] at hq; first | (have hq1 := ho604.lt q hq; omega)); (rw [h] at hq; cases hq; omega)
          refine ⟨hs675, ?_⟩
          refine dr_one (i := 8) (by kernel_rfl) ?_
          refine po_eff ha674 rfl rfl rfl rfl (op_buildSlice (s := shRowN) (xs := [(([x74, x90] : List Int), (v661 : Value))]) (cs := [v661]) (vs := [(0, v661)]) (S := fun _ => False) (le := w670.heap.size) ha674 rfl pos_shRowN Try.underlying23 ti41 rfl rfl (by decide) ((fill_one (off := 0) ho663.cells1 (by kernel_rfl) (by kernel_rfl)).trans (by kernel_rfl)) (Els.single (mk_shRowN ((([x74, x90] : List Int), (v661 : Value))) ho663.one)) (fun _ h => h.elim)) ?_
          rintro v678 w679 ⟨ho680, he681, hob682⟩ a683 ha683; clear ha674 a674
          have hs684 := hs675.trans' he681
          have hx685 := hx676.trans' he681
          have hzhx685 := he681.size
          replace hN610 := hN610.ext he681
          replace ho663 := ho663.ext he681
          replace ho671 := ho671.ext he681
          refine ⟨hs684, ?_⟩
          have hN686 : Nst shI64 2 (fun x : List Int => x) w603.heap.size w679.heap.size w679 ([(([x74, x90] : List Int), (v661 : Value))]) := Nst.one (ho663.fin (by omega) (by omega) (by omega))
          refine dr_one (i := 9) (by kernel_rfl) ?_
          refine po_eff ha683 rfl rfl rfl rfl (op_append (ts := #[]) (s := shRowN) ha683 rfl Try.underlying23 ti41 rfl pos_shRowN rfl rfl ho671 (ho680.rds pos_shRowN) (by omega) (by omega) (by first | omega | (simp; omega)) (by first | omega | (simp; omega)) (.inl flat_shRowN)) ?_
          rintro v687 w688 ⟨ho689, hst690, hob691⟩ a692 ha692; clear ha683 a683
          have hs693 := hs684.stp hst690 (by intro q hq; have hq0 := ho671.lt q hq; omega)
          have hx694 := hx685.stp hst690 (by intro q hq; have hq0 := ho671.lt q hq; omega)
          have hzhx694 := hst690.size
          replace hN610 : Nst shI64 2 (fun x : List Int => x) w584.heap.size w603.heap.size w688 (([] : List ((List Int) × Value))) := by first | exact hN610.stpF flat_shI64 hst690 ho671 rfl | exact hN610.stp hst690 (by intro q hq; have hq0 := ho671.lt q hq; omega)
          replace ho663 : Own shI64 2 w603.heap.size w603.heap.size w662.heap.size w688 v661 ([x74, x90]) := by first | exact ho663.stp hst690 (by intro q hq; have hq0 := ho671.lt q hq; omega) | exact ho663.stpF flat_shI64 hst690 (ho663.ne ho671 rfl)
          replace ho680 := ho680.stp hst690 (by intro q hq; have hq0 := ho671.lt q hq; omega)
          replace hN686 : Nst shI64 2 (fun x : List Int => x) w603.heap.size w679.heap.size w688 ([(([x74, x90] : List Int), (v661 : Value))]) := by first | exact hN686.stpF flat_shI64 hst690 ho671 rfl | exact hN686.stp hst690 (by intro q hq; have hq0 := ho671.lt q hq; omega)
          have hsp695 : ∀ q, Value.ownBlock v687 = some q → Value.ownBlock v ≠ some q := by intro q hq hb; have hq0 := hf106.lt q hb; rcases hob691 with h | h; (rw [h] at hq; first | (have hq1 := ho671.lt q hq; omega) | exact hsp677 q hq hb); (rw [h] at hq; cases hq; omega)
          have hsp696 : ∀ q, Value.ownBlock v687 = some q → Value.ownBlock v678 ≠ some q := by intro q hq hb; have hq0 := ho680.lt q hb; rcases hob691 with h | h; (rw [h] at hq; first | (have hq1 := ho671.lt q hq; omega)); (rw [h] at hq; cases hq; omega)
          refine ⟨hs693, ?_⟩
          refine dr_one (i := 13) (by kernel_rfl) ?_
          refine po_eff ha692 rfl rfl rfl rfl (op_append (ts := #[]) (s := shRowN) ha692 rfl Try.underlying23 ti41 rfl pos_shRowN rfl rfl ho689 (hr600.ext pos_shRowN hs693) (by omega) (by omega) (by first | omega | (simp; omega)) (by first | omega | (simp; omega)) (.inl flat_shRowN)) ?_
          rintro v697 w698 ⟨ho699, hst700, hob701⟩ a702 ha702; clear ha692 a692
          have hs703 := hs693.stp hst700 (by intro q hq; have hq0 := ho689.lt q hq; omega)
          have hx704 := hx694.stp hst700 (by intro q hq; have hq0 := ho689.lt q hq; omega)
          have hzhx704 := hst700.size
          replace hN610 : Nst shI64 2 (fun x : List Int => x) w584.heap.size w603.heap.size w698 (([] : List ((List Int) × Value))) := by first | exact hN610.stpF flat_shI64 hst700 ho689 rfl | exact hN610.stp hst700 (by intro q hq; have hq0 := ho689.lt q hq; omega)
          replace ho663 : Own shI64 2 w603.heap.size w603.heap.size w662.heap.size w698 v661 ([x74, x90]) := by first | exact ho663.stp hst700 (by intro q hq; have hq0 := ho689.lt q hq; omega) | exact ho663.stpF flat_shI64 hst700 (ho663.ne ho689 rfl)
          replace ho680 : Own shRowN 41 w670.heap.size w670.heap.size w679.heap.size w698 v678 ([(([x74, x90] : List Int), (v661 : Value))]) := by first | exact ho680.stp hst700 (by intro q hq; have hq0 := ho689.lt q hq; omega) | exact ho680.stpF flat_shRowN hst700 (fun q hq => hsp696 q hq)
          replace hN686 : Nst shI64 2 (fun x : List Int => x) w603.heap.size w679.heap.size w698 ([(([x74, x90] : List Int), (v661 : Value))]) := by first | exact hN686.stpF flat_shI64 hst700 ho689 rfl | exact hN686.stp hst700 (by intro q hq; have hq0 := ho689.lt q hq; omega)
          have hsp705 : ∀ q, Value.ownBlock v697 = some q → Value.ownBlock v ≠ some q := by intro q hq hb; have hq0 := hf106.lt q hb; rcases hob701 with h | h; (rw [h] at hq; first | (have hq1 := ho689.lt q hq; omega) | exact hsp695 q hq hb); (rw [h] at hq; cases hq; omega)
          have hsp706 : ∀ q, Value.ownBlock v697 = some q → Value.ownBlock v678 ≠ some q := by intro q hq hb; have hq0 := ho680.lt q hb; rcases hob701 with h | h; (rw [h] at hq; first | (have hq1 := ho689.lt q hq; omega) | exact hsp696 q hq hb); (rw [h] at hq; cases hq; omega)
          refine ⟨hs703, ?_⟩
          refine dr_val (i := 14) ha702 rfl (by kernel_rfl) (by kernel_rfl) (by kernel_rfl) rfl rfl rfl hs703 (fun w' hw' => op_assign ha702 rfl rfl) ?_
          intro a707 ha707; clear ha702 a702
          refine dr_end (by kernel_rfl) ?_
          replace hf105 := hf105.ext hs703
          replace hf106 := hf106.ext hs703
          replace hf107 := hf107.ext hs703
          replace hr592 := hr592.ext pos_shRowN hs703
          replace hr600 := hr600.ext pos_shRowN hs703
          refine block_n ?_
          refine then_n ?_
          refine wp_region_lit ?_
          refine wl_val ha707 rfl rfl rfl (op_move ha707 rfl rfl) ?_
          intro a708 ha708; clear ha707 a707
          refine wl_val ha708 rfl rfl rfl ((op_add ha708 rfl rfl rfl).int (IntWalk.i64_in _ (by omega))) ?_
          intro a709 ha709; clear ha708 a708
          refine wl_val ha709 rfl rfl rfl (op_assign ha709 rfl rfl) ?_
          intro a710 ha710; clear ha709 a709
          refine wpList_nil ?_
          refine round_end (x := (i, v, zs)) ((i + 1), v697, ((zs.take k ++ [(([x74, x90] : List Int), (v661 : Value))]) ++ zs.drop k)) ?_ ?_
          ·
           refine ⟨(Sl.cons_ ha710 rfl rfl (Sl.cons_ ha710 rfl rfl (Sl.cons_ ha710 rfl rfl (Sl.cons_ ha710 rfl rfl (Sl.cons_ ha710 rfl (int_eq (by omega)) (Sl.nil_ ha710)))))), hx704, hf105, (ho699.fin (by omega) (by omega) (by omega)), (by exact ((hf107.app hN686 (by omega) (by omega) (by omega)).perm (ins_perm _ _ _)).fin (by omega) (by omega)), (by omega), (by omega), (by first | omega | (simp; omega)), (by have hic := insG_front (n := x90) hU hk2 (.inl (by rw [List.length_map]; omega)); rw [drop_cons hx62, grGo, rowC_eq hx74, rowC_eq hx90, hic] at hF; rw [← hF]; congr 1; simp), (by have hic := insG_front (n := x90) hU hk2 (.inl (by rw [List.length_map]; omega)); have h9 := insG_up (k := x74) (n := x90) hU; rw [hic] at h9; simpa using h9), (by have hic := insG_front (n := x90) hU hk2 (.inl (by rw [List.length_map]; omega)); have h9 := grI_ins (k := x74) (n := x90) hvbx74 hvbx90 hG; rw [hic] at h9; simpa using h9)⟩
          ·show (t.2.length - ((i + 1)) : Nat) < t.2.length - i; omega
         ·
          refine po_eff ha666 rfl rfl rfl rfl (op_buildSlice (s := shRowN) (xs := [(([x74, x90] : List Int), (v661 : Value))]) (cs := [v661]) (vs := [(0, v661)]) (S := fun _ => False) (le := w662.heap.size) ha666 rfl pos_shRowN Try.underlying23 ti41 rfl rfl (by decide) ((fill_one (off := 0) ho663.cells1 (by kernel_rfl) (by kernel_rfl)).trans (by kernel_rfl)) (Els.single (mk_shRowN ((([x74, x90] : List Int), (v661 : Value))) ho663.one)) (fun _ h => h.elim)) ?_
          rintro v711 w712 ⟨ho713, he714, hob715⟩ a716 ha716; clear ha666 a666
          have hs717 := hs667.trans' he714
          have hx718 := hx668.trans' he714
          have hzhx718 := he714.size
          replace ho604 := ho604.ext he714
          replace hN610 := hN610.ext he714
          replace ho663 := ho663.ext he714
          refine ⟨hs717, ?_⟩
          have hN719 : Nst shI64 2 (fun x : List Int => x) w603.heap.size w712.heap.size w712 ([(([x74, x90] : List Int), (v661 : Value))]) := Nst.one (ho663.fin (by omega) (by omega) (by omega))
          refine dr_one (i := 4) (by kernel_rfl) ?_
          refine po_eff ha716 rfl rfl rfl rfl (op_append (ts := #[]) (s := shRowN) ha716 rfl Try.underlying23 ti41 rfl pos_shRowN rfl rfl ho604 (hr592.ext pos_shRowN hs717) (by omega) (by omega) (by first | omega | (simp; omega)) (by first | omega | (simp; omega)) (.inl flat_shRowN)) ?_
          rintro v720 w721 ⟨ho722, hst723, hob724⟩ a725 ha725; clear ha716 a716
          replace ho722 := ho722.cast (List.nil_append _)
          have hs726 := hs717.stp hst723 (by intro q hq; have hq0 := ho604.lt q hq; omega)
          have hx727 := hx718.stp hst723 (by intro q hq; have hq0 := ho604.lt q hq; omega)
          have hzhx727 := hst723.size
          replace hN610 : Nst shI64 2 (fun x : List Int => x) w584.heap.size w603.heap.size w721 (([] : List ((List Int) × Value))) := by first | exact hN610.stpF flat_shI64 hst723 ho604 rfl | exact hN610.stp hst723 (by intro q hq; have hq0 := ho604.lt q hq; omega)
          replace ho663 := ho663.stp hst723 (by intro q hq; have hq0 := ho604.lt q hq; omega)
          replace ho713 := ho713.stp hst723 (by intro q hq; have hq0 := ho604.lt q hq; omega)
          replace hN719 := hN719.stp hst723 (by intro q hq; have hq0 := ho604.lt q hq; omega)
          have hsp728 : ∀ q, Value.ownBlock v720 = some q → Value.ownBlock v ≠ some q := by intro q hq hb; have hq0 := hf106.lt q hb; rcases hob724 with h | h; (rw [h] at hq; first | (have hq1 := ho604.lt q hq; omega)); (rw [h] at hq; cases hq; omega)
          have hsp729 : ∀ q, Value.ownBlock v720 = some q → Value.ownBlock v711 ≠ some q := by intro q hq hb; have hq0 := ho713.lt q hb; rcases hob724 with h | h; (rw [h] at hq; first | (have hq1 := ho604.lt q hq; omega)); (rw [h] at hq; cases hq; omega)
          refine ⟨hs726, ?_⟩
          refine dr_one (i := 9) (by kernel_rfl) ?_
          refine po_eff ha725 rfl rfl rfl rfl (op_append (ts := #[]) (s := shRowN) ha725 rfl Try.underlying23 ti41 rfl pos_shRowN rfl rfl ho722 (ho713.rds pos_shRowN) (by omega) (by omega) (by first | omega | (simp; omega)) (by first | omega | (simp; omega)) (.inl flat_shRowN)) ?_
          rintro v730 w731 ⟨ho732, hst733, hob734⟩ a735 ha735; clear ha725 a725
          have hs736 := hs726.stp hst733 (by intro q hq; have hq0 := ho722.lt q hq; omega)
          have hx737 := hx727.stp hst733 (by intro q hq; have hq0 := ho722.lt q hq; omega)
          have hzhx737 := hst733.size
          replace hN610 : Nst shI64 2 (fun x : List Int => x) w584.heap.size w603.heap.size w731 (([] : List ((List Int) × Value))) := by first | exact hN610.stpF flat_shI64 hst733 ho722 rfl | exact hN610.stp hst733 (by intro q hq; have hq0 := ho722.lt q hq; omega)
          replace ho663 : Own shI64 2 w603.heap.size w603.heap.size w662.heap.size w731 v661 ([x74, x90]) := by first | exact ho663.stp hst733 (by intro q hq; have hq0 := ho722.lt q hq; omega) | exact ho663.stpF flat_shI64 hst733 (ho663.ne ho722 rfl)
          replace ho713 : Own shRowN 41 w662.heap.size w662.heap.size w712.heap.size w731 v711 ([(([x74, x90] : List Int), (v661 : Value))]) := by first | exact ho713.stp hst733 (by intro q hq; have hq0 := ho722.lt q hq; omega) | exact ho713.stpF flat_shRowN hst733 (fun q hq => hsp729 q hq)
          replace hN719 : Nst shI64 2 (fun x : List Int => x) w603.heap.size w712.heap.size w731 ([(([x74, x90] : List Int), (v661 : Value))]) := by first | exact hN719.stpF flat_shI64 hst733 ho722 rfl | exact hN719.stp hst733 (by intro q hq; have hq0 := ho722.lt q hq; omega)
          have hsp738 : ∀ q, Value.ownBlock v730 = some q → Value.ownBlock v ≠ some q := by intro q hq hb; have hq0 := hf106.lt q hb; rcases hob734 with h | h; (rw [h] at hq; first | (have hq1 := ho722.lt q hq; omega) | exact hsp728 q hq hb); (rw [h] at hq; cases hq; omega)
          have hsp739 : ∀ q, Value.ownBlock v730 = some q → Value.ownBlock v711 ≠ some q := by intro q hq hb; have hq0 := ho713.lt q hb; rcases hob734 with h | h; (rw [h] at hq; first | (have hq1 := ho722.lt q hq; omega) | exact hsp729 q hq hb); (rw [h] at hq; cases hq; omega)
          refine ⟨hs736, ?_⟩
          refine dr_one (i := 13) (by kernel_rfl) ?_
          refine po_eff ha735 rfl rfl rfl rfl (op_append (ts := #[]) (s := shRowN) ha735 rfl Try.underlying23 ti41 rfl pos_shRowN rfl rfl ho732 (hr600.ext pos_shRowN hs736) (by omega) (by omega) (by first | omega | (simp; omega)) (by first | omega | (simp; omega)) (.inl flat_shRowN)) ?_
          rintro v740 w741 ⟨ho742, hst743, hob744⟩ a745 ha745; clear ha735 a735
          have hs746 := hs736.stp hst743 (by intro q hq; have hq0 := ho732.lt q hq; omega)
          have hx747 := hx737.stp hst743 (by intro q hq; have hq0 := ho732.lt q hq; omega)
          have hzhx747 := hst743.size
          replace hN610 : Nst shI64 2 (fun x : List Int => x) w584.heap.size w603.heap.size w741 (([] : List ((List Int) × Value))) := by first | exact hN610.stpF flat_shI64 hst743 ho732 rfl | exact hN610.stp hst743 (by intro q hq; have hq0 := ho732.lt q hq; omega)
          replace ho663 : Own shI64 2 w603.heap.size w603.heap.size w662.heap.size w741 v661 ([x74, x90]) := by first | exact ho663.stp hst743 (by intro q hq; have hq0 := ho732.lt q hq; omega) | exact ho663.stpF flat_shI64 hst743 (ho663.ne ho732 rfl)
          replace ho713 : Own shRowN 41 w662.heap.size w662.heap.size w712.heap.size w741 v711 ([(([x74, x90] : List Int), (v661 : Value))]) := by first | exact ho713.stp hst743 (by intro q hq; have hq0 := ho732.lt q hq; omega) | exact ho713.stpF flat_shRowN hst743 (fun q hq => hsp739 q hq)
          replace hN719 : Nst shI64 2 (fun x : List Int => x) w603.heap.size w712.heap.size w741 ([(([x74, x90] : List Int), (v661 : Value))]) := by first | exact hN719.stpF flat_shI64 hst743 ho732 rfl | exact hN719.stp hst743 (by intro q hq; have hq0 := ho732.lt q hq; omega)
          have hsp748 : ∀ q, Value.ownBlock v740 = some q → Value.ownBlock v ≠ some q := by intro q hq hb; have hq0 := hf106.lt q hb; rcases hob744 with h | h; (rw [h] at hq; first | (have hq1 := ho732.lt q hq; omega) | exact hsp738 q hq hb); (rw [h] at hq; cases hq; omega)
          have hsp749 : ∀ q, Value.ownBlock v740 = some q → Value.ownBlock v711 ≠ some q := by intro q hq hb; have hq0 := ho713.lt q hb; rcases hob744 with h | h; (rw [h] at hq; first | (have hq1 := ho732.lt q hq; omega) | exact hsp739 q hq hb); (rw [h] at hq; cases hq; omega)
          refine ⟨hs746, ?_⟩
          refine dr_val (i := 14) ha745 rfl (by kernel_rfl) (by kernel_rfl) (by kernel_rfl) rfl rfl rfl hs746 (fun w' hw' => op_assign ha745 rfl rfl) ?_
          intro a750 ha750; clear ha745 a745
          refine dr_end (by kernel_rfl) ?_
          replace hf105 := hf105.ext hs746
          replace hf106 := hf106.ext hs746
          replace hf107 := hf107.ext hs746
          replace hr592 := hr592.ext pos_shRowN hs746
          replace hr600 := hr600.ext pos_shRowN hs746
          refine block_n ?_
          refine then_n ?_
          refine wp_region_lit ?_
          refine wl_val ha750 rfl rfl rfl (op_move ha750 rfl rfl) ?_
          intro a751 ha751; clear ha750 a750
          refine wl_val ha751 rfl rfl rfl ((op_add ha751 rfl rfl rfl).int (IntWalk.i64_in _ (by omega))) ?_
          intro a752 ha752; clear ha751 a751
          refine wl_val ha752 rfl rfl rfl (op_assign ha752 rfl rfl) ?_
          intro a753 ha753; clear ha752 a752
          refine wpList_nil ?_
          refine round_end (x := (i, v, zs)) ((i + 1), v740, ((zs.take k ++ [(([x74, x90] : List Int), (v661 : Value))]) ++ zs.drop k)) ?_ ?_
          ·
           refine ⟨(Sl.cons_ ha753 rfl rfl (Sl.cons_ ha753 rfl rfl (Sl.cons_ ha753 rfl rfl (Sl.cons_ ha753 rfl rfl (Sl.cons_ ha753 rfl (int_eq (by omega)) (Sl.nil_ ha753)))))), hx747, hf105, (ho742.fin (by omega) (by omega) (by omega)), (by exact ((hf107.app hN719 (by omega) (by omega) (by omega)).perm (ins_perm _ _ _)).fin (by omega) (by omega)), (by omega), (by omega), (by first | omega | (simp; omega)), (by have hic := insG_front (n := x90) hU hk2 (.inl (by rw [List.length_map]; omega)); rw [drop_cons hx62, grGo, rowC_eq hx74, rowC_eq hx90, hic] at hF; rw [← hF]; congr 1; simp), (by have hic := insG_front (n := x90) hU hk2 (.inl (by rw [List.length_map]; omega)); have h9 := insG_up (k := x74) (n := x90) hU; rw [hic] at h9; simpa using h9), (by have hic := insG_front (n := x90) hU hk2 (.inl (by rw [List.length_map]; omega)); have h9 := grI_ins (k := x74) (n := x90) hvbx74 hvbx90 hG; rw [hic] at h9; simpa using h9)⟩
          ·show (t.2.length - ((i + 1)) : Nat) < t.2.length - i; omega
       ·
        refine po_eff ha601 rfl rfl rfl rfl (op_buildSlice (s := shI64) (xs := [x74, x90]) (cs := [.int .i64 x74, .int .i64 x90]) (vs := [(0, .int .i64 x74), (1, .int .i64 x90)]) (S := fun _ => False) (le := w584.heap.size) ha601 rfl pos_shI64 Try.underlying41 ti2 rfl rfl (by decide) (by kernel_rfl) ⟨mk_shI64 x74 (by first | assumption | omega | (simp; omega)), mk_shI64 x90 (by first | assumption | omega | (simp; omega)), rfl⟩ (fun _ h => h.elim)) ?_
        rintro v754 w755 ⟨ho756, he757, hob758⟩ a759 ha759; clear ha601 a601
        have hs760 := hs587.trans' he757
        have hx761 := hx586.trans' he757
        have hzhx761 := he757.size
        refine ⟨hs760, ?_⟩
        refine dr_two (i := 0) (j := 8) (by kernel_rfl) ?_ ?_
        ·
         refine po_eff ha759 rfl rfl rfl rfl (op_buildSlice (s := shRowN) (xs := ([] : List ((List Int) × Value))) (cs := []) (vs := []) (S := fun _ => False) (le := w755.heap.size) ha759 rfl pos_shRowN Try.underlying23 ti41 rfl rfl (by decide) (by kernel_rfl) rfl (fun _ h => h.elim)) ?_
         rintro v762 w763 ⟨ho764, he765, hob766⟩ a767 ha767; clear ha759 a759
         have hs768 := hs760.trans' he765
         have hx769 := hx761.trans' he765
         have hzhx769 := he765.size
         replace ho756 := ho756.ext he765
         refine ⟨hs768, ?_⟩
         have hN770 : Nst shI64 2 (fun x : List Int => x) w755.heap.size w763.heap.size w763 (([] : List ((List Int) × Value))) := Nst.nil _ _ _ _ _ _
         refine dr_two (i := 4) (j := 8) (by kernel_rfl) ?_ ?_
         ·
          refine po_eff ha767 rfl rfl rfl rfl (op_append (ts := #[]) (s := shRowN) ha767 rfl Try.underlying23 ti41 rfl pos_shRowN rfl rfl ho764 (hr592.ext pos_shRowN hs768) (by omega) (by omega) (by first | omega | (simp; omega)) (by first | omega | (simp; omega)) (.inl flat_shRowN)) ?_
          rintro v771 w772 ⟨ho773, hst774, hob775⟩ a776 ha776; clear ha767 a767
          replace ho773 := ho773.cast (List.nil_append _)
          have hs777 := hs768.stp hst774 (by intro q hq; have hq0 := ho764.lt q hq; omega)
          have hx778 := hx769.stp hst774 (by intro q hq; have hq0 := ho764.lt q hq; omega)
          have hzhx778 := hst774.size
          replace ho756 := ho756.stp hst774 (by intro q hq; have hq0 := ho764.lt q hq; omega)
          replace hN770 : Nst shI64 2 (fun x : List Int => x) w755.heap.size w763.heap.size w772 (([] : List ((List Int) × Value))) := by first | exact hN770.stpF flat_shI64 hst774 ho764 rfl | exact hN770.stp hst774 (by intro q hq; have hq0 := ho764.lt q hq; omega)
          have hsp779 : ∀ q, Value.ownBlock v771 = some q → Value.ownBlock v ≠ some q := by intro q hq hb; have hq0 := hf106.lt q hb; rcases hob775 with h | h; (rw [h] at hq; first | (have hq1 := ho764.lt q hq; omega)); (rw [h] at hq; cases hq; omega)
          refine ⟨hs777, ?_⟩
          refine dr_one (i := 8) (by kernel_rfl) ?_
          refine po_eff ha776 rfl rfl rfl rfl (op_buildSlice (s := shRowN) (xs := [(([x74, x90] : List Int), (v754 : Value))]) (cs := [v754]) (vs := [(0, v754)]) (S := fun _ => False) (le := w772.heap.size) ha776 rfl pos_shRowN Try.underlying23 ti41 rfl rfl (by decide) ((fill_one (off := 0) ho756.cells1 (by kernel_rfl) (by kernel_rfl)).trans (by kernel_rfl)) (Els.single (mk_shRowN ((([x74, x90] : List Int), (v754 : Value))) ho756.one)) (fun _ h => h.elim)) ?_
          rintro v780 w781 ⟨ho782, he783, hob784⟩ a785 ha785; clear ha776 a776
          have hs786 := hs777.trans' he783
          have hx787 := hx778.trans' he783
          have hzhx787 := he783.size
          replace ho756 := ho756.ext he783
          replace hN770 := hN770.ext he783
          replace ho773 := ho773.ext he783
          refine ⟨hs786, ?_⟩
          have hN788 : Nst shI64 2 (fun x : List Int => x) w584.heap.size w781.heap.size w781 ([(([x74, x90] : List Int), (v754 : Value))]) := Nst.one (ho756.fin (by omega) (by omega) (by omega))
          refine dr_one (i := 9) (by kernel_rfl) ?_
          refine po_eff ha785 rfl rfl rfl rfl (op_append (ts := #[]) (s := shRowN) ha785 rfl Try.underlying23 ti41 rfl pos_shRowN rfl rfl ho773 (ho782.rds pos_shRowN) (by omega) (by omega) (by first | omega | (simp; omega)) (by first | omega | (simp; omega)) (.inl flat_shRowN)) ?_
          rintro v789 w790 ⟨ho791, hst792, hob793⟩ a794 ha794; clear ha785 a785
          have hs795 := hs786.stp hst792 (by intro q hq; have hq0 := ho773.lt q hq; omega)
          have hx796 := hx787.stp hst792 (by intro q hq; have hq0 := ho773.lt q hq; omega)
          have hzhx796 := hst792.size
          replace ho756 := ho756.stp hst792 (by intro q hq; have hq0 := ho773.lt q hq; omega)
          replace hN770 : Nst shI64 2 (fun x : List Int => x) w755.heap.size w763.heap.size w790 (([] : List ((List Int) × Value))) := by first | exact hN770.stpF flat_shI64 hst792 ho773 rfl | exact hN770.stp hst792 (by intro q hq; have hq0 := ho773.lt q hq; omega)
          replace ho782 := ho782.stp hst792 (by intro q hq; have hq0 := ho773.lt q hq; omega)
          replace hN788 : Nst shI64 2 (fun x : List Int => x) w584.heap.size w781.heap.size w790 ([(([x74, x90] : List Int), (v754 : Value))]) := by first | exact hN788.stpF flat_shI64 hst792 ho773 rfl | exact hN788.stp hst792 (by intro q hq; have hq0 := ho773.lt q hq; omega)
          have hsp797 : ∀ q, Value.ownBlock v789 = some q → Value.ownBlock v ≠ some q := by intro q hq hb; have hq0 := hf106.lt q hb; rcases hob793 with h | h; (rw [h] at hq; first | (have hq1 := ho773.lt q hq; omega) | exact hsp779 q hq hb); (rw [h] at hq; cases hq; omega)
          have hsp798 : ∀ q, Value.ownBlock v789 = some q → Value.ownBlock v780 ≠ some q := by intro q hq hb; have hq0 := ho782.lt q hb; rcases hob793 with h | h; (rw [h] at hq; first | (have hq1 := ho773.lt q hq; omega)); (rw [h] at hq; cases hq; omega)
          refine ⟨hs795, ?_⟩
          refine dr_one (i := 13) (by kernel_rfl) ?_
          refine po_eff ha794 rfl rfl rfl rfl (op_append (ts := #[]) (s := shRowN) ha794 rfl Try.underlying23 ti41 rfl pos_shRowN rfl rfl ho791 (hr600.ext pos_shRowN hs795) (by omega) (by omega) (by first | omega | (simp; omega)) (by first | omega | (simp; omega)) (.inl flat_shRowN)) ?_
          rintro v799 w800 ⟨ho801, hst802, hob803⟩ a804 ha804; clear ha794 a794
          have hs805 := hs795.stp hst802 (by intro q hq; have hq0 := ho791.lt q hq; omega)
          have hx806 := hx796.stp hst802 (by intro q hq; have hq0 := ho791.lt q hq; omega)
          have hzhx806 := hst802.size
          replace ho756 := ho756.stp hst802 (by intro q hq; have hq0 := ho791.lt q hq; omega)
          replace hN770 : Nst shI64 2 (fun x : List Int => x) w755.heap.size w763.heap.size w800 (([] : List ((List Int) × Value))) := by first | exact hN770.stpF flat_shI64 hst802 ho791 rfl | exact hN770.stp hst802 (by intro q hq; have hq0 := ho791.lt q hq; omega)
          replace ho782 : Own shRowN 41 w772.heap.size w772.heap.size w781.heap.size w800 v780 ([(([x74, x90] : List Int), (v754 : Value))]) := by first | exact ho782.stp hst802 (by intro q hq; have hq0 := ho791.lt q hq; omega) | exact ho782.stpF flat_shRowN hst802 (fun q hq => hsp798 q hq)
          replace hN788 : Nst shI64 2 (fun x : List Int => x) w584.heap.size w781.heap.size w800 ([(([x74, x90] : List Int), (v754 : Value))]) := by first | exact hN788.stpF flat_shI64 hst802 ho791 rfl | exact hN788.stp hst802 (by intro q hq; have hq0 := ho791.lt q hq; omega)
          have hsp807 : ∀ q, Value.ownBlock v799 = some q → Value.ownBlock v ≠ some q := by intro q hq hb; have hq0 := hf106.lt q hb; rcases hob803 with h | h; (rw [h] at hq; first | (have hq1 := ho791.lt q hq; omega) | exact hsp797 q hq hb); (rw [h] at hq; cases hq; omega)
          have hsp808 : ∀ q, Value.ownBlock v799 = some q → Value.ownBlock v780 ≠ some q := by intro q hq hb; have hq0 := ho782.lt q hb; rcases hob803 with h | h; (rw [h] at hq; first | (have hq1 := ho791.lt q hq; omega) | exact hsp798 q hq hb); (rw [h] at hq; cases hq; omega)
          refine ⟨hs805, ?_⟩
          refine dr_val (i := 14) ha804 rfl (by kernel_rfl) (by kernel_rfl) (by kernel_rfl) rfl rfl rfl hs805 (fun w' hw' => op_assign ha804 rfl rfl) ?_
          intro a809 ha809; clear ha804 a804
          refine dr_end (by kernel_rfl) ?_
          replace hf105 := hf105.ext hs805
          replace hf106 := hf106.ext hs805
          replace hf107 := hf107.ext hs805
          replace hr592 := hr592.ext pos_shRowN hs805
          replace hr600 := hr600.ext pos_shRowN hs805
          refine block_n ?_
          refine then_n ?_
          refine wp_region_lit ?_
          refine wl_val ha809 rfl rfl rfl (op_move ha809 rfl rfl) ?_
          intro a810 ha810; clear ha809 a809
          refine wl_val ha810 rfl rfl rfl ((op_add ha810 rfl rfl rfl).int (IntWalk.i64_in _ (by omega))) ?_
          intro a811 ha811; clear ha810 a810
          refine wl_val ha811 rfl rfl rfl (op_assign ha811 rfl rfl) ?_
          intro a812 ha812; clear ha811 a811
          refine wpList_nil ?_
          refine round_end (x := (i, v, zs)) ((i + 1), v799, ((zs.take k ++ [(([x74, x90] : List Int), (v754 : Value))]) ++ zs.drop k)) ?_ ?_
          ·
           refine ⟨(Sl.cons_ ha812 rfl rfl (Sl.cons_ ha812 rfl rfl (Sl.cons_ ha812 rfl rfl (Sl.cons_ ha812 rfl rfl (Sl.cons_ ha812 rfl (int_eq (by omega)) (Sl.nil_ ha812)))))), hx806, hf105, (ho801.fin (by omega) (by omega) (by omega)), (by exact ((hf107.app hN788 (by omega) (by omega) (by omega)).perm (ins_perm _ _ _)).fin (by omega) (by omega)), (by omega), (by omega), (by first | omega | (simp; omega)), (by have hic := insG_front (n := x90) hU hk2 (.inl (by rw [List.length_map]; omega)); rw [drop_cons hx62, grGo, rowC_eq hx74, rowC_eq hx90, hic] at hF; rw [← hF]; congr 1; simp), (by have hic := insG_front (n := x90) hU hk2 (.inl (by rw [List.length_map]; omega)); have h9 := insG_up (k := x74) (n := x90) hU; rw [hic] at h9; simpa using h9), (by have hic := insG_front (n := x90) hU hk2 (.inl (by rw [List.length_map]; omega)); have h9 := grI_ins (k := x74) (n := x90) hvbx74 hvbx90 hG; rw [hic] at h9; simpa using h9)⟩
          ·show (t.2.length - ((i + 1)) : Nat) < t.2.length - i; omega
         ·
          refine po_eff ha767 rfl rfl rfl rfl (op_buildSlice (s := shRowN) (xs := [(([x74, x90] : List Int), (v754 : Value))]) (cs := [v754]) (vs := [(0, v754)]) (S := fun _ => False) (le := w763.heap.size) ha767 rfl pos_shRowN Try.underlying23 ti41 rfl rfl (by decide) ((fill_one (off := 0) ho756.cells1 (by kernel_rfl) (by kernel_rfl)).trans (by kernel_rfl)) (Els.single (mk_shRowN ((([x74, x90] : List Int), (v754 : Value))) ho756.one)) (fun _ h => h.elim)) ?_
          rintro v813 w814 ⟨ho815, he816, hob817⟩ a818 ha818; clear ha767 a767
          have hs819 := hs768.trans' he816
          have hx820 := hx769.trans' he816
          have hzhx820 := he816.size
          replace ho756 := ho756.ext he816
          replace ho764 := ho764.ext he816
          replace hN770 := hN770.ext he816
          refine ⟨hs819, ?_⟩
          have hN821 : Nst shI64 2 (fun x : List Int => x) w584.heap.size w814.heap.size w814 ([(([x74, x90] : List Int), (v754 : Value))]) := Nst.one (ho756.fin (by omega) (by omega) (by omega))
          refine dr_one (i := 4) (by kernel_rfl) ?_
          refine po_eff ha818 rfl rfl rfl rfl (op_append (ts := #[]) (s := shRowN) ha818 rfl Try.underlying23 ti41 rfl pos_shRowN rfl rfl ho764 (hr592.ext pos_shRowN hs819) (by omega) (by omega) (by first | omega | (simp; omega)) (by first | omega | (simp; omega)) (.inl flat_shRowN)) ?_
          rintro v822 w823 ⟨ho824, hst825, hob826⟩ a827 ha827; clear ha818 a818
          replace ho824 := ho824.cast (List.nil_append _)
          have hs828 := hs819.stp hst825 (by intro q hq; have hq0 := ho764.lt q hq; omega)
          have hx829 := hx820.stp hst825 (by intro q hq; have hq0 := ho764.lt q hq; omega)
          have hzhx829 := hst825.size
          replace ho756 := ho756.stp hst825 (by intro q hq; have hq0 := ho764.lt q hq; omega)
          replace hN770 : Nst shI64 2 (fun x : List Int => x) w755.heap.size w763.heap.size w823 (([] : List ((List Int) × Value))) := by first | exact hN770.stpF flat_shI64 hst825 ho764 rfl | exact hN770.stp hst825 (by intro q hq; have hq0 := ho764.lt q hq; omega)
          replace ho815 := ho815.stp hst825 (by intro q hq; have hq0 := ho764.lt q hq; omega)
          replace hN821 : Nst shI64 2 (fun x : List Int => x) w584.heap.size w814.heap.size w823 ([(([x74, x90] : List Int), (v754 : Value))]) := by first | exact hN821.stpF flat_shI64 hst825 ho764 rfl | exact hN821.stp hst825 (by intro q hq; have hq0 := ho764.lt q hq; omega)
          have hsp830 : ∀ q, Value.ownBlock v822 = some q → Value.ownBlock v ≠ some q := by intro q hq hb; have hq0 := hf106.lt q hb; rcases hob826 with h | h; (rw [h] at hq; first | (have hq1 := ho764.lt q hq; omega)); (rw [h] at hq; cases hq; omega)
          have hsp831 : ∀ q, Value.ownBlock v822 = some q → Value.ownBlock v813 ≠ some q := by intro q hq hb; have hq0 := ho815.lt q hb; rcases hob826 with h | h; (rw [h] at hq; first | (have hq1 := ho764.lt q hq; omega)); (rw [h] at hq; cases hq; omega)
          refine ⟨hs828, ?_⟩
          refine dr_one (i := 9) (by kernel_rfl) ?_
          refine po_eff ha827 rfl rfl rfl rfl (op_append (ts := #[]) (s := shRowN) ha827 rfl Try.underlying23 ti41 rfl pos_shRowN rfl rfl ho824 (ho815.rds pos_shRowN) (by omega) (by omega) (by first | omega | (simp; omega)) (by first | omega | (simp; omega)) (.inl flat_shRowN)) ?_
          rintro v832 w833 ⟨ho834, hst835, hob836⟩ a837 ha837; clear ha827 a827
          have hs838 := hs828.stp hst835 (by intro q hq; have hq0 := ho824.lt q hq; omega)
          have hx839 := hx829.stp hst835 (by intro q hq; have hq0 := ho824.lt q hq; omega)
          have hzhx839 := hst835.size
          replace ho756 := ho756.stp hst835 (by intro q hq; have hq0 := ho824.lt q hq; omega)
          replace hN770 : Nst shI64 2 (fun x : List Int => x) w755.heap.size w763.heap.size w833 (([] : List ((List Int) × Value))) := by first | exact hN770.stpF flat_shI64 hst835 ho824 rfl | exact hN770.stp hst835 (by intro q hq; have hq0 := ho824.lt q hq; omega)
          replace ho815 : Own shRowN 41 w763.heap.size w763.heap.size w814.heap.size w833 v813 ([(([x74, x90] : List Int), (v754 : Value))]) := by first | exact ho815.stp hst835 (by intro q hq; have hq0 := ho824.lt q hq; omega) | exact ho815.stpF flat_shRowN hst835 (fun q hq => hsp831 q hq)
          replace hN821 : Nst shI64 2 (fun x : List Int => x) w584.heap.size w814.heap.size w833 ([(([x74, x90] : List Int), (v754 : Value))]) := by first | exact hN821.stpF flat_shI64 hst835 ho824 rfl | exact hN821.stp hst835 (by intro q hq; have hq0 := ho824.lt q hq; omega)
          have hsp840 : ∀ q, Value.ownBlock v832 = some q → Value.ownBlock v ≠ some q := by intro q hq hb; have hq0 := hf106.lt q hb; rcases hob836 with h | h; (rw [h] at hq; first | (have hq1 := ho824.lt q hq; omega) | exact hsp830 q hq hb); (rw [h] at hq; cases hq; omega)
          have hsp841 : ∀ q, Value.ownBlock v832 = some q → Value.ownBlock v813 ≠ some q := by intro q hq hb; have hq0 := ho815.lt q hb; rcases hob836 with h | h; (rw [h] at hq; first | (have hq1 := ho824.lt q hq; omega) | exact hsp831 q hq hb); (rw [h] at hq; cases hq; omega)
          refine ⟨hs838, ?_⟩
          refine dr_one (i := 13) (by kernel_rfl) ?_
          refine po_eff ha837 rfl rfl rfl rfl (op_append (ts := #[]) (s := shRowN) ha837 rfl Try.underlying23 ti41 rfl pos_shRowN rfl rfl ho834 (hr600.ext pos_shRowN hs838) (by omega) (by omega) (by first | omega | (simp; omega)) (by first | omega | (simp; omega)) (.inl flat_shRowN)) ?_
          rintro v842 w843 ⟨ho844, hst845, hob846⟩ a847 ha847; clear ha837 a837
          have hs848 := hs838.stp hst845 (by intro q hq; have hq0 := ho834.lt q hq; omega)
          have hx849 := hx839.stp hst845 (by intro q hq; have hq0 := ho834.lt q hq; omega)
          have hzhx849 := hst845.size
          replace ho756 := ho756.stp hst845 (by intro q hq; have hq0 := ho834.lt q hq; omega)
          replace hN770 : Nst shI64 2 (fun x : List Int => x) w755.heap.size w763.heap.size w843 (([] : List ((List Int) × Value))) := by first | exact hN770.stpF flat_shI64 hst845 ho834 rfl | exact hN770.stp hst845 (by intro q hq; have hq0 := ho834.lt q hq; omega)
          replace ho815 : Own shRowN 41 w763.heap.size w763.heap.size w814.heap.size w843 v813 ([(([x74, x90] : List Int), (v754 : Value))]) := by first | exact ho815.stp hst845 (by intro q hq; have hq0 := ho834.lt q hq; omega) | exact ho815.stpF flat_shRowN hst845 (fun q hq => hsp841 q hq)
          replace hN821 : Nst shI64 2 (fun x : List Int => x) w584.heap.size w814.heap.size w843 ([(([x74, x90] : List Int), (v754 : Value))]) := by first | exact hN821.stpF flat_shI64 hst845 ho834 rfl | exact hN821.stp hst845 (by intro q hq; have hq0 := ho834.lt q hq; omega)
          have hsp850 : ∀ q, Value.ownBlock v842 = some q → Value.ownBlock v ≠ some q := by intro q hq hb; have hq0 := hf106.lt q hb; rcases hob846 with h | h; (rw [h] at hq; first | (have hq1 := ho834.lt q hq; omega) | exact hsp840 q hq hb); (rw [h] at hq; cases hq; omega)
          have hsp851 : ∀ q, Value.ownBlock v842 = some q → Value.ownBlock v813 ≠ some q := by intro q hq hb; have hq0 := ho815.lt q hb; rcases hob846 with h | h; (rw [h] at hq; first | (have hq1 := ho834.lt q hq; omega) | exact hsp841 q hq hb); (rw [h] at hq; cases hq; omega)
          refine ⟨hs848, ?_⟩
          refine dr_val (i := 14) ha847 rfl (by kernel_rfl) (by kernel_rfl) (by kernel_rfl) rfl rfl rfl hs848 (fun w' hw' => op_assign ha847 rfl rfl) ?_
          intro a852 ha852; clear ha847 a847
          refine dr_end (by kernel_rfl) ?_
          replace hf105 := hf105.ext hs848
          replace hf106 := hf106.ext hs848
          replace hf107 := hf107.ext hs848
          replace hr592 := hr592.ext pos_shRowN hs848
          replace hr600 := hr600.ext pos_shRowN hs848
          refine block_n ?_
          refine then_n ?_
          refine wp_region_lit ?_
          refine wl_val ha852 rfl rfl rfl (op_move ha852 rfl rfl) ?_
          intro a853 ha853; clear ha852 a852
          refine wl_val ha853 rfl rfl rfl ((op_add ha853 rfl rfl rfl).int (IntWalk.i64_in _ (by omega))) ?_
          intro a854 ha854; clear ha853 a853
          refine wl_val ha854 rfl rfl rfl (op_assign ha854 rfl rfl) ?_
          intro a855 ha855; clear ha854 a854
          refine wpList_nil ?_
          refine round_end (x := (i, v, zs)) ((i + 1), v842, ((zs.take k ++ [(([x74, x90] : List Int), (v754 : Value))]) ++ zs.drop k)) ?_ ?_
          ·
           refine ⟨(Sl.cons_ ha855 rfl rfl (Sl.cons_ ha855 rfl rfl (Sl.cons_ ha855 rfl rfl (Sl.cons_ ha855 rfl rfl (Sl.cons_ ha855 rfl (int_eq (by omega)) (Sl.nil_ ha855)))))), hx849, hf105, (ho844.fin (by omega) (by omega) (by omega)), (by exact ((hf107.app hN821 (by omega) (by omega) (by omega)).perm (ins_perm _ _ _)).fin (by omega) (by omega)), (by omega), (by omega), (by first | omega | (simp; omega)), (by have hic := insG_front (n := x90) hU hk2 (.inl (by rw [List.length_map]; omega)); rw [drop_cons hx62, grGo, rowC_eq hx74, rowC_eq hx90, hic] at hF; rw [← hF]; congr 1; simp), (by have hic := insG_front (n := x90) hU hk2 (.inl (by rw [List.length_map]; omega)); have h9 := insG_up (k := x74) (n := x90) hU; rw [hic] at h9; simpa using h9), (by have hic := insG_front (n := x90) hU hk2 (.inl (by rw [List.length_map]; omega)); have h9 := grI_ins (k := x74) (n := x90) hvbx74 hvbx90 hG; rw [hic] at h9; simpa using h9)⟩
          ·show (t.2.length - ((i + 1)) : Nat) < t.2.length - i; omega
        ·
         refine po_eff ha759 rfl rfl rfl rfl (op_buildSlice (s := shRowN) (xs := [(([x74, x90] : List Int), (v754 : Value))]) (cs := [v754]) (vs := [(0, v754)]) (S := fun _ => False) (le := w755.heap.size) ha759 rfl pos_shRowN Try.underlying23 ti41 rfl rfl (by decide) ((fill_one (off := 0) ho756.cells1 (by kernel_rfl) (by kernel_rfl)).trans (by kernel_rfl)) (Els.single (mk_shRowN ((([x74, x90] : List Int), (v754 : Value))) ho756.one)) (fun _ h => h.elim)) ?_
         rintro v856 w857 ⟨ho858, he859, hob860⟩ a861 ha861; clear ha759 a759
         have hs862 := hs760.trans' he859
         have hx863 := hx761.trans' he859
         have hzhx863 := he859.size
         replace ho756 := ho756.ext he859
         refine ⟨hs862, ?_⟩
         have hN864 : Nst shI64 2 (fun x : List Int => x) w584.heap.size w857.heap.size w857 ([(([x74, x90] : List Int), (v754 : Value))]) := Nst.one (ho756.fin (by omega) (by omega) (by omega))
         refine dr_one (i := 0) (by kernel_rfl) ?_
         refine po_eff ha861 rfl rfl rfl rfl (op_buildSlice (s := shRowN) (xs := ([] : List ((List Int) × Value))) (cs := []) (vs := []) (S := fun _ => False) (le := w857.heap.size) ha861 rfl pos_shRowN Try.underlying23 ti41 rfl rfl (by decide) (by kernel_rfl) rfl (fun _ h => h.elim)) ?_
         rintro v865 w866 ⟨ho867, he868, hob869⟩ a870 ha870; clear ha861 a861
         have hs871 := hs862.trans' he868
         have hx872 := hx863.trans' he868
         have hzhx872 := he868.size
         replace ho756 := ho756.ext he868
         replace ho858 := ho858.ext he868
         replace hN864 := hN864.ext he868
         refine ⟨hs871, ?_⟩
         have hN873 : Nst shI64 2 (fun x : List Int => x) w857.heap.size w866.heap.size w866 (([] : List ((List Int) × Value))) := Nst.nil _ _ _ _ _ _
         refine dr_one (i := 4) (by kernel_rfl) ?_
         refine po_eff ha870 rfl rfl rfl rfl (op_append (ts := #[]) (s := shRowN) ha870 rfl Try.underlying23 ti41 rfl pos_shRowN rfl rfl ho867 (hr592.ext pos_shRowN hs871) (by omega) (by omega) (by first | omega | (simp; omega)) (by first | omega | (simp; omega)) (.inl flat_shRowN)) ?_
         rintro v874 w875 ⟨ho876, hst877, hob878⟩ a879 ha879; clear ha870 a870
         replace ho876 := ho876.cast (List.nil_append _)
         have hs880 := hs871.stp hst877 (by intro q hq; have hq0 := ho867.lt q hq; omega)
         have hx881 := hx872.stp hst877 (by intro q hq; have hq0 := ho867.lt q hq; omega)
         have hzhx881 := hst877.size
         replace ho756 := ho756.stp hst877 (by intro q hq; have hq0 := ho867.lt q hq; omega)
         replace ho858 := ho858.stp hst877 (by intro q hq; have hq0 := ho867.lt q hq; omega)
         replace hN864 := hN864.stp hst877 (by intro q hq; have hq0 := ho867.lt q hq; omega)
         replace hN873 : Nst shI64 2 (fun x : List Int => x) w857.heap.size w866.heap.size w875 (([] : List ((List Int) × Value))) := by first | exact hN873.stpF flat_shI64 hst877 ho867 rfl | exact hN873.stp hst877 (by intro q hq; have hq0 := ho867.lt q hq; omega)
         have hsp882 : ∀ q, Value.ownBlock v874 = some q → Value.ownBlock v ≠ some q := by intro q hq hb; have hq0 := hf106.lt q hb; rcases hob878 with h | h; (rw [h] at hq; first | (have hq1 := ho867.lt q hq; omega)); (rw [h] at hq; cases hq; omega)
         have hsp883 : ∀ q, Value.ownBlock v874 = some q → Value.ownBlock v856 ≠ some q := by intro q hq hb; have hq0 := ho858.lt q hb; rcases hob878 with h | h; (rw [h] at hq; first | (have hq1 := ho867.lt q hq; omega)); (rw [h] at hq; cases hq; omega)
         refine ⟨hs880, ?_⟩
         refine dr_one (i := 9) (by kernel_rfl) ?_
         refine po_eff ha879 rfl rfl rfl rfl (op_append (ts := #[]) (s := shRowN) ha879 rfl Try.underlying23 ti41 rfl pos_shRowN rfl rfl ho876 (ho858.rds pos_shRowN) (by omega) (by omega) (by first | omega | (simp; omega)) (by first | omega | (simp; omega)) (.inl flat_shRowN)) ?_
         rintro v884 w885 ⟨ho886, hst887, hob888⟩ a889 ha889; clear ha879 a879
         have hs890 := hs880.stp hst887 (by intro q hq; have hq0 := ho876.lt q hq; omega)
         have hx891 := hx881.stp hst887 (by intro q hq; have hq0 := ho876.lt q hq; omega)
         have hzhx891 := hst887.size
         replace ho756 := ho756.stp hst887 (by intro q hq; have hq0 := ho876.lt q hq; omega)
         replace ho858 := ho858.stp hst887 (by intro q hq; have hq0 := ho876.lt q hq; omega)
         replace hN864 := hN864.stp hst887 (by intro q hq; have hq0 := ho876.lt q hq; omega)
         replace hN873 : Nst shI64 2 (fun x : List Int => x) w857.heap.size w866.heap.size w885 (([] : List ((List Int) × Value))) := by first | exact hN873.stpF flat_shI64 hst887 ho876 rfl | exact hN873.stp hst887 (by intro q hq; have hq0 := ho876.lt q hq; omega)
         have hsp892 : ∀ q, Value.ownBlock v884 = some q → Value.ownBlock v ≠ some q := by intro q hq hb; have hq0 := hf106.lt q hb; rcases hob888 with h | h; (rw [h] at hq; first | (have hq1 := ho876.lt q hq; omega) | exact hsp882 q hq hb); (rw [h] at hq; cases hq; omega)
         have hsp893 : ∀ q, Value.ownBlock v884 = some q → Value.ownBlock v856 ≠ some q := by intro q hq hb; have hq0 := ho858.lt q hb; rcases hob888 with h | h; (rw [h] at hq; first | (have hq1 := ho876.lt q hq; omega) | exact hsp883 q hq hb); (rw [h] at hq; cases hq; omega)
         refine ⟨hs890, ?_⟩
         refine dr_one (i := 13) (by kernel_rfl) ?_
         refine po_eff ha889 rfl rfl rfl rfl (op_append (ts := #[]) (s := shRowN) ha889 rfl Try.underlying23 ti41 rfl pos_shRowN rfl rfl ho886 (hr600.ext pos_shRowN hs890) (by omega) (by omega) (by first | omega | (simp; omega)) (by first | omega | (simp; omega)) (.inl flat_shRowN)) ?_
         rintro v894 w895 ⟨ho896, hst897, hob898⟩ a899 ha899; clear ha889 a889
         have hs900 := hs890.stp hst897 (by intro q hq; have hq0 := ho886.lt q hq; omega)
         have hx901 := hx891.stp hst897 (by intro q hq; have hq0 := ho886.lt q hq; omega)
         have hzhx901 := hst897.size
         replace ho756 := ho756.stp hst897 (by intro q hq; have hq0 := ho886.lt q hq; omega)
         replace ho858 := ho858.stp hst897 (by intro q hq; have hq0 := ho886.lt q hq; omega)
         replace hN864 := hN864.stp hst897 (by intro q hq; have hq0 := ho886.lt q hq; omega)
         replace hN873 : Nst shI64 2 (fun x : List Int => x) w857.heap.size w866.heap.size w895 (([] : List ((List Int) × Value))) := by first | exact hN873.stpF flat_shI64 hst897 ho886 rfl | exact hN873.stp hst897 (by intro q hq; have hq0 := ho886.lt q hq; omega)
         have hsp902 : ∀ q, Value.ownBlock v894 = some q → Value.ownBlock v ≠ some q := by intro q hq hb; have hq0 := hf106.lt q hb; rcases hob898 with h | h; (rw [h] at hq; first | (have hq1 := ho886.lt q hq; omega) | exact hsp892 q hq hb); (rw [h] at hq; cases hq; omega)
         have hsp903 : ∀ q, Value.ownBlock v894 = some q → Value.ownBlock v856 ≠ some q := by intro q hq hb; have hq0 := ho858.lt q hb; rcases hob898 with h | h; (rw [h] at hq; first | (have hq1 := ho886.lt q hq; omega) | exact hsp893 q hq hb); (rw [h] at hq; cases hq; omega)
         refine ⟨hs900, ?_⟩
         refine dr_val (i := 14) ha899 rfl (by kernel_rfl) (by kernel_rfl) (by kernel_rfl) rfl rfl rfl hs900 (fun w' hw' => op_assign ha899 rfl rfl) ?_
         intro a904 ha904; clear ha899 a899
         refine dr_end (by kernel_rfl) ?_
         replace hf105 := hf105.ext hs900
         replace hf106 := hf106.ext hs900
         replace hf107 := hf107.ext hs900
         replace hr592 := hr592.ext pos_shRowN hs900
         replace hr600 := hr600.ext pos_shRowN hs900
         refine block_n ?_
         refine then_n ?_
         refine wp_region_lit ?_
         refine wl_val ha904 rfl rfl rfl (op_move ha904 rfl rfl) ?_
         intro a905 ha905; clear ha904 a904
         refine wl_val ha905 rfl rfl rfl ((op_add ha905 rfl rfl rfl).int (IntWalk.i64_in _ (by omega))) ?_
         intro a906 ha906; clear ha905 a905
         refine wl_val ha906 rfl rfl rfl (op_assign ha906 rfl rfl) ?_
         intro a907 ha907; clear ha906 a906
         refine wpList_nil ?_
         refine round_end (x := (i, v, zs)) ((i + 1), v894, ((zs.take k ++ [(([x74, x90] : List Int), (v754 : Value))]) ++ zs.drop k)) ?_ ?_
         ·
          refine ⟨(Sl.cons_ ha907 rfl rfl (Sl.cons_ ha907 rfl rfl (Sl.cons_ ha907 rfl rfl (Sl.cons_ ha907 rfl rfl (Sl.cons_ ha907 rfl (int_eq (by omega)) (Sl.nil_ ha907)))))), hx901, hf105, (ho896.fin (by omega) (by omega) (by omega)), (by exact ((hf107.app hN864 (by omega) (by omega) (by omega)).perm (ins_perm _ _ _)).fin (by omega) (by omega)), (by omega), (by omega), (by first | omega | (simp; omega)), (by have hic := insG_front (n := x90) hU hk2 (.inl (by rw [List.length_map]; omega)); rw [drop_cons hx62, grGo, rowC_eq hx74, rowC_eq hx90, hic] at hF; rw [← hF]; congr 1; simp), (by have hic := insG_front (n := x90) hU hk2 (.inl (by rw [List.length_map]; omega)); have h9 := insG_up (k := x74) (n := x90) hU; rw [hic] at h9; simpa using h9), (by have hic := insG_front (n := x90) hU hk2 (.inl (by rw [List.length_map]; omega)); have h9 := grI_ins (k := x74) (n := x90) hvbx74 hvbx90 hG; rw [hic] at h9; simpa using h9)⟩
         ·show (t.2.length - ((i + 1)) : Nat) < t.2.length - i; omega
    ·
     rw [decide_eq_false c54] at ha53
     refine cond_f ha53 rfl ?_
     refine wp_exit ?_
     refine then_e ?_
     refine then_e ?_
     refine block_hit ?_
     refine then_n ?_
     refine wp_seq ?_
     refine wp_region_lit ?_
     refine wl_val ha53 rfl rfl rfl (op_move ha53 rfl rfl) ?_
     intro a908 ha908; clear ha53 a53
     refine wl_val ha908 rfl rfl rfl (op_assign ha908 rfl rfl) ?_
     intro a909 ha909; clear ha908 a908
     refine wl_val ha909 rfl rfl rfl (op_assign ha909 rfl rfl) ?_
     intro a910 ha910; clear ha909 a909
     refine wpList_nil ?_
     refine then_n ?_
     refine wp_ret ?_
     refine ret2 ha910 rfl rfl rfl ?_
     clear ha910 a910
     have hr : cdG t column ad = _ := ((cdG_b c20).trans c31)
     have hF2 : zs.map (·.1) = grGo column ad t.2 [] := (by rw [drop_nil (by omega), grGo] at hF; exact hF)
     refine ret_mk hx43 ⟨v, zs, (tup2_eq rfl (int_eq (by first | exact hr.symm | omega))), hf45.fin (by omega) (by omega) (by omega), hf46.fin (by omega) (by omega), ?_⟩
     ·
      rw [grT_ok hr]; exact hF2
  ·
   rw [decide_eq_false c31] at ha30
   refine cond_t ha30 rfl ?_
   refine wp_seq ?_
   refine wp_region_lit ?_
   refine wl_val ha30 rfl rfl rfl (op_move ha30 rfl rfl) ?_
   intro a911 ha911; clear ha30 a30
   refine wl_val ha911 rfl rfl rfl (op_assign ha911 rfl rfl) ?_
   intro a912 ha912; clear ha911 a911
   refine wl_val ha912 rfl rfl rfl (op_assign ha912 rfl rfl) ?_
   intro a913 ha913; clear ha912 a912
   refine wpList_nil ?_
   refine then_n ?_
   refine wp_ret ?_
   refine then_r ?_
   refine ret2 ha913 rfl rfl rfl ?_
   clear ha913 a913
   have hr : cdG t column ad = _ := ((cdG_b c20).trans rfl)
   refine ret_mk hx27 ⟨(.slice none 0 0), [], (tup2_eq rfl (int_eq (by first | exact hr.symm | omega))), Own.nil _ _ _ _ _ _, Nst.nil _ _ _ _ _ _, ?_⟩
   ·
    rw [grT_no (by rw [hr]; first | decide | assumption)]; rfl
 ·
  rw [decide_eq_false c20] at ha19
  refine cond_f ha19 rfl ?_
  refine wp_skip ?_
  refine then_n ?_
  refine wp_seq ?_
  refine wp_seq ?_
  refine wp_region_lit ?_
  refine wl_val ha19 rfl rfl rfl (op_move ha19 rfl rfl) ?_
  intro a914 ha914; clear ha19 a19
  refine wl_val ha914 rfl rfl rfl ((op_neq ha914 rfl rfl rfl).to (congrArg Value.bool decide_not)) ?_
  intro a915 ha915; clear ha914 a914
  refine wpList_nil ?_
  refine then_n ?_
  rw [decide_eq_false c20] at ha915
  refine cond_t ha915 rfl ?_
  refine wp_seq ?_
  refine wp_region_lit ?_
  refine wl_val ha915 rfl rfl rfl (op_move ha915 rfl rfl) ?_
  intro a916 ha916; clear ha915 a915
  refine wl_val ha916 rfl rfl rfl (op_assign ha916 rfl rfl) ?_
  intro a917 ha917; clear ha916 a916
  refine wl_val ha917 rfl rfl rfl (op_assign ha917 rfl rfl) ?_
  intro a918 ha918; clear ha917 a917
  refine wpList_nil ?_
  refine then_n ?_
  refine wp_ret ?_
  refine then_r ?_
  refine ret2 ha918 rfl rfl rfl ?_
  clear ha918 a918
  have hr : cdG t column ad = _ := (cdG_a c20)
  refine ret_mk hx16 ⟨(.slice none 0 0), [], (tup2_eq rfl (int_eq (by first | exact hr.symm | omega))), Own.nil _ _ _ _ _ _, Nst.nil _ _ _ _ _ _, ?_⟩
  ·
   rw [grT_no (by rw [hr]; first | decide | assumption)]; rfl

set_option maxHeartbeats 4000000 in
theorem c_impl_GroupRows (w0 : World) (v_t0 : Value) (v_t1 : Value) (t : List Str × List (List Int)) {S_t0 : Nat → Prop} {S_t1 : Nat → Prop} (column : Int) (ad : Int) (h_t0 : Rds shStr S_t0 w0 v_t0 t.1) (h_t1 : Rds shRow S_t1 w0 v_t1 t.2) :
  Calls Try.prog 24 #[.agg #[v_t0, v_t1], .int .i64 column, .int .i64 ad] w0 (Ret w0 (fun v w1 => ∃ r0 z0, v = .tuple #[r0, .int .i64 (cdG t column ad)] ∧ Own shRowN 41 w0.heap.size w0.heap.size w1.heap.size w1 r0 z0 ∧ Nst shI64 2 (fun x : List Int => x) w0.heap.size w1.heap.size w1 z0 ∧ z0.map (·.1) = (grT t column ad))) := by
 refine enter (N := 106) Try.func24 rfl rfl rfl ?_
 intro a0 ha0
 have hx0 := Ext.rfl' w0
 have hl_t0 := h_t0.length_le
 have hl_t1 := h_t1.length_le
 refine wp_seq ?_
 refine wp_region_lit ?_
 refine wl_eff ha0 rfl rfl rfl (op_box' ha0 rfl rfl rfl) ?_
 rintro _ w2 ⟨rfl, he3, hb4, hz5⟩ a6 ha6; clear ha0 a0
 have hx7 := hx0.trans' he3
 have hzhx7 := he3.size
 refine wl_val ha6 rfl rfl rfl (op_assign ha6 rfl rfl) ?_
 intro a8 ha8; clear ha6 a6
 refine wl_val ha8 rfl rfl rfl (op_assign ha8 rfl rfl) ?_
 intro a9 ha9; clear ha8 a8
 refine wpList_nil ?_
 refine then_n ?_
 refine wp_seq ?_
 refine wp_seq ?_
 refine wp_region_lit ?_
 refine wl_val ha9 rfl rfl rfl (op_loadS ha9 rfl Try.underlying28 ti28 rfl rfl hb4.cells) ?_
 intro a10 ha10; clear ha9 a9
 refine wl_callR ha10 rfl rfl rfl (op_call ha10 rfl cb19 rfl) (c_impl_IsTable _ v_t0 v_t1 t (h_t0.ext pos_shStr hx7) (h_t1.ext pos_shRow hx7)) ?_
 rintro v11 w12 he13 rfl a14 ha14; clear ha10 a10
 have hx15 := hx7.trans' he13
 have hzhx15 := he13.size
 replace hb4 := hb4.ext he13
 refine wl_val ha14 rfl rfl rfl (op_not ha14 rfl rfl) ?_
 intro a16 ha16; clear ha14 a14
 refine wpList_nil ?_
 refine then_n ?_
 rcases Bool.eq_false_or_eq_true (tabB t) with c17 | c17
 ·
  rw [c17] at ha16
  have htbc17 := tab_bd c17
  have htrc17 := tab_rows c17
  refine cond_f ha16 rfl ?_
  refine wp_skip ?_
  refine then_n ?_
  refine wp_seq ?_
  refine wp_seq ?_
  refine wp_region_lit ?_
  refine wl_val ha16 rfl rfl rfl (op_loadS ha16 rfl Try.underlying28 ti28 rfl rfl hb4.cells) ?_
  intro a18 ha18; clear ha16 a16
  refine wl_val ha18 rfl rfl rfl (op_move ha18 rfl rfl) ?_
  intro a19 ha19; clear ha18 a18
  refine wl_callR ha19 rfl rfl rfl (op_call ha19 rfl cb70 rfl) (c_impl_isColumn _ v_t0 v_t1 t column (h_t0.ext pos_shStr hx15) (h_t1.ext pos_shRow hx15)) ?_
  rintro v20 w21 he22 rfl a23 ha23; clear ha19 a19
  have hx24 := hx15.trans' he22
  have hzhx24 := he22.size
  replace hb4 := hb4.ext he22
  refine wl_val ha23 rfl rfl rfl (op_not ha23 rfl rfl) ?_
  intro a25 ha25; clear ha23 a23
  refine wl_val ha25 rfl rfl rfl (op_move ha25 rfl rfl) ?_
  intro a26 ha26; clear ha25 a25
  rcases Bool.eq_false_or_eq_true (colB t column) with c27 | c27
  ·
   rw [c27] at ha26
   have hcbc27 := col_bd c27
   refine wl_val ha26 rfl rfl rfl (op_loadS ha26 rfl Try.underlying28 ti28 rfl rfl hb4.cells) ?_
   intro a28 ha28; clear ha26 a26
   refine wl_val ha28 rfl rfl rfl (op_move ha28 rfl rfl) ?_
   intro a29 ha29; clear ha28 a28
   refine wl_callR ha29 rfl rfl rfl (op_call ha29 rfl cb70 rfl) (c_impl_isColumn _ v_t0 v_t1 t ad (h_t0.ext pos_shStr hx24) (h_t1.ext pos_shRow hx24)) ?_
   rintro v30 w31 he32 rfl a33 ha33; clear ha29 a29
   have hx34 := hx24.trans' he32
   have hzhx34 := he32.size
   replace hb4 := hb4.ext he32
   refine wl_val ha33 rfl rfl rfl (op_not ha33 rfl rfl) ?_
   intro a35 ha35; clear ha33 a33
   refine wl_val ha35 rfl rfl rfl (op_pick_f ha35 rfl rfl rfl) ?_
   intro a36 ha36; clear ha35 a35
   refine wpList_nil ?_
   refine then_n ?_
   rcases Bool.eq_false_or_eq_true (colB t ad) with c37 | c37
   ·
    rw [c37] at ha36
    have hcbc37 := col_bd c37
    refine cond_f ha36 rfl ?_
    refine wp_skip ?_
    refine then_n ?_
    refine wp_seq ?_
    refine wp_region_lit ?_
    refine wl_val ha36 rfl rfl rfl (op_assign ha36 rfl rfl) ?_
    intro a38 ha38; clear ha36 a36
    refine wpList_nil ?_
    refine then_n ?_
    refine wp_seq ?_
    refine wp_seq ?_
    refine wp_region_lit ?_
    refine wl_val ha38 rfl rfl rfl (op_fieldAddr (sz := 0) ha38 rfl Try.underlying28 rfl rfl ti23 rfl) ?_
    intro a39 ha39; clear ha38 a38
    refine wl_val ha39 rfl rfl rfl (op_loadF (off := 1) ha39 rfl Try.underlying23 rfl rfl hb4.cells rfl) ?_
    intro a40 ha40; clear ha39 a39
    refine wl_val ha40 rfl rfl rfl (op_len_sl ha40 rfl Try.underlying23 rfl h_t1) ?_
    intro a41 ha41; clear ha40 a40
    refine wl_val ha41 rfl rfl rfl (op_move ha41 rfl rfl) ?_
    intro a42 ha42; clear ha41 a41
    refine wpList_nil ?_
    refine then_n ?_
    refine wp_block ?_
    refine loop_inv (X := Nat × Value × (List (List Int × Value))) (fun (⟨i, v, zs⟩ : Nat × Value × (List (List Int × Value))) fr wl => Sl 106 fr [(1, .int .i64 column), (2, .int .i64 ad), (8, v), (26, v_t1), (27, .int .i64 ((t.2.length : Nat) : Int)), (28, .int .i64 ((i : Nat) : Int))] ∧ Ext w0 wl ∧ Own shRowN 41 w31.heap.size w31.heap.size wl.heap.size wl v zs ∧ Nst shI64 2 (fun x : List Int => x) w31.heap.size wl.heap.size wl zs ∧ w31.heap.size ≤ wl.heap.size ∧ (i ≤ t.2.length) ∧ (zs.length ≤ i) ∧ (grGo column ad (t.2.drop i) (zs.map (·.1)) = grGo column ad t.2 []) ∧ (UpG (zs.map (·.1))) ∧ (GrI i (zs.map (·.1)))) (fun (⟨i, v, zs⟩ : Nat × Value × (List (List Int × Value))) => t.2.length - i) (0, (.slice none 0 0), []) ?_ ?_
    ·
     exact ⟨(Sl.cons_ ha42 rfl rfl (Sl.cons_ ha42 rfl rfl (Sl.cons_ ha42 rfl rfl (Sl.cons_ ha42 rfl rfl (Sl.cons_ ha42 rfl rfl (Sl.cons_ ha42 rfl (int_eq (by omega)) (Sl.nil_ ha42))))))), hx34, (Own.nil _ _ _ _ _ _), (Nst.nil _ _ _ _ _ _), (by omega), (by omega), (by exact Nat.le_refl _), (by rfl), (by exact List.Pairwise.nil), (by intro z hz; cases hz)⟩
    ·
     clear ha42 a42
     rintro ⟨i, v, zs⟩ a47 w43 ⟨ha47, hx44, hf45, hf46, hzl48, hi, hl, hF, hU, hG⟩
     have hzhx44 := hx44.size
     refine wp_seq ?_
     refine wp_region_lit ?_
     refine wl_val ha47 rfl rfl rfl (op_lss ha47 rfl rfl rfl) ?_
     intro a49 ha49; clear ha47 a47
     refine wpList_nil ?_
     refine then_n ?_
     refine wp_seq ?_
     by_cases c50 : ((i : Nat) : Int) < ((t.2.length : Nat) : Int)
     ·
      rw [decide_eq_true c50] at ha49
      refine cond_t ha49 rfl ?_
      refine wp_skip ?_
      refine then_n ?_
      refine wp_seq ?_
      refine wp_block ?_
      refine wp_seq ?_
      refine wp_region_lit ?_
      obtain ⟨x51, hx51⟩ := get_ex (xs := t.2) (j := i) (by first | omega | (simp only [List.length_append, List.length_take, List.length_drop, List.length_cons, List.length_nil]; omega))
      obtain ⟨p52, c53, hi54, hc55, hr56, hs57⟩ := Rds.at_ h_t1 hx51
      obtain ⟨v58, rfl, b59⟩ := inv_shRow hr56
      have hlb59 := b59.length_le
      have hrbx51 := htrc17 _ (List.mem_of_getElem? hx51)
      refine wl_val ha49 rfl rfl rfl (op_indexAddr ha49 rfl Try.underlying23 ti41 rfl rfl (by omega) hi54) ?_
      intro a60 ha60; clear ha49 a49
      refine wl_val ha60 rfl rfl rfl (op_loadH ha60 rfl Try.underlying41 rfl rfl (hc55.ext hx44) rfl) ?_
      intro a61 ha61; clear ha60 a60
      refine wl_val ha61 rfl rfl rfl (op_assign ha61 rfl rfl) ?_
      intro a62 ha62; clear ha61 a61
      refine wpList_nil ?_
      refine then_n ?_
      refine wp_seq ?_
      refine wp_region_lit ?_
      refine wl_val ha62 rfl rfl rfl (op_move ha62 rfl rfl) ?_
      intro a63 ha63; clear ha62 a62
      refine wl_val ha63 rfl rfl rfl (op_len_sl ha63 rfl Try.underlying23 rfl (hf45.rds pos_shRowN)) ?_
      intro a64 ha64; clear ha63 a63
      refine wl_val ha64 rfl rfl rfl (op_assign ha64 rfl rfl) ?_
      intro a65 ha65; clear ha64 a64
      refine wpList_nil ?_
      refine then_n ?_
      refine wp_seq ?_
      refine wp_block ?_
      obtain ⟨x66, hx66⟩ := get_ex (xs := x51) (j := column.toNat) (by first | omega | (simp only [List.length_append, List.length_take, List.length_drop, List.length_cons, List.length_nil]; omega))
      obtain ⟨p67, c68, hi69, hc70, hr71, hs72⟩ := Rds.at_ b59 hx66
      obtain ⟨rfl, b73⟩ := inv_shI64 hr71
      have hvbx66 := hrbx51.2 _ (List.mem_of_getElem? hx66)
      refine loop_inv (X := Nat) (fun (k : Nat) fr wl => Sl 106 fr [(1, .int .i64 column), (2, .int .i64 ad), (8, v), (10, v58), (11, .int .i64 ((k : Nat) : Int)), (26, v_t1), (27, .int .i64 ((t.2.length : Nat) : Int)), (28, .int .i64 ((i : Nat) : Int))] ∧ Ext w0 wl ∧ Own shRowN 41 w31.heap.size w31.heap.size w43.heap.size wl v zs ∧ Nst shI64 2 (fun x : List Int => x) w31.heap.size w43.heap.size wl zs ∧ w43.heap.size ≤ wl.heap.size ∧ (k ≤ zs.length) ∧ (∀ (j : Nat) (y : List Int), k ≤ j → (zs.map (·.1))[j]? = some y → x66 < rowC 0 y)) (fun (k : Nat) => k) (zs.length) ?_ ?_
      ·
       exact ⟨(Sl.cons_ ha65 rfl rfl (Sl.cons_ ha65 rfl rfl (Sl.cons_ ha65 rfl rfl (Sl.cons_ ha65 rfl rfl (Sl.cons_ ha65 rfl (int_eq (by omega)) (Sl.cons_ ha65 rfl rfl (Sl.cons_ ha65 rfl rfl (Sl.cons_ ha65 rfl rfl (Sl.nil_ ha65))))))))), hx44, hf45, hf46, (by omega), (by omega), (by intro j y hj hy; have := (List.getElem?_eq_some_iff.1 hy).1; rw [List.length_map] at this; omega)⟩
      ·
       clear ha65 a65
       rintro k a78 w74 ⟨ha78, hx75, hf76, hf77, hzl79, hk, hk2⟩
       have hzhx75 := hx75.size
       refine wp_seq ?_
       refine wp_seq ?_
       refine dr_enter Ext follows_mixed ?_
       intro w80 he81
       have hx82 := hx75.trans' he81
       have hzhx82 := he81.size
       replace hf76 := hf76.ext he81
       replace hf77 := hf77.ext he81
       have hs83 : Ext w80 w80 := Ext.rfl' _
       refine dr_val (i := 0) ha78 rfl (by kernel_rfl) (by kernel_rfl) (by kernel_rfl) rfl rfl rfl hs83 (fun w' hw' => op_move ha78 rfl rfl) ?_
       intro a84 ha84; clear ha78 a78
       refine dr_val (i := 1) ha84 rfl (by kernel_rfl) (by kernel_rfl) (by kernel_rfl) rfl rfl rfl hs83 (fun w' hw' => op_gtr ha84 rfl rfl rfl) ?_
       intro a85 ha85; clear ha84 a84
       refine dr_val (i := 2) ha85 rfl (by kernel_rfl) (by kernel_rfl) (by kernel_rfl) rfl rfl rfl hs83 (fun w' hw' => op_move ha85 rfl rfl) ?_
       intro a86 ha86; clear ha85 a85
       by_cases c87 : (0 : Int) < ((k : Nat) : Int)
       ·
        rw [decide_eq_true c87] at ha86
        refine dr_val (i := 3) ha86 rfl (by kernel_rfl) (by kernel_rfl) (by kernel_rfl) rfl rfl rfl hs83 (fun w' hw' => op_move ha86 rfl rfl) ?_
        intro a88 ha88; clear ha86 a86
        refine dr_val (i := 4) ha88 rfl (by kernel_rfl) (by kernel_rfl) (by kernel_rfl) rfl rfl rfl hs83 (fun w' hw' => op_move ha88 rfl rfl) ?_
        intro a89 ha89; clear ha88 a88
        refine dr_val (i := 5) ha89 rfl (by kernel_rfl) (by kernel_rfl) (by kernel_rfl) rfl rfl rfl hs83 (fun w' hw' => (op_sub ha89 rfl rfl rfl).int (IntWalk.i64_in _ (by omega))) ?_
        intro a90 ha90; clear ha89 a89
        obtain ⟨x91, hx91⟩ := get_ex (xs := zs) (j := (k - 1)) (by first | omega | (simp only [List.length_append, List.length_take, List.length_drop, List.length_cons, List.length_nil]; omega))
        obtain ⟨p92, c93, hi94, hc95, hr96, hs97⟩ := Rds.at_ (hf76.rds pos_shRowN) hx91
        obtain ⟨rfl, b98⟩ := inv_shRowN hr96
        have hn99 : Own shI64 2 w31.heap.size w31.heap.size w43.heap.size w80 x91.2 x91.1 := hf77.get hx91
        obtain ⟨_, _⟩ : _ ∧ _ := hs97
        have hgzx91 : x91.1.length = 2 ∧ -1000000000000 ≤ rowC 0 x91.1 ∧ rowC 0 x91.1 ≤ 1000000000000 ∧ -1000000000000 * (i : Int) ≤ rowC 1 x91.1 ∧ rowC 1 x91.1 ≤ 1000000000000 * (i : Int) := hG _ (List.mem_map_of_mem (List.mem_of_getElem? hx91))
        refine dr_val (i := 6) ha90 rfl (by kernel_rfl) (by kernel_rfl) (by kernel_rfl) rfl rfl rfl hs83 (fun w' hw' => op_indexAddr ha90 rfl Try.underlying23 ti41 rfl rfl (by omega) hi94) ?_
        intro a100 ha100; clear ha90 a90
        refine dr_val (i := 7) ha100 rfl (by kernel_rfl) (by kernel_rfl) (by kernel_rfl) rfl rfl rfl hs83 (fun w' hw' => op_loadH ha100 rfl Try.underlying41 rfl rfl (hc95.ext hw') rfl) ?_
        intro a101 ha101; clear ha100 a100
        obtain ⟨x102, hx102⟩ := get_ex (xs := x91.1) (j := 0) (by first | omega | (simp only [List.length_append, List.length_take, List.length_drop, List.length_cons, List.length_nil]; omega))
        obtain ⟨p103, c104, hi105, hc106, hr107, hs108⟩ := Rds.at_ (hn99.rds pos_shI64) hx102
        obtain ⟨rfl, b109⟩ := inv_shI64 hr107
        obtain ⟨_, _⟩ : _ ∧ _ := hs108
        have hrwx102 : rowC 0 x91.1 = x102 := rowC_eq (c := 0) hx102
        refine dr_val (i := 8) ha101 rfl (by kernel_rfl) (by kernel_rfl) (by kernel_rfl) rfl rfl rfl hs83 (fun w' hw' => op_indexAddr ha101 rfl Try.underlying41 ti2 rfl rfl (by omega) hi105) ?_
        intro a110 ha110; clear ha101 a101
        refine dr_val (i := 9) ha110 rfl (by kernel_rfl) (by kernel_rfl) (by kernel_rfl) rfl rfl rfl hs83 (fun w' hw' => op_loadH ha110 rfl Try.underlying2 rfl rfl (hc106.ext hw') rfl) ?_
        intro a111 ha111; clear ha110 a110
        refine dr_val (i := 10) ha111 rfl (by kernel_rfl) (by kernel_rfl) (by kernel_rfl) rfl rfl rfl hs83 (fun w' hw' => op_move ha111 rfl rfl) ?_
        intro a112 ha112; clear ha111 a111
        refine dr_val (i := 11) ha112 rfl (by kernel_rfl) (by kernel_rfl) (by kernel_rfl) rfl rfl rfl hs83 (fun w' hw' => op_move ha112 rfl rfl) ?_
        intro a113 ha113; clear ha112 a112
        refine dr_val (i := 12) ha113 rfl (by kernel_rfl) (by kernel_rfl) (by kernel_rfl) rfl rfl rfl hs83 (fun w' hw' => op_indexAddr ha113 rfl Try.underlying41 ti2 rfl rfl (by omega) hi69) ?_
        intro a114 ha114; clear ha113 a113
        refine dr_val (i := 13) ha114 rfl (by kernel_rfl) (by kernel_rfl) (by kernel_rfl) rfl rfl rfl hs83 (fun w' hw' => op_loadH ha114 rfl Try.underlying2 rfl rfl (hc70.ext (hx82.trans' hw')) rfl) ?_
        intro a115 ha115; clear ha114 a114
        refine dr_val (i := 14) ha115 rfl (by kernel_rfl) (by kernel_rfl) (by kernel_rfl) rfl rfl rfl hs83 (fun w' hw' => op_gtr ha115 rfl rfl rfl) ?_
        intro a116 ha116; clear ha115 a115
        refine dr_val (i := 15) ha116 rfl (by kernel_rfl) (by kernel_rfl) (by kernel_rfl) rfl rfl rfl hs83 (fun w' hw' => op_pick_t ha116 rfl rfl rfl) ?_
        intro a117 ha117; clear ha116 a116
        refine dr_end (by kernel_rfl) ?_
        replace hf76 := hf76.ext hs83
        replace hf77 := hf77.ext hs83
        replace hn99 := hn99.ext hs83
        replace hc95 := hc95.ext hs83
        replace hc106 := hc106.ext hs83
        refine then_n ?_
        by_cases c118 : x66 < x102
        ·
         rw [decide_eq_true c118] at ha117
         refine cond_t ha117 rfl ?_
         refine wp_skip ?_
         refine then_n ?_
         refine wp_block ?_
         refine wp_region_lit ?_
         refine wl_val ha117 rfl rfl rfl (op_move ha117 rfl rfl) ?_
         intro a119 ha119; clear ha117 a117
         refine wl_val ha119 rfl rfl rfl ((op_sub ha119 rfl rfl rfl).int (IntWalk.i64_in _ (by omega))) ?_
         intro a120 ha120; clear ha119 a119
         refine wl_val ha120 rfl rfl rfl (op_assign ha120 rfl rfl) ?_
         intro a121 ha121; clear ha120 a120
         refine wpList_nil ?_
         refine block_n ?_
         refine round_end (x := k) ((k - 1)) ?_ ?_
         ·
          refine ⟨(Sl.cons_ ha121 rfl rfl (Sl.cons_ ha121 rfl rfl (Sl.cons_ ha121 rfl rfl (Sl.cons_ ha121 rfl rfl (Sl.cons_ ha121 rfl (int_eq (by omega)) (Sl.cons_ ha121 rfl rfl (Sl.cons_ ha121 rfl rfl (Sl.cons_ ha121 rfl rfl (Sl.nil_ ha121))))))))), hx82, hf76, hf77, (by omega), (by omega), (by intro q z hq hz; by_cases e : q = k - 1; (subst e; rw [map_at hx91] at hz; cases hz; show _ < rowC 0 x91.1; omega); exact hk2 q z (by omega) hz)⟩
         ·show (((k - 1)) : Nat) < k; omega
        ·
         rw [decide_eq_false c118] at ha117
         refine cond_f ha117 rfl ?_
         refine wp_exit ?_
         refine then_e ?_
         refine then_e ?_
         refine block_hit ?_
         refine then_n ?_
         refine wp_seq ?_
         refine wp_seq ?_
         refine dr_enter Ext follows_mixed ?_
         intro w122 he123
         have hx124 := hx82.trans' he123
         have hzhx124 := he123.size
         replace hf76 := hf76.ext he123
         replace hf77 := hf77.ext he123
         replace hn99 := hn99.ext he123
         replace hc95 := hc95.ext he123
         replace hc106 := hc106.ext he123
         have hs125 : Ext w122 w122 := Ext.rfl' _
         refine dr_val (i := 0) ha117 rfl (by kernel_rfl) (by kernel_rfl) (by kernel_rfl) rfl rfl rfl hs125 (fun w' hw' => op_move ha117 rfl rfl) ?_
         intro a126 ha126; clear ha117 a117
         refine dr_val (i := 1) ha126 rfl (by kernel_rfl) (by kernel_rfl) (by kernel_rfl) rfl rfl rfl hs125 (fun w' hw' => op_gtr ha126 rfl rfl rfl) ?_
         intro a127 ha127; clear ha126 a126
         refine dr_val (i := 2) ha127 rfl (by kernel_rfl) (by kernel_rfl) (by kernel_rfl) rfl rfl rfl hs125 (fun w' hw' => op_move ha127 rfl rfl) ?_
         intro a128 ha128; clear ha127 a127
         rw [decide_eq_true c87] at ha128
         refine dr_val (i := 3) ha128 rfl (by kernel_rfl) (by kernel_rfl) (by kernel_rfl) rfl rfl rfl hs125 (fun w' hw' => op_move ha128 rfl rfl) ?_
         intro a129 ha129; clear ha128 a128
         refine dr_val (i := 4) ha129 rfl (by kernel_rfl) (by kernel_rfl) (by kernel_rfl) rfl rfl rfl hs125 (fun w' hw' => op_move ha129 rfl rfl) ?_
         intro a130 ha130; clear ha129 a129
         refine dr_val (i := 5) ha130 rfl (by kernel_rfl) (by kernel_rfl) (by kernel_rfl) rfl rfl rfl hs125 (fun w' hw' => (op_sub ha130 rfl rfl rfl).int (IntWalk.i64_in _ (by omega))) ?_
         intro a131 ha131; clear ha130 a130
         refine dr_val (i := 6) ha131 rfl (by kernel_rfl) (by kernel_rfl) (by kernel_rfl) rfl rfl rfl hs125 (fun w' hw' => op_indexAddr ha131 rfl Try.underlying23 ti41 rfl rfl (by omega) hi94) ?_
         intro a132 ha132; clear ha131 a131
         refine dr_val (i := 7) ha132 rfl (by kernel_rfl) (by kernel_rfl) (by kernel_rfl) rfl rfl rfl hs125 (fun w' hw' => op_loadH ha132 rfl Try.underlying41 rfl rfl (hc95.ext hw') rfl) ?_
         intro a133 ha133; clear ha132 a132
         refine dr_val (i := 8) ha133 rfl (by kernel_rfl) (by kernel_rfl) (by kernel_rfl) rfl rfl rfl hs125 (fun w' hw' => op_indexAddr ha133 rfl Try.underlying41 ti2 rfl rfl (by omega) hi105) ?_
         intro a134 ha134; clear ha133 a133
         refine dr_val (i := 9) ha134 rfl (by kernel_rfl) (by kernel_rfl) (by kernel_rfl) rfl rfl rfl hs125 (fun w' hw' => op_loadH ha134 rfl Try.underlying2 rfl rfl (hc106.ext hw') rfl) ?_
         intro a135 ha135; clear ha134 a134
         refine dr_val (i := 10) ha135 rfl (by kernel_rfl) (by kernel_rfl) (by kernel_rfl) rfl rfl rfl hs125 (fun w' hw' => op_move ha135 rfl rfl) ?_
         intro a136 ha136; clear ha135 a135
         refine dr_val (i := 11) ha136 rfl (by kernel_rfl) (by kernel_rfl) (by kernel_rfl) rfl rfl rfl hs125 (fun w' hw' => op_move ha136 rfl rfl) ?_
         intro a137 ha137; clear ha136 a136
         refine dr_val (i := 12) ha137 rfl (by kernel_rfl) (by kernel_rfl) (by kernel_rfl) rfl rfl rfl hs125 (fun w' hw' => op_indexAddr ha137 rfl Try.underlying41 ti2 rfl rfl (by omega) hi69) ?_
         intro a138 ha138; clear ha137 a137
         refine dr_val (i := 13) ha138 rfl (by kernel_rfl) (by kernel_rfl) (by kernel_rfl) rfl rfl rfl hs125 (fun w' hw' => op_loadH ha138 rfl Try.underlying2 rfl rfl (hc70.ext (hx124.trans' hw')) rfl) ?_
         intro a139 ha139; clear ha138 a138
         refine dr_val (i := 14) ha139 rfl (by kernel_rfl) (by kernel_rfl) (by kernel_rfl) rfl rfl rfl hs125 (fun w' hw' => op_eql ha139 rfl rfl rfl) ?_
         intro a140 ha140; clear ha139 a139
         refine dr_val (i := 15) ha140 rfl (by kernel_rfl) (by kernel_rfl) (by kernel_rfl) rfl rfl rfl hs125 (fun w' hw' => op_pick_t ha140 rfl rfl rfl) ?_
         intro a141 ha141; clear ha140 a140
         refine dr_end (by kernel_rfl) ?_
         replace hf76 := hf76.ext hs125
         replace hf77 := hf77.ext hs125
         replace hn99 := hn99.ext hs125
         replace hc95 := hc95.ext hs125
         replace hc106 := hc106.ext hs125
         refine then_n ?_
         by_cases c142 : x102 = x66
         ·
          rw [decide_eq_true c142] at ha141
          refine cond_t ha141 rfl ?_
          refine wp_seq ?_
          refine dr_enter (fun wa_ wb_ => Stp wa_ wb_ (Value.ownBlock x91.2)) follows_mixed ?_
          intro w143 he144
          have hx145 := hx124.trans' he144
          have hzhx145 := he144.size
          replace hf76 := hf76.ext he144
          replace hf77 := hf77.ext he144
          replace hn99 := hn99.ext he144
          replace hc95 := hc95.ext he144
          replace hc106 := hc106.ext he144
          have hs146 : Ext w143 w143 := Ext.rfl' _
          refine dr_val (i := 0) ha141 rfl (by kernel_rfl) (by kernel_rfl) (by kernel_rfl) rfl rfl rfl (Stp.of_ext hs146 _) (fun w' hw' => op_move ha141 rfl rfl) ?_
          intro a147 ha147; clear ha141 a141
          refine dr_val (i := 1) ha147 rfl (by kernel_rfl) (by kernel_rfl) (by kernel_rfl) rfl rfl rfl (Stp.of_ext hs146 _) (fun w' hw' => op_move ha147 rfl rfl) ?_
          intro a148 ha148; clear ha147 a147
          refine dr_val (i := 2) ha148 rfl (by kernel_rfl) (by kernel_rfl) (by kernel_rfl) rfl rfl rfl (Stp.of_ext hs146 _) (fun w' hw' => (op_sub ha148 rfl rfl rfl).int (IntWalk.i64_in _ (by omega))) ?_
          intro a149 ha149; clear ha148 a148
          refine dr_val (i := 3) ha149 rfl (by kernel_rfl) (by kernel_rfl) (by kernel_rfl) rfl rfl rfl (Stp.of_ext hs146 _) (fun w' hw' => op_indexAddr ha149 rfl Try.underlying23 ti41 rfl rfl (by omega) hi94) ?_
          intro a150 ha150; clear ha149 a149
          refine dr_val (i := 7) ha150 rfl (by kernel_rfl) (by kernel_rfl) (by kernel_rfl) rfl rfl rfl (Stp.of_ext hs146 _) (fun w' hw' => op_move ha150 rfl rfl) ?_
          intro a151 ha151; clear ha150 a150
          refine dr_val (i := 8) ha151 rfl (by kernel_rfl) (by kernel_rfl) (by kernel_rfl) rfl rfl rfl (Stp.of_ext hs146 _) (fun w' hw' => op_move ha151 rfl rfl) ?_
          intro a152 ha152; clear ha151 a151
          obtain ⟨x153, hx153⟩ := get_ex (xs := x51) (j := ad.toNat) (by first | omega | (simp only [List.length_append, List.length_take, List.length_drop, List.length_cons, List.length_nil]; omega))
          obtain ⟨p154, c155, hi156, hc157, hr158, hs159⟩ := Rds.at_ b59 hx153
          obtain ⟨rfl, b160⟩ := inv_shI64 hr158
          have hvbx153 := hrbx51.2 _ (List.mem_of_getElem? hx153)
          refine dr_val (i := 9) ha152 rfl (by kernel_rfl) (by kernel_rfl) (by kernel_rfl) rfl rfl rfl (Stp.of_ext hs146 _) (fun w' hw' => op_indexAddr ha152 rfl Try.underlying41 ti2 rfl rfl (by omega) hi156) ?_
          intro a161 ha161; clear ha152 a152
          refine dr_val (i := 10) ha161 rfl (by kernel_rfl) (by kernel_rfl) (by kernel_rfl) rfl rfl rfl (Stp.of_ext hs146 _) (fun w' hw' => op_loadH ha161 rfl Try.underlying2 rfl rfl (hc157.ext (hx145.stp hw' (by intro q hq; have hq0 := hn99.lt q hq; omega))) rfl) ?_
          intro a162 ha162; clear ha161 a161
          refine dr_one (i := 4) (by kernel_rfl) ?_
          refine po_to ha162 rfl rfl rfl rfl (op_loadH ha162 rfl Try.underlying41 rfl rfl (hc95.ext hs146) rfl) ?_
          intro a163 ha163; clear ha162 a162
          refine ⟨(Stp.of_ext hs146 _), ?_⟩
          obtain ⟨x164, hx164⟩ := get_ex (xs := x91.1) (j := 1) (by first | omega | (simp only [List.length_append, List.length_take, List.length_drop, List.length_cons, List.length_nil]; omega))
          obtain ⟨p165, c166, hi167, hc168, hr169, hs170⟩ := Rds.at_ (hn99.rds pos_shI64) hx164
          obtain ⟨rfl, b171⟩ := inv_shI64 hr169
          obtain ⟨_, _⟩ : _ ∧ _ := hs170
          have hrwx164 : rowC 1 x91.1 = x164 := rowC_eq (c := 1) hx164
          refine dr_val (i := 5) ha163 rfl (by kernel_rfl) (by kernel_rfl) (by kernel_rfl) rfl rfl rfl (Stp.of_ext hs146 _) (fun w' hw' => op_indexAddr ha163 rfl Try.underlying41 ti2 rfl rfl (by omega) hi167) ?_
          intro a172 ha172; clear ha163 a163
          refine dr_one (i := 6) (by kernel_rfl) ?_
          refine po_to ha172 rfl rfl rfl rfl (op_loadH ha172 rfl Try.underlying2 rfl rfl (hc168.ext hs146) rfl) ?_
          intro a173 ha173; clear ha172 a172
          refine ⟨(Stp.of_ext hs146 _), ?_⟩
          refine dr_val (i := 11) ha173 rfl (by kernel_rfl) (by kernel_rfl) (by kernel_rfl) rfl rfl rfl (Stp.of_ext hs146 _) (fun w' hw' => (op_add ha173 rfl rfl rfl).int (IntWalk.i64_in _ (by omega))) ?_
          intro a174 ha174; clear ha173 a173
          refine dr_val (i := 12) ha174 rfl (by kernel_rfl) (by kernel_rfl) (by kernel_rfl) rfl rfl rfl (Stp.of_ext hs146 _) (fun w' hw' => op_indexAddr ha174 rfl Try.underlying41 ti2 rfl rfl (by omega) hi167) ?_
          intro a175 ha175; clear ha174 a174
          refine dr_one (i := 13) (by kernel_rfl) ?_
          replace hf76 := hf76.ext hs146
          replace hf77 := hf77.ext hs146
          replace hn99 := hn99.ext hs146
          replace hc95 := hc95.ext hs146
          replace hc106 := hc106.ext hs146
          replace hc168 := hc168.ext hs146
          refine po_effS ha175 rfl rfl rfl (op_setElem (s := shI64) (ds := [.int .i64 (x164 + x153)]) (S' := fun _ => False) ha175 rfl ti2 rfl rfl rfl hn99 pos_shI64 hi167 (by first | omega | (simp only [List.length_append, List.length_take, List.length_drop, List.length_cons, List.length_nil]; omega)) (mk_shI64 ((x164 + x153)) (by first | assumption | omega | (simp; omega))) (fun _ h => h.elim)) ?_
          rintro w176 ⟨ho178, hst177, hz179⟩
          have hx180 := hx145.stp hst177 (by intro q hq; have hq0 := hn99.lt q hq; omega)
          have hzhx180 := hst177.size
          replace hf76 : Own shRowN 41 w31.heap.size w31.heap.size w43.heap.size w176 v zs := by first | exact hf76.stp hst177 (by intro q hq; have hq0 := hn99.lt q hq; omega) | exact hf76.stpF flat_shRowN hst177 (hf76.ne hn99 rfl)
          have hlsho178 : ((x91.1.set 1 ((x164 + x153)))).length = x91.1.length := List.length_set
          have ho181 : Own shRowN 41 w31.heap.size w31.heap.size w43.heap.size w176 v ((zs.set ((k - 1)) ((((x91.1.set 1 ((x164 + x153)))) : List Int), (x91.2 : Value)))) := hf76.ghost hx91 fun _ _ _ h => h
          have hN182 : Nst shI64 2 (fun x : List Int => x) w31.heap.size w43.heap.size w176 ((zs.set ((k - 1)) ((((x91.1.set 1 ((x164 + x153)))) : List Int), (x91.2 : Value)))) := hf77.put flat_shI64 hx91 hst177 ho178 (.inl rfl) (by omega)
          clear hf76 hf77
          have hlsho181 : ((zs.set ((k - 1)) ((((x91.1.set 1 ((x164 + x153)))) : List Int), (x91.2 : Value)))).length = zs.length := List.length_set
          have hs183 := (Stp.of_ext hs146 (Value.ownBlock x91.2)).trans' hst177
          refine ⟨hs183, ?_⟩
          refine dr_end (by kernel_rfl) ?_
          refine then_n ?_
          refine wp_exit ?_
          refine then_e ?_
          refine block_hit ?_
          refine then_n ?_
          refine wp_region_lit ?_
          refine wl_val ha175 rfl rfl rfl ((op_add ha175 rfl rfl rfl).int (IntWalk.i64_in _ (by omega))) ?_
          intro a184 ha184; clear ha175 a175
          refine wl_val ha184 rfl rfl rfl (op_move ha184 rfl rfl) ?_
          intro a185 ha185; clear ha184 a184
          refine wpList_nil ?_
          refine round_end (x := (i, v, zs)) ((i + 1), v, (zs.set ((k - 1)) ((((x91.1.set 1 ((x164 + x153)))) : List Int), (x91.2 : Value)))) ?_ ?_
          ·
           refine ⟨(Sl.cons_ ha185 rfl rfl (Sl.cons_ ha185 rfl rfl (Sl.cons_ ha185 rfl rfl (Sl.cons_ ha185 rfl rfl (Sl.cons_ ha185 rfl rfl (Sl.cons_ ha185 rfl (int_eq (by omega)) (Sl.nil_ ha185))))))), hx180, (ho181.fin (by omega) (by omega) (by omega)), (hN182.fin (by omega) (by omega)), (by omega), (by omega), (by first | omega | (simp; omega)), (by have hic := insG_bhit (n := x153) hU (map_at hx91) (by show rowC 0 x91.1 = x66; omega); rw [hrwx164] at hic; rw [drop_cons hx51, grGo, rowC_eq hx66, rowC_eq hx153, hic] at hF; rw [← hF]; congr 1; simp), (by have hic := insG_bhit (n := x153) hU (map_at hx91) (by show rowC 0 x91.1 = x66; omega); rw [hrwx164] at hic; have h9 := insG_up (k := x66) (n := x153) hU; rw [hic] at h9; simpa using h9), (by have hic := insG_bhit (n := x153) hU (map_at hx91) (by show rowC 0 x91.1 = x66; omega); rw [hrwx164] at hic; have h9 := grI_ins (k := x66) (n := x153) hvbx66 hvbx153 hG; rw [hic] at h9; simpa using h9)⟩
          ·show (t.2.length - ((i + 1)) : Nat) < t.2.length - i; omega
         ·
          rw [decide_eq_false c142] at ha141
          refine cond_f ha141 rfl ?_
          refine wp_skip ?_
          refine then_n ?_
          refine wp_seq ?_
          refine wp_region_lit ?_
          refine wl_val ha141 rfl rfl rfl (op_move ha141 rfl rfl) ?_
          intro a186 ha186; clear ha141 a141
          refine wl_eff ha186 rfl rfl rfl (op_buildSlice (s := shRowN) (xs := [(([] : List Int), (.slice none 0 0 : Value))]) (cs := [.slice none 0 0]) (vs := [(0, .slice none 0 0)]) (S := fun _ => False) (le := w122.heap.size) ha186 rfl pos_shRowN Try.underlying23 ti41 rfl rfl (by decide) (by kernel_rfl) (Els.single (mk_shRowN ((([] : List Int), (.slice none 0 0 : Value))) (by first | rfl | assumption | exact Own.one (by assumption) | exact Rds.one (by assumption)))) (fun _ h => h.elim)) ?_
          rintro v187 w188 ⟨ho189, he190, hob191⟩ a192 ha192; clear ha186 a186
          have hx193 := hx124.trans' he190
          have hzhx193 := he190.size
          replace hf76 := hf76.ext he190
          replace hf77 := hf77.ext he190
          replace hn99 := hn99.ext he190
          replace hc95 := hc95.ext he190
          replace hc106 := hc106.ext he190
          have hN194 : Nst shI64 2 (fun x : List Int => x) w122.heap.size w188.heap.size w188 ([(([] : List Int), (.slice none 0 0 : Value))]) := Nst.one (Own.nil _ _ _ _ _ _)
          refine wl_eff ha192 rfl rfl rfl (op_append (ts := #[]) (s := shRowN) ha192 rfl Try.underlying23 ti41 rfl pos_shRowN rfl rfl hf76 (ho189.rds pos_shRowN) (by omega) (by omega) (by first | omega | (simp; omega)) (by first | omega | (simp; omega)) (.inl flat_shRowN)) ?_
          rintro v195 w196 ⟨ho197, hst198, hob199⟩ a200 ha200; clear ha192 a192
          have hx201 := hx193.stp hst198 (by intro q hq; have hq0 := hf76.lt q hq; omega)
          have hzhx201 := hst198.size
          replace hf77 : Nst shI64 2 (fun x : List Int => x) w31.heap.size w43.heap.size w196 zs := by first | exact hf77.stpF flat_shI64 hst198 hf76 rfl | exact hf77.stp hst198 (by intro q hq; have hq0 := hf76.lt q hq; omega)
          replace hn99 : Own shI64 2 w31.heap.size w31.heap.size w43.heap.size w196 x91.2 x91.1 := by first | exact hn99.stp hst198 (by intro q hq; have hq0 := hf76.lt q hq; omega) | exact hn99.stpF flat_shI64 hst198 (hn99.ne hf76 rfl)
          replace ho189 := ho189.stp hst198 (by intro q hq; have hq0 := hf76.lt q hq; omega)
          replace hN194 := hN194.stp hst198 (by intro q hq; have hq0 := hf76.lt q hq; omega)
          have hsp202 : ∀ q, Value.ownBlock v195 = some q → Value.ownBlock v187 ≠ some q := by intro q hq hb; have hq0 := ho189.lt q hb; rcases hob199 with h | h; (rw [h] at hq; first | (have hq1 := hf76.lt q hq; omega)); (rw [h] at hq; cases hq; omega)
          have hN203 : Nst shI64 2 (fun x : List Int => x) w31.heap.size w196.heap.size w196 ((zs ++ [(([] : List Int), (.slice none 0 0 : Value))])) := (hf77.app hN194 (by omega) (by omega) (by omega)).fin (by omega) (by omega)
          refine wl_val ha200 rfl rfl rfl (op_assign ha200 rfl rfl) ?_
          intro a204 ha204; clear ha200 a200
          refine wpList_nil ?_
          refine then_n ?_
          refine wp_seq ?_
          refine dr_enter (fun wa_ wb_ => Stp wa_ wb_ (Value.ownBlock v195)) follows_mixed ?_
          intro w205 he206
          have hx207 := hx201.trans' he206
          have hzhx207 := he206.size
          replace hn99 := hn99.ext he206
          replace ho189 := ho189.ext he206
          replace ho197 := ho197.ext he206
          replace hN203 := hN203.ext he206
          have hs208 : Ext w205 w205 := Ext.rfl' _
          refine dr_val (i := 0) ha204 rfl (by kernel_rfl) (by kernel_rfl) (by kernel_rfl) rfl rfl rfl (Stp.of_ext hs208 _) (fun w' hw' => op_move ha204 rfl rfl) ?_
          intro a209 ha209; clear ha204 a204
          refine dr_val (i := 1) ha209 rfl (by kernel_rfl) (by kernel_rfl) (by kernel_rfl) rfl rfl rfl (Stp.of_ext hs208 _) (fun w' hw' => op_move ha209 rfl rfl) ?_
          intro a210 ha210; clear ha209 a209
          refine dr_val (i := 2) ha210 rfl (by kernel_rfl) (by kernel_rfl) (by kernel_rfl) rfl rfl rfl (Stp.of_ext hs208 _) (fun w' hw' => (op_add ha210 rfl rfl rfl).int (IntWalk.i64_in _ (by omega))) ?_
          intro a211 ha211; clear ha210 a210
          obtain ⟨u212, hu213, hpp215, hr214⟩ := Own.partw ho197 pos_shRowN (by simp; try omega) Try.underlying23 ti41 (some (.int .i64 ((k + 1) : Nat))) none ((k + 1)) (((zs ++ [(([] : List Int), (.slice none 0 0 : Value))])).length) (.inr ⟨.i64, rfl⟩) (.inl ⟨rfl, rfl⟩) (by first | omega | (simp; omega)) (by first | omega | (simp; omega))
          replace hr214 := hr214.cast (ys := ((zs ++ [(([] : List Int), (.slice none 0 0 : Value))])).drop ((k + 1))) (by first | rw [List.take_length] | simp)
          refine dr_val (i := 3) ha211 rfl (by kernel_rfl) (by kernel_rfl) (by kernel_rfl) rfl rfl rfl (Stp.of_ext hs208 _) (fun w' hw' => op_slice_f (by omega) ha211 rfl rfl rfl hu213) ?_
          intro a216 ha216; clear ha211 a211
          refine dr_val (i := 4) ha216 rfl (by kernel_rfl) (by kernel_rfl) (by kernel_rfl) rfl rfl rfl (Stp.of_ext hs208 _) (fun w' hw' => op_move ha216 rfl rfl) ?_
          intro a217 ha217; clear ha216 a216
          refine dr_val (i := 5) ha217 rfl (by kernel_rfl) (by kernel_rfl) (by kernel_rfl) rfl rfl rfl (Stp.of_ext hs208 _) (fun w' hw' => op_move ha217 rfl rfl) ?_
          intro a218 ha218; clear ha217 a217
          obtain ⟨u219, hu220, hpp222, hr221⟩ := Own.partw ho197 pos_shRowN (by simp; try omega) Try.underlying23 ti41 (some (.int .i64 (k : Nat))) none k (((zs ++ [(([] : List Int), (.slice none 0 0 : Value))])).length) (.inr ⟨.i64, rfl⟩) (.inl ⟨rfl, rfl⟩) (by first | omega | (simp; omega)) (by first | omega | (simp; omega))
          replace hr221 := hr221.cast (ys := ((zs ++ [(([] : List Int), (.slice none 0 0 : Value))])).drop k) (by first | rw [List.take_length] | simp)
          refine dr_val (i := 6) ha218 rfl (by kernel_rfl) (by kernel_rfl) (by kernel_rfl) rfl rfl rfl (Stp.of_ext hs208 _) (fun w' hw' => op_slice_f (by omega) ha218 rfl rfl rfl hu220) ?_
          intro a223 ha223; clear ha218 a218
          refine dr_one (i := 7) (by kernel_rfl) ?_
          replace hn99 := hn99.ext hs208
          replace ho189 := ho189.ext hs208
          replace ho197 := ho197.ext hs208
          replace hN203 := hN203.ext hs208
          replace hr214 := hr214.ext pos_shRowN hs208
          replace hr221 := hr221.ext pos_shRowN hs208
          refine po_eff ha223 rfl rfl rfl rfl (op_copyIn (s := shRowN) ha223 rfl Try.underlying23 ti41 rfl rfl ho197 (by simp; try omega) hpp215 hpp222) ?_
          rintro _ w224 ⟨rfl, ho226, hst225, hz227⟩ a228 ha228; clear ha223 a223
          have hx229 := hx207.stp hst225 (by intro q hq; have hq0 := ho197.lt q hq; omega)
          have hzhx229 := hst225.size
          replace hn99 : Own shI64 2 w31.heap.size w31.heap.size w43.heap.size w224 x91.2 x91.1 := by first | exact hn99.stp hst225 (by intro q hq; have hq0 := ho197.lt q hq; omega) | exact hn99.stpF flat_shI64 hst225 (hn99.ne ho197 rfl)
          replace ho189 : Own shRowN 41 w122.heap.size w122.heap.size w188.heap.size w224 v187 ([(([] : List Int), (.slice none 0 0 : Value))]) := by first | exact ho189.stp hst225 (by intro q hq; have hq0 := ho197.lt q hq; omega) | exact ho189.stpF flat_shRowN hst225 (fun q hq => hsp202 q hq)
          replace hN203 : Nst shI64 2 (fun x : List Int => x) w31.heap.size w196.heap.size w224 ((zs ++ [(([] : List Int), (.slice none 0 0 : Value))])) := by first | exact hN203.stpF flat_shI64 hst225 ho197 rfl | exact hN203.stp hst225 (by intro q hq; have hq0 := ho197.lt q hq; omega)
          clear ho197
          have hs230 := (Stp.of_ext hs208 (Value.ownBlock v195)).trans' hst225
          refine ⟨hs230, ?_⟩
          refine dr_end (by kernel_rfl) ?_
          refine then_n ?_
          refine dr_enter (fun wa_ wb_ => Stp wa_ wb_ (Value.ownBlock v195)) follows_mixed ?_
          intro w231 he232
          have hx233 := hx229.trans' he232
          have hzhx233 := he232.size
          replace hn99 := hn99.ext he232
          replace ho189 := ho189.ext he232
          replace hN203 := hN203.ext he232
          replace ho226 := ho226.ext he232
          have hs234 : Ext w231 w231 := Ext.rfl' _
          refine dr_val (i := 0) ha228 rfl (by kernel_rfl) (by kernel_rfl) (by kernel_rfl) rfl rfl rfl (Stp.of_ext hs234 _) (fun w' hw' => op_move ha228 rfl rfl) ?_
          intro a235 ha235; clear ha228 a228
          refine dr_val (i := 1) ha235 rfl (by kernel_rfl) (by kernel_rfl) (by kernel_rfl) rfl rfl rfl (Stp.of_ext hs234 _) (fun w' hw' => op_move ha235 rfl rfl) ?_
          intro a236 ha236; clear ha235 a235
          refine dr_val (i := 2) ha236 rfl (by kernel_rfl) (by kernel_rfl) (by kernel_rfl) rfl rfl rfl (Stp.of_ext hs234 _) (fun w' hw' => op_move ha236 rfl rfl) ?_
          intro a237 ha237; clear ha236 a236
          refine dr_val (i := 3) ha237 rfl (by kernel_rfl) (by kernel_rfl) (by kernel_rfl) rfl rfl rfl (Stp.of_ext hs234 _) (fun w' hw' => op_move ha237 rfl rfl) ?_
          intro a238 ha238; clear ha237 a237
          refine dr_val (i := 4) ha238 rfl (by kernel_rfl) (by kernel_rfl) (by kernel_rfl) rfl rfl rfl (Stp.of_ext hs234 _) (fun w' hw' => op_indexAddr ha238 rfl Try.underlying41 ti2 rfl rfl (by omega) hi69) ?_
          intro a239 ha239; clear ha238 a238
          refine dr_val (i := 5) ha239 rfl (by kernel_rfl) (by kernel_rfl) (by kernel_rfl) rfl rfl rfl (Stp.of_ext hs234 _) (fun w' hw' => op_loadH ha239 rfl Try.underlying2 rfl rfl (hc70.ext (hx233.stp hw' (by intro q hq; have hq0 := ho226.lt q hq; omega))) rfl) ?_
          intro a240 ha240; clear ha239 a239
          refine dr_val (i := 6) ha240 rfl (by kernel_rfl) (by kernel_rfl) (by kernel_rfl) rfl rfl rfl (Stp.of_ext hs234 _) (fun w' hw' => op_move ha240 rfl rfl) ?_
          intro a241 ha241; clear ha240 a240
          refine dr_val (i := 7) ha241 rfl (by kernel_rfl) (by kernel_rfl) (by kernel_rfl) rfl rfl rfl (Stp.of_ext hs234 _) (fun w' hw' => op_move ha241 rfl rfl) ?_
          intro a242 ha242; clear ha241 a241
          obtain ⟨x243, hx243⟩ := get_ex (xs := x51) (j := ad.toNat) (by first | omega | (simp only [List.length_append, List.length_take, List.length_drop, List.length_cons, List.length_nil]; omega))
          obtain ⟨p244, c245, hi246, hc247, hr248, hs249⟩ := Rds.at_ b59 hx243
          obtain ⟨rfl, b250⟩ := inv_shI64 hr248
          have hvbx243 := hrbx51.2 _ (List.mem_of_getElem? hx243)
          refine dr_val (i := 8) ha242 rfl (by kernel_rfl) (by kernel_rfl) (by kernel_rfl) rfl rfl rfl (Stp.of_ext hs234 _) (fun w' hw' => op_indexAddr ha242 rfl Try.underlying41 ti2 rfl rfl (by omega) hi246) ?_
          intro a251 ha251; clear ha242 a242
          refine dr_val (i := 9) ha251 rfl (by kernel_rfl) (by kernel_rfl) (by kernel_rfl) rfl rfl rfl (Stp.of_ext hs234 _) (fun w' hw' => op_loadH ha251 rfl Try.underlying2 rfl rfl (hc247.ext (hx233.stp hw' (by intro q hq; have hq0 := ho226.lt q hq; omega))) rfl) ?_
          intro a252 ha252; clear ha251 a251
          refine dr_one (i := 10) (by kernel_rfl) ?_
          refine po_eff ha252 rfl rfl rfl rfl (op_buildSlice (s := shI64) (xs := [x66, x243]) (cs := [.int .i64 x66, .int .i64 x243]) (vs := [(0, .int .i64 x66), (1, .int .i64 x243)]) (S := fun _ => False) (le := w231.heap.size) ha252 rfl pos_shI64 Try.underlying41 ti2 rfl rfl (by decide) (by kernel_rfl) ⟨mk_shI64 x66 (by first | assumption | omega | (simp; omega)), mk_shI64 x243 (by first | assumption | omega | (simp; omega)), rfl⟩ (fun _ h => h.elim)) ?_
          rintro v253 w254 ⟨ho255, he256, hob257⟩ a258 ha258; clear ha252 a252
          have hs259 := hs234.trans' he256
          have hx260 := hx233.trans' he256
          have hzhx260 := he256.size
          refine ⟨(Stp.of_ext hs259 _), ?_⟩
          obtain ⟨x261, hx261⟩ := get_ex (xs := (((zs ++ [(([] : List Int), (.slice none 0 0 : Value))])).take ((k + 1)) ++ (((zs ++ [(([] : List Int), (.slice none 0 0 : Value))])).drop k).take (min (((zs ++ [(([] : List Int), (.slice none 0 0 : Value))])).length - (k + 1)) (((zs ++ [(([] : List Int), (.slice none 0 0 : Value))])).length - k)) ++ ((zs ++ [(([] : List Int), (.slice none 0 0 : Value))])).drop ((k + 1) + (min (((zs ++ [(([] : List Int), (.slice none 0 0 : Value))])).length - (k + 1)) (((zs ++ [(([] : List Int), (.slice none 0 0 : Value))])).length - k))))) (j := k) (by first | omega | (simp only [List.length_append, List.length_take, List.length_drop, List.length_cons, List.length_nil]; omega))
          obtain ⟨p262, c263, hi264, hc265, hr266, hs267⟩ := Rds.at_ (ho226.rds pos_shRowN) hx261
          obtain ⟨rfl, b268⟩ := inv_shRowN hr266
          obtain ⟨_, _⟩ : _ ∧ _ := hs267
          refine dr_val (i := 11) ha258 rfl (by kernel_rfl) (by kernel_rfl) (by kernel_rfl) rfl rfl rfl (Stp.of_ext hs259 _) (fun w' hw' => op_indexAddr ha258 rfl Try.underlying23 ti41 rfl rfl (by omega) hi264) ?_
          intro a269 ha269; clear ha258 a258
          refine dr_one (i := 12) (by kernel_rfl) ?_
          replace hn99 := hn99.ext hs259
          replace ho189 := ho189.ext hs259
          replace hN203 := hN203.ext hs259
          replace ho226 := ho226.ext hs259
          replace hc265 := hc265.ext hs259
          refine po_effS ha269 rfl rfl rfl (op_setElem (s := shRowN) (ds := [v253]) (S' := fun _ => False) ha269 rfl ti41 rfl rfl ho255.cells1 ho226 pos_shRowN hi264 (by first | omega | (simp only [List.length_append, List.length_take, List.length_drop, List.length_cons, List.length_nil]; omega)) (mk_shRowN ((([x66, x243] : List Int), (v253 : Value))) ho255.one) (fun _ h => h.elim)) ?_
          rintro w270 ⟨ho272, hst271, hz273⟩
          have hx274 := hx260.stp hst271 (by intro q hq; have hq0 := ho226.lt q hq; omega)
          have hzhx274 := hst271.size
          replace hn99 : Own shI64 2 w31.heap.size w31.heap.size w43.heap.size w270 x91.2 x91.1 := by first | exact hn99.stp hst271 (by intro q hq; have hq0 := ho226.lt q hq; omega) | exact hn99.stpF flat_shI64 hst271 (hn99.ne ho226 rfl)
          replace ho189 : Own shRowN 41 w122.heap.size w122.heap.size w188.heap.size w270 v187 ([(([] : List Int), (.slice none 0 0 : Value))]) := by first | exact ho189.stp hst271 (by intro q hq; have hq0 := ho226.lt q hq; omega) | exact ho189.stpF flat_shRowN hst271 (fun q hq => hsp202 q hq)
          replace hN203 : Nst shI64 2 (fun x : List Int => x) w31.heap.size w196.heap.size w270 ((zs ++ [(([] : List Int), (.slice none 0 0 : Value))])) := by first | exact hN203.stpF flat_shI64 hst271 ho226 rfl | exact hN203.stp hst271 (by intro q hq; have hq0 := ho226.lt q hq; omega)
          replace ho255 := ho255.stp hst271 (by intro q hq; have hq0 := ho226.lt q hq; omega)
          clear ho226
          have hlsho272 : ((((((zs ++ [(([] : List Int), (.slice none 0 0 : Value))])).take ((k + 1)) ++ (((zs ++ [(([] : List Int), (.slice none 0 0 : Value))])).drop k).take (min (((zs ++ [(([] : List Int), (.slice none 0 0 : Value))])).length - (k + 1)) (((zs ++ [(([] : List Int), (.slice none 0 0 : Value))])).length - k)) ++ ((zs ++ [(([] : List Int), (.slice none 0 0 : Value))])).drop ((k + 1) + (min (((zs ++ [(([] : List Int), (.slice none 0 0 : Value))])).length - (k + 1)) (((zs ++ [(([] : List Int), (.slice none 0 0 : Value))])).length - k))))).set k ((([x66, x243] : List Int), (v253 : Value))))).length = ((((zs ++ [(([] : List Int), (.slice none 0 0 : Value))])).take ((k + 1)) ++ (((zs ++ [(([] : List Int), (.slice none 0 0 : Value))])).drop k).take (min (((zs ++ [(([] : List Int), (.slice none 0 0 : Value))])).length - (k + 1)) (((zs ++ [(([] : List Int), (.slice none 0 0 : Value))])).length - k)) ++ ((zs ++ [(([] : List Int), (.slice none 0 0 : Value))])).drop ((k + 1) + (min (((zs ++ [(([] : List Int), (.slice none 0 0 : Value))])).length - (k + 1)) (((zs ++ [(([] : List Int), (.slice none 0 0 : Value))])).length - k))))).length := List.length_set
          have hs275 := (Stp.of_ext hs259 (Value.ownBlock v195)).trans' hst271
          refine ⟨hs275, ?_⟩
          refine dr_end (by kernel_rfl) ?_
          refine block_n ?_
          refine then_n ?_
          refine wp_region_lit ?_
          refine wl_val ha269 rfl rfl rfl ((op_add ha269 rfl rfl rfl).int (IntWalk.i64_in _ (by omega))) ?_
          intro a276 ha276; clear ha269 a269
          refine wl_val ha276 rfl rfl rfl (op_move ha276 rfl rfl) ?_
          intro a277 ha277; clear ha276 a276
          refine wpList_nil ?_
          refine round_end (x := (i, v, zs)) ((i + 1), v195, (((((zs ++ [(([] : List Int), (.slice none 0 0 : Value))])).take ((k + 1)) ++ (((zs ++ [(([] : List Int), (.slice none 0 0 : Value))])).drop k).take (min (((zs ++ [(([] : List Int), (.slice none 0 0 : Value))])).length - (k + 1)) (((zs ++ [(([] : List Int), (.slice none 0 0 : Value))])).length - k)) ++ ((zs ++ [(([] : List Int), (.slice none 0 0 : Value))])).drop ((k + 1) + (min (((zs ++ [(([] : List Int), (.slice none 0 0 : Value))])).length - (k + 1)) (((zs ++ [(([] : List Int), (.slice none 0 0 : Value))])).length - k))))).set k ((([x66, x243] : List Int), (v253 : Value))))) ?_ ?_
          ·
           refine ⟨(Sl.cons_ ha277 rfl rfl (Sl.cons_ ha277 rfl rfl (Sl.cons_ ha277 rfl rfl (Sl.cons_ ha277 rfl rfl (Sl.cons_ ha277 rfl rfl (Sl.cons_ ha277 rfl (int_eq (by omega)) (Sl.nil_ ha277))))))), hx274, (ho272.fin (by omega) (by omega) (by omega)), (by rw [ins_eq (by omega)]; exact ((((hN203.sub (List.sublist_append_left _ _)).app (Nst.one ho255) (by omega) (by omega) (by omega)).perm (by rw [← List.singleton_append, ← List.append_assoc]; exact ins_perm _ _ _)).fin (by omega) (by omega))), (by omega), (by omega), (by rw [ins_eq (by omega)]; first | omega | (simp; omega)), (by rw [ins_eq (by omega)]; have hic := insG_back (n := x243) hU hk2 (.inr ⟨_, map_at hx91, (by show ¬ _ < rowC 0 x91.1; omega), (by show ¬ rowC 0 x91.1 = _; omega)⟩); rw [drop_cons hx51, grGo, rowC_eq hx66, rowC_eq hx243, hic] at hF; rw [← hF]; congr 1; simp), (by rw [ins_eq (by omega)]; have hic := insG_back (n := x243) hU hk2 (.inr ⟨_, map_at hx91, (by show ¬ _ < rowC 0 x91.1; omega), (by show ¬ rowC 0 x91.1 = _; omega)⟩); have h9 := insG_up (k := x66) (n := x243) hU; rw [hic] at h9; simpa using h9), (by rw [ins_eq (by omega)]; have hic := insG_back (n := x243) hU hk2 (.inr ⟨_, map_at hx91, (by show ¬ _ < rowC 0 x91.1; omega), (by show ¬ rowC 0 x91.1 = _; omega)⟩); have h9 := grI_ins (k := x66) (n := x243) hvbx66 hvbx243 hG; rw [hic] at h9; simpa using h9)⟩
          ·show (t.2.length - ((i + 1)) : Nat) < t.2.length - i; omega
       ·
        rw [decide_eq_false c87] at ha86
        refine dr_skip (i := 3) ha86 rfl (by kernel_rfl) (by kernel_rfl) (by kernel_rfl) rfl rfl rfl hs83 ?_
        intro a278 ha278; clear ha86 a86
        refine dr_skip (i := 4) ha278 rfl (by kernel_rfl) (by kernel_rfl) (by kernel_rfl) rfl rfl rfl hs83 ?_
        intro a279 ha279; clear ha278 a278
        refine dr_skip (i := 5) ha279 rfl (by kernel_rfl) (by kernel_rfl) (by kernel_rfl) rfl rfl rfl hs83 ?_
        intro a280 ha280; clear ha279 a279
        refine dr_skip (i := 6) ha280 rfl (by kernel_rfl) (by kernel_rfl) (by kernel_rfl) rfl rfl rfl hs83 ?_
        intro a281 ha281; clear ha280 a280
        refine dr_skip (i := 7) ha281 rfl (by kernel_rfl) (by kernel_rfl) (by kernel_rfl) rfl rfl rfl hs83 ?_
        intro a282 ha282; clear ha281 a281
        refine dr_skip (i := 8) ha282 rfl (by kernel_rfl) (by kernel_rfl) (by kernel_rfl) rfl rfl rfl hs83 ?_
        intro a283 ha283; clear ha282 a282
        refine dr_skip (i := 9) ha283 rfl (by kernel_rfl) (by kernel_rfl) (by kernel_rfl) rfl rfl rfl hs83 ?_
        intro a284 ha284; clear ha283 a283
        refine dr_skip (i := 10) ha284 rfl (by kernel_rfl) (by kernel_rfl) (by kernel_rfl) rfl rfl rfl hs83 ?_
        intro a285 ha285; clear ha284 a284
        refine dr_skip (i := 11) ha285 rfl (by kernel_rfl) (by kernel_rfl) (by kernel_rfl) rfl rfl rfl hs83 ?_
        intro a286 ha286; clear ha285 a285
        refine dr_skip (i := 12) ha286 rfl (by kernel_rfl) (by kernel_rfl) (by kernel_rfl) rfl rfl rfl hs83 ?_
        intro a287 ha287; clear ha286 a286
        refine dr_skip (i := 13) ha287 rfl (by kernel_rfl) (by kernel_rfl) (by kernel_rfl) rfl rfl rfl hs83 ?_
        intro a288 ha288; clear ha287 a287
        refine dr_skip (i := 14) ha288 rfl (by kernel_rfl) (by kernel_rfl) (by kernel_rfl) rfl rfl rfl hs83 ?_
        intro a289 ha289; clear ha288 a288
        refine dr_val (i := 15) ha289 rfl (by kernel_rfl) (by kernel_rfl) (by kernel_rfl) rfl rfl rfl hs83 (fun w' hw' => op_pick_f ha289 rfl rfl rfl) ?_
        intro a290 ha290; clear ha289 a289
        refine dr_end (by kernel_rfl) ?_
        replace hf76 := hf76.ext hs83
        replace hf77 := hf77.ext hs83
        refine then_n ?_
        refine cond_f ha290 rfl ?_
        refine wp_exit ?_
        refine then_e ?_
        refine then_e ?_
        refine block_hit ?_
        refine then_n ?_
        refine wp_seq ?_
        refine wp_seq ?_
        refine dr_enter Ext follows_mixed ?_
        intro w291 he292
        have hx293 := hx82.trans' he292
        have hzhx293 := he292.size
        replace hf76 := hf76.ext he292
        replace hf77 := hf77.ext he292
        have hs294 : Ext w291 w291 := Ext.rfl' _
        refine dr_val (i := 0) ha290 rfl (by kernel_rfl) (by kernel_rfl) (by kernel_rfl) rfl rfl rfl hs294 (fun w' hw' => op_move ha290 rfl rfl) ?_
        intro a295 ha295; clear ha290 a290
        refine dr_val (i := 1) ha295 rfl (by kernel_rfl) (by kernel_rfl) (by kernel_rfl) rfl rfl rfl hs294 (fun w' hw' => op_gtr ha295 rfl rfl rfl) ?_
        intro a296 ha296; clear ha295 a295
        refine dr_val (i := 2) ha296 rfl (by kernel_rfl) (by kernel_rfl) (by kernel_rfl) rfl rfl rfl hs294 (fun w' hw' => op_move ha296 rfl rfl) ?_
        intro a297 ha297; clear ha296 a296
        rw [decide_eq_false c87] at ha297
        refine dr_skip (i := 3) ha297 rfl (by kernel_rfl) (by kernel_rfl) (by kernel_rfl) rfl rfl rfl hs294 ?_
        intro a298 ha298; clear ha297 a297
        refine dr_skip (i := 4) ha298 rfl (by kernel_rfl) (by kernel_rfl) (by kernel_rfl) rfl rfl rfl hs294 ?_
        intro a299 ha299; clear ha298 a298
        refine dr_skip (i := 5) ha299 rfl (by kernel_rfl) (by kernel_rfl) (by kernel_rfl) rfl rfl rfl hs294 ?_
        intro a300 ha300; clear ha299 a299
        refine dr_skip (i := 6) ha300 rfl (by kernel_rfl) (by kernel_rfl) (by kernel_rfl) rfl rfl rfl hs294 ?_
        intro a301 ha301; clear ha300 a300
        refine dr_skip (i := 7) ha301 rfl (by kernel_rfl) (by kernel_rfl) (by kernel_rfl) rfl rfl rfl hs294 ?_
        intro a302 ha302; clear ha301 a301
        refine dr_skip (i := 8) ha302 rfl (by kernel_rfl) (by kernel_rfl) (by kernel_rfl) rfl rfl rfl hs294 ?_
        intro a303 ha303; clear ha302 a302
        refine dr_skip (i := 9) ha303 rfl (by kernel_rfl) (by kernel_rfl) (by kernel_rfl) rfl rfl rfl hs294 ?_
        intro a304 ha304; clear ha303 a303
        refine dr_skip (i := 10) ha304 rfl (by kernel_rfl) (by kernel_rfl) (by kernel_rfl) rfl rfl rfl hs294 ?_
        intro a305 ha305; clear ha304 a304
        refine dr_skip (i := 11) ha305 rfl (by kernel_rfl) (by kernel_rfl) (by kernel_rfl) rfl rfl rfl hs294 ?_
        intro a306 ha306; clear ha305 a305
        refine dr_skip (i := 12) ha306 rfl (by kernel_rfl) (by kernel_rfl) (by kernel_rfl) rfl rfl rfl hs294 ?_
        intro a307 ha307; clear ha306 a306
        refine dr_skip (i := 13) ha307 rfl (by kernel_rfl) (by kernel_rfl) (by kernel_rfl) rfl rfl rfl hs294 ?_
        intro a308 ha308; clear ha307 a307
        refine dr_skip (i := 14) ha308 rfl (by kernel_rfl) (by kernel_rfl) (by kernel_rfl) rfl rfl rfl hs294 ?_
        intro a309 ha309; clear ha308 a308
        refine dr_val (i := 15) ha309 rfl (by kernel_rfl) (by kernel_rfl) (by kernel_rfl) rfl rfl rfl hs294 (fun w' hw' => op_pick_f ha309 rfl rfl rfl) ?_
        intro a310 ha310; clear ha309 a309
        refine dr_end (by kernel_rfl) ?_
        replace hf76 := hf76.ext hs294
        replace hf77 := hf77.ext hs294
        refine then_n ?_
        refine cond_f ha310 rfl ?_
        refine wp_skip ?_
        refine then_n ?_
        refine wp_seq ?_
        refine wp_region_lit ?_
        refine wl_val ha310 rfl rfl rfl (op_move ha310 rfl rfl) ?_
        intro a311 ha311; clear ha310 a310
        refine wl_eff ha311 rfl rfl rfl (op_buildSlice (s := shRowN) (xs := [(([] : List Int), (.slice none 0 0 : Value))]) (cs := [.slice none 0 0]) (vs := [(0, .slice none 0 0)]) (S := fun _ => False) (le := w291.heap.size) ha311 rfl pos_shRowN Try.underlying23 ti41 rfl rfl (by decide) (by kernel_rfl) (Els.single (mk_shRowN ((([] : List Int), (.slice none 0 0 : Value))) (by first | rfl | assumption | exact Own.one (by assumption) | exact Rds.one (by assumption)))) (fun _ h => h.elim)) ?_
        rintro v312 w313 ⟨ho314, he315, hob316⟩ a317 ha317; clear ha311 a311
        have hx318 := hx293.trans' he315
        have hzhx318 := he315.size
        replace hf76 := hf76.ext he315
        replace hf77 := hf77.ext he315
        have hN319 : Nst shI64 2 (fun x : List Int => x) w291.heap.size w313.heap.size w313 ([(([] : List Int), (.slice none 0 0 : Value))]) := Nst.one (Own.nil _ _ _ _ _ _)
        refine wl_eff ha317 rfl rfl rfl (op_append (ts := #[]) (s := shRowN) ha317 rfl Try.underlying23 ti41 rfl pos_shRowN rfl rfl hf76 (ho314.rds pos_shRowN) (by omega) (by omega) (by first | omega | (simp; omega)) (by first | omega | (simp; omega)) (.inl flat_shRowN)) ?_
        rintro v320 w321 ⟨ho322, hst323, hob324⟩ a325 ha325; clear ha317 a317
        have hx326 := hx318.stp hst323 (by intro q hq; have hq0 := hf76.lt q hq; omega)
        have hzhx326 := hst323.size
        replace hf77 : Nst shI64 2 (fun x : List Int => x) w31.heap.size w43.heap.size w321 zs := by first | exact hf77.stpF flat_shI64 hst323 hf76 rfl | exact hf77.stp hst323 (by intro q hq; have hq0 := hf76.lt q hq; omega)
        replace ho314 := ho314.stp hst323 (by intro q hq; have hq0 := hf76.lt q hq; omega)
        replace hN319 := hN319.stp hst323 (by intro q hq; have hq0 := hf76.lt q hq; omega)
        have hsp327 : ∀ q, Value.ownBlock v320 = some q → Value.ownBlock v312 ≠ some q := by intro q hq hb; have hq0 := ho314.lt q hb; rcases hob324 with h | h; (rw [h] at hq; first | (have hq1 := hf76.lt q hq; omega)); (rw [h] at hq; cases hq; omega)
        have hN328 : Nst shI64 2 (fun x : List Int => x) w31.heap.size w321.heap.size w321 ((zs ++ [(([] : List Int), (.slice none 0 0 : Value))])) := (hf77.app hN319 (by omega) (by omega) (by omega)).fin (by omega) (by omega)
        refine wl_val ha325 rfl rfl rfl (op_assign ha325 rfl rfl) ?_
        intro a329 ha329; clear ha325 a325
        refine wpList_nil ?_
        refine then_n ?_
        refine wp_seq ?_
        refine dr_enter (fun wa_ wb_ => Stp wa_ wb_ (Value.ownBlock v320)) follows_mixed ?_
        intro w330 he331
        have hx332 := hx326.trans' he331
        have hzhx332 := he331.size
        replace ho314 := ho314.ext he331
        replace ho322 := ho322.ext he331
        replace hN328 := hN328.ext he331
        have hs333 : Ext w330 w330 := Ext.rfl' _
        refine dr_val (i := 0) ha329 rfl (by kernel_rfl) (by kernel_rfl) (by kernel_rfl) rfl rfl rfl (Stp.of_ext hs333 _) (fun w' hw' => op_move ha329 rfl rfl) ?_
        intro a334 ha334; clear ha329 a329
        refine dr_val (i := 1) ha334 rfl (by kernel_rfl) (by kernel_rfl) (by kernel_rfl) rfl rfl rfl (Stp.of_ext hs333 _) (fun w' hw' => op_move ha334 rfl rfl) ?_
        intro a335 ha335; clear ha334 a334
        refine dr_val (i := 2) ha335 rfl (by kernel_rfl) (by kernel_rfl) (by kernel_rfl) rfl rfl rfl (Stp.of_ext hs333 _) (fun w' hw' => (op_add ha335 rfl rfl rfl).int (IntWalk.i64_in _ (by omega))) ?_
        intro a336 ha336; clear ha335 a335
        obtain ⟨u337, hu338, hpp340, hr339⟩ := Own.partw ho322 pos_shRowN (by simp; try omega) Try.underlying23 ti41 (some (.int .i64 ((k + 1) : Nat))) none ((k + 1)) (((zs ++ [(([] : List Int), (.slice none 0 0 : Value))])).length) (.inr ⟨.i64, rfl⟩) (.inl ⟨rfl, rfl⟩) (by first | omega | (simp; omega)) (by first | omega | (simp; omega))
        replace hr339 := hr339.cast (ys := ((zs ++ [(([] : List Int), (.slice none 0 0 : Value))])).drop ((k + 1))) (by first | rw [List.take_length] | simp)
        refine dr_val (i := 3) ha336 rfl (by kernel_rfl) (by kernel_rfl) (by kernel_rfl) rfl rfl rfl (Stp.of_ext hs333 _) (fun w' hw' => op_slice_f (by omega) ha336 rfl rfl rfl hu338) ?_
        intro a341 ha341; clear ha336 a336
        refine dr_val (i := 4) ha341 rfl (by kernel_rfl) (by kernel_rfl) (by kernel_rfl) rfl rfl rfl (Stp.of_ext hs333 _) (fun w' hw' => op_move ha341 rfl rfl) ?_
        intro a342 ha342; clear ha341 a341
        refine dr_val (i := 5) ha342 rfl (by kernel_rfl) (by kernel_rfl) (by kernel_rfl) rfl rfl rfl (Stp.of_ext hs333 _) (fun w' hw' => op_move ha342 rfl rfl) ?_
        intro a343 ha343; clear ha342 a342
        obtain ⟨u344, hu345, hpp347, hr346⟩ := Own.partw ho322 pos_shRowN (by simp; try omega) Try.underlying23 ti41 (some (.int .i64 (k : Nat))) none k (((zs ++ [(([] : List Int), (.slice none 0 0 : Value))])).length) (.inr ⟨.i64, rfl⟩) (.inl ⟨rfl, rfl⟩) (by first | omega | (simp; omega)) (by first | omega | (simp; omega))
        replace hr346 := hr346.cast (ys := ((zs ++ [(([] : List Int), (.slice none 0 0 : Value))])).drop k) (by first | rw [List.take_length] | simp)
        refine dr_val (i := 6) ha343 rfl (by kernel_rfl) (by kernel_rfl) (by kernel_rfl) rfl rfl rfl (Stp.of_ext hs333 _) (fun w' hw' => op_slice_f (by omega) ha343 rfl rfl rfl hu345) ?_
        intro a348 ha348; clear ha343 a343
        refine dr_one (i := 7) (by kernel_rfl) ?_
        replace ho314 := ho314.ext hs333
        replace ho322 := ho322.ext hs333
        replace hN328 := hN328.ext hs333
        replace hr339 := hr339.ext pos_shRowN hs333
        replace hr346 := hr346.ext pos_shRowN hs333
        refine po_eff ha348 rfl rfl rfl rfl (op_copyIn (s := shRowN) ha348 rfl Try.underlying23 ti41 rfl rfl ho322 (by simp; try omega) hpp340 hpp347) ?_
        rintro _ w349 ⟨rfl, ho351, hst350, hz352⟩ a353 ha353; clear ha348 a348
        have hx354 := hx332.stp hst350 (by intro q hq; have hq0 := ho322.lt q hq; omega)
        have hzhx354 := hst350.size
        replace ho314 : Own shRowN 41 w291.heap.size w291.heap.size w313.heap.size w349 v312 ([(([] : List Int), (.slice none 0 0 : Value))]) := by first | exact ho314.stp hst350 (by intro q hq; have hq0 := ho322.lt q hq; omega) | exact ho314.stpF flat_shRowN hst350 (fun q hq => hsp327 q hq)
        replace hN328 : Nst shI64 2 (fun x : List Int => x) w31.heap.size w321.heap.size w349 ((zs ++ [(([] : List Int), (.slice none 0 0 : Value))])) := by first | exact hN328.stpF flat_shI64 hst350 ho322 rfl | exact hN328.stp hst350 (by intro q hq; have hq0 := ho322.lt q hq; omega)
        clear ho322
        have hs355 := (Stp.of_ext hs333 (Value.ownBlock v320)).trans' hst350
        refine ⟨hs355, ?_⟩
        refine dr_end (by kernel_rfl) ?_
        refine then_n ?_
        refine dr_enter (fun wa_ wb_ => Stp wa_ wb_ (Value.ownBlock v320)) follows_mixed ?_
        intro w356 he357
        have hx358 := hx354.trans' he357
        have hzhx358 := he357.size
        replace ho314 := ho314.ext he357
        replace hN328 := hN328.ext he357
        replace ho351 := ho351.ext he357
        have hs359 : Ext w356 w356 := Ext.rfl' _
        refine dr_val (i := 0) ha353 rfl (by kernel_rfl) (by kernel_rfl) (by kernel_rfl) rfl rfl rfl (Stp.of_ext hs359 _) (fun w' hw' => op_move ha353 rfl rfl) ?_
        intro a360 ha360; clear ha353 a353
        refine dr_val (i := 1) ha360 rfl (by kernel_rfl) (by kernel_rfl) (by kernel_rfl) rfl rfl rfl (Stp.of_ext hs359 _) (fun w' hw' => op_move ha360 rfl rfl) ?_
        intro a361 ha361; clear ha360 a360
        refine dr_val (i := 2) ha361 rfl (by kernel_rfl) (by kernel_rfl) (by kernel_rfl) rfl rfl rfl (Stp.of_ext hs359 _) (fun w' hw' => op_move ha361 rfl rfl) ?_
        intro a362 ha362; clear ha361 a361
        refine dr_val (i := 3) ha362 rfl (by kernel_rfl) (by kernel_rfl) (by kernel_rfl) rfl rfl rfl (Stp.of_ext hs359 _) (fun w' hw' => op_move ha362 rfl rfl) ?_
        intro a363 ha363; clear ha362 a362
        refine dr_val (i := 4) ha363 rfl (by kernel_rfl) (by kernel_rfl) (by kernel_rfl) rfl rfl rfl (Stp.of_ext hs359 _) (fun w' hw' => op_indexAddr ha363 rfl Try.underlying41 ti2 rfl rfl (by omega) hi69) ?_
        intro a364 ha364; clear ha363 a363
        refine dr_val (i := 5) ha364 rfl (by kernel_rfl) (by kernel_rfl) (by kernel_rfl) rfl rfl rfl (Stp.of_ext hs359 _) (fun w' hw' => op_loadH ha364 rfl Try.underlying2 rfl rfl (hc70.ext (hx358.stp hw' (by intro q hq; have hq0 := ho351.lt q hq; omega))) rfl) ?_
        intro a365 ha365; clear ha364 a364
        refine dr_val (i := 6) ha365 rfl (by kernel_rfl) (by kernel_rfl) (by kernel_rfl) rfl rfl rfl (Stp.of_ext hs359 _) (fun w' hw' => op_move ha365 rfl rfl) ?_
        intro a366 ha366; clear ha365 a365
        refine dr_val (i := 7) ha366 rfl (by kernel_rfl) (by kernel_rfl) (by kernel_rfl) rfl rfl rfl (Stp.of_ext hs359 _) (fun w' hw' => op_move ha366 rfl rfl) ?_
        intro a367 ha367; clear ha366 a366
        obtain ⟨x368, hx368⟩ := get_ex (xs := x51) (j := ad.toNat) (by first | omega | (simp only [List.length_append, List.length_take, List.length_drop, List.length_cons, List.length_nil]; omega))
        obtain ⟨p369, c370, hi371, hc372, hr373, hs374⟩ := Rds.at_ b59 hx368
        obtain ⟨rfl, b375⟩ := inv_shI64 hr373
        have hvbx368 := hrbx51.2 _ (List.mem_of_getElem? hx368)
        refine dr_val (i := 8) ha367 rfl (by kernel_rfl) (by kernel_rfl) (by kernel_rfl) rfl rfl rfl (Stp.of_ext hs359 _) (fun w' hw' => op_indexAddr ha367 rfl Try.underlying41 ti2 rfl rfl (by omega) hi371) ?_
        intro a376 ha376; clear ha367 a367
        refine dr_val (i := 9) ha376 rfl (by kernel_rfl) (by kernel_rfl) (by kernel_rfl) rfl rfl rfl (Stp.of_ext hs359 _) (fun w' hw' => op_loadH ha376 rfl Try.underlying2 rfl rfl (hc372.ext (hx358.stp hw' (by intro q hq; have hq0 := ho351.lt q hq; omega))) rfl) ?_
        intro a377 ha377; clear ha376 a376
        refine dr_one (i := 10) (by kernel_rfl) ?_
        refine po_eff ha377 rfl rfl rfl rfl (op_buildSlice (s := shI64) (xs := [x66, x368]) (cs := [.int .i64 x66, .int .i64 x368]) (vs := [(0, .int .i64 x66), (1, .int .i64 x368)]) (S := fun _ => False) (le := w356.heap.size) ha377 rfl pos_shI64 Try.underlying41 ti2 rfl rfl (by decide) (by kernel_rfl) ⟨mk_shI64 x66 (by first | assumption | omega | (simp; omega)), mk_shI64 x368 (by first | assumption | omega | (simp; omega)), rfl⟩ (fun _ h => h.elim)) ?_
        rintro v378 w379 ⟨ho380, he381, hob382⟩ a383 ha383; clear ha377 a377
        have hs384 := hs359.trans' he381
        have hx385 := hx358.trans' he381
        have hzhx385 := he381.size
        refine ⟨(Stp.of_ext hs384 _), ?_⟩
        obtain ⟨x386, hx386⟩ := get_ex (xs := (((zs ++ [(([] : List Int), (.slice none 0 0 : Value))])).take ((k + 1)) ++ (((zs ++ [(([] : List Int), (.slice none 0 0 : Value))])).drop k).take (min (((zs ++ [(([] : List Int), (.slice none 0 0 : Value))])).length - (k + 1)) (((zs ++ [(([] : List Int), (.slice none 0 0 : Value))])).length - k)) ++ ((zs ++ [(([] : List Int), (.slice none 0 0 : Value))])).drop ((k + 1) + (min (((zs ++ [(([] : List Int), (.slice none 0 0 : Value))])).length - (k + 1)) (((zs ++ [(([] : List Int), (.slice none 0 0 : Value))])).length - k))))) (j := k) (by first | omega | (simp only [List.length_append, List.length_take, List.length_drop, List.length_cons, List.length_nil]; omega))
        obtain ⟨p387, c388, hi389, hc390, hr391, hs392⟩ := Rds.at_ (ho351.rds pos_shRowN) hx386
        obtain ⟨rfl, b393⟩ := inv_shRowN hr391
        obtain ⟨_, _⟩ : _ ∧ _ := hs392
        refine dr_val (i := 11) ha383 rfl (by kernel_rfl) (by kernel_rfl) (by kernel_rfl) rfl rfl rfl (Stp.of_ext hs384 _) (fun w' hw' => op_indexAddr ha383 rfl Try.underlying23 ti41 rfl rfl (by omega) hi389) ?_
        intro a394 ha394; clear ha383 a383
        refine dr_one (i := 12) (by kernel_rfl) ?_
        replace ho314 := ho314.ext hs384
        replace hN328 := hN328.ext hs384
        replace ho351 := ho351.ext hs384
        replace hc390 := hc390.ext hs384
        refine po_effS ha394 rfl rfl rfl (op_setElem (s := shRowN) (ds := [v378]) (S' := fun _ => False) ha394 rfl ti41 rfl rfl ho380.cells1 ho351 pos_shRowN hi389 (by first | omega | (simp only [List.length_append, List.length_take, List.length_drop, List.length_cons, List.length_nil]; omega)) (mk_shRowN ((([x66, x368] : List Int), (v378 : Value))) ho380.one) (fun _ h => h.elim)) ?_
        rintro w395 ⟨ho397, hst396, hz398⟩
        have hx399 := hx385.stp hst396 (by intro q hq; have hq0 := ho351.lt q hq; omega)
        have hzhx399 := hst396.size
        replace ho314 : Own shRowN 41 w291.heap.size w291.heap.size w313.heap.size w395 v312 ([(([] : List Int), (.slice none 0 0 : Value))]) := by first | exact ho314.stp hst396 (by intro q hq; have hq0 := ho351.lt q hq; omega) | exact ho314.stpF flat_shRowN hst396 (fun q hq => hsp327 q hq)
        replace hN328 : Nst shI64 2 (fun x : List Int => x) w31.heap.size w321.heap.size w395 ((zs ++ [(([] : List Int), (.slice none 0 0 : Value))])) := by first | exact hN328.stpF flat_shI64 hst396 ho351 rfl | exact hN328.stp hst396 (by intro q hq; have hq0 := ho351.lt q hq; omega)
        replace ho380 := ho380.stp hst396 (by intro q hq; have hq0 := ho351.lt q hq; omega)
        clear ho351
        have hlsho397 : ((((((zs ++ [(([] : List Int), (.slice none 0 0 : Value))])).take ((k + 1)) ++ (((zs ++ [(([] : List Int), (.slice none 0 0 : Value))])).drop k).take (min (((zs ++ [(([] : List Int), (.slice none 0 0 : Value))])).length - (k + 1)) (((zs ++ [(([] : List Int), (.slice none 0 0 : Value))])).length - k)) ++ ((zs ++ [(([] : List Int), (.slice none 0 0 : Value))])).drop ((k + 1) + (min (((zs ++ [(([] : List Int), (.slice none 0 0 : Value))])).length - (k + 1)) (((zs ++ [(([] : List Int), (.slice none 0 0 : Value))])).length - k))))).set k ((([x66, x368] : List Int), (v378 : Value))))).length = ((((zs ++ [(([] : List Int), (.slice none 0 0 : Value))])).take ((k + 1)) ++ (((zs ++ [(([] : List Int), (.slice none 0 0 : Value))])).drop k).take (min (((zs ++ [(([] : List Int), (.slice none 0 0 : Value))])).length - (k + 1)) (((zs ++ [(([] : List Int), (.slice none 0 0 : Value))])).length - k)) ++ ((zs ++ [(([] : List Int), (.slice none 0 0 : Value))])).drop ((k + 1) + (min (((zs ++ [(([] : List Int), (.slice none 0 0 : Value))])).length - (k + 1)) (((zs ++ [(([] : List Int), (.slice none 0 0 : Value))])).length - k))))).length := List.length_set
        have hs400 := (Stp.of_ext hs384 (Value.ownBlock v320)).trans' hst396
        refine ⟨hs400, ?_⟩
        refine dr_end (by kernel_rfl) ?_
        refine block_n ?_
        refine then_n ?_
        refine wp_region_lit ?_
        refine wl_val ha394 rfl rfl rfl ((op_add ha394 rfl rfl rfl).int (IntWalk.i64_in _ (by omega))) ?_
        intro a401 ha401; clear ha394 a394
        refine wl_val ha401 rfl rfl rfl (op_move ha401 rfl rfl) ?_
        intro a402 ha402; clear ha401 a401
        refine wpList_nil ?_
        refine round_end (x := (i, v, zs)) ((i + 1), v320, (((((zs ++ [(([] : List Int), (.slice none 0 0 : Value))])).take ((k + 1)) ++ (((zs ++ [(([] : List Int), (.slice none 0 0 : Value))])).drop k).take (min (((zs ++ [(([] : List Int), (.slice none 0 0 : Value))])).length - (k + 1)) (((zs ++ [(([] : List Int), (.slice none 0 0 : Value))])).length - k)) ++ ((zs ++ [(([] : List Int), (.slice none 0 0 : Value))])).drop ((k + 1) + (min (((zs ++ [(([] : List Int), (.slice none 0 0 : Value))])).length - (k + 1)) (((zs ++ [(([] : List Int), (.slice none 0 0 : Value))])).length - k))))).set k ((([x66, x368] : List Int), (v378 : Value))))) ?_ ?_
        ·
         refine ⟨(Sl.cons_ ha402 rfl rfl (Sl.cons_ ha402 rfl rfl (Sl.cons_ ha402 rfl rfl (Sl.cons_ ha402 rfl rfl (Sl.cons_ ha402 rfl rfl (Sl.cons_ ha402 rfl (int_eq (by omega)) (Sl.nil_ ha402))))))), hx399, (ho397.fin (by omega) (by omega) (by omega)), (by rw [ins_eq (by omega)]; exact ((((hN328.sub (List.sublist_append_left _ _)).app (Nst.one ho380) (by omega) (by omega) (by omega)).perm (by rw [← List.singleton_append, ← List.append_assoc]; exact ins_perm _ _ _)).fin (by omega) (by omega))), (by omega), (by omega), (by rw [ins_eq (by omega)]; first | omega | (simp; omega)), (by rw [ins_eq (by omega)]; have hic := insG_back (n := x368) hU hk2 (.inl (by omega)); rw [drop_cons hx51, grGo, rowC_eq hx66, rowC_eq hx368, hic] at hF; rw [← hF]; congr 1; simp), (by rw [ins_eq (by omega)]; have hic := insG_back (n := x368) hU hk2 (.inl (by omega)); have h9 := insG_up (k := x66) (n := x368) hU; rw [hic] at h9; simpa using h9), (by rw [ins_eq (by omega)]; have hic := insG_back (n := x368) hU hk2 (.inl (by omega)); have h9 := grI_ins (k := x66) (n := x368) hvbx66 hvbx368 hG; rw [hic] at h9; simpa using h9)⟩
        ·show (t.2.length - ((i + 1)) : Nat) < t.2.length - i; omega
     ·
      rw [decide_eq_false c50] at ha49
      refine cond_f ha49 rfl ?_
      refine wp_exit ?_
      refine then_e ?_
      refine then_e ?_
      refine block_hit ?_
      refine then_n ?_
      refine wp_seq ?_
      refine wp_region_lit ?_
      refine wl_val ha49 rfl rfl rfl (op_move ha49 rfl rfl) ?_
      intro a403 ha403; clear ha49 a49
      refine wl_val ha403 rfl rfl rfl (op_assign ha403 rfl rfl) ?_
      intro a404 ha404; clear ha403 a403
      refine wl_val ha404 rfl rfl rfl (op_assign ha404 rfl rfl) ?_
      intro a405 ha405; clear ha404 a404
      refine wpList_nil ?_
      refine then_n ?_
      refine wp_ret ?_
      refine ret2 ha405 rfl rfl rfl ?_
      clear ha405 a405
      have hr : cdG t column ad = _ := (cdG_0 c17 c27 c37)
      have hF2 : zs.map (·.1) = grGo column ad t.2 [] := (by rw [drop_nil (by omega), grGo] at hF; exact hF)
      refine ret_mk hx44 ⟨v, zs, (tup2_eq rfl (int_eq (by first | exact hr.symm | omega))), hf45.fin (by omega) (by omega) (by omega), hf46.fin (by omega) (by omega), ?_⟩
      ·
       rw [grT_ok hr]; exact hF2
   ·
    rw [c37] at ha36
    refine cond_t ha36 rfl ?_
    refine wp_seq ?_
    refine wp_region_lit ?_
    refine wl_val ha36 rfl rfl rfl (op_assign ha36 rfl rfl) ?_
    intro a406 ha406; clear ha36 a36
    refine wl_val ha406 rfl rfl rfl (op_assign ha406 rfl rfl) ?_
    intro a407 ha407; clear ha406 a406
    refine wpList_nil ?_
    refine then_n ?_
    refine wp_ret ?_
    refine then_r ?_
    refine ret2 ha407 rfl rfl rfl ?_
    clear ha407 a407
    have hr : cdG t column ad = _ := (cdG_2 c17 (.inr c37))
    refine ret_mk hx34 ⟨(.slice none 0 0), [], (tup2_eq rfl (int_eq (by first | exact hr.symm | omega))), Own.nil _ _ _ _ _ _, Nst.nil _ _ _ _ _ _, ?_⟩
    ·
     rw [grT_no (by rw [hr]; first | decide | assumption)]; rfl
  ·
   rw [c27] at ha26
   refine wl_skip ha26 rfl rfl rfl ?_
   intro a408 ha408; clear ha26 a26
   refine wl_skip ha408 rfl rfl rfl ?_
   intro a409 ha409; clear ha408 a408
   refine wl_skip ha409 rfl rfl rfl ?_
   intro a410 ha410; clear ha409 a409
   refine wl_skip ha410 rfl rfl rfl ?_
   intro a411 ha411; clear ha410 a410
   refine wl_val ha411 rfl rfl rfl (op_pick_t ha411 rfl rfl rfl) ?_
   intro a412 ha412; clear ha411 a411
   refine wpList_nil ?_
   refine then_n ?_
   refine cond_t ha412 rfl ?_
   refine wp_seq ?_
   refine wp_region_lit ?_
   refine wl_val ha412 rfl rfl rfl (op_assign ha412 rfl rfl) ?_
   intro a413 ha413; clear ha412 a412
   refine wl_val ha413 rfl rfl rfl (op_assign ha413 rfl rfl) ?_
   intro a414 ha414; clear ha413 a413
   refine wpList_nil ?_
   refine then_n ?_
   refine wp_ret ?_
   refine then_r ?_
   refine ret2 ha414 rfl rfl rfl ?_
   clear ha414 a414
   have hr : cdG t column ad = _ := (cdG_2 c17 (.inl c27))
   refine ret_mk hx24 ⟨(.slice none 0 0), [], (tup2_eq rfl (int_eq (by first | exact hr.symm | omega))), Own.nil _ _ _ _ _ _, Nst.nil _ _ _ _ _ _, ?_⟩
   ·
    rw [grT_no (by rw [hr]; first | decide | assumption)]; rfl
 ·
  rw [c17] at ha16
  refine cond_t ha16 rfl ?_
  refine wp_seq ?_
  refine wp_region_lit ?_
  refine wl_val ha16 rfl rfl rfl (op_assign ha16 rfl rfl) ?_
  intro a415 ha415; clear ha16 a16
  refine wl_val ha415 rfl rfl rfl (op_assign ha415 rfl rfl) ?_
  intro a416 ha416; clear ha415 a415
  refine wpList_nil ?_
  refine then_n ?_
  refine wp_ret ?_
  refine then_r ?_
  refine ret2 ha416 rfl rfl rfl ?_
  clear ha416 a416
  have hr : cdG t column ad = _ := (cdG_1 c17)
  refine ret_mk hx15 ⟨(.slice none 0 0), [], (tup2_eq rfl (int_eq (by first | exact hr.symm | omega))), Own.nil _ _ _ _ _ _, Nst.nil _ _ _ _ _ _, ?_⟩
  ·
   rw [grT_no (by rw [hr]; first | decide | assumption)]; rfl


end Go.Proofs.Ytjpldgicibnkcaa
