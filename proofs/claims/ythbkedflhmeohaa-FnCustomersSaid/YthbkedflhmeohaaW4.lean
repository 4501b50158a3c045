/- Copies of customers, bikes in their places. -/
import Derived.Test.YthbkedflhmeohaaW3
namespace Go.Proofs.Ythbkedflhmeohaa
open Go Go.RowKit

def wbGo (x : Str) : List Str → Bool → List Str
  | [], p => if p then [] else [x]
  | b :: bs, p => if p = false ∧ x < b then x :: b :: wbGo x bs true else b :: wbGo x bs p
theorem wb_true (x : Str) : ∀ bs : List Str, wbGo x bs true = bs
  | [] => rfl
  | b :: bs => by rw [wbGo, if_neg (by simp), wb_true x bs]
theorem wb_put {x b : Str} {bs : List Str} (h : x < b) : wbGo x (b :: bs) false = x :: b :: wbGo x bs true := by rw [wbGo, if_pos ⟨rfl, h⟩]
theorem wb_no {x b : Str} {bs : List Str} {p : Bool} (h : p = true ∨ ¬ x < b) : wbGo x (b :: bs) p = b :: wbGo x bs p := by
  rw [wbGo, if_neg]; rintro ⟨h1, h2⟩
  rcases h with h | h
  · rw [h] at h1; cases h1
  · exact h h2
def liL (x : Str) : List Str → List Str
  | [] => [x]
  | y :: ys => if y < x then y :: liL x ys else x :: y :: ys
theorem wb_li {x : Str} : ∀ {bs : List Str}, x ∉ bs → wbGo x bs false = liL x bs
  | [], _ => rfl
  | b :: bs, h => by
    simp only [List.mem_cons, not_or] at h
    rw [liL]; split
    · rw [wb_no (.inr (str_as ‹_›)), wb_li h.2]
    · rw [wb_put ((str_le ‹_›).resolve_right h.1), wb_true]
theorem liL_mem {x z : Str} : ∀ {xs : List Str}, z ∈ liL x xs ↔ z = x ∨ z ∈ xs
  | [] => by simp [liL]
  | y :: ys => by
    rw [liL]; split
    · rw [List.mem_cons, liL_mem, List.mem_cons]
      constructor
      · rintro (e | e | e) <;> simp [e]
      · rintro (e | e | e) <;> simp [e]
    · simp
theorem liL_len (x : Str) : ∀ (xs : List Str), (liL x xs).length = xs.length + 1
  | [] => rfl
  | y :: ys => by rw [liL]; split <;> simp [liL_len x ys]
theorem wb_len (x : Str) : ∀ (xs : List Str) (p : Bool), (wbGo x xs p).length ≤ xs.length + 1
  | [], p => by rw [wbGo]; split <;> simp
  | y :: ys, p => by
    have h1 := wb_len x ys p; have h2 := wb_true x ys
    rw [wbGo]; split
    · simp [h2]
    · simp; omega
def woL (x : Str) (bs : List Str) : List Str := bs.filter fun b => !decide (b = x)
theorem wo_len (x : Str) (bs : List Str) : (woL x bs).length ≤ bs.length := List.length_filter_le _ _
theorem wo_step {x b : Str} {bs : List Str} : woL x (b :: bs) = if b = x then woL x bs else b :: woL x bs := by
  unfold woL; rw [List.filter_cons]; by_cases h : b = x <;> simp [h]
/-- The bikes of the customer at place i are others. -/
def setB (xs : List Cust) (i : Nat) (bs : List Str) : List Cust := match xs[i]? with
  | none => xs
  | some c => xs.set i (c.1, c.2.1, bs)
theorem setB_eq {xs : List Cust} {i : Nat} {c : Cust} {bs : List Str} (h : xs[i]? = some c) : setB xs i bs = xs.set i (c.1, c.2.1, bs) := by unfold setB; rw [h]
def bikesAt (xs : List Cust) (i : Nat) : List Str := (xs[i]?).elim [] (·.2.2)
theorem bikesAt_eq {xs : List Cust} {i : Nat} {c : Cust} (h : xs[i]? = some c) : bikesAt xs i = c.2.2 := by unfold bikesAt; rw [h]; rfl
/-- Nobody else has the bike. -/
theorem cu_only {xs : List Cust} (h : cuB xs = true) {i j : Nat} {c d : Cust} {b : Str} (hc : xs[i]? = some c) (hd : xs[j]? = some d) (h1 : b ∈ c.2.2) (h2 : b ∈ d.2.2) : i = j := by
  rcases Nat.lt_trichotomy i j with q | q | q
  · have := (cuB_at h hd).2.2 b h2
    have := fdF_neg.1 this c (List.mem_of_getElem? (i := i) (by rw [List.getElem?_take, if_pos q]; exact hc))
    simp [hasB, h1] at this
  · exact q
  · have := (cuB_at h hc).2.2 b h1
    have := fdF_neg.1 this d (List.mem_of_getElem? (i := j) (by rw [List.getElem?_take, if_pos q]; exact hd))
    simp [hasB, h2] at this
theorem owI_none {xs : List Cust} {b : Str} (h : owI xs b < 0) {i : Nat} {c : Cust} (hc : xs[i]? = some c) : b ∉ c.2.2 := by
  have := fdF_neg.1 h c (List.mem_of_getElem? hc); simpa [hasB] using this
theorem owI_some {xs : List Cust} {b : Str} (h : ¬ owI xs b < 0) : ∃ c, xs[(owI xs b).toNat]? = some c ∧ b ∈ c.2.2 := by
  obtain ⟨⟨c, hc, hp⟩, _⟩ := fdF_at h
  exact ⟨c, hc, by simpa [hasB] using hp⟩
/-- Names rise. -/
theorem cu_names {xs : List Cust} (h : cuB xs = true) {i j : Nat} {c d : Cust} (hij : i < j) (hc : xs[i]? = some c) (hd : xs[j]? = some d) : c.1 < d.1 := by
  have hu : UpS (xs.map fun c : Cust => c.1) := ups_of_next fun k a b ha hb => by
    rw [List.getElem?_map] at ha hb
    cases hk : xs[k]? with
    | none => rw [hk] at ha; cases ha
    | some p =>
      cases hk1 : xs[k + 1]? with
      | none => rw [hk1] at hb; cases hb
      | some q =>
        rw [hk] at ha; rw [hk1] at hb; cases ha; cases hb
        exact (cuB_at h hk1).2.1 p (by omega) (by simpa using hk)
  exact ups_at (x := c.1) (y := d.1) hu hij (by rw [List.getElem?_map, hc]; rfl) (by rw [List.getElem?_map, hd]; rfl)
def icL (c : Cust) : List Cust → List Cust
  | [] => [c]
  | y :: ys => if y.1 < c.1 then y :: icL c ys else c :: y :: ys
theorem icL_len (c : Cust) : ∀ (xs : List Cust), (icL c xs).length = xs.length + 1
  | [] => rfl
  | y :: ys => by rw [icL]; split <;> simp [icL_len c ys]
theorem icL_cut {c : Cust} : ∀ {xs : List Cust} {k : Nat}, (∀ j y, j < k → xs[j]? = some y → y.1 < c.1) → (xs.length ≤ k ∨ ∃ y, xs[k]? = some y ∧ ¬ y.1 < c.1) → icL c xs = xs.take k ++ c :: xs.drop k
  | [], k, _, _ => by simp [icL]
  | y :: ys, 0, _, h => by
    rcases h with h | ⟨z, hz, h⟩
    · simp at h
    · simp at hz; subst hz; rw [icL, if_neg h]; rfl
  | y :: ys, k + 1, h, h' => by
    rw [icL, if_pos (h 0 y (by omega) rfl), icL_cut (k := k) (fun j z hj hz => h (j + 1) z (by omega) (by simpa using hz)) (by
      rcases h' with h' | ⟨z, hz, h'⟩
      · left; simpa using h'
      · right; exact ⟨z, by simpa using hz, h'⟩)]
    rfl
theorem icL_back {xs : List Cust} {c : Cust} {k : Nat} (h : cuB xs = true) (hn : fnI xs c.1 < 0) (hk : ∀ (j : Nat) (y : Cust), k ≤ j → xs[j]? = some y → c.1 < y.1) (h0 : k = 0 ∨ ∃ b, xs[k - 1]? = some b ∧ ¬ c.1 < b.1) : icL c xs = xs.take k ++ c :: xs.drop k := by
  have hne : ∀ (j : Nat) (y : Cust), xs[j]? = some y → y.1 ≠ c.1 := fun j y hy => by
    have := fdF_neg.1 hn y (List.mem_of_getElem? hy); simpa [namB] using this
  refine icL_cut (fun j y hj hy => ?_) ?_
  · rcases h0 with h0 | ⟨b, hb, h1⟩
    · omega
    · have hbc := (str_le h1).resolve_right (hne _ _ hb)
      by_cases e : j = k - 1
      · subst e; rw [hb] at hy; cases hy; exact hbc
      · exact str_tr (cu_names h (by omega) hy hb) hbc
  · rcases Nat.lt_or_ge k xs.length with q | q
    · obtain ⟨y, hy⟩ := get_ex q
      exact .inr ⟨y, hy, str_as (hk k y (Nat.le_refl _) hy)⟩
    · exact .inl q
theorem swap_abs {L M : List Cust} {c a : Cust} {k : Nat} (hM : M = L.take (k + 1) ++ c :: L.drop (k + 1)) (ha : L[k]? = some a) : (M.set k c).set (k + 1) a = L.take k ++ c :: L.drop k := by
  have hk : k < L.length := (List.getElem?_eq_some_iff.1 ha).1
  subst hM
  rw [take_snoc ha, List.append_assoc, List.set_append_right _ _ (by rw [List.length_take]; omega), List.set_append_right _ _ (by rw [List.length_take]; omega), List.length_take, Nat.min_eq_left (by omega), Nat.sub_self, show k + 1 - k = 1 by omega, drop_cons ha]
  rfl
theorem swap_at {L M : List Cust} {c : Cust} {k : Nat} (hM : M = L.take k ++ c :: L.drop k) (hk : k ≤ L.length) : M[k]? = some c ∧ ∀ j, j < k → M[j]? = L[j]? := by
  subst hM
  refine ⟨?_, fun j hj => ?_⟩
  · rw [List.getElem?_append_right (by rw [List.length_take]; omega), List.length_take, Nat.min_eq_left hk, Nat.sub_self]; rfl
  · rw [List.getElem?_append_left (by rw [List.length_take]; omega), List.getElem?_take, if_pos hj]
theorem pw_swap' {α : Type} {xs : List α} {j k : Nat} {x y : α} (hk : k = j + 1) (hx : xs[j]? = some x) (hy : xs[k]? = some y) : ((xs.set j y).set k x).Perm xs := by subst hk; exact pw_swap hx hy
def addcL (xs : List Cust) (n : Str) (d : Int) : List Cust := if cuB xs && wordB n then (if dateB d then (if 0 ≤ fnI xs n then [] else if xs.length = 20 then [] else icL (n, d, []) xs) else []) else []
def addcC (xs : List Cust) (n : Str) (d : Int) : Int := if cuB xs && wordB n then (if dateB d then (if 0 ≤ fnI xs n then 5 else if xs.length = 20 then 3 else 0) else 2) else 1

theorem c_impl_copyCustomers (w0 : World) (v_list : Value) (list : List (Str × Int × List Str)) {S_list : Nat → Prop} (h_list : Rds shCust S_list w0 v_list list) (g0 : list.length ≤ 1048576) (g1 : ∀ c ∈ list, c.2.2.length ≤ 1048576) :
  Calls Try.prog 67 #[v_list] w0 (Ret w0 (fun v w1 => ∃ z, Own shCustN 55 w0.heap.size w0.heap.size w1.heap.size w1 v z ∧ Nst shStr 9 (fun x : Str × Int × List Str => x.2.2) w0.heap.size w1.heap.size w1 z ∧ z.map (·.1) = (list))) := by
 refine enter (N := 23) Try.func67 rfl rfl rfl ?_
 intro a0 ha0
 have hx0 := Ext.rfl' w0
 have hl_list := h_list.length_le
 refine wp_seq ?_
 refine wp_region_lit ?_
 refine wl_val ha0 rfl rfl rfl (op_assign ha0 rfl rfl) ?_
 intro a1 ha1; clear ha0 a0
 refine wpList_nil ?_
 refine then_n ?_
 refine wp_seq ?_
 refine wp_region_lit ?_
 refine wl_val ha1 rfl rfl rfl (op_assign ha1 rfl rfl) ?_
 intro a2 ha2; clear ha1 a1
 refine wpList_nil ?_
 refine then_n ?_
 refine wp_seq ?_
 refine wp_seq ?_
 refine wp_region_lit ?_
 refine wl_val ha2 rfl rfl rfl (op_move ha2 rfl rfl) ?_
 intro a3 ha3; clear ha2 a2
 refine wl_val ha3 rfl rfl rfl (op_len_sl ha3 rfl Try.underlying25 rfl h_list) ?_
 intro a4 ha4; clear ha3 a3
 refine wl_val ha4 rfl rfl rfl (op_move ha4 rfl rfl) ?_
 intro a5 ha5; clear ha4 a4
 refine wpList_nil ?_
 refine then_n ?_
 refine wp_block ?_
 refine loop_inv (X := Nat × Value × (List ((Str × Int × List Str) × Value))) (fun (⟨i, v, zs⟩ : Nat × Value × (List ((Str × Int × List Str) × Value))) fr wl => Sl 23 fr [(3, v), (6, v_list), (7, .int .i64 ((list.length : Nat) : Int)), (8, .int .i64 ((i : Nat) : Int))] ∧ Ext w0 wl ∧ Own shCustN 55 w0.heap.size w0.heap.size wl.heap.size wl v zs ∧ Nst shStr 9 (fun x : Str × Int × List Str => x.2.2) w0.heap.size wl.heap.size wl zs ∧ w0.heap.size ≤ wl.heap.size ∧ (i ≤ list.length) ∧ (zs.length ≤ i) ∧ (zs.map (·.1) = list.take i)) (fun (⟨i, v, zs⟩ : Nat × Value × (List ((Str × Int × List Str) × Value))) => list.length - i) (0, (.slice none 0 0), []) ?_ ?_
 ·
  exact ⟨(Sl.cons_ ha5 rfl rfl (Sl.cons_ ha5 rfl rfl (Sl.cons_ ha5 rfl rfl (Sl.cons_ ha5 rfl (int_eq (by omega)) (Sl.nil_ ha5))))), hx0, (Own.nil _ _ _ _ _ _), (Nst.nil _ _ _ _ _ _), (by omega), (by omega), (by simp), (by simp)⟩
 ·
  clear ha5 a5
  rintro ⟨i, v, zs⟩ a10 w6 ⟨ha10, hx7, hf8, hf9, hzl11, hi, hl, hF⟩
  have hzhx7 := hx7.size
  refine wp_seq ?_
  refine wp_region_lit ?_
  refine wl_val ha10 rfl rfl rfl (op_lss ha10 rfl rfl rfl) ?_
  intro a12 ha12; clear ha10 a10
  refine wpList_nil ?_
  refine then_n ?_
  refine wp_seq ?_
  by_cases c13 : ((i : Nat) : Int) < ((list.length : Nat) : Int)
  ·
   rw [decide_eq_true c13] at ha12
   refine cond_t ha12 rfl ?_
   refine wp_skip ?_
   refine then_n ?_
   refine wp_seq ?_
   refine wp_block ?_
   refine wp_seq ?_
   refine wp_region_lit ?_
   obtain ⟨x14, hx14⟩ := get_ex (xs := list) (j := i) (by omega)
   obtain ⟨p15, c16, hi17, hc18, hr19, hs20⟩ := Rds.at_ h_list hx14
   obtain ⟨v21, rfl, b22, b23, b24⟩ := inv_shCust hr19
   have hlb24 := b24.length_le
   have hbx14 := g1 _ (List.mem_of_getElem? hx14)
   refine wl_val ha12 rfl rfl rfl (op_indexAddr ha12 rfl Try.underlying25 ti55 rfl rfl (by omega) hi17) ?_
   intro a25 ha25; clear ha12 a12
   refine wl_val ha25 rfl rfl rfl (op_loadS ha25 rfl Try.underlying55 ti55 rfl rfl (hc18.ext hx7)) ?_
   intro a26 ha26; clear ha25 a25
   refine wl_eff ha26 rfl rfl rfl (op_alloc' rfl ti55 rfl) ?_
   rintro _ w28 ⟨rfl, he29, hb30, hz31⟩ a32 ha32; clear ha26 a26
   have hx33 := hx7.trans' he29
   have hzhx33 := he29.size
   replace hf8 := hf8.ext he29
   replace hf9 := hf9.ext he29
   refine wl_effS ha32 rfl rfl (op_storeAll' ha32 rfl ti55 rfl rfl hb30 rfl rfl (by intro u hu; have hu : u ∈ ([St x14.1, .int .i64 x14.2.1, v21] : List Value) := hu; simp only [List.mem_cons, List.mem_nil_iff, or_false] at hu; rcases hu with rfl | rfl | rfl <;> first | rfl | exact b24.one) rfl) ?_
   rintro w34 ⟨hb36, hst35, hz37⟩
   have hx38 := hx33.stp hst35 (by intro q hq; cases hq; exact (by omega))
   have hzhx38 := hst35.size
   replace hf8 := hf8.stp hst35 (by intro q hq; cases hq; omega)
   replace hf9 := hf9.stp hst35 (by intro q hq; cases hq; omega)
   clear hb30
   refine wpList_nil ?_
   refine then_n ?_
   refine wp_seq ?_
   refine wp_region_lit ?_
   refine wl_eff ha32 rfl rfl rfl (op_buildSlice (s := shStr) (xs := ([] : List Str)) (cs := []) (vs := []) (S := fun _ => False) (le := w34.heap.size) ha32 rfl pos_shStr Try.underlying34 ti9 rfl rfl (by decide) (by kernel_rfl) rfl (fun _ h => h.elim)) ?_
   rintro v39 w40 ⟨ho41, he42, hob43⟩ a44 ha44; clear ha32 a32
   have hx45 := hx38.trans' he42
   have hzhx45 := he42.size
   replace hf8 := hf8.ext he42
   replace hf9 := hf9.ext he42
   replace hb36 := hb36.ext he42
   refine wl_val ha44 rfl rfl rfl (op_fieldAddr (sz := 0) ha44 rfl Try.underlying55 rfl rfl ti34 rfl) ?_
   intro a46 ha46; clear ha44 a44
   refine wl_val ha46 rfl rfl rfl (op_loadF (off := 2) ha46 rfl Try.underlying34 rfl rfl hb36.cells rfl) ?_
   intro a47 ha47; clear ha46 a46
   refine wl_eff ha47 rfl rfl rfl (op_append (ts := #[]) (s := shStr) ha47 rfl Try.underlying34 ti9 rfl pos_shStr rfl rfl ho41 (b24.ext pos_shStr hx45) (by omega) (by omega) (by first | omega | (simp; omega)) (by first | omega | (simp; omega)) (.inl flat_shStr)) ?_
   rintro v48 w49 ⟨ho50, hst51, hob52⟩ a53 ha53; clear ha47 a47
   replace ho50 := ho50.cast (List.nil_append _)
   have hx54 := hx45.stp hst51 (by intro q hq; have hq0 := ho41.lt q hq; omega)
   have hzhx54 := hst51.size
   replace hf8 := hf8.stp hst51 (by intro q hq; have hq0 := ho41.lt q hq; omega)
   replace hf9 := hf9.stp hst51 (by intro q hq; have hq0 := ho41.lt q hq; omega)
   replace hb36 := hb36.stp hst51 (by intro q hq; have hq0 := ho41.lt q hq; omega)
   refine wl_val ha53 rfl rfl rfl (op_fieldAddr (sz := 0) ha53 rfl Try.underlying55 rfl rfl ti34 rfl) ?_
   intro a55 ha55; clear ha53 a53
   refine wl_effS ha55 rfl rfl (op_store' (off := 2) ha55 rfl ti34 rfl rfl hb36 ho50.cells1 rfl (by intro u hu; have hu : u ∈ ([v48] : List Value) := hu; simp only [List.mem_cons, List.mem_nil_iff, or_false] at hu; rcases hu with rfl <;> first | rfl | exact ho50.one) (Nat.le_of_ble_eq_true rfl)) ?_
   rintro w56 ⟨hb58, hst57, hz59⟩
   have hx60 := hx54.stp hst57 (by intro q hq; cases hq; exact (by omega))
   have hzhx60 := hst57.size
   replace hf8 := hf8.stp hst57 (by intro q hq; cases hq; omega)
   replace hf9 := hf9.stp hst57 (by intro q hq; cases hq; omega)
   replace ho50 := ho50.stp hst57 (by intro q hq; cases hq; omega)
   clear hb36
   refine wpList_nil ?_
   refine then_n ?_
   refine wp_region_lit ?_
   refine wl_val ha55 rfl rfl rfl (op_move ha55 rfl rfl) ?_
   intro a61 ha61; clear ha55 a55
   refine wl_val ha61 rfl rfl rfl (op_loadS ha61 rfl Try.underlying55 ti55 rfl rfl hb58.cells) ?_
   intro a62 ha62; clear ha61 a61
   refine wl_eff ha62 rfl rfl rfl (op_buildSlice (s := shCustN) (xs := [(((x14.1, x14.2.1, x14.2.2) : Str × Int × List Str), (v48 : Value))]) (cs := [St x14.1, .int .i64 x14.2.1, v48]) (vs := [(0, .agg #[St x14.1, .int .i64 x14.2.1, v48])]) (S := fun _ => False) (le := w56.heap.size) ha62 rfl pos_shCustN Try.underlying25 ti55 rfl rfl (by decide) (by kernel_rfl) (Els.single (mk_shCustN ((((x14.1, x14.2.1, x14.2.2) : Str × Int × List Str), (v48 : Value))) (by first | assumption | omega | (simp; omega)) (by first | assumption | omega | (simp; omega)) ho50.one)) (fun _ h => h.elim)) ?_
   rintro v63 w64 ⟨ho65, he66, hob67⟩ a68 ha68; clear ha62 a62
   have hx69 := hx60.trans' he66
   have hzhx69 := he66.size
   replace hf8 := hf8.ext he66
   replace hf9 := hf9.ext he66
   replace ho50 := ho50.ext he66
   replace hb58 := hb58.ext he66
   have hN70 : Nst shStr 9 (fun x : Str × Int × List Str => x.2.2) w34.heap.size w64.heap.size w64 ([(((x14.1, x14.2.1, x14.2.2) : Str × Int × List Str), (v48 : Value))]) := Nst.one (ho50.fin (by omega) (by omega) (by omega))
   refine wl_eff ha68 rfl rfl rfl (op_append (ts := #[]) (s := shCustN) ha68 rfl Try.underlying25 ti55 rfl pos_shCustN rfl rfl hf8 (ho65.rds pos_shCustN) (by omega) (by omega) (by first | omega | (simp; omega)) (by first | omega | (simp; omega)) (.inl flat_shCustN)) ?_
   rintro v71 w72 ⟨ho73, hst74, hob75⟩ a76 ha76; clear ha68 a68
   have hx77 := hx69.stp hst74 (by intro q hq; have hq0 := hf8.lt q hq; omega)
   have hzhx77 := hst74.size
   first | replace hf9 := hf9.stpF flat_shStr hst74 hf8 rfl | replace hf9 := hf9.stp hst74 (by intro q hq; have hq0 := hf8.lt q hq; omega)
   replace ho50 := ho50.stp hst74 (by intro q hq; have hq0 := hf8.lt q hq; omega)
   replace hb58 := hb58.stp hst74 (by intro q hq; have hq0 := hf8.lt q hq; omega)
   replace ho65 := ho65.stp hst74 (by intro q hq; have hq0 := hf8.lt q hq; omega)
   replace hN70 := hN70.stp hst74 (by intro q hq; have hq0 := hf8.lt q hq; omega)
   have hsp78 : ∀ q, Value.ownBlock v71 = some q → q ≠ w6.heap.size := by intro q hq; have hq0 := hb58.lt; rcases hob75 with h | h; (rw [h] at hq; first | (have hq1 := hf8.lt q hq; omega)); (rw [h] at hq; cases hq; omega)
   have hsp79 : ∀ q, Value.ownBlock v71 = some q → Value.ownBlock v63 ≠ some q := by intro q hq hb; have hq0 := ho65.lt q hb; rcases hob75 with h | h; (rw [h] at hq; first | (have hq1 := hf8.lt q hq; omega)); (rw [h] at hq; cases hq; omega)
   have hN80 : Nst shStr 9 (fun x : Str × Int × List Str => x.2.2) w0.heap.size w72.heap.size w72 ((zs ++ [(((x14.1, x14.2.1, x14.2.2) : Str × Int × List Str), (v48 : Value))])) := (hf9.app hN70 (by omega) (by omega) (by omega)).fin (by omega) (by omega)
   refine wl_val ha76 rfl rfl rfl (op_assign ha76 rfl rfl) ?_
   intro a81 ha81; clear ha76 a76
   refine wpList_nil ?_
   refine block_n ?_
   refine then_n ?_
   refine wp_region_lit ?_
   refine wl_val ha81 rfl rfl rfl ((op_add ha81 rfl rfl rfl).int (IntWalk.i64_in _ (by omega))) ?_
   intro a82 ha82; clear ha81 a81
   refine wl_val ha82 rfl rfl rfl (op_move ha82 rfl rfl) ?_
   intro a83 ha83; clear ha82 a82
   refine wpList_nil ?_
   refine round_end (x := (i, v, zs)) ((i + 1), v71, (zs ++ [(((x14.1, x14.2.1, x14.2.2) : Str × Int × List Str), (v48 : Value))])) ?_ ?_
   ·
    refine ⟨(Sl.cons_ ha83 rfl rfl (Sl.cons_ ha83 rfl rfl (Sl.cons_ ha83 rfl rfl (Sl.cons_ ha83 rfl (int_eq (by omega)) (Sl.nil_ ha83))))), hx77, (ho73.fin (by omega) (by omega) (by omega)), (hN80.fin (by omega) (by omega)), (by omega), (by omega), (by first | omega | (simp; omega)), (by rw [List.map_append, hF, take_snoc hx14]; rfl)⟩
   ·show (list.length - ((i + 1)) : Nat) < list.length - i; omega
  ·
   rw [decide_eq_false c13] at ha12
   refine cond_f ha12 rfl ?_
   refine wp_exit ?_
   refine then_e ?_
   refine then_e ?_
   refine block_hit ?_
   refine then_n ?_
   refine wp_seq ?_
   refine wp_region_lit ?_
   refine wl_val ha12 rfl rfl rfl (op_move ha12 rfl rfl) ?_
   intro a84 ha84; clear ha12 a12
   refine wl_val ha84 rfl rfl rfl (op_assign ha84 rfl rfl) ?_
   intro a85 ha85; clear ha84 a84
   refine wpList_nil ?_
   refine then_n ?_
   refine wp_ret ?_
   refine ret1 ha85 rfl rfl ?_
   clear ha85 a85
   refine ret_mk hx7 ⟨zs, hf8.fin (by omega) (by omega) (by omega), hf9.fin (by omega) (by omega), ?_⟩
   ·
    rw [hF, List.take_of_length_le (by omega)]

theorem c_spec_l30Copy (w0 : World) (v_list : Value) (list : List (Str × Int × List Str)) {S_list : Nat → Prop} (h_list : Rds shCust S_list w0 v_list list) (g0 : list.length ≤ 1048576) (g1 : ∀ c ∈ list, c.2.2.length ≤ 1048576) :
  Calls Try.prog 65 #[v_list] w0 (Ret w0 (fun v w1 => ∃ z, Own shCustN 55 w0.heap.size w0.heap.size w1.heap.size w1 v z ∧ Nst shStr 9 (fun x : Str × Int × List Str => x.2.2) w0.heap.size w1.heap.size w1 z ∧ z.map (·.1) = (list))) := by
 refine enter (N := 34) Try.func65 rfl rfl rfl ?_
 intro a0 ha0
 have hx0 := Ext.rfl' w0
 have hl_list := h_list.length_le
 refine wp_seq ?_
 refine wp_region_lit ?_
 refine wl_val ha0 rfl rfl rfl (op_assign ha0 rfl rfl) ?_
 intro a1 ha1; clear ha0 a0
 refine wpList_nil ?_
 refine then_n ?_
 refine wp_seq ?_
 refine wp_region_lit ?_
 refine wl_eff ha1 rfl rfl rfl (op_buildSlice (s := shCustN) (xs := ([] : List ((Str × Int × List Str) × Value))) (cs := []) (vs := []) (S := fun _ => False) (le := w0.heap.size) ha1 rfl pos_shCustN Try.underlying25 ti55 rfl rfl (by decide) (by kernel_rfl) rfl (fun _ h => h.elim)) ?_
 rintro v2 w3 ⟨ho4, he5, hob6⟩ a7 ha7; clear ha1 a1
 have hx8 := hx0.trans' he5
 have hzhx8 := he5.size
 have hN9 : Nst shStr 9 (fun x : Str × Int × List Str => x.2.2) w0.heap.size w3.heap.size w3 (([] : List ((Str × Int × List Str) × Value))) := Nst.nil _ _ _ _ _ _
 refine wl_val ha7 rfl rfl rfl (op_assign ha7 rfl rfl) ?_
 intro a10 ha10; clear ha7 a7
 refine wpList_nil ?_
 refine then_n ?_
 refine wp_seq ?_
 refine wp_seq ?_
 refine wp_region_lit ?_
 refine wl_val ha10 rfl rfl rfl (op_assign ha10 rfl rfl) ?_
 intro a11 ha11; clear ha10 a10
 refine wpList_nil ?_
 refine then_n ?_
 refine wp_block ?_
 refine loop_inv (X := Nat × Value × (List ((Str × Int × List Str) × Value))) (fun (⟨i, v, zs⟩ : Nat × Value × (List ((Str × Int × List Str) × Value))) fr wl => Sl 34 fr [(0, v_list), (3, v), (4, .int .i64 ((i : Nat) : Int))] ∧ Ext w0 wl ∧ Own shCustN 55 w0.heap.size w0.heap.size wl.heap.size wl v zs ∧ Nst shStr 9 (fun x : Str × Int × List Str => x.2.2) w0.heap.size wl.heap.size wl zs ∧ w3.heap.size ≤ wl.heap.size ∧ (i ≤ list.length) ∧ (zs.length ≤ i) ∧ (zs.map (·.1) = list.take i)) (fun (⟨i, v, zs⟩ : Nat × Value × (List ((Str × Int × List Str) × Value))) => list.length - i) (0, v2, ([] : List ((Str × Int × List Str) × Value))) ?_ ?_
 ·
  exact ⟨(Sl.cons_ ha11 rfl rfl (Sl.cons_ ha11 rfl rfl (Sl.cons_ ha11 rfl (int_eq (by omega)) (Sl.nil_ ha11)))), hx8, (ho4.fin (by omega) (by omega) (by omega)), (hN9.fin (by omega) (by omega)), (by omega), (by omega), (by simp), (by simp)⟩
 ·
  clear ha11 a11
  rintro ⟨i, v, zs⟩ a16 w12 ⟨ha16, hx13, hf14, hf15, hzl17, hi, hl, hF⟩
  have hzhx13 := hx13.size
  refine wp_seq ?_
  refine wp_seq ?_
  refine wp_region_lit ?_
  refine wl_val ha16 rfl rfl rfl (op_move ha16 rfl rfl) ?_
  intro a18 ha18; clear ha16 a16
  refine wl_val ha18 rfl rfl rfl (op_move ha18 rfl rfl) ?_
  intro a19 ha19; clear ha18 a18
  refine wl_val ha19 rfl rfl rfl (op_len_sl ha19 rfl Try.underlying25 rfl h_list) ?_
  intro a20 ha20; clear ha19 a19
  refine wl_val ha20 rfl rfl rfl (op_lss ha20 rfl rfl rfl) ?_
  intro a21 ha21; clear ha20 a20
  refine wpList_nil ?_
  refine then_n ?_
  by_cases c22 : ((i : Nat) : Int) < ((list.length : Nat) : Int)
  ·
   rw [decide_eq_true c22] at ha21
   refine cond_t ha21 rfl ?_
   refine wp_skip ?_
   refine then_n ?_
   refine wp_seq ?_
   refine wp_block ?_
   refine dr_enter (fun wa_ wb_ => Stp wa_ wb_ (Value.ownBlock v)) follows_mixed ?_
   intro w23 he24
   have hx25 := hx13.trans' he24
   have hzhx25 := he24.size
   replace hf14 := hf14.ext he24
   replace hf15 := hf15.ext he24
   have hs26 : Ext w23 w23 := Ext.rfl' _
   refine dr_val (i := 0) ha21 rfl (by kernel_rfl) (by kernel_rfl) (by kernel_rfl) rfl rfl rfl (Stp.of_ext hs26 _) (fun w' hw' => op_move ha21 rfl rfl) ?_
   intro a27 ha27; clear ha21 a21
   refine dr_val (i := 1) ha27 rfl (by kernel_rfl) (by kernel_rfl) (by kernel_rfl) rfl rfl rfl (Stp.of_ext hs26 _) (fun w' hw' => op_move ha27 rfl rfl) ?_
   intro a28 ha28; clear ha27 a27
   refine dr_val (i := 2) ha28 rfl (by kernel_rfl) (by kernel_rfl) (by kernel_rfl) rfl rfl rfl (Stp.of_ext hs26 _) (fun w' hw' => op_move ha28 rfl rfl) ?_
   intro a29 ha29; clear ha28 a28
   obtain ⟨x30, hx30⟩ := get_ex (xs := list) (j := i) (by omega)
   obtain ⟨p31, c32, hi33, hc34, hr35, hs36⟩ := Rds.at_ h_list hx30
   obtain ⟨v37, rfl, b38, b39, b40⟩ := inv_shCust hr35
   have hlb40 := b40.length_le
   have hbx30 := g1 _ (List.mem_of_getElem? hx30)
   refine dr_val (i := 3) ha29 rfl (by kernel_rfl) (by kernel_rfl) (by kernel_rfl) rfl rfl rfl (Stp.of_ext hs26 _) (fun w' hw' => op_indexAddr ha29 rfl Try.underlying25 ti55 rfl rfl (by omega) hi33) ?_
   intro a41 ha41; clear ha29 a29
   refine dr_val (i := 4) ha41 rfl (by kernel_rfl) (by kernel_rfl) (by kernel_rfl) rfl rfl rfl (Stp.of_ext hs26 _) (fun w' hw' => op_fieldAddr (sz := 0) ha41 rfl Try.underlying55 rfl rfl ti9 rfl) ?_
   intro a42 ha42; clear ha41 a41
   refine dr_val (i := 5) ha42 rfl (by kernel_rfl) (by kernel_rfl) (by kernel_rfl) rfl rfl rfl (Stp.of_ext hs26 _) (fun w' hw' => op_loadF (off := 0) ha42 rfl Try.underlying9 rfl rfl (hc34.ext (hx25.stp hw' (by intro q hq; have hq0 := hf14.lt q hq; omega))) rfl) ?_
   intro a43 ha43; clear ha42 a42
   refine dr_val (i := 6) ha43 rfl (by kernel_rfl) (by kernel_rfl) (by kernel_rfl) rfl rfl rfl (Stp.of_ext hs26 _) (fun w' hw' => op_move ha43 rfl rfl) ?_
   intro a44 ha44; clear ha43 a43
   refine dr_val (i := 7) ha44 rfl (by kernel_rfl) (by kernel_rfl) (by kernel_rfl) rfl rfl rfl (Stp.of_ext hs26 _) (fun w' hw' => op_move ha44 rfl rfl) ?_
   intro a45 ha45; clear ha44 a44
   refine dr_val (i := 8) ha45 rfl (by kernel_rfl) (by kernel_rfl) (by kernel_rfl) rfl rfl rfl (Stp.of_ext hs26 _) (fun w' hw' => op_indexAddr ha45 rfl Try.underlying25 ti55 rfl rfl (by omega) hi33) ?_
   intro a46 ha46; clear ha45 a45
   refine dr_val (i := 9) ha46 rfl (by kernel_rfl) (by kernel_rfl) (by kernel_rfl) rfl rfl rfl (Stp.of_ext hs26 _) (fun w' hw' => op_fieldAddr (sz := 0) ha46 rfl Try.underlying55 rfl rfl ti2 rfl) ?_
   intro a47 ha47; clear ha46 a46
   refine dr_val (i := 10) ha47 rfl (by kernel_rfl) (by kernel_rfl) (by kernel_rfl) rfl rfl rfl (Stp.of_ext hs26 _) (fun w' hw' => op_loadF (off := 1) ha47 rfl Try.underlying2 rfl rfl (hc34.ext (hx25.stp hw' (by intro q hq; have hq0 := hf14.lt q hq; omega))) rfl) ?_
   intro a48 ha48; clear ha47 a47
   refine dr_val (i := 12) ha48 rfl (by kernel_rfl) (by kernel_rfl) (by kernel_rfl) rfl rfl rfl (Stp.of_ext hs26 _) (fun w' hw' => op_move ha48 rfl rfl) ?_
   intro a49 ha49; clear ha48 a48
   refine dr_val (i := 13) ha49 rfl (by kernel_rfl) (by kernel_rfl) (by kernel_rfl) rfl rfl rfl (Stp.of_ext hs26 _) (fun w' hw' => op_move ha49 rfl rfl) ?_
   intro a50 ha50; clear ha49 a49
   refine dr_val (i := 14) ha50 rfl (by kernel_rfl) (by kernel_rfl) (by kernel_rfl) rfl rfl rfl (Stp.of_ext hs26 _) (fun w' hw' => op_indexAddr ha50 rfl Try.underlying25 ti55 rfl rfl (by omega) hi33) ?_
   intro a51 ha51; clear ha50 a50
   refine dr_val (i := 15) ha51 rfl (by kernel_rfl) (by kernel_rfl) (by kernel_rfl) rfl rfl rfl (Stp.of_ext hs26 _) (fun w' hw' => op_fieldAddr (sz := 0) ha51 rfl Try.underlying55 rfl rfl ti34 rfl) ?_
   intro a52 ha52; clear ha51 a51
   refine dr_val (i := 16) ha52 rfl (by kernel_rfl) (by kernel_rfl) (by kernel_rfl) rfl rfl rfl (Stp.of_ext hs26 _) (fun w' hw' => op_loadF (off := 2) ha52 rfl Try.underlying34 rfl rfl (hc34.ext (hx25.stp hw' (by intro q hq; have hq0 := hf14.lt q hq; omega))) rfl) ?_
   intro a53 ha53; clear ha52 a52
   refine dr_one (i := 11) (by kernel_rfl) ?_
   refine po_eff ha53 rfl rfl rfl rfl (op_buildSlice (s := shStr) (xs := ([] : List Str)) (cs := []) (vs := []) (S := fun _ => False) (le := w23.heap.size) ha53 rfl pos_shStr Try.underlying34 ti9 rfl rfl (by decide) (by kernel_rfl) rfl (fun _ h => h.elim)) ?_
   rintro v54 w55 ⟨ho56, he57, hob58⟩ a59 ha59; clear ha53 a53
   have hs60 := hs26.trans' he57
   have hx61 := hx25.trans' he57
   have hzhx61 := he57.size
   refine ⟨(Stp.of_ext hs60 _), ?_⟩
   refine dr_one (i := 17) (by kernel_rfl) ?_
   refine po_eff ha59 rfl rfl rfl rfl (op_append (ts := #[]) (s := shStr) ha59 rfl Try.underlying34 ti9 rfl pos_shStr rfl rfl ho56 (b40.ext pos_shStr (hx25.trans' hs60)) (by omega) (by omega) (by first | omega | (simp; omega)) (by first | omega | (simp; omega)) (.inl flat_shStr)) ?_
   rintro v62 w63 ⟨ho64, hst65, hob66⟩ a67 ha67; clear ha59 a59
   replace ho64 := ho64.cast (List.nil_append _)
   have hs68 := hs60.stp hst65 (by intro q hq; have hq0 := ho56.lt q hq; omega)
   have hx69 := hx61.stp hst65 (by intro q hq; have hq0 := ho56.lt q hq; omega)
   have hzhx69 := hst65.size
   refine ⟨(Stp.of_ext hs68 _), ?_⟩
   refine dr_val (i := 18) ha67 rfl (by kernel_rfl) (by kernel_rfl) (by kernel_rfl) rfl rfl rfl (Stp.of_ext hs68 _) (fun w' hw' => op_build (vs := [(0, St x30.1), (1, .int .i64 x30.2.1), (2, v62)]) (cs := #[St x30.1, .int .i64 x30.2.1, v62]) ha67 rfl Try.underlying55 ti55 bp55 rfl ((fill_one rfl rfl rfl).trans ((fill_one rfl rfl rfl).trans ((fill_one ho64.cells1 rfl rfl).trans rfl)))) ?_
   intro a70 ha70; clear ha67 a67
   refine dr_one (i := 19) (by kernel_rfl) ?_
   refine po_eff ha70 rfl rfl rfl rfl (op_buildSlice (s := shCustN) (xs := [(((x30.1, x30.2.1, x30.2.2) : Str × Int × List Str), (v62 : Value))]) (cs := [St x30.1, .int .i64 x30.2.1, v62]) (vs := [(0, .agg #[St x30.1, .int .i64 x30.2.1, v62])]) (S := fun _ => False) (le := w63.heap.size) ha70 rfl pos_shCustN Try.underlying25 ti55 rfl rfl (by decide) (by kernel_rfl) (Els.single (mk_shCustN ((((x30.1, x30.2.1, x30.2.2) : Str × Int × List Str), (v62 : Value))) (by first | assumption | omega | (simp; omega)) (by first | assumption | omega | (simp; omega)) ho64.one)) (fun _ h => h.elim)) ?_
   rintro v71 w72 ⟨ho73, he74, hob75⟩ a76 ha76; clear ha70 a70
   have hs77 := hs68.trans' he74
   have hx78 := hx69.trans' he74
   have hzhx78 := he74.size
   replace ho64 := ho64.ext he74
   refine ⟨(Stp.of_ext hs77 _), ?_⟩
   have hN79 : Nst shStr 9 (fun x : Str × Int × List Str => x.2.2) w23.heap.size w72.heap.size w72 ([(((x30.1, x30.2.1, x30.2.2) : Str × Int × List Str), (v62 : Value))]) := Nst.one (ho64.fin (by omega) (by omega) (by omega))
   refine dr_one (i := 20) (by kernel_rfl) ?_
   replace hf14 := hf14.ext hs77
   replace hf15 := hf15.ext hs77
   refine po_eff ha76 rfl rfl rfl rfl (op_append (ts := #[]) (s := shCustN) ha76 rfl Try.underlying25 ti55 rfl pos_shCustN rfl rfl hf14 (ho73.rds pos_shCustN) (by omega) (by omega) (by first | omega | (simp; omega)) (by first | omega | (simp; omega)) (.inl flat_shCustN)) ?_
   rintro v80 w81 ⟨ho82, hst83, hob84⟩ a85 ha85; clear ha76 a76
   have hs86 := (Stp.of_ext hs77 (Value.ownBlock v)).trans' hst83
   have hx87 := hx78.stp hst83 (by intro q hq; have hq0 := hf14.lt q hq; omega)
   have hzhx87 := hst83.size
   first | replace hf15 := hf15.stpF flat_shStr hst83 hf14 rfl | replace hf15 := hf15.stp hst83 (by intro q hq; have hq0 := hf14.lt q hq; omega)
   replace ho64 := ho64.stp hst83 (by intro q hq; have hq0 := hf14.lt q hq; omega)
   replace ho73 := ho73.stp hst83 (by intro q hq; have hq0 := hf14.lt q hq; omega)
   replace hN79 := hN79.stp hst83 (by intro q hq; have hq0 := hf14.lt q hq; omega)
   have hsp88 : ∀ q, Value.ownBlock v80 = some q → Value.ownBlock v71 ≠ some q := by intro q hq hb; have hq0 := ho73.lt q hb; rcases hob84 with h | h; (rw [h] at hq; first | (have hq1 := hf14.lt q hq; omega)); (rw [h] at hq; cases hq; omega)
   have hN89 : Nst shStr 9 (fun x : Str × Int × List Str => x.2.2) w0.heap.size w81.heap.size w81 ((zs ++ [(((x30.1, x30.2.1, x30.2.2) : Str × Int × List Str), (v62 : Value))])) := (hf15.app hN79 (by omega) (by omega) (by omega)).fin (by omega) (by omega)
   refine ⟨hs86, ?_⟩
   refine dr_val (i := 21) ha85 rfl (by kernel_rfl) (by kernel_rfl) (by kernel_rfl) rfl rfl rfl hs86 (fun w' hw' => op_assign ha85 rfl rfl) ?_
   intro a90 ha90; clear ha85 a85
   refine dr_end (by kernel_rfl) ?_
   refine block_n ?_
   refine then_n ?_
   refine wp_region_lit ?_
   refine wl_val ha90 rfl rfl rfl (op_move ha90 rfl rfl) ?_
   intro a91 ha91; clear ha90 a90
   refine wl_val ha91 rfl rfl rfl ((op_add ha91 rfl rfl rfl).int (IntWalk.i64_in _ (by omega))) ?_
   intro a92 ha92; clear ha91 a91
   refine wl_val ha92 rfl rfl rfl (op_assign ha92 rfl rfl) ?_
   intro a93 ha93; clear ha92 a92
   refine wpList_nil ?_
   refine round_end (x := (i, v, zs)) ((i + 1), v80, (zs ++ [(((x30.1, x30.2.1, x30.2.2) : Str × Int × List Str), (v62 : Value))])) ?_ ?_
   ·
    refine ⟨(Sl.cons_ ha93 rfl rfl (Sl.cons_ ha93 rfl rfl (Sl.cons_ ha93 rfl (int_eq (by omega)) (Sl.nil_ ha93)))), hx87, (ho82.fin (by omega) (by omega) (by omega)), (hN89.fin (by omega) (by omega)), (by omega), (by omega), (by first | omega | (simp; omega)), (by rw [List.map_append, hF, take_snoc hx30]; rfl)⟩
   ·show (list.length - ((i + 1)) : Nat) < list.length - i; omega
  ·
   rw [decide_eq_false c22] at ha21
   refine cond_f ha21 rfl ?_
   refine wp_exit ?_
   refine then_e ?_
   refine then_e ?_
   refine block_hit ?_
   refine then_n ?_
   refine wp_seq ?_
   refine wp_region_lit ?_
   refine wl_val ha21 rfl rfl rfl (op_move ha21 rfl rfl) ?_
   intro a94 ha94; clear ha21 a21
   refine wl_val ha94 rfl rfl rfl (op_assign ha94 rfl rfl) ?_
   intro a95 ha95; clear ha94 a94
   refine wpList_nil ?_
   refine then_n ?_
   refine wp_ret ?_
   refine ret1 ha95 rfl rfl ?_
   clear ha95 a95
   refine ret_mk hx13 ⟨zs, hf14.fin (by omega) (by omega) (by omega), hf15.fin (by omega) (by omega), ?_⟩
   ·
    rw [hF, List.take_of_length_le (by omega)]

theorem c_impl_withBike (w0 : World) (v_bikes : Value) (bikes : List Str) {S_bikes : Nat → Prop} (bike : Str) (h_bikes : Rds shStr S_bikes w0 v_bikes bikes) (g0 : bikes.length ≤ 1048576) (g1 : bike.length ≤ 9223372036854775807) :
  Calls Try.prog 69 #[v_bikes, St bike] w0 (Ret w0 (fun v w1 => Own shStr 9 w0.heap.size w0.heap.size w1.heap.size w1 v (wbGo bike bikes false))) := by
 refine enter (N := 38) Try.func69 rfl rfl rfl ?_
 intro a0 ha0
 have hx0 := Ext.rfl' w0
 have hl_bikes := h_bikes.length_le
 refine wp_seq ?_
 refine wp_region_lit ?_
 refine wl_val ha0 rfl rfl rfl (op_assign ha0 rfl rfl) ?_
 intro a1 ha1; clear ha0 a0
 refine wpList_nil ?_
 refine then_n ?_
 refine wp_seq ?_
 refine wp_region_lit ?_
 refine wl_val ha1 rfl rfl rfl (op_assign ha1 rfl rfl) ?_
 intro a2 ha2; clear ha1 a1
 refine wpList_nil ?_
 refine then_n ?_
 refine wp_seq ?_
 refine wp_region_lit ?_
 refine wl_val ha2 rfl rfl rfl (op_assign ha2 rfl rfl) ?_
 intro a3 ha3; clear ha2 a2
 refine wpList_nil ?_
 refine then_n ?_
 refine wp_seq ?_
 refine wp_seq ?_
 refine wp_region_lit ?_
 refine wl_val ha3 rfl rfl rfl (op_move ha3 rfl rfl) ?_
 intro a4 ha4; clear ha3 a3
 refine wl_val ha4 rfl rfl rfl (op_len_sl ha4 rfl Try.underlying34 rfl h_bikes) ?_
 intro a5 ha5; clear ha4 a4
 refine wl_val ha5 rfl rfl rfl (op_move ha5 rfl rfl) ?_
 intro a6 ha6; clear ha5 a5
 refine wpList_nil ?_
 refine then_n ?_
 refine wp_block ?_
 refine loop_inv (X := Nat × Bool × Value × (List Str)) (fun (⟨i, p, v, acc⟩ : Nat × Bool × Value × (List Str)) fr wl => Sl 38 fr [(1, St bike), (5, v), (6, .bool (p)), (9, v_bikes), (10, .int .i64 ((bikes.length : Nat) : Int)), (11, .int .i64 ((i : Nat) : Int))] ∧ Ext w0 wl ∧ Own shStr 9 w0.heap.size w0.heap.size wl.heap.size wl v acc ∧ w0.heap.size ≤ wl.heap.size ∧ (i ≤ bikes.length) ∧ (acc.length ≤ 2 * i) ∧ (acc ++ wbGo bike (bikes.drop i) p = wbGo bike bikes false)) (fun (⟨i, p, v, acc⟩ : Nat × Bool × Value × (List Str)) => bikes.length - i) (0, false, (.slice none 0 0), []) ?_ ?_
 ·
  exact ⟨(Sl.cons_ ha6 rfl rfl (Sl.cons_ ha6 rfl rfl (Sl.cons_ ha6 rfl rfl (Sl.cons_ ha6 rfl rfl (Sl.cons_ ha6 rfl rfl (Sl.cons_ ha6 rfl (int_eq (by omega)) (Sl.nil_ ha6))))))), hx0, (Own.nil _ _ _ _ _ _), (by omega), (by omega), (by simp), (by rfl)⟩
 ·
  clear ha6 a6
  rintro ⟨i, p, v, acc⟩ a10 w7 ⟨ha10, hx8, hf9, hzl11, hi, hl, hF⟩
  have hzhx8 := hx8.size
  refine wp_seq ?_
  refine wp_region_lit ?_
  refine wl_val ha10 rfl rfl rfl (op_lss ha10 rfl rfl rfl) ?_
  intro a12 ha12; clear ha10 a10
  refine wpList_nil ?_
  refine then_n ?_
  refine wp_seq ?_
  by_cases c13 : ((i : Nat) : Int) < ((bikes.length : Nat) : Int)
  ·
   rw [decide_eq_true c13] at ha12
   refine cond_t ha12 rfl ?_
   refine wp_skip ?_
   refine then_n ?_
   refine wp_seq ?_
   refine wp_block ?_
   refine wp_seq ?_
   refine wp_region_lit ?_
   obtain ⟨x14, hx14⟩ := get_ex (xs := bikes) (j := i) (by omega)
   obtain ⟨p15, c16, hi17, hc18, hr19, hs20⟩ := Rds.at_ h_bikes hx14
   obtain ⟨rfl, b21⟩ := inv_shStr hr19
   refine wl_val ha12 rfl rfl rfl (op_indexAddr ha12 rfl Try.underlying34 ti9 rfl rfl (by omega) hi17) ?_
   intro a22 ha22; clear ha12 a12
   refine wl_val ha22 rfl rfl rfl (op_loadH ha22 rfl Try.underlying9 rfl rfl (hc18.ext hx8) rfl) ?_
   intro a23 ha23; clear ha22 a22
   refine wl_val ha23 rfl rfl rfl (op_assign ha23 rfl rfl) ?_
   intro a24 ha24; clear ha23 a23
   refine wpList_nil ?_
   refine then_n ?_
   refine wp_seq ?_
   refine wp_seq ?_
   refine wp_region_lit ?_
   refine wl_val ha24 rfl rfl rfl (op_move ha24 rfl rfl) ?_
   intro a25 ha25; clear ha24 a24
   refine wl_val ha25 rfl rfl rfl (op_not ha25 rfl rfl) ?_
   intro a26 ha26; clear ha25 a25
   refine wl_val ha26 rfl rfl rfl (op_move ha26 rfl rfl) ?_
   intro a27 ha27; clear ha26 a26
   rcases Bool.eq_false_or_eq_true (p) with c28 | c28
   ·
    rw [c28] at ha27
    refine wl_skip ha27 rfl rfl rfl ?_
    intro a29 ha29; clear ha27 a27
    refine wl_skip ha29 rfl rfl rfl ?_
    intro a30 ha30; clear ha29 a29
    refine wl_skip ha30 rfl rfl rfl ?_
    intro a31 ha31; clear ha30 a30
    refine wl_val ha31 rfl rfl rfl (op_pick_f ha31 rfl rfl rfl) ?_
    intro a32 ha32; clear ha31 a31
    refine wpList_nil ?_
    refine then_n ?_
    refine cond_f ha32 rfl ?_
    refine wp_skip ?_
    refine then_n ?_
    refine wp_region_lit ?_
    refine wl_val ha32 rfl rfl rfl (op_move ha32 rfl rfl) ?_
    intro a33 ha33; clear ha32 a32
    refine wl_val ha33 rfl rfl rfl (op_move ha33 rfl rfl) ?_
    intro a34 ha34; clear ha33 a33
    refine wl_eff ha34 rfl rfl rfl (op_buildSlice (s := shStr) (xs := [x14]) (cs := [St x14]) (vs := [(0, St x14)]) (S := fun _ => False) (le := w7.heap.size) ha34 rfl pos_shStr Try.underlying34 ti9 rfl rfl (by decide) (by kernel_rfl) (Els.single (mk_shStr x14 (by first | assumption | omega | (simp; omega)))) (fun _ h => h.elim)) ?_
    rintro v35 w36 ⟨ho37, he38, hob39⟩ a40 ha40; clear ha34 a34
    have hx41 := hx8.trans' he38
    have hzhx41 := he38.size
    replace hf9 := hf9.ext he38
    refine wl_eff ha40 rfl rfl rfl (op_append (ts := #[]) (s := shStr) ha40 rfl Try.underlying34 ti9 rfl pos_shStr rfl rfl hf9 (ho37.rds pos_shStr) (by omega) (by omega) (by first | omega | (simp; omega)) (by first | omega | (simp; omega)) (.inl flat_shStr)) ?_
    rintro v42 w43 ⟨ho44, hst45, hob46⟩ a47 ha47; clear ha40 a40
    have hx48 := hx41.stp hst45 (by intro q hq; have hq0 := hf9.lt q hq; omega)
    have hzhx48 := hst45.size
    replace ho37 := ho37.stp hst45 (by intro q hq; have hq0 := hf9.lt q hq; omega)
    have hsp49 : ∀ q, Value.ownBlock v42 = some q → Value.ownBlock v35 ≠ some q := by intro q hq hb; have hq0 := ho37.lt q hb; rcases hob46 with h | h; (rw [h] at hq; first | (have hq1 := hf9.lt q hq; omega)); (rw [h] at hq; cases hq; omega)
    refine wl_val ha47 rfl rfl rfl (op_assign ha47 rfl rfl) ?_
    intro a50 ha50; clear ha47 a47
    refine wpList_nil ?_
    refine block_n ?_
    refine then_n ?_
    refine wp_region_lit ?_
    refine wl_val ha50 rfl rfl rfl ((op_add ha50 rfl rfl rfl).int (IntWalk.i64_in _ (by omega))) ?_
    intro a51 ha51; clear ha50 a50
    refine wl_val ha51 rfl rfl rfl (op_move ha51 rfl rfl) ?_
    intro a52 ha52; clear ha51 a51
    refine wpList_nil ?_
    refine round_end (x := (i, p, v, acc)) ((i + 1), true, v42, (acc ++ [x14])) ?_ ?_
    ·
     refine ⟨(Sl.cons_ ha52 rfl rfl (Sl.cons_ ha52 rfl rfl (Sl.cons_ ha52 rfl rfl (Sl.cons_ ha52 rfl rfl (Sl.cons_ ha52 rfl rfl (Sl.cons_ ha52 rfl (int_eq (by omega)) (Sl.nil_ ha52))))))), hx48, (ho44.fin (by omega) (by omega) (by omega)), (by omega), (by omega), (by first | omega | (simp; omega)), (by rw [c28, drop_cons hx14, wb_no (.inl rfl)] at hF; rw [← hF]; simp)⟩
    ·show (bikes.length - ((i + 1)) : Nat) < bikes.length - i; omega
   ·
    rw [c28] at ha27
    refine wl_val ha27 rfl rfl rfl (op_move ha27 rfl rfl) ?_
    intro a53 ha53; clear ha27 a27
    refine wl_val ha53 rfl rfl rfl (op_move ha53 rfl rfl) ?_
    intro a54 ha54; clear ha53 a53
    refine wl_val ha54 rfl rfl rfl ((op_slss ha54 rfl rfl rfl).to (congrArg Value.bool (bytesLess_lt _ _))) ?_
    intro a55 ha55; clear ha54 a54
    refine wl_val ha55 rfl rfl rfl (op_pick_t ha55 rfl rfl rfl) ?_
    intro a56 ha56; clear ha55 a55
    refine wpList_nil ?_
    refine then_n ?_
    by_cases c57 : bike < x14
    ·
     rw [decide_eq_true c57] at ha56
     refine cond_t ha56 rfl ?_
     refine wp_seq ?_
     refine wp_region_lit ?_
     refine wl_val ha56 rfl rfl rfl (op_move ha56 rfl rfl) ?_
     intro a58 ha58; clear ha56 a56
     refine wl_val ha58 rfl rfl rfl (op_move ha58 rfl rfl) ?_
     intro a59 ha59; clear ha58 a58
     refine wl_eff ha59 rfl rfl rfl (op_buildSlice (s := shStr) (xs := [bike]) (cs := [St bike]) (vs := [(0, St bike)]) (S := fun _ => False) (le := w7.heap.size) ha59 rfl pos_shStr Try.underlying34 ti9 rfl rfl (by decide) (by kernel_rfl) (Els.single (mk_shStr bike (by first | assumption | omega | (simp; omega)))) (fun _ h => h.elim)) ?_
     rintro v60 w61 ⟨ho62, he63, hob64⟩ a65 ha65; clear ha59 a59
     have hx66 := hx8.trans' he63
     have hzhx66 := he63.size
     replace hf9 := hf9.ext he63
     refine wl_eff ha65 rfl rfl rfl (op_append (ts := #[]) (s := shStr) ha65 rfl Try.underlying34 ti9 rfl pos_shStr rfl rfl hf9 (ho62.rds pos_shStr) (by omega) (by omega) (by first | omega | (simp; omega)) (by first | omega | (simp; omega)) (.inl flat_shStr)) ?_
     rintro v67 w68 ⟨ho69, hst70, hob71⟩ a72 ha72; clear ha65 a65
     have hx73 := hx66.stp hst70 (by intro q hq; have hq0 := hf9.lt q hq; omega)
     have hzhx73 := hst70.size
     replace ho62 := ho62.stp hst70 (by intro q hq; have hq0 := hf9.lt q hq; omega)
     have hsp74 : ∀ q, Value.ownBlock v67 = some q → Value.ownBlock v60 ≠ some q := by intro q hq hb; have hq0 := ho62.lt q hb; rcases hob71 with h | h; (rw [h] at hq; first | (have hq1 := hf9.lt q hq; omega)); (rw [h] at hq; cases hq; omega)
     refine wl_val ha72 rfl rfl rfl (op_assign ha72 rfl rfl) ?_
     intro a75 ha75; clear ha72 a72
     refine wpList_nil ?_
     refine then_n ?_
     refine wp_region_lit ?_
     refine wl_val ha75 rfl rfl rfl (op_assign ha75 rfl rfl) ?_
     intro a76 ha76; clear ha75 a75
     refine wpList_nil ?_
     refine then_n ?_
     refine wp_region_lit ?_
     refine wl_val ha76 rfl rfl rfl (op_move ha76 rfl rfl) ?_
     intro a77 ha77; clear ha76 a76
     refine wl_val ha77 rfl rfl rfl (op_move ha77 rfl rfl) ?_
     intro a78 ha78; clear ha77 a77
     refine wl_eff ha78 rfl rfl rfl (op_buildSlice (s := shStr) (xs := [x14]) (cs := [St x14]) (vs := [(0, St x14)]) (S := fun _ => False) (le := w68.heap.size) ha78 rfl pos_shStr Try.underlying34 ti9 rfl rfl (by decide) (by kernel_rfl) (Els.single (mk_shStr x14 (by first | assumption | omega | (simp; omega)))) (fun _ h => h.elim)) ?_
     rintro v79 w80 ⟨ho81, he82, hob83⟩ a84 ha84; clear ha78 a78
     have hx85 := hx73.trans' he82
     have hzhx85 := he82.size
     replace ho62 := ho62.ext he82
     replace ho69 := ho69.ext he82
     refine wl_eff ha84 rfl rfl rfl (op_append (ts := #[]) (s := shStr) ha84 rfl Try.underlying34 ti9 rfl pos_shStr rfl rfl ho69 (ho81.rds pos_shStr) (by omega) (by omega) (by first | omega | (simp; omega)) (by first | omega | (simp; omega)) (.inl flat_shStr)) ?_
     rintro v86 w87 ⟨ho88, hst89, hob90⟩ a91 ha91; clear ha84 a84
     have hx92 := hx85.stp hst89 (by intro q hq; have hq0 := ho69.lt q hq; omega)
     have hzhx92 := hst89.size
     first | replace ho62 := ho62.stp hst89 (by intro q hq; have hq0 := ho69.lt q hq; omega) | replace ho62 := ho62.stpF flat_shStr hst89 (fun q hq => hsp74 q hq)
     replace ho81 := ho81.stp hst89 (by intro q hq; have hq0 := ho69.lt q hq; omega)
     have hsp93 : ∀ q, Value.ownBlock v86 = some q → Value.ownBlock v60 ≠ some q := by intro q hq hb; have hq0 := ho62.lt q hb; rcases hob90 with h | h; (rw [h] at hq; first | (have hq1 := ho69.lt q hq; omega) | exact hsp74 q hq hb); (rw [h] at hq; cases hq; omega)
     have hsp94 : ∀ q, Value.ownBlock v86 = some q → Value.ownBlock v79 ≠ some q := by intro q hq hb; have hq0 := ho81.lt q hb; rcases hob90 with h | h; (rw [h] at hq; first | (have hq1 := ho69.lt q hq; omega)); (rw [h] at hq; cases hq; omega)
     refine wl_val ha91 rfl rfl rfl (op_assign ha91 rfl rfl) ?_
     intro a95 ha95; clear ha91 a91
     refine wpList_nil ?_
     refine block_n ?_
     refine then_n ?_
     refine wp_region_lit ?_
     refine wl_val ha95 rfl rfl rfl ((op_add ha95 rfl rfl rfl).int (IntWalk.i64_in _ (by omega))) ?_
     intro a96 ha96; clear ha95 a95
     refine wl_val ha96 rfl rfl rfl (op_move ha96 rfl rfl) ?_
     intro a97 ha97; clear ha96 a96
     refine wpList_nil ?_
     refine round_end (x := (i, p, v, acc)) ((i + 1), true, v86, ((acc ++ [bike]) ++ [x14])) ?_ ?_
     ·
      refine ⟨(Sl.cons_ ha97 rfl rfl (Sl.cons_ ha97 rfl rfl (Sl.cons_ ha97 rfl rfl (Sl.cons_ ha97 rfl rfl (Sl.cons_ ha97 rfl rfl (Sl.cons_ ha97 rfl (int_eq (by omega)) (Sl.nil_ ha97))))))), hx92, (ho88.fin (by omega) (by omega) (by omega)), (by omega), (by omega), (by first | omega | (simp; omega)), (by rw [c28, drop_cons hx14, wb_put (by assumption)] at hF; rw [← hF]; simp)⟩
     ·show (bikes.length - ((i + 1)) : Nat) < bikes.length - i; omega
    ·
     rw [decide_eq_false c57] at ha56
     refine cond_f ha56 rfl ?_
     refine wp_skip ?_
     refine then_n ?_
     refine wp_region_lit ?_
     refine wl_val ha56 rfl rfl rfl (op_move ha56 rfl rfl) ?_
     intro a98 ha98; clear ha56 a56
     refine wl_val ha98 rfl rfl rfl (op_move ha98 rfl rfl) ?_
     intro a99 ha99; clear ha98 a98
     refine wl_eff ha99 rfl rfl rfl (op_buildSlice (s := shStr) (xs := [x14]) (cs := [St x14]) (vs := [(0, St x14)]) (S := fun _ => False) (le := w7.heap.size) ha99 rfl pos_shStr Try.underlying34 ti9 rfl rfl (by decide) (by kernel_rfl) (Els.single (mk_shStr x14 (by first | assumption | omega | (simp; omega)))) (fun _ h => h.elim)) ?_
     rintro v100 w101 ⟨ho102, he103, hob104⟩ a105 ha105; clear ha99 a99
     have hx106 := hx8.trans' he103
     have hzhx106 := he103.size
     replace hf9 := hf9.ext he103
     refine wl_eff ha105 rfl rfl rfl (op_append (ts := #[]) (s := shStr) ha105 rfl Try.underlying34 ti9 rfl pos_shStr rfl rfl hf9 (ho102.rds pos_shStr) (by omega) (by omega) (by first | omega | (simp; omega)) (by first | omega | (simp; omega)) (.inl flat_shStr)) ?_
     rintro v107 w108 ⟨ho109, hst110, hob111⟩ a112 ha112; clear ha105 a105
     have hx113 := hx106.stp hst110 (by intro q hq; have hq0 := hf9.lt q hq; omega)
     have hzhx113 := hst110.size
     replace ho102 := ho102.stp hst110 (by intro q hq; have hq0 := hf9.lt q hq; omega)
     have hsp114 : ∀ q, Value.ownBlock v107 = some q → Value.ownBlock v100 ≠ some q := by intro q hq hb; have hq0 := ho102.lt q hb; rcases hob111 with h | h; (rw [h] at hq; first | (have hq1 := hf9.lt q hq; omega)); (rw [h] at hq; cases hq; omega)
     refine wl_val ha112 rfl rfl rfl (op_assign ha112 rfl rfl) ?_
     intro a115 ha115; clear ha112 a112
     refine wpList_nil ?_
     refine block_n ?_
     refine then_n ?_
     refine wp_region_lit ?_
     refine wl_val ha115 rfl rfl rfl ((op_add ha115 rfl rfl rfl).int (IntWalk.i64_in _ (by omega))) ?_
     intro a116 ha116; clear ha115 a115
     refine wl_val ha116 rfl rfl rfl (op_move ha116 rfl rfl) ?_
     intro a117 ha117; clear ha116 a116
     refine wpList_nil ?_
     refine round_end (x := (i, p, v, acc)) ((i + 1), false, v107, (acc ++ [x14])) ?_ ?_
     ·
      refine ⟨(Sl.cons_ ha117 rfl rfl (Sl.cons_ ha117 rfl rfl (Sl.cons_ ha117 rfl rfl (Sl.cons_ ha117 rfl rfl (Sl.cons_ ha117 rfl rfl (Sl.cons_ ha117 rfl (int_eq (by omega)) (Sl.nil_ ha117))))))), hx113, (ho109.fin (by omega) (by omega) (by omega)), (by omega), (by omega), (by first | omega | (simp; omega)), (by rw [c28, drop_cons hx14, wb_no (.inr (by assumption))] at hF; rw [← hF]; simp)⟩
     ·show (bikes.length - ((i + 1)) : Nat) < bikes.length - i; omega
  ·
   rw [decide_eq_false c13] at ha12
   refine cond_f ha12 rfl ?_
   refine wp_exit ?_
   refine then_e ?_
   refine then_e ?_
   refine block_hit ?_
   refine then_n ?_
   refine wp_seq ?_
   refine wp_seq ?_
   refine wp_region_lit ?_
   refine wl_val ha12 rfl rfl rfl (op_move ha12 rfl rfl) ?_
   intro a118 ha118; clear ha12 a12
   refine wl_val ha118 rfl rfl rfl (op_not ha118 rfl rfl) ?_
   intro a119 ha119; clear ha118 a118
   refine wpList_nil ?_
   refine then_n ?_
   rcases Bool.eq_false_or_eq_true (p) with c120 | c120
   ·
    rw [c120] at ha119
    refine cond_f ha119 rfl ?_
    refine wp_skip ?_
    refine then_n ?_
    refine wp_seq ?_
    refine wp_region_lit ?_
    refine wl_val ha119 rfl rfl rfl (op_move ha119 rfl rfl) ?_
    intro a121 ha121; clear ha119 a119
    refine wl_val ha121 rfl rfl rfl (op_assign ha121 rfl rfl) ?_
    intro a122 ha122; clear ha121 a121
    refine wpList_nil ?_
    refine then_n ?_
    refine wp_ret ?_
    refine ret1 ha122 rfl rfl ?_
    clear ha122 a122
    rw [drop_nil (by omega), wbGo] at hF
    simp only [c13, c120, if_true, Bool.false_eq_true, if_false, List.append_nil] at hF
    refine ret_mk hx8 ?_
    refine (hf9.fin (by omega) (by omega) (by omega)).cast ?_
    exact hF
   ·
    rw [c120] at ha119
    refine cond_t ha119 rfl ?_
    refine wp_region_lit ?_
    refine wl_val ha119 rfl rfl rfl (op_move ha119 rfl rfl) ?_
    intro a123 ha123; clear ha119 a119
    refine wl_val ha123 rfl rfl rfl (op_move ha123 rfl rfl) ?_
    intro a124 ha124; clear ha123 a123
    refine wl_eff ha124 rfl rfl rfl (op_buildSlice (s := shStr) (xs := [bike]) (cs := [St bike]) (vs := [(0, St bike)]) (S := fun _ => False) (le := w7.heap.size) ha124 rfl pos_shStr Try.underlying34 ti9 rfl rfl (by decide) (by kernel_rfl) (Els.single (mk_shStr bike (by first | assumption | omega | (simp; omega)))) (fun _ h => h.elim)) ?_
    rintro v125 w126 ⟨ho127, he128, hob129⟩ a130 ha130; clear ha124 a124
    have hx131 := hx8.trans' he128
    have hzhx131 := he128.size
    replace hf9 := hf9.ext he128
    refine wl_eff ha130 rfl rfl rfl (op_append (ts := #[]) (s := shStr) ha130 rfl Try.underlying34 ti9 rfl pos_shStr rfl rfl hf9 (ho127.rds pos_shStr) (by omega) (by omega) (by first | omega | (simp; omega)) (by first | omega | (simp; omega)) (.inl flat_shStr)) ?_
    rintro v132 w133 ⟨ho134, hst135, hob136⟩ a137 ha137; clear ha130 a130
    have hx138 := hx131.stp hst135 (by intro q hq; have hq0 := hf9.lt q hq; omega)
    have hzhx138 := hst135.size
    replace ho127 := ho127.stp hst135 (by intro q hq; have hq0 := hf9.lt q hq; omega)
    have hsp139 : ∀ q, Value.ownBlock v132 = some q → Value.ownBlock v125 ≠ some q := by intro q hq hb; have hq0 := ho127.lt q hb; rcases hob136 with h | h; (rw [h] at hq; first | (have hq1 := hf9.lt q hq; omega)); (rw [h] at hq; cases hq; omega)
    refine wl_val ha137 rfl rfl rfl (op_assign ha137 rfl rfl) ?_
    intro a140 ha140; clear ha137 a137
    refine wpList_nil ?_
    refine then_n ?_
    refine wp_seq ?_
    refine wp_region_lit ?_
    refine wl_val ha140 rfl rfl rfl (op_move ha140 rfl rfl) ?_
    intro a141 ha141; clear ha140 a140
    refine wl_val ha141 rfl rfl rfl (op_assign ha141 rfl rfl) ?_
    intro a142 ha142; clear ha141 a141
    refine wpList_nil ?_
    refine then_n ?_
    refine wp_ret ?_
    refine ret1 ha142 rfl rfl ?_
    clear ha142 a142
    rw [drop_nil (by omega), wbGo] at hF
    simp only [c13, c120, if_true, Bool.false_eq_true, if_false, List.append_nil] at hF
    refine ret_mk hx138 ?_
    refine (ho134.fin (by omega) (by omega) (by omega)).cast ?_
    exact hF

theorem c_impl_withoutBike (w0 : World) (v_bikes : Value) (bikes : List Str) {S_bikes : Nat → Prop} (bike : Str) (h_bikes : Rds shStr S_bikes w0 v_bikes bikes) (g0 : bikes.length ≤ 1048576) (g1 : bike.length ≤ 9223372036854775807) :
  Calls Try.prog 71 #[v_bikes, St bike] w0 (Ret w0 (fun v w1 => Own shStr 9 w0.heap.size w0.heap.size w1.heap.size w1 v (woL bike bikes))) := by
 refine enter (N := 23) Try.func71 rfl rfl rfl ?_
 intro a0 ha0
 have hx0 := Ext.rfl' w0
 have hl_bikes := h_bikes.length_le
 refine wp_seq ?_
 refine wp_region_lit ?_
 refine wl_val ha0 rfl rfl rfl (op_assign ha0 rfl rfl) ?_
 intro a1 ha1; clear ha0 a0
 refine wpList_nil ?_
 refine then_n ?_
 refine wp_seq ?_
 refine wp_region_lit ?_
 refine wl_val ha1 rfl rfl rfl (op_assign ha1 rfl rfl) ?_
 intro a2 ha2; clear ha1 a1
 refine wpList_nil ?_
 refine then_n ?_
 refine wp_seq ?_
 refine wp_seq ?_
 refine wp_region_lit ?_
 refine wl_val ha2 rfl rfl rfl (op_move ha2 rfl rfl) ?_
 intro a3 ha3; clear ha2 a2
 refine wl_val ha3 rfl rfl rfl (op_len_sl ha3 rfl Try.underlying34 rfl h_bikes) ?_
 intro a4 ha4; clear ha3 a3
 refine wl_val ha4 rfl rfl rfl (op_move ha4 rfl rfl) ?_
 intro a5 ha5; clear ha4 a4
 refine wpList_nil ?_
 refine then_n ?_
 refine wp_block ?_
 refine loop_inv (X := Nat × Value × (List Str)) (fun (⟨i, v, acc⟩ : Nat × Value × (List Str)) fr wl => Sl 23 fr [(1, St bike), (5, v), (8, v_bikes), (9, .int .i64 ((bikes.length : Nat) : Int)), (10, .int .i64 ((i : Nat) : Int))] ∧ Ext w0 wl ∧ Own shStr 9 w0.heap.size w0.heap.size wl.heap.size wl v acc ∧ w0.heap.size ≤ wl.heap.size ∧ (i ≤ bikes.length) ∧ (acc.length ≤ i) ∧ (acc ++ woL bike (bikes.drop i) = woL bike bikes)) (fun (⟨i, v, acc⟩ : Nat × Value × (List Str)) => bikes.length - i) (0, (.slice none 0 0), []) ?_ ?_
 ·
  exact ⟨(Sl.cons_ ha5 rfl rfl (Sl.cons_ ha5 rfl rfl (Sl.cons_ ha5 rfl rfl (Sl.cons_ ha5 rfl rfl (Sl.cons_ ha5 rfl (int_eq (by omega)) (Sl.nil_ ha5)))))), hx0, (Own.nil _ _ _ _ _ _), (by omega), (by omega), (by simp), (by rfl)⟩
 ·
  clear ha5 a5
  rintro ⟨i, v, acc⟩ a9 w6 ⟨ha9, hx7, hf8, hzl10, hi, hl, hF⟩
  have hzhx7 := hx7.size
  refine wp_seq ?_
  refine wp_region_lit ?_
  refine wl_val ha9 rfl rfl rfl (op_lss ha9 rfl rfl rfl) ?_
  intro a11 ha11; clear ha9 a9
  refine wpList_nil ?_
  refine then_n ?_
  refine wp_seq ?_
  by_cases c12 : ((i : Nat) : Int) < ((bikes.length : Nat) : Int)
  ·
   rw [decide_eq_true c12] at ha11
   refine cond_t ha11 rfl ?_
   refine wp_skip ?_
   refine then_n ?_
   refine wp_seq ?_
   refine wp_block ?_
   refine wp_seq ?_
   refine wp_region_lit ?_
   obtain ⟨x13, hx13⟩ := get_ex (xs := bikes) (j := i) (by omega)
   obtain ⟨p14, c15, hi16, hc17, hr18, hs19⟩ := Rds.at_ h_bikes hx13
   obtain ⟨rfl, b20⟩ := inv_shStr hr18
   refine wl_val ha11 rfl rfl rfl (op_indexAddr ha11 rfl Try.underlying34 ti9 rfl rfl (by omega) hi16) ?_
   intro a21 ha21; clear ha11 a11
   refine wl_val ha21 rfl rfl rfl (op_loadH ha21 rfl Try.underlying9 rfl rfl (hc17.ext hx7) rfl) ?_
   intro a22 ha22; clear ha21 a21
   refine wl_val ha22 rfl rfl rfl (op_assign ha22 rfl rfl) ?_
   intro a23 ha23; clear ha22 a22
   refine wpList_nil ?_
   refine then_n ?_
   refine wp_seq ?_
   refine wp_region_lit ?_
   refine wl_val ha23 rfl rfl rfl (op_move ha23 rfl rfl) ?_
   intro a24 ha24; clear ha23 a23
   refine wl_val ha24 rfl rfl rfl (op_move ha24 rfl rfl) ?_
   intro a25 ha25; clear ha24 a24
   refine wl_val ha25 rfl rfl rfl ((op_sneq ha25 rfl rfl rfl).to (congrArg Value.bool decide_not)) ?_
   intro a26 ha26; clear ha25 a25
   refine wpList_nil ?_
   refine then_n ?_
   by_cases c27 : x13 = bike
   ·
    rw [decide_eq_true c27] at ha26
    refine cond_f ha26 rfl ?_
    refine wp_skip ?_
    refine block_n ?_
    refine then_n ?_
    refine wp_region_lit ?_
    refine wl_val ha26 rfl rfl rfl ((op_add ha26 rfl rfl rfl).int (IntWalk.i64_in _ (by omega))) ?_
    intro a28 ha28; clear ha26 a26
    refine wl_val ha28 rfl rfl rfl (op_move ha28 rfl rfl) ?_
    intro a29 ha29; clear ha28 a28
    refine wpList_nil ?_
    refine round_end (x := (i, v, acc)) ((i + 1), v, acc) ?_ ?_
    ·
     refine ⟨(Sl.cons_ ha29 rfl rfl (Sl.cons_ ha29 rfl rfl (Sl.cons_ ha29 rfl rfl (Sl.cons_ ha29 rfl rfl (Sl.cons_ ha29 rfl (int_eq (by omega)) (Sl.nil_ ha29)))))), hx7, (hf8.fin (by omega) (by omega) (by omega)), (by omega), (by omega), (by first | omega | (simp; omega)), (by rw [drop_cons hx13, wo_step, if_pos (by assumption)] at hF; exact hF)⟩
    ·show (bikes.length - ((i + 1)) : Nat) < bikes.length - i; omega
   ·
    rw [decide_eq_false c27] at ha26
    refine cond_t ha26 rfl ?_
    refine wp_region_lit ?_
    refine wl_val ha26 rfl rfl rfl (op_move ha26 rfl rfl) ?_
    intro a30 ha30; clear ha26 a26
    refine wl_val ha30 rfl rfl rfl (op_move ha30 rfl rfl) ?_
    intro a31 ha31; clear ha30 a30
    refine wl_eff ha31 rfl rfl rfl (op_buildSlice (s := shStr) (xs := [x13]) (cs := [St x13]) (vs := [(0, St x13)]) (S := fun _ => False) (le := w6.heap.size) ha31 rfl pos_shStr Try.underlying34 ti9 rfl rfl (by decide) (by kernel_rfl) (Els.single (mk_shStr x13 (by first | assumption | omega | (simp; omega)))) (fun _ h => h.elim)) ?_
    rintro v32 w33 ⟨ho34, he35, hob36⟩ a37 ha37; clear ha31 a31
    have hx38 := hx7.trans' he35
    have hzhx38 := he35.size
    replace hf8 := hf8.ext he35
    refine wl_eff ha37 rfl rfl rfl (op_append (ts := #[]) (s := shStr) ha37 rfl Try.underlying34 ti9 rfl pos_shStr rfl rfl hf8 (ho34.rds pos_shStr) (by omega) (by omega) (by first | omega | (simp; omega)) (by first | omega | (simp; omega)) (.inl flat_shStr)) ?_
    rintro v39 w40 ⟨ho41, hst42, hob43⟩ a44 ha44; clear ha37 a37
    have hx45 := hx38.stp hst42 (by intro q hq; have hq0 := hf8.lt q hq; omega)
    have hzhx45 := hst42.size
    replace ho34 := ho34.stp hst42 (by intro q hq; have hq0 := hf8.lt q hq; omega)
    have hsp46 : ∀ q, Value.ownBlock v39 = some q → Value.ownBlock v32 ≠ some q := by intro q hq hb; have hq0 := ho34.lt q hb; rcases hob43 with h | h; (rw [h] at hq; first | (have hq1 := hf8.lt q hq; omega)); (rw [h] at hq; cases hq; omega)
    refine wl_val ha44 rfl rfl rfl (op_assign ha44 rfl rfl) ?_
    intro a47 ha47; clear ha44 a44
    refine wpList_nil ?_
    refine block_n ?_
    refine then_n ?_
    refine wp_region_lit ?_
    refine wl_val ha47 rfl rfl rfl ((op_add ha47 rfl rfl rfl).int (IntWalk.i64_in _ (by omega))) ?_
    intro a48 ha48; clear ha47 a47
    refine wl_val ha48 rfl rfl rfl (op_move ha48 rfl rfl) ?_
    intro a49 ha49; clear ha48 a48
    refine wpList_nil ?_
    refine round_end (x := (i, v, acc)) ((i + 1), v39, (acc ++ [x13])) ?_ ?_
    ·
     refine ⟨(Sl.cons_ ha49 rfl rfl (Sl.cons_ ha49 rfl rfl (Sl.cons_ ha49 rfl rfl (Sl.cons_ ha49 rfl rfl (Sl.cons_ ha49 rfl (int_eq (by omega)) (Sl.nil_ ha49)))))), hx45, (ho41.fin (by omega) (by omega) (by omega)), (by omega), (by omega), (by first | omega | (simp; omega)), (by rw [drop_cons hx13, wo_step, if_neg (by assumption)] at hF; rw [← hF]; simp)⟩
    ·show (bikes.length - ((i + 1)) : Nat) < bikes.length - i; omega
  ·
   rw [decide_eq_false c12] at ha11
   refine cond_f ha11 rfl ?_
   refine wp_exit ?_
   refine then_e ?_
   refine then_e ?_
   refine block_hit ?_
   refine then_n ?_
   refine wp_seq ?_
   refine wp_region_lit ?_
   refine wl_val ha11 rfl rfl rfl (op_move ha11 rfl rfl) ?_
   intro a50 ha50; clear ha11 a11
   refine wl_val ha50 rfl rfl rfl (op_assign ha50 rfl rfl) ?_
   intro a51 ha51; clear ha50 a50
   refine wpList_nil ?_
   refine then_n ?_
   refine wp_ret ?_
   refine ret1 ha51 rfl rfl ?_
   clear ha51 a51
   refine ret_mk hx7 ?_
   refine (hf8.fin (by omega) (by omega) (by omega)).cast ?_
   rw [drop_nil (by omega)] at hF; simpa [woL] using hF

theorem c_spec_l30Insert (w0 : World) (v_words : Value) (words : List Str) {S_words : Nat → Prop} (w : Str) (h_words : Rds shStr S_words w0 v_words words) (g0 : words.length ≤ 1048576) (g1 : w.length ≤ 9223372036854775807) :
  Calls Try.prog 68 #[v_words, St w] w0 (Ret w0 (fun v w1 => Own shStr 9 w0.heap.size w0.heap.size w1.heap.size w1 v (liL w words))) := by
 refine enter (N := 32) Try.func68 rfl rfl rfl ?_
 intro a0 ha0
 have hx0 := Ext.rfl' w0
 have hl_words := h_words.length_le
 refine wp_seq ?_
 refine wp_region_lit ?_
 refine wl_val ha0 rfl rfl rfl (op_assign ha0 rfl rfl) ?_
 intro a1 ha1; clear ha0 a0
 refine wpList_nil ?_
 refine then_n ?_
 refine wp_seq ?_
 refine wp_region_lit ?_
 refine wl_val ha1 rfl rfl rfl (op_assign ha1 rfl rfl) ?_
 intro a2 ha2; clear ha1 a1
 refine wpList_nil ?_
 refine then_n ?_
 refine wp_seq ?_
 refine wp_block ?_
 refine loop_inv (X := Nat) (fun (k : Nat) fr wl => Sl 32 fr [(0, v_words), (1, St w), (5, .int .i64 ((k : Nat) : Int))] ∧ Ext w0 wl ∧ w0.heap.size ≤ wl.heap.size ∧ (k ≤ words.length) ∧ (words.take k ++ liL w (words.drop k) = liL w words)) (fun (k : Nat) => words.length - k) (0) ?_ ?_
 ·
  exact ⟨(Sl.cons_ ha2 rfl rfl (Sl.cons_ ha2 rfl rfl (Sl.cons_ ha2 rfl (int_eq (by omega)) (Sl.nil_ ha2)))), hx0, (by omega), (by omega), (by simp)⟩
 ·
  clear ha2 a2
  rintro k a5 w3 ⟨ha5, hx4, hzl6, hk, hF⟩
  have hzhx4 := hx4.size
  refine wp_seq ?_
  refine wp_seq ?_
  refine wp_region_lit ?_
  refine wl_val ha5 rfl rfl rfl (op_move ha5 rfl rfl) ?_
  intro a7 ha7; clear ha5 a5
  refine wl_val ha7 rfl rfl rfl (op_move ha7 rfl rfl) ?_
  intro a8 ha8; clear ha7 a7
  refine wl_val ha8 rfl rfl rfl (op_len_sl ha8 rfl Try.underlying34 rfl h_words) ?_
  intro a9 ha9; clear ha8 a8
  refine wl_val ha9 rfl rfl rfl (op_lss ha9 rfl rfl rfl) ?_
  intro a10 ha10; clear ha9 a9
  refine wl_val ha10 rfl rfl rfl (op_move ha10 rfl rfl) ?_
  intro a11 ha11; clear ha10 a10
  by_cases c12 : ((k : Nat) : Int) < ((words.length : Nat) : Int)
  ·
   rw [decide_eq_true c12] at ha11
   refine wl_val ha11 rfl rfl rfl (op_move ha11 rfl rfl) ?_
   intro a13 ha13; clear ha11 a11
   refine wl_val ha13 rfl rfl rfl (op_move ha13 rfl rfl) ?_
   intro a14 ha14; clear ha13 a13
   obtain ⟨x15, hx15⟩ := get_ex (xs := words) (j := k) (by omega)
   obtain ⟨p16, c17, hi18, hc19, hr20, hs21⟩ := Rds.at_ h_words hx15
   obtain ⟨rfl, b22⟩ := inv_shStr hr20
   refine wl_val ha14 rfl rfl rfl (op_indexAddr ha14 rfl Try.underlying34 ti9 rfl rfl (by omega) hi18) ?_
   intro a23 ha23; clear ha14 a14
   refine wl_val ha23 rfl rfl rfl (op_loadH ha23 rfl Try.underlying9 rfl rfl (hc19.ext hx4) rfl) ?_
   intro a24 ha24; clear ha23 a23
   refine wl_val ha24 rfl rfl rfl (op_move ha24 rfl rfl) ?_
   intro a25 ha25; clear ha24 a24
   refine wl_val ha25 rfl rfl rfl ((op_slss ha25 rfl rfl rfl).to (congrArg Value.bool (bytesLess_lt _ _))) ?_
   intro a26 ha26; clear ha25 a25
   refine wl_val ha26 rfl rfl rfl (op_pick_t ha26 rfl rfl rfl) ?_
   intro a27 ha27; clear ha26 a26
   refine wpList_nil ?_
   refine then_n ?_
   by_cases c28 : x15 < w
   ·
    rw [decide_eq_true c28] at ha27
    refine cond_t ha27 rfl ?_
    refine wp_skip ?_
    refine then_n ?_
    refine wp_block ?_
    refine wp_region_lit ?_
    refine wl_val ha27 rfl rfl rfl (op_move ha27 rfl rfl) ?_
    intro a29 ha29; clear ha27 a27
    refine wl_val ha29 rfl rfl rfl ((op_add ha29 rfl rfl rfl).int (IntWalk.i64_in _ (by omega))) ?_
    intro a30 ha30; clear ha29 a29
    refine wl_val ha30 rfl rfl rfl (op_assign ha30 rfl rfl) ?_
    intro a31 ha31; clear ha30 a30
    refine wpList_nil ?_
    refine block_n ?_
    refine round_end (x := k) ((k + 1)) ?_ ?_
    ·
     refine ⟨(Sl.cons_ ha31 rfl rfl (Sl.cons_ ha31 rfl rfl (Sl.cons_ ha31 rfl (int_eq (by omega)) (Sl.nil_ ha31)))), hx4, (by omega), (by omega), (by rw [drop_cons hx15, liL, if_pos (by assumption)] at hF; rw [take_snoc hx15, List.append_assoc]; exact hF)⟩
    ·show (words.length - ((k + 1)) : Nat) < words.length - k; omega
   ·
    rw [decide_eq_false c28] at ha27
    refine cond_f ha27 rfl ?_
    refine wp_exit ?_
    refine then_e ?_
    refine then_e ?_
    refine block_hit ?_
    refine then_n ?_
    refine wp_seq ?_
    refine dr_enter Ext follows_mixed ?_
    intro w32 he33
    have hx34 := hx4.trans' he33
    have hzhx34 := he33.size
    have hs35 : Ext w32 w32 := Ext.rfl' _
    refine dr_val (i := 1) ha27 rfl (by kernel_rfl) (by kernel_rfl) (by kernel_rfl) rfl rfl rfl hs35 (fun w' hw' => op_move ha27 rfl rfl) ?_
    intro a36 ha36; clear ha27 a27
    refine dr_val (i := 2) ha36 rfl (by kernel_rfl) (by kernel_rfl) (by kernel_rfl) rfl rfl rfl hs35 (fun w' hw' => op_move ha36 rfl rfl) ?_
    intro a37 ha37; clear ha36 a36
    obtain ⟨u38, hu39, hr40⟩ := Rds.part h_words Try.underlying34 ti9 none (some (.int .i64 (k : Nat))) 0 k (.inl ⟨rfl, rfl⟩) (.inr ⟨.i64, rfl⟩) (by omega) (by omega)
    replace hr40 := hr40.cast (ys := words.take k) (by first | rw [List.take_length] | simp)
    refine dr_val (i := 3) ha37 rfl (by kernel_rfl) (by kernel_rfl) (by kernel_rfl) rfl rfl rfl hs35 (fun w' hw' => op_slice_t (by omega) ha37 rfl rfl rfl hu39) ?_
    intro a41 ha41; clear ha37 a37
    refine dr_val (i := 5) ha41 rfl (by kernel_rfl) (by kernel_rfl) (by kernel_rfl) rfl rfl rfl hs35 (fun w' hw' => op_move ha41 rfl rfl) ?_
    intro a42 ha42; clear ha41 a41
    refine dr_val (i := 8) ha42 rfl (by kernel_rfl) (by kernel_rfl) (by kernel_rfl) rfl rfl rfl hs35 (fun w' hw' => op_move ha42 rfl rfl) ?_
    intro a43 ha43; clear ha42 a42
    refine dr_val (i := 9) ha43 rfl (by kernel_rfl) (by kernel_rfl) (by kernel_rfl) rfl rfl rfl hs35 (fun w' hw' => op_move ha43 rfl rfl) ?_
    intro a44 ha44; clear ha43 a43
    obtain ⟨u45, hu46, hr47⟩ := Rds.part h_words Try.underlying34 ti9 (some (.int .i64 (k : Nat))) none k words.length (.inr ⟨.i64, rfl⟩) (.inl ⟨rfl, rfl⟩) (by omega) (by omega)
    replace hr47 := hr47.cast (ys := words.drop k) (by first | rw [List.take_length] | simp)
    refine dr_val (i := 10) ha44 rfl (by kernel_rfl) (by kernel_rfl) (by kernel_rfl) rfl rfl rfl hs35 (fun w' hw' => op_slice_f (by omega) ha44 rfl rfl rfl hu46) ?_
    intro a48 ha48; clear ha44 a44
    refine dr_two (i := 0) (j := 6) (by kernel_rfl) ?_ ?_
    ·
     refine po_eff ha48 rfl rfl rfl rfl (op_buildSlice (s := shStr) (xs := ([] : List Str)) (cs := []) (vs := []) (S := fun _ => False) (le := w32.heap.size) ha48 rfl pos_shStr Try.underlying34 ti9 rfl rfl (by decide) (by kernel_rfl) rfl (fun _ h => h.elim)) ?_
     rintro v49 w50 ⟨ho51, he52, hob53⟩ a54 ha54; clear ha48 a48
     have hs55 := hs35.trans' he52
     have hx56 := hx34.trans' he52
     have hzhx56 := he52.size
     refine ⟨hs55, ?_⟩
     refine dr_two (i := 4) (j := 6) (by kernel_rfl) ?_ ?_
     ·
      refine po_eff ha54 rfl rfl rfl rfl (op_append (ts := #[]) (s := shStr) ha54 rfl Try.underlying34 ti9 rfl pos_shStr rfl rfl ho51 (hr40.ext pos_shStr (hx34.trans' hs55)) (by omega) (by omega) (by first | omega | (simp; omega)) (by first | omega | (simp; omega)) (.inl flat_shStr)) ?_
      rintro v57 w58 ⟨ho59, hst60, hob61⟩ a62 ha62; clear ha54 a54
      replace ho59 := ho59.cast (List.nil_append _)
      have hs63 := hs55.stp hst60 (by intro q hq; have hq0 := ho51.lt q hq; omega)
      have hx64 := hx56.stp hst60 (by intro q hq; have hq0 := ho51.lt q hq; omega)
      have hzhx64 := hst60.size
      refine ⟨hs63, ?_⟩
      refine dr_one (i := 6) (by kernel_rfl) ?_
      refine po_eff ha62 rfl rfl rfl rfl (op_buildSlice (s := shStr) (xs := [w]) (cs := [St w]) (vs := [(0, St w)]) (S := fun _ => False) (le := w58.heap.size) ha62 rfl pos_shStr Try.underlying34 ti9 rfl rfl (by decide) (by kernel_rfl) (Els.single (mk_shStr w (by first | assumption | omega | (simp; omega)))) (fun _ h => h.elim)) ?_
      rintro v65 w66 ⟨ho67, he68, hob69⟩ a70 ha70; clear ha62 a62
      have hs71 := hs63.trans' he68
      have hx72 := hx64.trans' he68
      have hzhx72 := he68.size
      replace ho59 := ho59.ext he68
      refine ⟨hs71, ?_⟩
      refine dr_one (i := 7) (by kernel_rfl) ?_
      refine po_eff ha70 rfl rfl rfl rfl (op_append (ts := #[]) (s := shStr) ha70 rfl Try.underlying34 ti9 rfl pos_shStr rfl rfl ho59 (ho67.rds pos_shStr) (by omega) (by omega) (by first | omega | (simp; omega)) (by first | omega | (simp; omega)) (.inl flat_shStr)) ?_
      rintro v73 w74 ⟨ho75, hst76, hob77⟩ a78 ha78; clear ha70 a70
      have hs79 := hs71.stp hst76 (by intro q hq; have hq0 := ho59.lt q hq; omega)
      have hx80 := hx72.stp hst76 (by intro q hq; have hq0 := ho59.lt q hq; omega)
      have hzhx80 := hst76.size
      replace ho67 := ho67.stp hst76 (by intro q hq; have hq0 := ho59.lt q hq; omega)
      have hsp81 : ∀ q, Value.ownBlock v73 = some q → Value.ownBlock v65 ≠ some q := by intro q hq hb; have hq0 := ho67.lt q hb; rcases hob77 with h | h; (rw [h] at hq; first | (have hq1 := ho59.lt q hq; omega)); (rw [h] at hq; cases hq; omega)
      refine ⟨hs79, ?_⟩
      refine dr_one (i := 11) (by kernel_rfl) ?_
      refine po_eff ha78 rfl rfl rfl rfl (op_append (ts := #[]) (s := shStr) ha78 rfl Try.underlying34 ti9 rfl pos_shStr rfl rfl ho75 (hr47.ext pos_shStr (hx34.trans' hs79)) (by omega) (by omega) (by first | omega | (simp; omega)) (by first | omega | (simp; omega)) (.inl flat_shStr)) ?_
      rintro v82 w83 ⟨ho84, hst85, hob86⟩ a87 ha87; clear ha78 a78
      have hs88 := hs79.stp hst85 (by intro q hq; have hq0 := ho75.lt q hq; omega)
      have hx89 := hx80.stp hst85 (by intro q hq; have hq0 := ho75.lt q hq; omega)
      have hzhx89 := hst85.size
      first | replace ho67 := ho67.stp hst85 (by intro q hq; have hq0 := ho75.lt q hq; omega) | replace ho67 := ho67.stpF flat_shStr hst85 (fun q hq => hsp81 q hq)
      have hsp90 : ∀ q, Value.ownBlock v82 = some q → Value.ownBlock v65 ≠ some q := by intro q hq hb; have hq0 := ho67.lt q hb; rcases hob86 with h | h; (rw [h] at hq; first | (have hq1 := ho75.lt q hq; omega) | exact hsp81 q hq hb); (rw [h] at hq; cases hq; omega)
      refine ⟨hs88, ?_⟩
      refine dr_val (i := 12) ha87 rfl (by kernel_rfl) (by kernel_rfl) (by kernel_rfl) rfl rfl rfl hs88 (fun w' hw' => op_assign ha87 rfl rfl) ?_
      intro a91 ha91; clear ha87 a87
      refine dr_end (by kernel_rfl) ?_
      refine then_n ?_
      refine wp_ret ?_
      refine ret1 ha91 rfl rfl ?_
      clear ha91 a91
      rw [drop_cons hx15, liL, if_neg (by assumption), ← drop_cons hx15] at hF
      refine ret_mk hx89 ?_
      refine (ho84.fin (by omega) (by omega) (by omega)).cast ?_
      rw [← hF]; simp
     ·
      refine po_eff ha54 rfl rfl rfl rfl (op_buildSlice (s := shStr) (xs := [w]) (cs := [St w]) (vs := [(0, St w)]) (S := fun _ => False) (le := w50.heap.size) ha54 rfl pos_shStr Try.underlying34 ti9 rfl rfl (by decide) (by kernel_rfl) (Els.single (mk_shStr w (by first | assumption | omega | (simp; omega)))) (fun _ h => h.elim)) ?_
      rintro v92 w93 ⟨ho94, he95, hob96⟩ a97 ha97; clear ha54 a54
      have hs98 := hs55.trans' he95
      have hx99 := hx56.trans' he95
      have hzhx99 := he95.size
      replace ho51 := ho51.ext he95
      refine ⟨hs98, ?_⟩
      refine dr_one (i := 4) (by kernel_rfl) ?_
      refine po_eff ha97 rfl rfl rfl rfl (op_append (ts := #[]) (s := shStr) ha97 rfl Try.underlying34 ti9 rfl pos_shStr rfl rfl ho51 (hr40.ext pos_shStr (hx34.trans' hs98)) (by omega) (by omega) (by first | omega | (simp; omega)) (by first | omega | (simp; omega)) (.inl flat_shStr)) ?_
      rintro v100 w101 ⟨ho102, hst103, hob104⟩ a105 ha105; clear ha97 a97
      replace ho102 := ho102.cast (List.nil_append _)
      have hs106 := hs98.stp hst103 (by intro q hq; have hq0 := ho51.lt q hq; omega)
      have hx107 := hx99.stp hst103 (by intro q hq; have hq0 := ho51.lt q hq; omega)
      have hzhx107 := hst103.size
      replace ho94 := ho94.stp hst103 (by intro q hq; have hq0 := ho51.lt q hq; omega)
      have hsp108 : ∀ q, Value.ownBlock v100 = some q → Value.ownBlock v92 ≠ some q := by intro q hq hb; have hq0 := ho94.lt q hb; rcases hob104 with h | h; (rw [h] at hq; first | (have hq1 := ho51.lt q hq; omega)); (rw [h] at hq; cases hq; omega)
      refine ⟨hs106, ?_⟩
      refine dr_one (i := 7) (by kernel_rfl) ?_
      refine po_eff ha105 rfl rfl rfl rfl (op_append (ts := #[]) (s := shStr) ha105 rfl Try.underlying34 ti9 rfl pos_shStr rfl rfl ho102 (ho94.rds pos_shStr) (by omega) (by omega) (by first | omega | (simp; omega)) (by first | omega | (simp; omega)) (.inl flat_shStr)) ?_
      rintro v109 w110 ⟨ho111, hst112, hob113⟩ a114 ha114; clear ha105 a105
      have hs115 := hs106.stp hst112 (by intro q hq; have hq0 := ho102.lt q hq; omega)
      have hx116 := hx107.stp hst112 (by intro q hq; have hq0 := ho102.lt q hq; omega)
      have hzhx116 := hst112.size
      first | replace ho94 := ho94.stp hst112 (by intro q hq; have hq0 := ho102.lt q hq; omega) | replace ho94 := ho94.stpF flat_shStr hst112 (fun q hq => hsp108 q hq)
      have hsp117 : ∀ q, Value.ownBlock v109 = some q → Value.ownBlock v92 ≠ some q := by intro q hq hb; have hq0 := ho94.lt q hb; rcases hob113 with h | h; (rw [h] at hq; first | (have hq1 := ho102.lt q hq; omega) | exact hsp108 q hq hb); (rw [h] at hq; cases hq; omega)
      refine ⟨hs115, ?_⟩
      refine dr_one (i := 11) (by kernel_rfl) ?_
      refine po_eff ha114 rfl rfl rfl rfl (op_append (ts := #[]) (s := shStr) ha114 rfl Try.underlying34 ti9 rfl pos_shStr rfl rfl ho111 (hr47.ext pos_shStr (hx34.trans' hs115)) (by omega) (by omega) (by first | omega | (simp; omega)) (by first | omega | (simp; omega)) (.inl flat_shStr)) ?_
      rintro v118 w119 ⟨ho120, hst121, hob122⟩ a123 ha123; clear ha114 a114
      have hs124 := hs115.stp hst121 (by intro q hq; have hq0 := ho111.lt q hq; omega)
      have hx125 := hx116.stp hst121 (by intro q hq; have hq0 := ho111.lt q hq; omega)
      have hzhx125 := hst121.size
      first | replace ho94 := ho94.stp hst121 (by intro q hq; have hq0 := ho111.lt q hq; omega) | replace ho94 := ho94.stpF flat_shStr hst121 (fun q hq => hsp117 q hq)
      have hsp126 : ∀ q, Value.ownBlock v118 = some q → Value.ownBlock v92 ≠ some q := by intro q hq hb; have hq0 := ho94.lt q hb; rcases hob122 with h | h; (rw [h] at hq; first | (have hq1 := ho111.lt q hq; omega) | exact hsp117 q hq hb); (rw [h] at hq; cases hq; omega)
      refine ⟨hs124, ?_⟩
      refine dr_val (i := 12) ha123 rfl (by kernel_rfl) (by kernel_rfl) (by kernel_rfl) rfl rfl rfl hs124 (fun w' hw' => op_assign ha123 rfl rfl) ?_
      intro a127 ha127; clear ha123 a123
      refine dr_end (by kernel_rfl) ?_
      refine then_n ?_
      refine wp_ret ?_
      refine ret1 ha127 rfl rfl ?_
      clear ha127 a127
      rw [drop_cons hx15, liL, if_neg (by assumption), ← drop_cons hx15] at hF
      refine ret_mk hx125 ?_
      refine (ho120.fin (by omega) (by omega) (by omega)).cast ?_
      rw [← hF]; simp
    ·
     refine po_eff ha48 rfl rfl rfl rfl (op_buildSlice (s := shStr) (xs := [w]) (cs := [St w]) (vs := [(0, St w)]) (S := fun _ => False) (le := w32.heap.size) ha48 rfl pos_shStr Try.underlying34 ti9 rfl rfl (by decide) (by kernel_rfl) (Els.single (mk_shStr w (by first | assumption | omega | (simp; omega)))) (fun _ h => h.elim)) ?_
     rintro v128 w129 ⟨ho130, he131, hob132⟩ a133 ha133; clear ha48 a48
     have hs134 := hs35.trans' he131
     have hx135 := hx34.trans' he131
     have hzhx135 := he131.size
     refine ⟨hs134, ?_⟩
     refine dr_one (i := 0) (by kernel_rfl) ?_
     refine po_eff ha133 rfl rfl rfl rfl (op_buildSlice (s := shStr) (xs := ([] : List Str)) (cs := []) (vs := []) (S := fun _ => False) (le := w129.heap.size) ha133 rfl pos_shStr Try.underlying34 ti9 rfl rfl (by decide) (by kernel_rfl) rfl (fun _ h => h.elim)) ?_
     rintro v136 w137 ⟨ho138, he139, hob140⟩ a141 ha141; clear ha133 a133
     have hs142 := hs134.trans' he139
     have hx143 := hx135.trans' he139
     have hzhx143 := he139.size
     replace ho130 := ho130.ext he139
     refine ⟨hs142, ?_⟩
     refine dr_one (i := 4) (by kernel_rfl) ?_
     refine po_eff ha141 rfl rfl rfl rfl (op_append (ts := #[]) (s := shStr) ha141 rfl Try.underlying34 ti9 rfl pos_shStr rfl rfl ho138 (hr40.ext pos_shStr (hx34.trans' hs142)) (by omega) (by omega) (by first | omega | (simp; omega)) (by first | omega | (simp; omega)) (.inl flat_shStr)) ?_
     rintro v144 w145 ⟨ho146, hst147, hob148⟩ a149 ha149; clear ha141 a141
     replace ho146 := ho146.cast (List.nil_append _)
     have hs150 := hs142.stp hst147 (by intro q hq; have hq0 := ho138.lt q hq; omega)
     have hx151 := hx143.stp hst147 (by intro q hq; have hq0 := ho138.lt q hq; omega)
     have hzhx151 := hst147.size
     replace ho130 := ho130.stp hst147 (by intro q hq; have hq0 := ho138.lt q hq; omega)
     have hsp152 : ∀ q, Value.ownBlock v144 = some q → Value.ownBlock v128 ≠ some q := by intro q hq hb; have hq0 := ho130.lt q hb; rcases hob148 with h | h; (rw [h] at hq; first | (have hq1 := ho138.lt q hq; omega)); (rw [h] at hq; cases hq; omega)
     refine ⟨hs150, ?_⟩
     refine dr_one (i := 7) (by kernel_rfl) ?_
     refine po_eff ha149 rfl rfl rfl rfl (op_append (ts := #[]) (s := shStr) ha149 rfl Try.underlying34 ti9 rfl pos_shStr rfl rfl ho146 (ho130.rds pos_shStr) (by omega) (by omega) (by first | omega | (simp; omega)) (by first | omega | (simp; omega)) (.inl flat_shStr)) ?_
     rintro v153 w154 ⟨ho155, hst156, hob157⟩ a158 ha158; clear ha149 a149
     have hs159 := hs150.stp hst156 (by intro q hq; have hq0 := ho146.lt q hq; omega)
     have hx160 := hx151.stp hst156 (by intro q hq; have hq0 := ho146.lt q hq; omega)
     have hzhx160 := hst156.size
     replace ho130 := ho130.stp hst156 (by intro q hq; have hq0 := ho146.lt q hq; omega)
     have hsp161 : ∀ q, Value.ownBlock v153 = some q → Value.ownBlock v128 ≠ some q := by intro q hq hb; have hq0 := ho130.lt q hb; rcases hob157 with h | h; (rw [h] at hq; first | (have hq1 := ho146.lt q hq; omega) | exact hsp152 q hq hb); (rw [h] at hq; cases hq; omega)
     refine ⟨hs159, ?_⟩
     refine dr_one (i := 11) (by kernel_rfl) ?_
     refine po_eff ha158 rfl rfl rfl rfl (op_append (ts := #[]) (s := shStr) ha158 rfl Try.underlying34 ti9 rfl pos_shStr rfl rfl ho155 (hr47.ext pos_shStr (hx34.trans' hs159)) (by omega) (by omega) (by first | omega | (simp; omega)) (by first | omega | (simp; omega)) (.inl flat_shStr)) ?_
     rintro v162 w163 ⟨ho164, hst165, hob166⟩ a167 ha167; clear ha158 a158
     have hs168 := hs159.stp hst165 (by intro q hq; have hq0 := ho155.lt q hq; omega)
     have hx169 := hx160.stp hst165 (by intro q hq; have hq0 := ho155.lt q hq; omega)
     have hzhx169 := hst165.size
     replace ho130 := ho130.stp hst165 (by intro q hq; have hq0 := ho155.lt q hq; omega)
     have hsp170 : ∀ q, Value.ownBlock v162 = some q → Value.ownBlock v128 ≠ some q := by intro q hq hb; have hq0 := ho130.lt q hb; rcases hob166 with h | h; (rw [h] at hq; first | (have hq1 := ho155.lt q hq; omega) | exact hsp161 q hq hb); (rw [h] at hq; cases hq; omega)
     refine ⟨hs168, ?_⟩
     refine dr_val (i := 12) ha167 rfl (by kernel_rfl) (by kernel_rfl) (by kernel_rfl) rfl rfl rfl hs168 (fun w' hw' => op_assign ha167 rfl rfl) ?_
     intro a171 ha171; clear ha167 a167
     refine dr_end (by kernel_rfl) ?_
     refine then_n ?_
     refine wp_ret ?_
     refine ret1 ha171 rfl rfl ?_
     clear ha171 a171
     rw [drop_cons hx15, liL, if_neg (by assumption), ← drop_cons hx15] at hF
     refine ret_mk hx169 ?_
     refine (ho164.fin (by omega) (by omega) (by omega)).cast ?_
     rw [← hF]; simp
  ·
   rw [decide_eq_false c12] at ha11
   refine wl_skip ha11 rfl rfl rfl ?_
   intro a172 ha172; clear ha11 a11
   refine wl_skip ha172 rfl rfl rfl ?_
   intro a173 ha173; clear ha172 a172
   refine wl_skip ha173 rfl rfl rfl ?_
   intro a174 ha174; clear ha173 a173
   refine wl_skip ha174 rfl rfl rfl ?_
   intro a175 ha175; clear ha174 a174
   refine wl_skip ha175 rfl rfl rfl ?_
   intro a176 ha176; clear ha175 a175
   refine wl_skip ha176 rfl rfl rfl ?_
   intro a177 ha177; clear ha176 a176
   refine wl_val ha177 rfl rfl rfl (op_pick_f ha177 rfl rfl rfl) ?_
   intro a178 ha178; clear ha177 a177
   refine wpList_nil ?_
   refine then_n ?_
   refine cond_f ha178 rfl ?_
   refine wp_exit ?_
   refine then_e ?_
   refine then_e ?_
   refine block_hit ?_
   refine then_n ?_
   refine wp_seq ?_
   refine dr_enter Ext follows_mixed ?_
   intro w179 he180
   have hx181 := hx4.trans' he180
   have hzhx181 := he180.size
   have hs182 : Ext w179 w179 := Ext.rfl' _
   refine dr_val (i := 1) ha178 rfl (by kernel_rfl) (by kernel_rfl) (by kernel_rfl) rfl rfl rfl hs182 (fun w' hw' => op_move ha178 rfl rfl) ?_
   intro a183 ha183; clear ha178 a178
   refine dr_val (i := 2) ha183 rfl (by kernel_rfl) (by kernel_rfl) (by kernel_rfl) rfl rfl rfl hs182 (fun w' hw' => op_move ha183 rfl rfl) ?_
   intro a184 ha184; clear ha183 a183
   obtain ⟨u185, hu186, hr187⟩ := Rds.part h_words Try.underlying34 ti9 none (some (.int .i64 (k : Nat))) 0 k (.inl ⟨rfl, rfl⟩) (.inr ⟨.i64, rfl⟩) (by omega) (by omega)
   replace hr187 := hr187.cast (ys := words.take k) (by first | rw [List.take_length] | simp)
   refine dr_val (i := 3) ha184 rfl (by kernel_rfl) (by kernel_rfl) (by kernel_rfl) rfl rfl rfl hs182 (fun w' hw' => op_slice_t (by omega) ha184 rfl rfl rfl hu186) ?_
   intro a188 ha188; clear ha184 a184
   refine dr_val (i := 5) ha188 rfl (by kernel_rfl) (by kernel_rfl) (by kernel_rfl) rfl rfl rfl hs182 (fun w' hw' => op_move ha188 rfl rfl) ?_
   intro a189 ha189; clear ha188 a188
   refine dr_val (i := 8) ha189 rfl (by kernel_rfl) (by kernel_rfl) (by kernel_rfl) rfl rfl rfl hs182 (fun w' hw' => op_move ha189 rfl rfl) ?_
   intro a190 ha190; clear ha189 a189
   refine dr_val (i := 9) ha190 rfl (by kernel_rfl) (by kernel_rfl) (by kernel_rfl) rfl rfl rfl hs182 (fun w' hw' => op_move ha190 rfl rfl) ?_
   intro a191 ha191; clear ha190 a190
   obtain ⟨u192, hu193, hr194⟩ := Rds.part h_words Try.underlying34 ti9 (some (.int .i64 (k : Nat))) none k words.length (.inr ⟨.i64, rfl⟩) (.inl ⟨rfl, rfl⟩) (by omega) (by omega)
   replace hr194 := hr194.cast (ys := words.drop k) (by first | rw [List.take_length] | simp)
   refine dr_val (i := 10) ha191 rfl (by kernel_rfl) (by kernel_rfl) (by kernel_rfl) rfl rfl rfl hs182 (fun w' hw' => op_slice_f (by omega) ha191 rfl rfl rfl hu193) ?_
   intro a195 ha195; clear ha191 a191
   refine dr_two (i := 0) (j := 6) (by kernel_rfl) ?_ ?_
   ·
    refine po_eff ha195 rfl rfl rfl rfl (op_buildSlice (s := shStr) (xs := ([] : List Str)) (cs := []) (vs := []) (S := fun _ => False) (le := w179.heap.size) ha195 rfl pos_shStr Try.underlying34 ti9 rfl rfl (by decide) (by kernel_rfl) rfl (fun _ h => h.elim)) ?_
    rintro v196 w197 ⟨ho198, he199, hob200⟩ a201 ha201; clear ha195 a195
    have hs202 := hs182.trans' he199
    have hx203 := hx181.trans' he199
    have hzhx203 := he199.size
    refine ⟨hs202, ?_⟩
    refine dr_two (i := 4) (j := 6) (by kernel_rfl) ?_ ?_
    ·
     refine po_eff ha201 rfl rfl rfl rfl (op_append (ts := #[]) (s := shStr) ha201 rfl Try.underlying34 ti9 rfl pos_shStr rfl rfl ho198 (hr187.ext pos_shStr (hx181.trans' hs202)) (by omega) (by omega) (by first | omega | (simp; omega)) (by first | omega | (simp; omega)) (.inl flat_shStr)) ?_
     rintro v204 w205 ⟨ho206, hst207, hob208⟩ a209 ha209; clear ha201 a201
     replace ho206 := ho206.cast (List.nil_append _)
     have hs210 := hs202.stp hst207 (by intro q hq; have hq0 := ho198.lt q hq; omega)
     have hx211 := hx203.stp hst207 (by intro q hq; have hq0 := ho198.lt q hq; omega)
     have hzhx211 := hst207.size
     refine ⟨hs210, ?_⟩
     refine dr_one (i := 6) (by kernel_rfl) ?_
     refine po_eff ha209 rfl rfl rfl rfl (op_buildSlice (s := shStr) (xs := [w]) (cs := [St w]) (vs := [(0, St w)]) (S := fun _ => False) (le := w205.heap.size) ha209 rfl pos_shStr Try.underlying34 ti9 rfl rfl (by decide) (by kernel_rfl) (Els.single (mk_shStr w (by first | assumption | omega | (simp; omega)))) (fun _ h => h.elim)) ?_
     rintro v212 w213 ⟨ho214, he215, hob216⟩ a217 ha217; clear ha209 a209
     have hs218 := hs210.trans' he215
     have hx219 := hx211.trans' he215
     have hzhx219 := he215.size
     replace ho206 := ho206.ext he215
     refine ⟨hs218, ?_⟩
     refine dr_one (i := 7) (by kernel_rfl) ?_
     refine po_eff ha217 rfl rfl rfl rfl (op_append (ts := #[]) (s := shStr) ha217 rfl Try.underlying34 ti9 rfl pos_shStr rfl rfl ho206 (ho214.rds pos_shStr) (by omega) (by omega) (by first | omega | (simp; omega)) (by first | omega | (simp; omega)) (.inl flat_shStr)) ?_
     rintro v220 w221 ⟨ho222, hst223, hob224⟩ a225 ha225; clear ha217 a217
     have hs226 := hs218.stp hst223 (by intro q hq; have hq0 := ho206.lt q hq; omega)
     have hx227 := hx219.stp hst223 (by intro q hq; have hq0 := ho206.lt q hq; omega)
     have hzhx227 := hst223.size
     replace ho214 := ho214.stp hst223 (by intro q hq; have hq0 := ho206.lt q hq; omega)
     have hsp228 : ∀ q, Value.ownBlock v220 = some q → Value.ownBlock v212 ≠ some q := by intro q hq hb; have hq0 := ho214.lt q hb; rcases hob224 with h | h; (rw [h] at hq; first | (have hq1 := ho206.lt q hq; omega)); (rw [h] at hq; cases hq; omega)
     refine ⟨hs226, ?_⟩
     refine dr_one (i := 11) (by kernel_rfl) ?_
     refine po_eff ha225 rfl rfl rfl rfl (op_append (ts := #[]) (s := shStr) ha225 rfl Try.underlying34 ti9 rfl pos_shStr rfl rfl ho222 (hr194.ext pos_shStr (hx181.trans' hs226)) (by omega) (by omega) (by first | omega | (simp; omega)) (by first | omega | (simp; omega)) (.inl flat_shStr)) ?_
     rintro v229 w230 ⟨ho231, hst232, hob233⟩ a234 ha234; clear ha225 a225
     have hs235 := hs226.stp hst232 (by intro q hq; have hq0 := ho222.lt q hq; omega)
     have hx236 := hx227.stp hst232 (by intro q hq; have hq0 := ho222.lt q hq; omega)
     have hzhx236 := hst232.size
     first | replace ho214 := ho214.stp hst232 (by intro q hq; have hq0 := ho222.lt q hq; omega) | replace ho214 := ho214.stpF flat_shStr hst232 (fun q hq => hsp228 q hq)
     have hsp237 : ∀ q, Value.ownBlock v229 = some q → Value.ownBlock v212 ≠ some q := by intro q hq hb; have hq0 := ho214.lt q hb; rcases hob233 with h | h; (rw [h] at hq; first | (have hq1 := ho222.lt q hq; omega) | exact hsp228 q hq hb); (rw [h] at hq; cases hq; omega)
     refine ⟨hs235, ?_⟩
     refine dr_val (i := 12) ha234 rfl (by kernel_rfl) (by kernel_rfl) (by kernel_rfl) rfl rfl rfl hs235 (fun w' hw' => op_assign ha234 rfl rfl) ?_
     intro a238 ha238; clear ha234 a234
     refine dr_end (by kernel_rfl) ?_
     refine then_n ?_
     refine wp_ret ?_
     refine ret1 ha238 rfl rfl ?_
     clear ha238 a238
     rw [drop_nil (by omega), liL] at hF
     have hd0 : words.drop k = [] := drop_nil (by omega)
     refine ret_mk hx236 ?_
     refine (ho231.fin (by omega) (by omega) (by omega)).cast ?_
     rw [← hF, hd0]; simp
    ·
     refine po_eff ha201 rfl rfl rfl rfl (op_buildSlice (s := shStr) (xs := [w]) (cs := [St w]) (vs := [(0, St w)]) (S := fun _ => False) (le := w197.heap.size) ha201 rfl pos_shStr Try.underlying34 ti9 rfl rfl (by decide) (by kernel_rfl) (Els.single (mk_shStr w (by first | assumption | omega | (simp; omega)))) (fun _ h => h.elim)) ?_
     rintro v239 w240 ⟨ho241, he242, hob243⟩ a244 ha244; clear ha201 a201
     have hs245 := hs202.trans' he242
     have hx246 := hx203.trans' he242
     have hzhx246 := he242.size
     replace ho198 := ho198.ext he242
     refine ⟨hs245, ?_⟩
     refine dr_one (i := 4) (by kernel_rfl) ?_
     refine po_eff ha244 rfl rfl rfl rfl (op_append (ts := #[]) (s := shStr) ha244 rfl Try.underlying34 ti9 rfl pos_shStr rfl rfl ho198 (hr187.ext pos_shStr (hx181.trans' hs245)) (by omega) (by omega) (by first | omega | (simp; omega)) (by first | omega | (simp; omega)) (.inl flat_shStr)) ?_
     rintro v247 w248 ⟨ho249, hst250, hob251⟩ a252 ha252; clear ha244 a244
     replace ho249 := ho249.cast (List.nil_append _)
     have hs253 := hs245.stp hst250 (by intro q hq; have hq0 := ho198.lt q hq; omega)
     have hx254 := hx246.stp hst250 (by intro q hq; have hq0 := ho198.lt q hq; omega)
     have hzhx254 := hst250.size
     replace ho241 := ho241.stp hst250 (by intro q hq; have hq0 := ho198.lt q hq; omega)
     have hsp255 : ∀ q, Value.ownBlock v247 = some q → Value.ownBlock v239 ≠ some q := by intro q hq hb; have hq0 := ho241.lt q hb; rcases hob251 with h | h; (rw [h] at hq; first | (have hq1 := ho198.lt q hq; omega)); (rw [h] at hq; cases hq; omega)
     refine ⟨hs253, ?_⟩
     refine dr_one (i := 7) (by kernel_rfl) ?_
     refine po_eff ha252 rfl rfl rfl rfl (op_append (ts := #[]) (s := shStr) ha252 rfl Try.underlying34 ti9 rfl pos_shStr rfl rfl ho249 (ho241.rds pos_shStr) (by omega) (by omega) (by first | omega | (simp; omega)) (by first | omega | (simp; omega)) (.inl flat_shStr)) ?_
     rintro v256 w257 ⟨ho258, hst259, hob260⟩ a261 ha261; clear ha252 a252
     have hs262 := hs253.stp hst259 (by intro q hq; have hq0 := ho249.lt q hq; omega)
     have hx263 := hx254.stp hst259 (by intro q hq; have hq0 := ho249.lt q hq; omega)
     have hzhx263 := hst259.size
     first | replace ho241 := ho241.stp hst259 (by intro q hq; have hq0 := ho249.lt q hq; omega) | replace ho241 := ho241.stpF flat_shStr hst259 (fun q hq => hsp255 q hq)
     have hsp264 : ∀ q, Value.ownBlock v256 = some q → Value.ownBlock v239 ≠ some q := by intro q hq hb; have hq0 := ho241.lt q hb; rcases hob260 with h | h; (rw [h] at hq; first | (have hq1 := ho249.lt q hq; omega) | exact hsp255 q hq hb); (rw [h] at hq; cases hq; omega)
     refine ⟨hs262, ?_⟩
     refine dr_one (i := 11) (by kernel_rfl) ?_
     refine po_eff ha261 rfl rfl rfl rfl (op_append (ts := #[]) (s := shStr) ha261 rfl Try.underlying34 ti9 rfl pos_shStr rfl rfl ho258 (hr194.ext pos_shStr (hx181.trans' hs262)) (by omega) (by omega) (by first | omega | (simp; omega)) (by first | omega | (simp; omega)) (.inl flat_shStr)) ?_
     rintro v265 w266 ⟨ho267, hst268, hob269⟩ a270 ha270; clear ha261 a261
     have hs271 := hs262.stp hst268 (by intro q hq; have hq0 := ho258.lt q hq; omega)
     have hx272 := hx263.stp hst268 (by intro q hq; have hq0 := ho258.lt q hq; omega)
     have hzhx272 := hst268.size
     first | replace ho241 := ho241.stp hst268 (by intro q hq; have hq0 := ho258.lt q hq; omega) | replace ho241 := ho241.stpF flat_shStr hst268 (fun q hq => hsp264 q hq)
     have hsp273 : ∀ q, Value.ownBlock v265 = some q → Value.ownBlock v239 ≠ some q := by intro q hq hb; have hq0 := ho241.lt q hb; rcases hob269 with h | h; (rw [h] at hq; first | (have hq1 := ho258.lt q hq; omega) | exact hsp264 q hq hb); (rw [h] at hq; cases hq; omega)
     refine ⟨hs271, ?_⟩
     refine dr_val (i := 12) ha270 rfl (by kernel_rfl) (by kernel_rfl) (by kernel_rfl) rfl rfl rfl hs271 (fun w' hw' => op_assign ha270 rfl rfl) ?_
     intro a274 ha274; clear ha270 a270
     refine dr_end (by kernel_rfl) ?_
     refine then_n ?_
     refine wp_ret ?_
     refine ret1 ha274 rfl rfl ?_
     clear ha274 a274
     rw [drop_nil (by omega), liL] at hF
     have hd0 : words.drop k = [] := drop_nil (by omega)
     refine ret_mk hx272 ?_
     refine (ho267.fin (by omega) (by omega) (by omega)).cast ?_
     rw [← hF, hd0]; simp
   ·
    refine po_eff ha195 rfl rfl rfl rfl (op_buildSlice (s := shStr) (xs := [w]) (cs := [St w]) (vs := [(0, St w)]) (S := fun _ => False) (le := w179.heap.size) ha195 rfl pos_shStr Try.underlying34 ti9 rfl rfl (by decide) (by kernel_rfl) (Els.single (mk_shStr w (by first | assumption | omega | (simp; omega)))) (fun _ h => h.elim)) ?_
    rintro v275 w276 ⟨ho277, he278, hob279⟩ a280 ha280; clear ha195 a195
    have hs281 := hs182.trans' he278
    have hx282 := hx181.trans' he278
    have hzhx282 := he278.size
    refine ⟨hs281, ?_⟩
    refine dr_one (i := 0) (by kernel_rfl) ?_
    refine po_eff ha280 rfl rfl rfl rfl (op_buildSlice (s := shStr) (xs := ([] : List Str)) (cs := []) (vs := []) (S := fun _ => False) (le := w276.heap.size) ha280 rfl pos_shStr Try.underlying34 ti9 rfl rfl (by decide) (by kernel_rfl) rfl (fun _ h => h.elim)) ?_
    rintro v283 w284 ⟨ho285, he286, hob287⟩ a288 ha288; clear ha280 a280
    have hs289 := hs281.trans' he286
    have hx290 := hx282.trans' he286
    have hzhx290 := he286.size
    replace ho277 := ho277.ext he286
    refine ⟨hs289, ?_⟩
    refine dr_one (i := 4) (by kernel_rfl) ?_
    refine po_eff ha288 rfl rfl rfl rfl (op_append (ts := #[]) (s := shStr) ha288 rfl Try.underlying34 ti9 rfl pos_shStr rfl rfl ho285 (hr187.ext pos_shStr (hx181.trans' hs289)) (by omega) (by omega) (by first | omega | (simp; omega)) (by first | omega | (simp; omega)) (.inl flat_shStr)) ?_
    rintro v291 w292 ⟨ho293, hst294, hob295⟩ a296 ha296; clear ha288 a288
    replace ho293 := ho293.cast (List.nil_append _)
    have hs297 := hs289.stp hst294 (by intro q hq; have hq0 := ho285.lt q hq; omega)
    have hx298 := hx290.stp hst294 (by intro q hq; have hq0 := ho285.lt q hq; omega)
    have hzhx298 := hst294.size
    replace ho277 := ho277.stp hst294 (by intro q hq; have hq0 := ho285.lt q hq; omega)
    have hsp299 : ∀ q, Value.ownBlock v291 = some q → Value.ownBlock v275 ≠ some q := by intro q hq hb; have hq0 := ho277.lt q hb; rcases hob295 with h | h; (rw [h] at hq; first | (have hq1 := ho285.lt q hq; omega)); (rw [h] at hq; cases hq; omega)
    refine ⟨hs297, ?_⟩
    refine dr_one (i := 7) (by kernel_rfl) ?_
    refine po_eff ha296 rfl rfl rfl rfl (op_append (ts := #[]) (s := shStr) ha296 rfl Try.underlying34 ti9 rfl pos_shStr rfl rfl ho293 (ho277.rds pos_shStr) (by omega) (by omega) (by first | omega | (simp; omega)) (by first | omega | (simp; omega)) (.inl flat_shStr)) ?_
    rintro v300 w301 ⟨ho302, hst303, hob304⟩ a305 ha305; clear ha296 a296
    have hs306 := hs297.stp hst303 (by intro q hq; have hq0 := ho293.lt q hq; omega)
    have hx307 := hx298.stp hst303 (by intro q hq; have hq0 := ho293.lt q hq; omega)
    have hzhx307 := hst303.size
    replace ho277 := ho277.stp hst303 (by intro q hq; have hq0 := ho293.lt q hq; omega)
    have hsp308 : ∀ q, Value.ownBlock v300 = some q → Value.ownBlock v275 ≠ some q := by intro q hq hb; have hq0 := ho277.lt q hb; rcases hob304 with h | h; (rw [h] at hq; first | (have hq1 := ho293.lt q hq; omega) | exact hsp299 q hq hb); (rw [h] at hq; cases hq; omega)
    refine ⟨hs306, ?_⟩
    refine dr_one (i := 11) (by kernel_rfl) ?_
    refine po_eff ha305 rfl rfl rfl rfl (op_append (ts := #[]) (s := shStr) ha305 rfl Try.underlying34 ti9 rfl pos_shStr rfl rfl ho302 (hr194.ext pos_shStr (hx181.trans' hs306)) (by omega) (by omega) (by first | omega | (simp; omega)) (by first | omega | (simp; omega)) (.inl flat_shStr)) ?_
    rintro v309 w310 ⟨ho311, hst312, hob313⟩ a314 ha314; clear ha305 a305
    have hs315 := hs306.stp hst312 (by intro q hq; have hq0 := ho302.lt q hq; omega)
    have hx316 := hx307.stp hst312 (by intro q hq; have hq0 := ho302.lt q hq; omega)
    have hzhx316 := hst312.size
    replace ho277 := ho277.stp hst312 (by intro q hq; have hq0 := ho302.lt q hq; omega)
    have hsp317 : ∀ q, Value.ownBlock v309 = some q → Value.ownBlock v275 ≠ some q := by intro q hq hb; have hq0 := ho277.lt q hb; rcases hob313 with h | h; (rw [h] at hq; first | (have hq1 := ho302.lt q hq; omega) | exact hsp308 q hq hb); (rw [h] at hq; cases hq; omega)
    refine ⟨hs315, ?_⟩
    refine dr_val (i := 12) ha314 rfl (by kernel_rfl) (by kernel_rfl) (by kernel_rfl) rfl rfl rfl hs315 (fun w' hw' => op_assign ha314 rfl rfl) ?_
    intro a318 ha318; clear ha314 a314
    refine dr_end (by kernel_rfl) ?_
    refine then_n ?_
    refine wp_ret ?_
    refine ret1 ha318 rfl rfl ?_
    clear ha318 a318
    rw [drop_nil (by omega), liL] at hF
    have hd0 : words.drop k = [] := drop_nil (by omega)
    refine ret_mk hx316 ?_
    refine (ho311.fin (by omega) (by omega) (by omega)).cast ?_
    rw [← hF, hd0]; simp


end Go.Proofs.Ythbkedflhmeohaa
