/- What is missing. -/
import Derived.Test.YtkdnclpgijkceaaS1
import Derived.Test.YtkdnclpgijkceaaW4
namespace Go.Proofs.Ytkdnclpgijkceaa
open Go Go.RowKit

def missP (xs : List (Int × Str)) (n : Nat) : Bool := xs.all fun r => !decide (r.1 = (n : Int))
def missU (xs : List (Int × Str)) (n : Nat) : List Int := (((List.range n).filter (missP xs)).map fun (k : Nat) => (k : Int)).take 30
def lastN (xs : List (Int × Str)) : Nat := match xs[xs.length - 1]? with
  | none => 0
  | some r => r.1.toNat
theorem lastN_eq {xs : List (Int × Str)} {r : Int × Str} (h : xs[xs.length - 1]? = some r) : lastN xs = r.1.toNat := by unfold lastN; rw [h]
theorem lastN_nil {xs : List (Int × Str)} (h : xs.length = 0) : lastN xs = 0 := by unfold lastN; rw [List.getElem?_eq_none (by omega)]
theorem missU_zero (xs : List (Int × Str)) : missU xs 0 = [] := by simp [missU]
theorem missU_len (xs : List (Int × Str)) (n : Nat) : (missU xs n).length ≤ 30 := by unfold missU; rw [List.length_take]; omega
theorem missU_skip {xs : List (Int × Str)} {n : Nat} (h : missP xs n = false) : missU xs (n + 1) = missU xs n := by
  unfold missU; rw [List.range_succ, List.filter_append]; simp [h]
theorem missU_add {xs : List (Int × Str)} {n : Nat} (h : missP xs n = true) (hl : (missU xs n).length < 30) : missU xs (n + 1) = missU xs n ++ [(n : Int)] := by
  unfold missU at hl ⊢
  rw [List.length_take] at hl
  rw [List.range_succ, List.filter_append, List.map_append]
  simp only [h, List.filter_cons_of_pos, List.filter_nil, List.map_cons, List.map_nil]
  rw [List.take_of_length_le (by rw [List.length_append, List.length_singleton]; omega), List.take_of_length_le (by omega)]
theorem missU_full1 {xs : List (Int × Str)} {n : Nat} (h : ¬ (missU xs n).length < 30) : missU xs (n + 1) = missU xs n := by
  unfold missU at h ⊢
  rw [List.length_take] at h
  rw [List.range_succ, List.filter_append, List.map_append, List.take_append_of_le_length (by omega)]
theorem missU_full {xs : List (Int × Str)} {n : Nat} (h : ¬ (missU xs n).length < 30) : ∀ k, missU xs (n + k) = missU xs n
  | 0 => rfl
  | k + 1 => by
    have := missU_full h k
    rw [← Nat.add_assoc, missU_full1 (by rw [this]; exact h), this]
theorem missP_in {xs : List (Int × Str)} {r : Int × Str} (h : r ∈ xs) (h0 : 0 ≤ r.1) : missP xs r.1.toNat = false := by
  unfold missP; rw [Bool.eq_false_iff]; intro q
  have := List.all_eq_true.1 q r h
  simp at this; omega
theorem rise_pair : ∀ (xs : List (Int × Str)) (p : Option Int), riseB p xs = true → ∀ (j k : Nat) (y z : Int × Str), j < k → xs[j]? = some y → xs[k]? = some z → y.1 < z.1
  | [], _, _, j, k, y, z, _, hy, _ => by simp at hy
  | x :: xs, p, h, j, k, y, z, hjk, hy, hz => by
    simp only [riseB, Bool.and_eq_true] at h
    cases k with
    | zero => omega
    | succ k =>
      rw [List.getElem?_cons_succ] at hz
      cases j with
      | zero => simp at hy; subst hy; exact rise_gt xs _ h.2 z (List.mem_of_getElem? hz)
      | succ j => rw [List.getElem?_cons_succ] at hy; exact rise_pair xs _ h.2 j k y z (by omega) hy hz
theorem are_pair {xs : List (Int × Str)} (h : areB xs = true) {j k : Nat} {y z : Int × Str} (hjk : j < k) (hy : xs[j]? = some y) (hz : xs[k]? = some z) : y.1 < z.1 := by
  unfold areB at h; simp only [Bool.and_eq_true] at h; exact rise_pair _ _ h.2 j k y z hjk hy hz
/-- Between two neighbours there is none. -/
theorem missP_gap {xs : List (Int × Str)} {i q : Nat} {r : Int × Str} (h : areB xs = true) (hr : xs[i]? = some r) (hq : (q : Int) < r.1) (hlo : ∀ j y, j < i → xs[j]? = some y → y.1 < (q : Int)) : missP xs q = true := by
  unfold missP; rw [List.all_eq_true]
  intro y hy
  obtain ⟨j, hj⟩ := List.getElem?_of_mem hy
  have : y.1 ≠ (q : Int) := by
    rcases Nat.lt_trichotomy j i with hji | hji | hji
    · have := hlo j y hji hj; omega
    · subst hji; rw [hr] at hj; cases hj; omega
    · have := are_pair h hji hr hj; omega
  simp [this]
theorem ms_lo {xs : List (Int × Str)} {i : Nat} {r : Int × Str} (h : areB xs = true) (hr : xs[i]? = some r) (h0 : 0 ≤ r.1) : ∀ j y, j < i + 1 → xs[j]? = some y → y.1 < ((r.1.toNat + 1 : Nat) : Int) := by
  intro j y hj hy
  rcases Nat.lt_or_ge j i with hji | hji
  · have := are_pair h hji hy hr; omega
  · have : j = i := by omega
    subst this; rw [hr] at hy; cases hy; omega
theorem ms_nx {xs : List (Int × Str)} {i : Nat} {r : Int × Str} (h : areB xs = true) (hr : xs[i]? = some r) (h0 : 0 ≤ r.1) : ∀ j y, j = i + 1 → xs[j]? = some y → ((r.1.toNat + 1 : Nat) : Int) ≤ y.1 := by
  intro j y hj hy
  subst hj
  have := are_pair h (Nat.lt_succ_self i) hr hy; omega
theorem ms_end {xs : List (Int × Str)} {i : Nat} {r : Int × Str} (hr : xs[i]? = some r) (hi : xs.length ≤ i + 1) (h0 : 0 ≤ r.1) : missU xs (r.1.toNat + 1) = missU xs (lastN xs) := by
  have hlt : i < xs.length := (List.getElem?_eq_some_iff.1 hr).1
  have e : xs.length - 1 = i := by omega
  rw [lastN_eq (r := r) (by rw [e]; exact hr), missU_skip (missP_in (List.mem_of_getElem? hr) h0)]
def fdGo : List (Int × Str) → Int → Int → Int
  | [], _, _ => -1
  | r :: rs, n, k => if r.1 = n then k else fdGo rs n (k + 1)
def fdI (xs : List (Int × Str)) (n : Int) : Int := fdGo xs n 0
theorem fdGo_lt : ∀ (xs : List (Int × Str)) (n k : Int), 0 ≤ k → (fdGo xs n k < 0 ↔ ∀ r ∈ xs, r.1 ≠ n)
  | [], n, k, _ => by simp [fdGo]
  | r :: rs, n, k, h => by
    rw [fdGo]; split
    · rename_i e; constructor
      · intro q; omega
      · intro q; exact absurd e (q r (by simp))
    · rename_i e; rw [fdGo_lt rs n (k + 1) (by omega)]; simp [e]
theorem fdI_miss (xs : List (Int × Str)) (n : Nat) : (fdI xs n < 0) ↔ missP xs n = true := by
  unfold fdI missP; rw [fdGo_lt xs n 0 (by omega)]; simp

theorem c_spec_l32Find (w0 : World) (v_list : Value) (list : List (Int × Str)) {S_list : Nat → Prop} (n : Int) (h_list : Rds shRec S_list w0 v_list list) :
  Calls Try.prog 57 #[v_list, .int .i64 n] w0 (Ret w0 (fun v _ => v = .int .i64 (fdI list n))) := by
 refine enter (N := 20) Try.func57 rfl rfl rfl ?_
 intro a0 ha0
 have hx0 := Ext.rfl' w0
 have hl_list := h_list.length_le
 refine wp_seq ?_
 refine wp_region_lit ?_
 refine wl_val ha0 rfl rfl rfl (op_assign ha0 rfl rfl) ?_
 intro a1 ha1; clear ha0 a0
 refine wpList_nil ?_
 refine then_n ?_
 refine wp_seq ?_
 refine wp_seq ?_
 refine wp_region_lit ?_
 refine wl_val ha1 rfl rfl rfl (op_assign ha1 rfl rfl) ?_
 intro a2 ha2; clear ha1 a1
 refine wpList_nil ?_
 refine then_n ?_
 refine wp_block ?_
 refine loop_inv (X := Nat) (fun (i : Nat) fr wl => Sl 20 fr [(0, v_list), (1, .int .i64 n), (5, .int .i64 ((i : Nat) : Int))] ∧ Ext w0 wl ∧ w0.heap.size ≤ wl.heap.size ∧ (i ≤ list.length) ∧ (fdGo (list.drop i) n i = fdI list n)) (fun (i : Nat) => list.length - i) (0) ?_ ?_
 ·
  exact ⟨(Sl.cons_ ha2 rfl rfl (Sl.cons_ ha2 rfl rfl (Sl.cons_ ha2 rfl (int_eq (by omega)) (Sl.nil_ ha2)))), hx0, (by omega), (by omega), (by rfl)⟩
 ·
  clear ha2 a2
  rintro i a5 w3 ⟨ha5, hx4, hzl6, hi, hF⟩
  have hzhx4 := hx4.size
  refine wp_seq ?_
  refine wp_seq ?_
  refine wp_region_lit ?_
  refine wl_val ha5 rfl rfl rfl (op_move ha5 rfl rfl) ?_
  intro a7 ha7; clear ha5 a5
  refine wl_val ha7 rfl rfl rfl (op_move ha7 rfl rfl) ?_
  intro a8 ha8; clear ha7 a7
  refine wl_val ha8 rfl rfl rfl (op_len_sl ha8 rfl Try.underlying25 rfl h_list) ?_
  intro a9 ha9; clear ha8 a8
  refine wl_val ha9 rfl rfl rfl (op_lss ha9 rfl rfl rfl) ?_
  intro a10 ha10; clear ha9 a9
  refine wpList_nil ?_
  refine then_n ?_
  by_cases c11 : ((i : Nat) : Int) < ((list.length : Nat) : Int)
  ·
   rw [decide_eq_true c11] at ha10
   refine cond_t ha10 rfl ?_
   refine wp_skip ?_
   refine then_n ?_
   refine wp_seq ?_
   refine wp_block ?_
   refine wp_seq ?_
   refine wp_region_lit ?_
   refine wl_val ha10 rfl rfl rfl (op_move ha10 rfl rfl) ?_
   intro a12 ha12; clear ha10 a10
   refine wl_val ha12 rfl rfl rfl (op_move ha12 rfl rfl) ?_
   intro a13 ha13; clear ha12 a12
   obtain ⟨x14, hx14⟩ := get_ex (xs := list) (j := i) (by omega)
   obtain ⟨p15, c16, hi17, hc18, hr19, hs20⟩ := Rds.at_ h_list hx14
   obtain ⟨rfl, b21, b22⟩ := inv_shRec hr19
   refine wl_val ha13 rfl rfl rfl (op_indexAddr ha13 rfl Try.underlying25 ti36 rfl rfl (by omega) hi17) ?_
   intro a23 ha23; clear ha13 a13
   refine wl_val ha23 rfl rfl rfl (op_fieldAddr (sz := 0) ha23 rfl Try.underlying36 rfl rfl ti2 rfl) ?_
   intro a24 ha24; clear ha23 a23
   refine wl_val ha24 rfl rfl rfl (op_loadF (off := 0) ha24 rfl Try.underlying2 rfl rfl (hc18.ext hx4) rfl) ?_
   intro a25 ha25; clear ha24 a24
   refine wl_val ha25 rfl rfl rfl (op_move ha25 rfl rfl) ?_
   intro a26 ha26; clear ha25 a25
   refine wl_val ha26 rfl rfl rfl (op_eql ha26 rfl rfl rfl) ?_
   intro a27 ha27; clear ha26 a26
   refine wpList_nil ?_
   refine then_n ?_
   by_cases c28 : x14.1 = n
   ·
    rw [decide_eq_true c28] at ha27
    refine cond_t ha27 rfl ?_
    refine wp_seq ?_
    refine wp_region_lit ?_
    refine wl_val ha27 rfl rfl rfl (op_move ha27 rfl rfl) ?_
    intro a29 ha29; clear ha27 a27
    refine wl_val ha29 rfl rfl rfl (op_assign ha29 rfl rfl) ?_
    intro a30 ha30; clear ha29 a29
    refine wpList_nil ?_
    refine then_n ?_
    refine wp_ret ?_
    refine block_r ?_
    refine then_r ?_
    refine then_r ?_
    refine block_r ?_
    refine then_r ?_
    refine ret1 ha30 rfl rfl ?_
    clear ha30 a30
    rw [drop_cons hx14, fdGo, if_pos (by omega)] at hF
    exact ret_mk hx4 (int_eq (by exact hF))
   ·
    rw [decide_eq_false c28] at ha27
    refine cond_f ha27 rfl ?_
    refine wp_skip ?_
    refine block_n ?_
    refine then_n ?_
    refine wp_region_lit ?_
    refine wl_val ha27 rfl rfl rfl (op_move ha27 rfl rfl) ?_
    intro a31 ha31; clear ha27 a27
    refine wl_val ha31 rfl rfl rfl ((op_add ha31 rfl rfl rfl).int (IntWalk.i64_in _ (by omega))) ?_
    intro a32 ha32; clear ha31 a31
    refine wl_val ha32 rfl rfl rfl (op_assign ha32 rfl rfl) ?_
    intro a33 ha33; clear ha32 a32
    refine wpList_nil ?_
    refine round_end (x := i) ((i + 1)) ?_ ?_
    ·
     refine ⟨(Sl.cons_ ha33 rfl rfl (Sl.cons_ ha33 rfl rfl (Sl.cons_ ha33 rfl (int_eq (by omega)) (Sl.nil_ ha33)))), hx4, (by omega), (by omega), (by rw [drop_cons hx14, fdGo, if_neg (by omega)] at hF; exact hF)⟩
    ·show (list.length - ((i + 1)) : Nat) < list.length - i; omega
  ·
   rw [decide_eq_false c11] at ha10
   refine cond_f ha10 rfl ?_
   refine wp_exit ?_
   refine then_e ?_
   refine then_e ?_
   refine block_hit ?_
   refine then_n ?_
   refine wp_seq ?_
   refine wp_region_lit ?_
   refine wl_val ha10 rfl rfl rfl (op_assign ha10 rfl rfl) ?_
   intro a34 ha34; clear ha10 a10
   refine wpList_nil ?_
   refine then_n ?_
   refine wp_ret ?_
   refine ret1 ha34 rfl rfl ?_
   clear ha34 a34
   rw [drop_nil (by omega), fdGo] at hF
   exact ret_mk hx4 (int_eq (by exact hF))

theorem c_impl_MissingNumbers (w0 : World) (s : Str) (g0 : s.length ≤ 1048576) :
  Calls Try.prog 33 #[St s] w0 (Ret w0 (fun v w1 => Own shI64 2 w0.heap.size w0.heap.size w1.heap.size w1 v (missU (salS s).1 (lastN (salS s).1)))) := by
 refine enter (N := 40) Try.func33 rfl rfl rfl ?_
 intro a0 ha0
 have hx0 := Ext.rfl' w0
 have hsl := areB_len (salS_are s)
 refine wp_seq ?_
 refine wp_region_lit ?_
 refine wl_val ha0 rfl rfl rfl (op_assign ha0 rfl rfl) ?_
 intro a1 ha1; clear ha0 a0
 refine wpList_nil ?_
 refine then_n ?_
 refine wp_seq ?_
 refine wp_region_lit ?_
 refine wl_val ha1 rfl rfl rfl (op_move ha1 rfl rfl) ?_
 intro a2 ha2; clear ha1 a1
 refine wl_callR ha2 rfl rfl rfl (op_call ha2 rfl cb56 rfl) (c_impl_salvage _ s (by first | assumption | omega | (simp; omega) | (simp [mkN_length]; omega))) ?_
 rintro v3 w4 he5 ⟨v6, rfl, ho7⟩ a8 ha8; clear ha2 a2
 have hx9 := hx0.trans' he5
 have hzhx9 := he5.size
 refine wl_val ha8 rfl rfl rfl (op_move ha8 rfl rfl) ?_
 intro a10 ha10; clear ha8 a8
 refine wl_val ha10 rfl rfl rfl (op_extract ha10 rfl rfl rfl) ?_
 intro a11 ha11; clear ha10 a10
 refine wl_val ha11 rfl rfl rfl (op_extract ha11 rfl rfl rfl) ?_
 intro a12 ha12; clear ha11 a11
 refine wl_val ha12 rfl rfl rfl (op_extract ha12 rfl rfl rfl) ?_
 intro a13 ha13; clear ha12 a12
 refine wl_val ha13 rfl rfl rfl (op_assign ha13 rfl rfl) ?_
 intro a14 ha14; clear ha13 a13
 refine wl_val ha14 rfl rfl rfl (op_assign ha14 rfl rfl) ?_
 intro a15 ha15; clear ha14 a14
 refine wl_val ha15 rfl rfl rfl (op_assign ha15 rfl rfl) ?_
 intro a16 ha16; clear ha15 a15
 refine wpList_nil ?_
 refine then_n ?_
 refine wp_seq ?_
 refine wp_region_lit ?_
 refine wl_val ha16 rfl rfl rfl (op_assign ha16 rfl rfl) ?_
 intro a17 ha17; clear ha16 a16
 refine wpList_nil ?_
 refine then_n ?_
 refine wp_seq ?_
 refine wp_region_lit ?_
 refine wl_val ha17 rfl rfl rfl (op_assign ha17 rfl rfl) ?_
 intro a18 ha18; clear ha17 a17
 refine wpList_nil ?_
 refine then_n ?_
 refine wp_seq ?_
 refine wp_seq ?_
 refine wp_region_lit ?_
 refine wl_val ha18 rfl rfl rfl (op_move ha18 rfl rfl) ?_
 intro a19 ha19; clear ha18 a18
 refine wl_val ha19 rfl rfl rfl (op_len_sl ha19 rfl Try.underlying25 rfl (ho7.rds pos_shRec)) ?_
 intro a20 ha20; clear ha19 a19
 refine wl_val ha20 rfl rfl rfl (op_move ha20 rfl rfl) ?_
 intro a21 ha21; clear ha20 a20
 refine wpList_nil ?_
 refine then_n ?_
 refine wp_block ?_
 refine loop_inv (X := Nat × Nat × Value × (List Int)) (fun (⟨i, q, v, acc⟩ : Nat × Nat × Value × (List Int)) fr wl => Sl 40 fr [(6, v), (7, .int .i64 ((q : Nat) : Int)), (16, v6), (17, .int .i64 (((((salS s).1)).length : Nat) : Int)), (18, .int .i64 ((i : Nat) : Int))] ∧ Ext w0 wl ∧ Own shRec 36 w0.heap.size w0.heap.size w4.heap.size wl v6 (((salS s).1)) ∧ Own shI64 2 w4.heap.size w4.heap.size wl.heap.size wl v acc ∧ w4.heap.size ≤ wl.heap.size ∧ (i ≤ (salS s).1.length) ∧ (acc.length ≤ 30) ∧ (∀ j y, j < i → (salS s).1[j]? = some y → y.1 < (q : Int)) ∧ (∀ j y, j = i → (salS s).1[j]? = some y → (q : Int) ≤ y.1) ∧ ((salS s).1.length ≤ i → missU (salS s).1 q = missU (salS s).1 (lastN (salS s).1)) ∧ (acc = missU (salS s).1 q)) (fun (⟨i, q, v, acc⟩ : Nat × Nat × Value × (List Int)) => (salS s).1.length - i) (0, 0, (.slice none 0 0), []) ?_ ?_
 ·
  exact ⟨(Sl.cons_ ha21 rfl rfl (Sl.cons_ ha21 rfl (int_eq (by omega)) (Sl.cons_ ha21 rfl rfl (Sl.cons_ ha21 rfl rfl (Sl.cons_ ha21 rfl (int_eq (by omega)) (Sl.nil_ ha21)))))), hx9, ho7, (Own.nil _ _ _ _ _ _), (by omega), (by omega), (by simp), (by intro j y hj; omega), (by intro j y hj hy; have := recB_bd (areB_all (salS_are s) _ (List.mem_of_getElem? hy)); omega), (by intro hj; rw [lastN_nil (by omega)]), (by rw [missU_zero])⟩
 ·
  clear ha21 a21
  rintro ⟨i, q, v, acc⟩ a26 w22 ⟨ha26, hx23, hf25, hf24, hzl27, hi, hl, hlo, hnx, hend, hF⟩
  have hzhx23 := hx23.size
  refine wp_seq ?_
  refine wp_region_lit ?_
  refine wl_val ha26 rfl rfl rfl (op_lss ha26 rfl rfl rfl) ?_
  intro a28 ha28; clear ha26 a26
  refine wpList_nil ?_
  refine then_n ?_
  refine wp_seq ?_
  by_cases c29 : ((i : Nat) : Int) < (((((salS s).1)).length : Nat) : Int)
  ·
   rw [decide_eq_true c29] at ha28
   refine cond_t ha28 rfl ?_
   refine wp_skip ?_
   refine then_n ?_
   refine wp_seq ?_
   refine wp_block ?_
   refine wp_seq ?_
   refine wp_region_lit ?_
   obtain ⟨x30, hx30⟩ := get_ex (xs := ((salS s).1)) (j := i) (by omega)
   obtain ⟨p31, c32, hi33, hc34, hr35, hs36⟩ := Rds.at_ (hf25.rds pos_shRec) hx30
   obtain ⟨rfl, b37, b38⟩ := inv_shRec hr35
   obtain ⟨_, _⟩ : _ ∧ _ := hs36
   have hrbx30 := recB_bd (areB_all (salS_are s) _ (List.mem_of_getElem? hx30))
   refine wl_val ha28 rfl rfl rfl (op_indexAddr ha28 rfl Try.underlying25 ti36 rfl rfl (by omega) hi33) ?_
   intro a39 ha39; clear ha28 a28
   refine wl_val ha39 rfl rfl rfl (op_loadS ha39 rfl Try.underlying36 ti36 rfl rfl hc34) ?_
   intro a40 ha40; clear ha39 a39
   refine wl_eff ha40 rfl rfl rfl (op_alloc' rfl ti36 rfl) ?_
   rintro _ w42 ⟨rfl, he43, hb44, hz45⟩ a46 ha46; clear ha40 a40
   have hx47 := hx23.trans' he43
   have hzhx47 := he43.size
   replace hf25 := hf25.ext he43
   replace hf24 := hf24.ext he43
   replace hc34 := hc34.ext he43
   refine wl_effS ha46 rfl rfl (op_storeAll' ha46 rfl ti36 rfl rfl hb44 rfl rfl (by simp [Value.oneCell']) rfl) ?_
   rintro w48 ⟨hb50, hst49, hz51⟩
   have hx52 := hx47.stp hst49 (by intro q hq; cases hq; exact (by omega))
   have hzhx52 := hst49.size
   replace hf25 := hf25.stp hst49 (by intro q hq; cases hq; omega)
   replace hf24 := hf24.stp hst49 (by intro q hq; cases hq; omega)
   replace hc34 := hc34.stp hst49 (by intro q hq; cases hq; omega)
   clear hb44
   refine wpList_nil ?_
   refine then_n ?_
   refine wp_seq ?_
   refine wp_block ?_
   refine loop_inv (X := Nat × Value × (List Int)) (fun (⟨q2, v2, acc2⟩ : Nat × Value × (List Int)) fr wl => Sl 40 fr [(6, v2), (7, .int .i64 ((q2 : Nat) : Int)), (9, .pointer (some (⟨w22.heap.size, 0, none⟩ : Addr))), (16, v6), (17, .int .i64 (((((salS s).1)).length : Nat) : Int)), (18, .int .i64 ((i : Nat) : Int))] ∧ Ext w0 wl ∧ Box wl w22.heap.size 36 [.int .i64 x30.1, St x30.2] ∧ Own shRec 36 w0.heap.size w0.heap.size w4.heap.size wl v6 (((salS s).1)) ∧ Own shI64 2 w4.heap.size w4.heap.size wl.heap.size wl v2 acc2 ∧ w48.heap.size ≤ wl.heap.size ∧ (q ≤ q2) ∧ ((q2 : Int) ≤ x30.1) ∧ (acc2.length ≤ 30) ∧ (acc2 = missU (salS s).1 q2)) (fun (⟨q2, v2, acc2⟩ : Nat × Value × (List Int)) => x30.1.toNat - q2) (q, v, acc) ?_ ?_
   ·
    exact ⟨(Sl.cons_ ha46 rfl rfl (Sl.cons_ ha46 rfl (int_eq (by omega)) (Sl.cons_ ha46 rfl rfl (Sl.cons_ ha46 rfl rfl (Sl.cons_ ha46 rfl rfl (Sl.cons_ ha46 rfl rfl (Sl.nil_ ha46))))))), hx52, hb50, hf25, (hf24.fin (by omega) (by omega) (by omega)), (by omega), (by omega), (by have := hnx _ _ rfl hx30; omega), (by omega), (by exact hF)⟩
   ·
    clear ha46 a46
    rintro ⟨q2, v2, acc2⟩ a58 w53 ⟨ha58, hx54, hf56, hf57, hf55, hzl59, hq2, hq3, hl2, hF2⟩
    have hzhx54 := hx54.size
    refine wp_seq ?_
    refine wp_seq ?_
    refine wp_region_lit ?_
    refine wl_val ha58 rfl rfl rfl (op_move ha58 rfl rfl) ?_
    intro a60 ha60; clear ha58 a58
    refine wl_val ha60 rfl rfl rfl (op_fieldAddr (sz := 0) ha60 rfl Try.underlying36 rfl rfl ti2 rfl) ?_
    intro a61 ha61; clear ha60 a60
    refine wl_val ha61 rfl rfl rfl (op_loadF (off := 0) ha61 rfl Try.underlying2 rfl rfl hf56.cells rfl) ?_
    intro a62 ha62; clear ha61 a61
    refine wl_val ha62 rfl rfl rfl (op_lss ha62 rfl rfl rfl) ?_
    intro a63 ha63; clear ha62 a62
    refine wpList_nil ?_
    refine then_n ?_
    by_cases c64 : ((q2 : Nat) : Int) < x30.1
    ·
     rw [decide_eq_true c64] at ha63
     refine cond_t ha63 rfl ?_
     refine wp_skip ?_
     refine then_n ?_
     refine wp_seq ?_
     refine wp_block ?_
     refine wp_seq ?_
     refine wp_region_lit ?_
     refine wl_val ha63 rfl rfl rfl (op_move ha63 rfl rfl) ?_
     intro a65 ha65; clear ha63 a63
     refine wl_val ha65 rfl rfl rfl (op_len_sl ha65 rfl Try.underlying44 rfl (hf55.rds pos_shI64)) ?_
     intro a66 ha66; clear ha65 a65
     refine wl_val ha66 rfl rfl rfl (op_lss ha66 rfl rfl rfl) ?_
     intro a67 ha67; clear ha66 a66
     refine wpList_nil ?_
     refine then_n ?_
     by_cases c68 : ((acc2.length : Nat) : Int) < (30 : Int)
     ·
      rw [decide_eq_true c68] at ha67
      refine cond_t ha67 rfl ?_
      refine wp_region_lit ?_
      refine wl_val ha67 rfl rfl rfl (op_move ha67 rfl rfl) ?_
      intro a69 ha69; clear ha67 a67
      refine wl_val ha69 rfl rfl rfl (op_move ha69 rfl rfl) ?_
      intro a70 ha70; clear ha69 a69
      refine wl_eff ha70 rfl rfl rfl (op_buildSlice (s := shI64) (xs := [((q2 : Nat) : Int)]) (cs := [.int .i64 ((q2 : Nat) : Int)]) (vs := [(0, .int .i64 ((q2 : Nat) : Int))]) (S := fun _ => False) (le := w53.heap.size) ha70 rfl pos_shI64 Try.underlying44 ti2 rfl rfl (by decide) (by kernel_rfl) (Els.single (mk_shI64 (((q2 : Nat) : Int)) (by first | assumption | omega | exact ⟨by omega, by omega⟩))) (fun _ h => h.elim)) ?_
      rintro v71 w72 ⟨ho73, he74, hob75⟩ a76 ha76; clear ha70 a70
      have hx77 := hx54.trans' he74
      have hzhx77 := he74.size
      replace hf56 := hf56.ext he74
      replace hf57 := hf57.ext he74
      replace hf55 := hf55.ext he74
      refine wl_eff ha76 rfl rfl rfl (op_append (ts := #[]) (s := shI64) ha76 rfl Try.underlying44 ti2 rfl pos_shI64 rfl rfl hf55 (ho73.rds pos_shI64) (by omega) (by omega) (by first | omega | (simp; omega)) (by first | omega | (simp; omega)) (.inl flat_shI64)) ?_
      rintro v78 w79 ⟨ho80, hst81, hob82⟩ a83 ha83; clear ha76 a76
      have hx84 := hx77.stp hst81 (by intro q hq; have hq0 := hf55.lt q hq; omega)
      have hzhx84 := hst81.size
      first | replace hf56 := hf56.stp hst81 (by intro q hq; have hq0 := hf55.lt q hq; omega) | replace hf56 := hf56.stp hst81 (by intro q hq e; subst e; exact hf55.ne_box hf56 rfl hq)
      replace hf57 := hf57.stp hst81 (by intro q hq; have hq0 := hf55.lt q hq; omega)
      replace ho73 := ho73.stp hst81 (by intro q hq; have hq0 := hf55.lt q hq; omega)
      have hsp85 : ∀ q, Value.ownBlock v78 = some q → Value.ownBlock v71 ≠ some q := by intro q hq hb; have hq0 := ho73.lt q hb; rcases hob82 with h | h; (rw [h] at hq; first | (have hq1 := hf55.lt q hq; omega)); (rw [h] at hq; cases hq; omega)
      refine wl_val ha83 rfl rfl rfl (op_assign ha83 rfl rfl) ?_
      intro a86 ha86; clear ha83 a83
      refine wpList_nil ?_
      refine block_n ?_
      refine then_n ?_
      refine wp_region_lit ?_
      refine wl_val ha86 rfl rfl rfl (op_move ha86 rfl rfl) ?_
      intro a87 ha87; clear ha86 a86
      refine wl_val ha87 rfl rfl rfl ((op_add ha87 rfl rfl rfl).int (IntWalk.i64_in _ (by omega))) ?_
      intro a88 ha88; clear ha87 a87
      refine wl_val ha88 rfl rfl rfl (op_assign ha88 rfl rfl) ?_
      intro a89 ha89; clear ha88 a88
      refine wpList_nil ?_
      refine round_end (x := (q2, v2, acc2)) ((q2 + 1), v78, (acc2 ++ [((q2 : Nat) : Int)])) ?_ ?_
      ·
       refine ⟨(Sl.cons_ ha89 rfl rfl (Sl.cons_ ha89 rfl (int_eq (by omega)) (Sl.cons_ ha89 rfl rfl (Sl.cons_ ha89 rfl rfl (Sl.cons_ ha89 rfl rfl (Sl.cons_ ha89 rfl rfl (Sl.nil_ ha89))))))), hx84, hf56, hf57, (ho80.fin (by omega) (by omega) (by omega)), (by omega), (by omega), (by omega), (by first | omega | (simp; omega)), (by rw [missU_add (missP_gap (salS_are s) hx30 (by omega) (fun j y hj hy => by have := hlo j y hj hy; omega)) (by rw [← hF2]; omega), ← hF2])⟩
      ·show (x30.1.toNat - ((q2 + 1)) : Nat) < x30.1.toNat - q2; omega
     ·
      rw [decide_eq_false c68] at ha67
      refine cond_f ha67 rfl ?_
      refine wp_skip ?_
      refine block_n ?_
      refine then_n ?_
      refine wp_region_lit ?_
      refine wl_val ha67 rfl rfl rfl (op_move ha67 rfl rfl) ?_
      intro a90 ha90; clear ha67 a67
      refine wl_val ha90 rfl rfl rfl ((op_add ha90 rfl rfl rfl).int (IntWalk.i64_in _ (by omega))) ?_
      intro a91 ha91; clear ha90 a90
      refine wl_val ha91 rfl rfl rfl (op_assign ha91 rfl rfl) ?_
      intro a92 ha92; clear ha91 a91
      refine wpList_nil ?_
      refine round_end (x := (q2, v2, acc2)) ((q2 + 1), v2, acc2) ?_ ?_
      ·
       refine ⟨(Sl.cons_ ha92 rfl rfl (Sl.cons_ ha92 rfl (int_eq (by omega)) (Sl.cons_ ha92 rfl rfl (Sl.cons_ ha92 rfl rfl (Sl.cons_ ha92 rfl rfl (Sl.cons_ ha92 rfl rfl (Sl.nil_ ha92))))))), hx54, hf56, hf57, (hf55.fin (by omega) (by omega) (by omega)), (by omega), (by omega), (by omega), (by first | omega | (simp; omega)), (by rw [missU_full1 (by rw [← hF2]; omega), ← hF2])⟩
      ·show (x30.1.toNat - ((q2 + 1)) : Nat) < x30.1.toNat - q2; omega
    ·
     rw [decide_eq_false c64] at ha63
     refine cond_f ha63 rfl ?_
     refine wp_exit ?_
     refine then_e ?_
     refine then_e ?_
     refine block_hit ?_
     refine then_n ?_
     refine wp_region_lit ?_
     refine wl_val ha63 rfl rfl rfl (op_fieldAddr (sz := 0) ha63 rfl Try.underlying36 rfl rfl ti2 rfl) ?_
     intro a93 ha93; clear ha63 a63
     refine wl_val ha93 rfl rfl rfl (op_loadF (off := 0) ha93 rfl Try.underlying2 rfl rfl hf56.cells rfl) ?_
     intro a94 ha94; clear ha93 a93
     refine wl_val ha94 rfl rfl rfl ((op_add ha94 rfl rfl rfl).int (IntWalk.i64_in _ (by omega))) ?_
     intro a95 ha95; clear ha94 a94
     refine wl_val ha95 rfl rfl rfl (op_assign ha95 rfl rfl) ?_
     intro a96 ha96; clear ha95 a95
     refine wpList_nil ?_
     refine block_n ?_
     refine then_n ?_
     refine wp_region_lit ?_
     refine wl_val ha96 rfl rfl rfl ((op_add ha96 rfl rfl rfl).int (IntWalk.i64_in _ (by omega))) ?_
     intro a97 ha97; clear ha96 a96
     refine wl_val ha97 rfl rfl rfl (op_move ha97 rfl rfl) ?_
     intro a98 ha98; clear ha97 a97
     refine wpList_nil ?_
     refine round_end (x := (i, q, v, acc)) ((i + 1), (x30.1.toNat + 1), v2, acc2) ?_ ?_
     ·
      refine ⟨(Sl.cons_ ha98 rfl rfl (Sl.cons_ ha98 rfl (int_eq (by omega)) (Sl.cons_ ha98 rfl rfl (Sl.cons_ ha98 rfl rfl (Sl.cons_ ha98 rfl (int_eq (by omega)) (Sl.nil_ ha98)))))), hx54, hf57, (hf55.fin (by omega) (by omega) (by omega)), (by omega), (by omega), (by omega), (by exact ms_lo (salS_are s) hx30 (by omega)), (by exact ms_nx (salS_are s) hx30 (by omega)), (by intro hj; exact ms_end hx30 (by omega) (by omega)), (by rw [hF2, show q2 = x30.1.toNat by omega, missU_skip (missP_in (List.mem_of_getElem? hx30) (by omega))])⟩
     ·show ((salS s).1.length - ((i + 1)) : Nat) < (salS s).1.length - i; omega
  ·
   rw [decide_eq_false c29] at ha28
   refine cond_f ha28 rfl ?_
   refine wp_exit ?_
   refine then_e ?_
   refine then_e ?_
   refine block_hit ?_
   refine then_n ?_
   refine wp_seq ?_
   refine wp_region_lit ?_
   refine wl_val ha28 rfl rfl rfl (op_move ha28 rfl rfl) ?_
   intro a99 ha99; clear ha28 a28
   refine wl_val ha99 rfl rfl rfl (op_assign ha99 rfl rfl) ?_
   intro a100 ha100; clear ha99 a99
   refine wpList_nil ?_
   refine then_n ?_
   refine wp_ret ?_
   refine ret1 ha100 rfl rfl ?_
   clear ha100 a100
   refine ret_mk hx23 ?_
   refine (hf24.fin (by omega) (by omega) (by omega)).cast ?_
   rw [hF]; exact hend (by omega)

theorem c_spec_MissingNumbers (w0 : World) (s : Str) (g0 : s.length ≤ 1048576) :
  Calls Try.prog 32 #[St s] w0 (Ret w0 (fun v w1 => Own shI64 2 w0.heap.size w0.heap.size w1.heap.size w1 v (missU (salS s).1 (lastN (salS s).1)))) := by
 refine enter (N := 44) Try.func32 rfl rfl rfl ?_
 intro a0 ha0
 have hx0 := Ext.rfl' w0
 have hsl := areB_len (salS_are s)
 refine wp_seq ?_
 refine wp_region_lit ?_
 refine wl_val ha0 rfl rfl rfl (op_assign ha0 rfl rfl) ?_
 intro a1 ha1; clear ha0 a0
 refine wpList_nil ?_
 refine then_n ?_
 refine wp_seq ?_
 refine wp_region_lit ?_
 refine wl_val ha1 rfl rfl rfl (op_move ha1 rfl rfl) ?_
 intro a2 ha2; clear ha1 a1
 refine wl_callR ha2 rfl rfl rfl (op_call ha2 rfl cb55 rfl) (c_spec_l32Salvage _ s (by first | assumption | omega | (simp; omega) | (simp [mkN_length]; omega))) ?_
 rintro v3 w4 he5 ⟨v6, rfl, ho7⟩ a8 ha8; clear ha2 a2
 have hx9 := hx0.trans' he5
 have hzhx9 := he5.size
 refine wl_val ha8 rfl rfl rfl (op_move ha8 rfl rfl) ?_
 intro a10 ha10; clear ha8 a8
 refine wl_val ha10 rfl rfl rfl (op_extract ha10 rfl rfl rfl) ?_
 intro a11 ha11; clear ha10 a10
 refine wl_val ha11 rfl rfl rfl (op_extract ha11 rfl rfl rfl) ?_
 intro a12 ha12; clear ha11 a11
 refine wl_val ha12 rfl rfl rfl (op_extract ha12 rfl rfl rfl) ?_
 intro a13 ha13; clear ha12 a12
 refine wl_val ha13 rfl rfl rfl (op_assign ha13 rfl rfl) ?_
 intro a14 ha14; clear ha13 a13
 refine wl_val ha14 rfl rfl rfl (op_assign ha14 rfl rfl) ?_
 intro a15 ha15; clear ha14 a14
 refine wl_val ha15 rfl rfl rfl (op_assign ha15 rfl rfl) ?_
 intro a16 ha16; clear ha15 a15
 refine wpList_nil ?_
 refine then_n ?_
 refine wp_seq ?_
 refine wp_region_lit ?_
 refine wl_eff ha16 rfl rfl rfl (op_buildSlice (s := shI64) (xs := ([] : List Int)) (cs := []) (vs := []) (S := fun _ => False) (le := w4.heap.size) ha16 rfl pos_shI64 Try.underlying44 ti2 rfl rfl (by decide) (by kernel_rfl) rfl (fun _ h => h.elim)) ?_
 rintro v17 w18 ⟨ho19, he20, hob21⟩ a22 ha22; clear ha16 a16
 have hx23 := hx9.trans' he20
 have hzhx23 := he20.size
 replace ho7 := ho7.ext he20
 refine wl_val ha22 rfl rfl rfl (op_assign ha22 rfl rfl) ?_
 intro a24 ha24; clear ha22 a22
 refine wpList_nil ?_
 refine then_n ?_
 refine wp_seq ?_
 refine wp_seq ?_
 refine wp_region_lit ?_
 refine wl_val ha24 rfl rfl rfl (op_move ha24 rfl rfl) ?_
 intro a25 ha25; clear ha24 a24
 refine wl_val ha25 rfl rfl rfl (op_len_sl ha25 rfl Try.underlying25 rfl (ho7.rds pos_shRec)) ?_
 intro a26 ha26; clear ha25 a25
 refine wl_val ha26 rfl rfl rfl (op_eql ha26 rfl rfl rfl) ?_
 intro a27 ha27; clear ha26 a26
 refine wpList_nil ?_
 refine then_n ?_
 by_cases c28 : (((((salS s).1)).length : Nat) : Int) = (0 : Int)
 ·
  rw [decide_eq_true c28] at ha27
  refine cond_t ha27 rfl ?_
  refine wp_seq ?_
  refine wp_region_lit ?_
  refine wl_val ha27 rfl rfl rfl (op_move ha27 rfl rfl) ?_
  intro a29 ha29; clear ha27 a27
  refine wl_val ha29 rfl rfl rfl (op_assign ha29 rfl rfl) ?_
  intro a30 ha30; clear ha29 a29
  refine wpList_nil ?_
  refine then_n ?_
  refine wp_ret ?_
  refine then_r ?_
  refine ret1 ha30 rfl rfl ?_
  clear ha30 a30
  refine ret_mk hx23 ?_
  refine (ho19.fin (by omega) (by omega) (by omega)).cast ?_
  rw [lastN_nil (by omega), missU_zero]
 ·
  rw [decide_eq_false c28] at ha27
  refine cond_f ha27 rfl ?_
  refine wp_skip ?_
  refine then_n ?_
  refine wp_seq ?_
  refine wp_seq ?_
  refine wp_region_lit ?_
  refine wl_val ha27 rfl rfl rfl (op_assign ha27 rfl rfl) ?_
  intro a31 ha31; clear ha27 a27
  refine wpList_nil ?_
  refine then_n ?_
  refine wp_block ?_
  refine loop_inv (X := Nat × Value × (List Int)) (fun (⟨q, v, acc⟩ : Nat × Value × (List Int)) fr wl => Sl 44 fr [(3, v6), (6, v), (7, .int .i64 ((q : Nat) : Int))] ∧ Ext w0 wl ∧ Own shRec 36 w0.heap.size w0.heap.size w4.heap.size wl v6 (((salS s).1)) ∧ Own shI64 2 w4.heap.size w4.heap.size wl.heap.size wl v acc ∧ w18.heap.size ≤ wl.heap.size ∧ (q ≤ lastN (salS s).1) ∧ (acc.length ≤ 30) ∧ (acc = missU (salS s).1 q)) (fun (⟨q, v, acc⟩ : Nat × Value × (List Int)) => lastN (salS s).1 - q) (0, v17, ([] : List Int)) ?_ ?_
  ·
   exact ⟨(Sl.cons_ ha31 rfl rfl (Sl.cons_ ha31 rfl rfl (Sl.cons_ ha31 rfl (int_eq (by omega)) (Sl.nil_ ha31)))), hx23, ho7, (ho19.fin (by omega) (by omega) (by omega)), (by omega), (by omega), (by simp), (by rw [missU_zero])⟩
  ·
   clear ha31 a31
   rintro ⟨q, v, acc⟩ a36 w32 ⟨ha36, hx33, hf34, hf35, hzl37, hq, hl, hF⟩
   have hzhx33 := hx33.size
   refine wp_seq ?_
   refine wp_seq ?_
   refine wp_region_lit ?_
   refine wl_val ha36 rfl rfl rfl (op_move ha36 rfl rfl) ?_
   intro a38 ha38; clear ha36 a36
   refine wl_val ha38 rfl rfl rfl (op_move ha38 rfl rfl) ?_
   intro a39 ha39; clear ha38 a38
   refine wl_val ha39 rfl rfl rfl (op_move ha39 rfl rfl) ?_
   intro a40 ha40; clear ha39 a39
   refine wl_val ha40 rfl rfl rfl (op_len_sl ha40 rfl Try.underlying25 rfl (hf34.rds pos_shRec)) ?_
   intro a41 ha41; clear ha40 a40
   refine wl_val ha41 rfl rfl rfl ((op_sub ha41 rfl rfl rfl).int (IntWalk.i64_in _ (by omega))) ?_
   intro a42 ha42; clear ha41 a41
   obtain ⟨x43, hx43⟩ := get_ex (xs := ((salS s).1)) (j := ((((salS s).1)).length - 1)) (by omega)
   obtain ⟨p44, c45, hi46, hc47, hr48, hs49⟩ := Rds.at_ (hf34.rds pos_shRec) hx43
   obtain ⟨rfl, b50, b51⟩ := inv_shRec hr48
   obtain ⟨_, _⟩ : _ ∧ _ := hs49
   have hrbx43 := recB_bd (areB_all (salS_are s) _ (List.mem_of_getElem? hx43))
   have hlax43 := lastN_eq hx43
   refine wl_val ha42 rfl rfl rfl (op_indexAddr ha42 rfl Try.underlying25 ti36 rfl rfl (by omega) hi46) ?_
   intro a52 ha52; clear ha42 a42
   refine wl_val ha52 rfl rfl rfl (op_fieldAddr (sz := 0) ha52 rfl Try.underlying36 rfl rfl ti2 rfl) ?_
   intro a53 ha53; clear ha52 a52
   refine wl_val ha53 rfl rfl rfl (op_loadF (off := 0) ha53 rfl Try.underlying2 rfl rfl hc47 rfl) ?_
   intro a54 ha54; clear ha53 a53
   refine wl_val ha54 rfl rfl rfl (op_lss ha54 rfl rfl rfl) ?_
   intro a55 ha55; clear ha54 a54
   refine wl_val ha55 rfl rfl rfl (op_move ha55 rfl rfl) ?_
   intro a56 ha56; clear ha55 a55
   by_cases c57 : ((q : Nat) : Int) < x43.1
   ·
    rw [decide_eq_true c57] at ha56
    refine wl_val ha56 rfl rfl rfl (op_move ha56 rfl rfl) ?_
    intro a58 ha58; clear ha56 a56
    refine wl_val ha58 rfl rfl rfl (op_len_sl ha58 rfl Try.underlying44 rfl (hf35.rds pos_shI64)) ?_
    intro a59 ha59; clear ha58 a58
    refine wl_val ha59 rfl rfl rfl (op_lss ha59 rfl rfl rfl) ?_
    intro a60 ha60; clear ha59 a59
    refine wl_val ha60 rfl rfl rfl (op_pick_t ha60 rfl rfl rfl) ?_
    intro a61 ha61; clear ha60 a60
    refine wpList_nil ?_
    refine then_n ?_
    by_cases c62 : ((acc.length : Nat) : Int) < (30 : Int)
    ·
     rw [decide_eq_true c62] at ha61
     refine cond_t ha61 rfl ?_
     refine wp_skip ?_
     refine then_n ?_
     refine wp_seq ?_
     refine wp_block ?_
     refine wp_seq ?_
     refine wp_region_lit ?_
     refine wl_val ha61 rfl rfl rfl (op_move ha61 rfl rfl) ?_
     intro a63 ha63; clear ha61 a61
     refine wl_val ha63 rfl rfl rfl (op_move ha63 rfl rfl) ?_
     intro a64 ha64; clear ha63 a63
     refine wl_callR ha64 rfl rfl rfl (op_call ha64 rfl cb57 rfl) (c_spec_l32Find _ v6 (((salS s).1)) ((q : Nat) : Int) (hf34.rds pos_shRec)) ?_
     rintro v65 w66 he67 rfl a68 ha68; clear ha64 a64
     have hx69 := hx33.trans' he67
     have hzhx69 := he67.size
     replace hf34 := hf34.ext he67
     replace hf35 := hf35.ext he67
     replace hc47 := hc47.ext he67
     refine wl_val ha68 rfl rfl rfl (op_lss ha68 rfl rfl rfl) ?_
     intro a70 ha70; clear ha68 a68
     refine wpList_nil ?_
     refine then_n ?_
     by_cases c71 : (fdI (((salS s).1)) ((q : Nat) : Int) : Int) < (0 : Int)
     ·
      rw [decide_eq_true c71] at ha70
      refine cond_t ha70 rfl ?_
      refine wp_region_lit ?_
      refine wl_val ha70 rfl rfl rfl (op_move ha70 rfl rfl) ?_
      intro a72 ha72; clear ha70 a70
      refine wl_val ha72 rfl rfl rfl (op_move ha72 rfl rfl) ?_
      intro a73 ha73; clear ha72 a72
      refine wl_eff ha73 rfl rfl rfl (op_buildSlice (s := shI64) (xs := [((q : Nat) : Int)]) (cs := [.int .i64 ((q : Nat) : Int)]) (vs := [(0, .int .i64 ((q : Nat) : Int))]) (S := fun _ => False) (le := w66.heap.size) ha73 rfl pos_shI64 Try.underlying44 ti2 rfl rfl (by decide) (by kernel_rfl) (Els.single (mk_shI64 (((q : Nat) : Int)) (by first | assumption | omega | exact ⟨by omega, by omega⟩))) (fun _ h => h.elim)) ?_
      rintro v74 w75 ⟨ho76, he77, hob78⟩ a79 ha79; clear ha73 a73
      have hx80 := hx69.trans' he77
      have hzhx80 := he77.size
      replace hf34 := hf34.ext he77
      replace hf35 := hf35.ext he77
      replace hc47 := hc47.ext he77
      refine wl_eff ha79 rfl rfl rfl (op_append (ts := #[]) (s := shI64) ha79 rfl Try.underlying44 ti2 rfl pos_shI64 rfl rfl hf35 (ho76.rds pos_shI64) (by omega) (by omega) (by first | omega | (simp; omega)) (by first | omega | (simp; omega)) (.inl flat_shI64)) ?_
      rintro v81 w82 ⟨ho83, hst84, hob85⟩ a86 ha86; clear ha79 a79
      have hx87 := hx80.stp hst84 (by intro q hq; have hq0 := hf35.lt q hq; omega)
      have hzhx87 := hst84.size
      replace hf34 := hf34.stp hst84 (by intro q hq; have hq0 := hf35.lt q hq; omega)
      replace ho76 := ho76.stp hst84 (by intro q hq; have hq0 := hf35.lt q hq; omega)
      have hsp88 : ∀ q, Value.ownBlock v81 = some q → Value.ownBlock v74 ≠ some q := by intro q hq hb; have hq0 := ho76.lt q hb; rcases hob85 with h | h; (rw [h] at hq; first | (have hq1 := hf35.lt q hq; omega)); (rw [h] at hq; cases hq; omega)
      refine wl_val ha86 rfl rfl rfl (op_assign ha86 rfl rfl) ?_
      intro a89 ha89; clear ha86 a86
      refine wpList_nil ?_
      refine block_n ?_
      refine then_n ?_
      refine wp_region_lit ?_
      refine wl_val ha89 rfl rfl rfl (op_move ha89 rfl rfl) ?_
      intro a90 ha90; clear ha89 a89
      refine wl_val ha90 rfl rfl rfl ((op_add ha90 rfl rfl rfl).int (IntWalk.i64_in _ (by omega))) ?_
      intro a91 ha91; clear ha90 a90
      refine wl_val ha91 rfl rfl rfl (op_assign ha91 rfl rfl) ?_
      intro a92 ha92; clear ha91 a91
      refine wpList_nil ?_
      refine round_end (x := (q, v, acc)) ((q + 1), v81, (acc ++ [((q : Nat) : Int)])) ?_ ?_
      ·
       refine ⟨(Sl.cons_ ha92 rfl rfl (Sl.cons_ ha92 rfl rfl (Sl.cons_ ha92 rfl (int_eq (by omega)) (Sl.nil_ ha92)))), hx87, hf34, (ho83.fin (by omega) (by omega) (by omega)), (by omega), (by omega), (by first | omega | (simp; omega)), (by rw [missU_add ((fdI_miss _ _).1 c71) (by rw [← hF]; omega), ← hF])⟩
      ·show (lastN (salS s).1 - ((q + 1)) : Nat) < lastN (salS s).1 - q; omega
     ·
      rw [decide_eq_false c71] at ha70
      refine cond_f ha70 rfl ?_
      refine wp_skip ?_
      refine block_n ?_
      refine then_n ?_
      refine wp_region_lit ?_
      refine wl_val ha70 rfl rfl rfl (op_move ha70 rfl rfl) ?_
      intro a93 ha93; clear ha70 a70
      refine wl_val ha93 rfl rfl rfl ((op_add ha93 rfl rfl rfl).int (IntWalk.i64_in _ (by omega))) ?_
      intro a94 ha94; clear ha93 a93
      refine wl_val ha94 rfl rfl rfl (op_assign ha94 rfl rfl) ?_
      intro a95 ha95; clear ha94 a94
      refine wpList_nil ?_
      refine round_end (x := (q, v, acc)) ((q + 1), v, acc) ?_ ?_
      ·
       refine ⟨(Sl.cons_ ha95 rfl rfl (Sl.cons_ ha95 rfl rfl (Sl.cons_ ha95 rfl (int_eq (by omega)) (Sl.nil_ ha95)))), hx69, hf34, (hf35.fin (by omega) (by omega) (by omega)), (by omega), (by omega), (by first | omega | (simp; omega)), (by rw [missU_skip (Bool.eq_false_iff.2 fun h => c71 ((fdI_miss _ _).2 h)), ← hF])⟩
      ·show (lastN (salS s).1 - ((q + 1)) : Nat) < lastN (salS s).1 - q; omega
    ·
     rw [decide_eq_false c62] at ha61
     refine cond_f ha61 rfl ?_
     refine wp_exit ?_
     refine then_e ?_
     refine then_e ?_
     refine block_hit ?_
     refine then_n ?_
     refine wp_seq ?_
     refine wp_region_lit ?_
     refine wl_val ha61 rfl rfl rfl (op_move ha61 rfl rfl) ?_
     intro a96 ha96; clear ha61 a61
     refine wl_val ha96 rfl rfl rfl (op_assign ha96 rfl rfl) ?_
     intro a97 ha97; clear ha96 a96
     refine wpList_nil ?_
     refine then_n ?_
     refine wp_ret ?_
     refine ret1 ha97 rfl rfl ?_
     clear ha97 a97
     refine ret_mk hx33 ?_
     refine (hf35.fin (by omega) (by omega) (by omega)).cast ?_
     have e := missU_full (xs := (salS s).1) (n := q) (by rw [← hF]; omega) (lastN (salS s).1 - q)
     rw [show q + (lastN (salS s).1 - q) = lastN (salS s).1 by omega] at e
     rw [hF, e]
   ·
    rw [decide_eq_false c57] at ha56
    refine wl_skip ha56 rfl rfl rfl ?_
    intro a98 ha98; clear ha56 a56
    refine wl_skip ha98 rfl rfl rfl ?_
    intro a99 ha99; clear ha98 a98
    refine wl_skip ha99 rfl rfl rfl ?_
    intro a100 ha100; clear ha99 a99
    refine wl_val ha100 rfl rfl rfl (op_pick_f ha100 rfl rfl rfl) ?_
    intro a101 ha101; clear ha100 a100
    refine wpList_nil ?_
    refine then_n ?_
    refine cond_f ha101 rfl ?_
    refine wp_exit ?_
    refine then_e ?_
    refine then_e ?_
    refine block_hit ?_
    refine then_n ?_
    refine wp_seq ?_
    refine wp_region_lit ?_
    refine wl_val ha101 rfl rfl rfl (op_move ha101 rfl rfl) ?_
    intro a102 ha102; clear ha101 a101
    refine wl_val ha102 rfl rfl rfl (op_assign ha102 rfl rfl) ?_
    intro a103 ha103; clear ha102 a102
    refine wpList_nil ?_
    refine then_n ?_
    refine wp_ret ?_
    refine ret1 ha103 rfl rfl ?_
    clear ha103 a103
    refine ret_mk hx33 ?_
    refine (hf35.fin (by omega) (by omega) (by omega)).cast ?_
    have e := lastN_eq hx43
    rw [hF, show q = lastN (salS s).1 by omega]


end Go.Proofs.Ytkdnclpgijkceaa
