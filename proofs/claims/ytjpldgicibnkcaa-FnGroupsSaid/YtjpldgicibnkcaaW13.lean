/- Joined tables. -/
import Derived.Test.YtjpldgicibnkcaaH0
namespace Go.Proofs.Ytjpldgicibnkcaa
open Go Go.RowKit

/-- The rows of b that go with a row, the pairs of all rows, the table. -/
def jnR1 (x : List Int) : List (List Int) → List (List Int)
  | [] => []
  | y :: ys => if rowC 0 x = rowC 0 y then (x ++ y.drop 1) :: jnR1 x ys else jnR1 x ys
def jnR (bs : List (List Int)) : List (List Int) → List (List Int)
  | [] => []
  | x :: xs => jnR1 x bs ++ jnR bs xs
def jnT (a b : Tab) : Tab := (a.1 ++ b.1.drop 1, jnR b.2 a.2)
def frB (xs ys : List Str) : Bool := ys.all fun y => decide (fdF (eqB y) xs < 0)
def cdJ (a b : Tab) : Int := if tabB a = true ∧ tabB b = true then (if frB a.1 (b.1.drop 1) then (if tabB (jnT a b) then 0 else 3) else 5) else 1
def jcT (a b : Tab) : Tab := if cdJ a b = 0 then jnT a b else ([], [])
theorem jcT_ok {a b : Tab} (e : cdJ a b = 0) : jcT a b = jnT a b := by unfold jcT; rw [if_pos e]
theorem jcT_no {a b : Tab} (e : ¬ cdJ a b = 0) : jcT a b = ([], []) := by unfold jcT; rw [if_neg e]
theorem cdJ_1 {a b : Tab} (e : tabB a = false ∨ tabB b = false) : cdJ a b = 1 := by
  unfold cdJ; rw [if_neg]; rintro ⟨h1, h2⟩; rcases e with e | e
  · rw [h1] at e; cases e
  · rw [h2] at e; cases e
theorem cdJ_5 {a b : Tab} (ha : tabB a = true) (hb : tabB b = true) (e : frB a.1 (b.1.drop 1) = false) : cdJ a b = 5 := by unfold cdJ; rw [if_pos ⟨ha, hb⟩, e]; rfl
theorem cdJ_e {a b : Tab} (ha : tabB a = true) (hb : tabB b = true) (e : frB a.1 (b.1.drop 1) = true) : cdJ a b = if tabB (jnT a b) then 0 else 3 := by unfold cdJ; rw [if_pos ⟨ha, hb⟩, if_pos e]
theorem jnR1_len (x : List Int) : ∀ ys, (jnR1 x ys).length ≤ ys.length
  | [] => Nat.le_refl _
  | y :: ys => by have := jnR1_len x ys; rw [jnR1]; split <;> simp only [List.length_cons] <;> omega
theorem jnR_len (bs : List (List Int)) : ∀ xs, (jnR bs xs).length ≤ bs.length * xs.length
  | [] => Nat.zero_le _
  | x :: xs => by
    have h1 := jnR1_len x bs; have h2 := jnR_len bs xs
    rw [jnR, List.length_append, List.length_cons, Nat.mul_add]; omega
theorem frB_bad {xs ys : List Str} {i : Nat} {y : Str} (hy : ys[i]? = some y) (h : ¬ fdF (eqB y) xs < 0) : frB xs ys = false := by
  cases e : frB xs ys with
  | false => rfl
  | true =>
    unfold frB at e; rw [List.all_eq_true] at e
    have := e y (List.mem_of_getElem? hy); rw [decide_eq_true_eq] at this; exact absurd this h
theorem frB_ok {xs ys : List Str} (h : ∀ i y, i < ys.length → ys[i]? = some y → fdF (eqB y) xs < 0) : frB xs ys = true := by
  unfold frB; rw [List.all_eq_true]
  intro y hy
  obtain ⟨i, hi⟩ := List.getElem?_of_mem hy
  rw [decide_eq_true_eq]; exact h i y (List.getElem?_eq_some_iff.1 hi).1 hi
/-- No head twice, told along all heads of the two tables. -/
theorem tab_hd {t : Tab} (h : tabB t = true) {i : Nat} {x : Str} (hx : t.1[i]? = some x) : fdF (eqB x) (t.1.take i) < 0 := by
  unfold tabB at h; simp only [Bool.and_eq_true] at h
  have h3 := upB_get h.2.1 (List.getElem?_eq_some_iff.1 hx).1
  rw [hdAt_eq hx, Bool.and_eq_true, decide_eq_true_eq] at h3; exact h3.2
theorem fdF_app {h : Str} {xs ys : List Str} : fdF (eqB h) (xs ++ ys) < 0 ↔ fdF (eqB h) xs < 0 ∧ fdF (eqB h) ys < 0 := by
  rw [fdF_neg, fdF_neg, fdF_neg]
  exact ⟨fun q => ⟨fun x hx => q x (List.mem_append_left _ hx), fun x hx => q x (List.mem_append_right _ hx)⟩, fun q x hx => (List.mem_append.1 hx).elim (q.1 x) (q.2 x)⟩
theorem fdF_sub {h : Str} {xs ys : List Str} (q : fdF (eqB h) ys < 0) (hs : ∀ x ∈ xs, x ∈ ys) : fdF (eqB h) xs < 0 := fdF_neg.2 fun x hx => fdF_neg.1 q x (hs x hx)
theorem jn_bad {a b : Tab} (ha : tabB a = true) (hb : tabB b = true) {i : Nat} {x : Str} (hx : (a.1 ++ b.1.drop 1)[i]? = some x) (h : ¬ fdF (eqB x) ((a.1 ++ b.1.drop 1).take i) < 0) : frB a.1 (b.1.drop 1) = false := by
  rcases Nat.lt_or_ge i a.1.length with q | q
  · rw [List.getElem?_append_left q] at hx
    rw [List.take_append_of_le_length (by omega)] at h
    exact absurd (tab_hd ha hx) h
  · rw [List.getElem?_append_right q] at hx
    rw [List.take_append, List.take_of_length_le q, fdF_app] at h
    refine frB_bad hx fun hq => h ⟨hq, ?_⟩
    rw [List.getElem?_drop] at hx
    refine fdF_sub (tab_hd hb hx) fun z hz => ?_
    obtain ⟨j, hj⟩ := List.getElem?_of_mem hz
    rw [List.getElem?_take] at hj
    split at hj
    · rw [List.getElem?_drop] at hj
      refine List.mem_of_getElem? (i := 1 + j) ?_
      rw [List.getElem?_take, if_pos (by omega)]; exact hj
    · cases hj
theorem jn_ok {a b : Tab} (h : ∀ j y, j < (a.1 ++ b.1.drop 1).length → (a.1 ++ b.1.drop 1)[j]? = some y → fdF (eqB y) ((a.1 ++ b.1.drop 1).take j) < 0) : frB a.1 (b.1.drop 1) = true := by
  refine frB_ok fun i y hi hy => ?_
  have e : (a.1 ++ b.1.drop 1)[a.1.length + i]? = some y := by
    rw [List.getElem?_append_right (by omega), Nat.add_sub_cancel_left]; exact hy
  have := h (a.1.length + i) y (List.getElem?_eq_some_iff.1 e).1 e
  rw [List.take_append, List.take_of_length_le (by omega), fdF_app] at this
  exact this.1
theorem frB1_bad {a b : Tab} {i : Nat} {y : Str} (hi : 1 ≤ i) (hy : b.1[i]? = some y) (h : ¬ fdF (eqB y) a.1 < 0) : frB a.1 (b.1.drop 1) = false :=
  frB_bad (i := i - 1) (by rw [List.getElem?_drop, show 1 + (i - 1) = i by omega]; exact hy) h
theorem frB1_ok {a b : Tab} (h : ∀ j y, j < b.1.length → b.1[j]? = some y → 1 ≤ j → fdF (eqB y) a.1 < 0) : frB a.1 (b.1.drop 1) = true := by
  refine frB_ok fun i y hi hy => ?_
  rw [List.getElem?_drop] at hy
  exact h (1 + i) y (List.getElem?_eq_some_iff.1 hy).1 hy (by omega)
theorem jnR1_t {x y : List Int} {ys : List (List Int)} (h : rowC 0 x = rowC 0 y) : jnR1 x (y :: ys) = (x ++ y.drop 1) :: jnR1 x ys := by rw [jnR1, if_pos h]
theorem jnR1_f {x y : List Int} {ys : List (List Int)} (h : ¬ rowC 0 x = rowC 0 y) : jnR1 x (y :: ys) = jnR1 x ys := by rw [jnR1, if_neg h]

set_option maxHeartbeats 4000000 in
theorem c_spec_JoinTables (w0 : World) (v_a0 : Value) (v_a1 : Value) (a : List Str × List (List Int)) {S_a0 : Nat → Prop} {S_a1 : Nat → Prop} (v_b0 : Value) (v_b1 : Value) (b : List Str × List (List Int)) {S_b0 : Nat → Prop} {S_b1 : Nat → Prop} (h_a0 : Rds shStr S_a0 w0 v_a0 a.1) (h_a1 : Rds shRow S_a1 w0 v_a1 a.2) (h_b0 : Rds shStr S_b0 w0 v_b0 b.1) (h_b1 : Rds shRow S_b1 w0 v_b1 b.2) :
  Calls Try.prog 43 #[.agg #[v_a0, v_a1], .agg #[v_b0, v_b1]] w0 (Ret w0 (fun v w1 => ∃ r0_0 r0_1 z0_1, v = .tuple #[.agg #[r0_0, r0_1], .int .i64 (cdJ a b)] ∧ Own shStr 9 w0.heap.size w0.heap.size w1.heap.size w1 r0_0 ((jcT a b).1) ∧ Own shRowN 41 w0.heap.size w0.heap.size w1.heap.size w1 r0_1 z0_1 ∧ Nst shI64 2 (fun x : List Int => x) w0.heap.size w1.heap.size w1 z0_1 ∧ z0_1.map (·.1) = ((jcT a b).2))) := by
 refine enter (N := 96) Try.func43 rfl rfl rfl ?_
 intro a0 ha0
 have hx0 := Ext.rfl' w0
 have hl_a0 := h_a0.length_le
 have hl_a1 := h_a1.length_le
 have hl_b0 := h_b0.length_le
 have hl_b1 := h_b1.length_le
 have hJl : (a.1 ++ b.1.drop 1).length = a.1.length + (b.1.length - 1) := by simp
 refine wp_seq ?_
 refine wp_region_lit ?_
 refine wl_eff ha0 rfl rfl rfl (op_box' ha0 rfl rfl rfl) ?_
 rintro _ w2 ⟨rfl, he3, hb4, hz5⟩ a6 ha6; clear ha0 a0
 have hx7 := hx0.trans' he3
 have hzhx7 := he3.size
 refine wl_eff ha6 rfl rfl rfl (op_box' ha6 rfl rfl rfl) ?_
 rintro _ w9 ⟨rfl, he10, hb11, hz12⟩ a13 ha13; clear ha6 a6
 have hx14 := hx7.trans' he10
 have hzhx14 := he10.size
 replace hb4 := hb4.ext he10
 refine wl_eff ha13 rfl rfl rfl (op_alloc' rfl ti28 rfl) ?_
 rintro _ w16 ⟨rfl, he17, hb18, hz19⟩ a20 ha20; clear ha13 a13
 have hx21 := hx14.trans' he17
 have hzhx21 := he17.size
 replace hb4 := hb4.ext he17
 replace hb11 := hb11.ext he17
 refine wl_val ha20 rfl rfl rfl (op_assign ha20 rfl rfl) ?_
 intro a22 ha22; clear ha20 a20
 refine wpList_nil ?_
 refine then_n ?_
 refine wp_seq ?_
 refine wp_seq ?_
 refine wp_region_lit ?_
 refine wl_val ha22 rfl rfl rfl (op_loadS ha22 rfl Try.underlying28 ti28 rfl rfl hb4.cells) ?_
 intro a23 ha23; clear ha22 a22
 refine wl_callR ha23 rfl rfl rfl (op_call ha23 rfl cb17 rfl) (c_spec_IsTable _ v_a0 v_a1 a (h_a0.ext pos_shStr hx21) (h_a1.ext pos_shRow hx21)) ?_
 rintro v24 w25 he26 rfl a27 ha27; clear ha23 a23
 have hx28 := hx21.trans' he26
 have hzhx28 := he26.size
 replace hb4 := hb4.ext he26
 replace hb11 := hb11.ext he26
 replace hb18 := hb18.ext he26
 refine wl_val ha27 rfl rfl rfl (op_not ha27 rfl rfl) ?_
 intro a29 ha29; clear ha27 a27
 refine wl_val ha29 rfl rfl rfl (op_move ha29 rfl rfl) ?_
 intro a30 ha30; clear ha29 a29
 rcases Bool.eq_false_or_eq_true (tabB a) with c31 | c31
 ·
  rw [c31] at ha30
  have hta := tab_bd c31
  have hra := tab_rows c31
  have hwa := tab_heads c31
  refine wl_val ha30 rfl rfl rfl (op_loadS ha30 rfl Try.underlying28 ti28 rfl rfl hb11.cells) ?_
  intro a32 ha32; clear ha30 a30
  refine wl_callR ha32 rfl rfl rfl (op_call ha32 rfl cb17 rfl) (c_spec_IsTable _ v_b0 v_b1 b (h_b0.ext pos_shStr hx28) (h_b1.ext pos_shRow hx28)) ?_
  rintro v33 w34 he35 rfl a36 ha36; clear ha32 a32
  have hx37 := hx28.trans' he35
  have hzhx37 := he35.size
  replace hb4 := hb4.ext he35
  replace hb11 := hb11.ext he35
  replace hb18 := hb18.ext he35
  refine wl_val ha36 rfl rfl rfl (op_not ha36 rfl rfl) ?_
  intro a38 ha38; clear ha36 a36
  refine wl_val ha38 rfl rfl rfl (op_pick_f ha38 rfl rfl rfl) ?_
  intro a39 ha39; clear ha38 a38
  refine wpList_nil ?_
  refine then_n ?_
  rcases Bool.eq_false_or_eq_true (tabB b) with c40 | c40
  ·
   rw [c40] at ha39
   have htb := tab_bd c40
   have hrb := tab_rows c40
   have hwb := tab_heads c40
   refine cond_f ha39 rfl ?_
   refine wp_skip ?_
   refine then_n ?_
   refine wp_seq ?_
   refine wp_seq ?_
   refine wp_region_lit ?_
   refine wl_val ha39 rfl rfl rfl (op_assign ha39 rfl rfl) ?_
   intro a41 ha41; clear ha39 a39
   refine wpList_nil ?_
   refine then_n ?_
   refine wp_block ?_
   refine loop_inv (X := Nat) (fun (i : Nat) fr wl => Sl 96 fr [(2, .pointer (some (⟨w0.heap.size, 0, none⟩ : Addr))), (3, .pointer (some (⟨w2.heap.size, 0, none⟩ : Addr))), (4, .pointer (some (⟨w9.heap.size, 0, none⟩ : Addr))), (6, .int .i64 ((i : Nat) : Int))] ∧ Ext w0 wl ∧ Box wl w0.heap.size 28 [v_a0, v_a1] ∧ Box wl w2.heap.size 28 [v_b0, v_b1] ∧ Box wl w9.heap.size 28 [.slice none 0 0, .slice none 0 0] ∧ w34.heap.size ≤ wl.heap.size ∧ (i ≤ b.1.length) ∧ (1 ≤ i) ∧ (∀ (j : Nat) (y : Str), j < i → 1 ≤ j → b.1[j]? = some y → fdF (eqB y) a.1 < 0)) (fun (i : Nat) => b.1.length - i) (1) ?_ ?_
   ·
    exact ⟨(Sl.cons_ ha41 rfl rfl (Sl.cons_ ha41 rfl rfl (Sl.cons_ ha41 rfl rfl (Sl.cons_ ha41 rfl (int_eq (by omega)) (Sl.nil_ ha41))))), hx37, hb4, hb11, hb18, (by omega), (by omega), (by omega), (by intro j y hj h1; omega)⟩
   ·
    clear ha41 a41
    rintro i a47 w42 ⟨ha47, hx43, hf44, hf45, hf46, hzl48, hi, hi1, hA⟩
    have hzhx43 := hx43.size
    refine wp_seq ?_
    refine wp_seq ?_
    refine wp_region_lit ?_
    refine wl_val ha47 rfl rfl rfl (op_move ha47 rfl rfl) ?_
    intro a49 ha49; clear ha47 a47
    refine wl_val ha49 rfl rfl rfl (op_fieldAddr (sz := 0) ha49 rfl Try.underlying28 rfl rfl ti22 rfl) ?_
    intro a50 ha50; clear ha49 a49
    refine wl_val ha50 rfl rfl rfl (op_loadF (off := 0) ha50 rfl Try.underlying22 rfl rfl hf45.cells rfl) ?_
    intro a51 ha51; clear ha50 a50
    refine wl_val ha51 rfl rfl rfl (op_len_sl ha51 rfl Try.underlying22 rfl h_b0) ?_
    intro a52 ha52; clear ha51 a51
    refine wl_val ha52 rfl rfl rfl (op_lss ha52 rfl rfl rfl) ?_
    intro a53 ha53; clear ha52 a52
    refine wpList_nil ?_
    refine then_n ?_
    by_cases c54 : ((i : Nat) : Int) < ((b.1.length : Nat) : Int)
    ·
     rw [decide_eq_true c54] at ha53
     refine cond_t ha53 rfl ?_
     refine wp_skip ?_
     refine then_n ?_
     refine wp_seq ?_
     refine wp_block ?_
     refine wp_seq ?_
     refine dr_enter Ext follows_mixed ?_
     intro w55 he56
     have hx57 := hx43.trans' he56
     have hzhx57 := he56.size
     replace hf44 := hf44.ext he56
     replace hf45 := hf45.ext he56
     replace hf46 := hf46.ext he56
     have hs58 : Ext w55 w55 := Ext.rfl' _
     refine dr_val (i := 0) ha53 rfl (by kernel_rfl) (by kernel_rfl) (by kernel_rfl) rfl rfl rfl hs58 (fun w' hw' => op_loadS ha53 rfl Try.underlying28 ti28 rfl rfl (hf44.ext hw').cells) ?_
     intro a59 ha59; clear ha53 a53
     refine dr_val (i := 1) ha59 rfl (by kernel_rfl) (by kernel_rfl) (by kernel_rfl) rfl rfl rfl hs58 (fun w' hw' => op_fieldAddr (sz := 0) ha59 rfl Try.underlying28 rfl rfl ti22 rfl) ?_
     intro a60 ha60; clear ha59 a59
     refine dr_val (i := 2) ha60 rfl (by kernel_rfl) (by kernel_rfl) (by kernel_rfl) rfl rfl rfl hs58 (fun w' hw' => op_loadF (off := 0) ha60 rfl Try.underlying22 rfl rfl (hf45.ext hw').cells rfl) ?_
     intro a61 ha61; clear ha60 a60
     refine dr_val (i := 3) ha61 rfl (by kernel_rfl) (by kernel_rfl) (by kernel_rfl) rfl rfl rfl hs58 (fun w' hw' => op_move ha61 rfl rfl) ?_
     intro a62 ha62; clear ha61 a61
     obtain ⟨x63, hx63⟩ := get_ex (xs := b.1) (j := i) (by omega)
     obtain ⟨p64, c65, hi66, hc67, hr68, hs69⟩ := Rds.at_ h_b0 hx63
     obtain ⟨rfl, b70⟩ := inv_shStr hr68
     have hwbx63 := wordB_len (hwb _ (List.mem_of_getElem? hx63))
     refine dr_val (i := 4) ha62 rfl (by kernel_rfl) (by kernel_rfl) (by kernel_rfl) rfl rfl rfl hs58 (fun w' hw' => op_indexAddr ha62 rfl Try.underlying22 ti9 rfl rfl (by omega) hi66) ?_
     intro a71 ha71; clear ha62 a62
     refine dr_val (i := 5) ha71 rfl (by kernel_rfl) (by kernel_rfl) (by kernel_rfl) rfl rfl rfl hs58 (fun w' hw' => op_loadH ha71 rfl Try.underlying9 rfl rfl (hc67.ext (hx57.trans' hw')) rfl) ?_
     intro a72 ha72; clear ha71 a71
     refine dr_one (i := 6) (by kernel_rfl) ?_
     refine po_callR ha72 rfl rfl rfl rfl (op_call ha72 rfl cb85 rfl) (c_spec_l31Head _ v_a0 v_a1 a x63 (h_a0.ext pos_shStr (hx57.trans' hs58)) (h_a1.ext pos_shRow (hx57.trans' hs58))) ?_
     rintro v73 w74 he75 rfl a76 ha76; clear ha72 a72
     have hs77 := hs58.trans' he75
     have hx78 := hx57.trans' he75
     have hzhx78 := he75.size
     refine ⟨hs77, ?_⟩
     refine dr_end (by kernel_rfl) ?_
     replace hf44 := hf44.ext hs77
     replace hf45 := hf45.ext hs77
     replace hf46 := hf46.ext hs77
     refine then_n ?_
     rcases Bool.eq_false_or_eq_true (hasB x63 a.1) with c79 | c79
     ·
      rw [c79] at ha76
      refine cond_t ha76 rfl ?_
      refine wp_seq ?_
      refine wp_region_lit ?_
      refine wl_val ha76 rfl rfl rfl (op_build (vs := []) (cs := #[.slice none 0 0, .slice none 0 0]) ha76 rfl Try.underlying28 ti28 bp28 rfl rfl) ?_
      intro a80 ha80; clear ha76 a76
      refine wl_effS ha80 rfl rfl (op_storeAll' ha80 rfl ti28 rfl rfl hf46 rfl rfl (by simp [Value.oneCell']) rfl) ?_
      rintro w81 ⟨hb83, hst82, hz84⟩
      have hx85 := hx78.stp hst82 (by intro q hq; cases hq; exact (by omega))
      have hzhx85 := hst82.size
      replace hf44 := hf44.stp hst82 (by intro q hq; cases hq; omega)
      replace hf45 := hf45.stp hst82 (by intro q hq; cases hq; omega)
      clear hf46
      refine wl_val ha80 rfl rfl rfl (op_assign ha80 rfl rfl) ?_
      intro a86 ha86; clear ha80 a80
      refine wpList_nil ?_
      refine then_n ?_
      refine wp_ret ?_
      refine block_r ?_
      refine then_r ?_
      refine then_r ?_
      refine block_r ?_
      refine then_r ?_
      refine retct ha86 rfl rfl rfl Try.underlying28 ti28 rfl hb83.cells ?_
      clear ha86 a86
      have hr : cdJ a b = _ := cdJ_5 c31 c40 (frB1_bad hi1 hx63 (hasB_ge c79))
      refine ret_mk hx85 ⟨(.slice none 0 0), (.slice none 0 0), [], (tup2_eq (by rfl) (int_eq (by first | exact hr.symm | omega))), ?_, Own.nil _ _ _ _ _ _, Nst.nil _ _ _ _ _ _, ?_⟩
      ·
       refine Own.nil_ _ _ _ _ _ _ ?_
       rw [jcT_no (by rw [hr]; first | decide | assumption)]
      ·
       rw [jcT_no (by rw [hr]; first | decide | assumption)]; rfl
     ·
      rw [c79] at ha76
      refine cond_f ha76 rfl ?_
      refine wp_skip ?_
      refine block_n ?_
      refine then_n ?_
      refine wp_region_lit ?_
      refine wl_val ha76 rfl rfl rfl (op_move ha76 rfl rfl) ?_
      intro a87 ha87; clear ha76 a76
      refine wl_val ha87 rfl rfl rfl ((op_add ha87 rfl rfl rfl).int (IntWalk.i64_in _ (by omega))) ?_
      intro a88 ha88; clear ha87 a87
      refine wl_val ha88 rfl rfl rfl (op_assign ha88 rfl rfl) ?_
      intro a89 ha89; clear ha88 a88
      refine wpList_nil ?_
      refine round_end (x := i) ((i + 1)) ?_ ?_
      ·
       refine ⟨(Sl.cons_ ha89 rfl rfl (Sl.cons_ ha89 rfl rfl (Sl.cons_ ha89 rfl rfl (Sl.cons_ ha89 rfl (int_eq (by omega)) (Sl.nil_ ha89))))), hx78, hf44, hf45, hf46, (by omega), (by omega), (by omega), (by intro j y hj h1 hy; rcases Nat.lt_or_ge j i with q | q; (exact hA j y q h1 hy); (obtain rfl : j = i := (by omega); rw [hx63] at hy; cases hy; exact hasB_lt c79))⟩
      ·show (b.1.length - ((i + 1)) : Nat) < b.1.length - i; omega
    ·
     rw [decide_eq_false c54] at ha53
     refine cond_f ha53 rfl ?_
     refine wp_exit ?_
     refine then_e ?_
     refine then_e ?_
     refine block_hit ?_
     refine then_n ?_
     refine wp_seq ?_
     have hfr : frB a.1 (b.1.drop 1) = true := frB1_ok fun j y hj hy h1 => hA j y (by omega) h1 hy
     refine wp_region_lit ?_
     refine wl_eff ha53 rfl rfl rfl (op_buildSlice (s := shRowN) (xs := ([] : List ((List Int) × Value))) (cs := []) (vs := []) (S := fun _ => False) (le := w42.heap.size) ha53 rfl pos_shRowN Try.underlying23 ti41 rfl rfl (by decide) (by kernel_rfl) rfl (fun _ h => h.elim)) ?_
     rintro v90 w91 ⟨ho92, he93, hob94⟩ a95 ha95; clear ha53 a53
     have hx96 := hx43.trans' he93
     have hzhx96 := he93.size
     replace hf44 := hf44.ext he93
     replace hf45 := hf45.ext he93
     replace hf46 := hf46.ext he93
     have hN97 : Nst shI64 2 (fun x : List Int => x) w42.heap.size w91.heap.size w91 (([] : List ((List Int) × Value))) := Nst.nil _ _ _ _ _ _
     refine wl_val ha95 rfl rfl rfl (op_assign ha95 rfl rfl) ?_
     intro a98 ha98; clear ha95 a95
     refine wpList_nil ?_
     refine then_n ?_
     refine wp_seq ?_
     refine wp_seq ?_
     refine wp_region_lit ?_
     refine wl_val ha98 rfl rfl rfl (op_assign ha98 rfl rfl) ?_
     intro a99 ha99; clear ha98 a98
     refine wpList_nil ?_
     refine then_n ?_
     refine wp_block ?_
     refine loop_inv (X := Nat × Value × (List (List Int × Value))) (fun (⟨i, v, zs⟩ : Nat × Value × (List (List Int × Value))) fr wl => Sl 96 fr [(2, .pointer (some (⟨w0.heap.size, 0, none⟩ : Addr))), (3, .pointer (some (⟨w2.heap.size, 0, none⟩ : Addr))), (4, .pointer (some (⟨w9.heap.size, 0, none⟩ : Addr))), (7, v), (8, .int .i64 ((i : Nat) : Int))] ∧ Ext w0 wl ∧ Box wl w0.heap.size 28 [v_a0, v_a1] ∧ Box wl w2.heap.size 28 [v_b0, v_b1] ∧ Box wl w9.heap.size 28 [.slice none 0 0, .slice none 0 0] ∧ Own shRowN 41 w42.heap.size w42.heap.size wl.heap.size wl v zs ∧ Nst shI64 2 (fun x : List Int => x) w42.heap.size wl.heap.size wl zs ∧ w91.heap.size ≤ wl.heap.size ∧ (i ≤ a.2.length) ∧ (zs.length ≤ 20 * i) ∧ (zs.map (·.1) ++ jnR b.2 (a.2.drop i) = jnR b.2 a.2) ∧ (∀ z ∈ zs, z.1.length ≤ 20)) (fun (⟨i, v, zs⟩ : Nat × Value × (List (List Int × Value))) => a.2.length - i) (0, v90, ([] : List ((List Int) × Value))) ?_ ?_
     ·
      exact ⟨(Sl.cons_ ha99 rfl rfl (Sl.cons_ ha99 rfl rfl (Sl.cons_ ha99 rfl rfl (Sl.cons_ ha99 rfl rfl (Sl.cons_ ha99 rfl (int_eq (by omega)) (Sl.nil_ ha99)))))), hx96, hf44, hf45, hf46, (ho92.fin (by omega) (by omega) (by omega)), (hN97.fin (by omega) (by omega)), (by omega), (by omega), (by exact Nat.zero_le _), (by rfl), (by intro z hz; cases hz)⟩
     ·
      clear ha99 a99
      rintro ⟨i, v, zs⟩ a107 w100 ⟨ha107, hx101, hf102, hf103, hf104, hf105, hf106, hzl108, hi, hl, hF, hS⟩
      have hzhx101 := hx101.size
      refine wp_seq ?_
      refine wp_seq ?_
      refine wp_region_lit ?_
      refine wl_val ha107 rfl rfl rfl (op_move ha107 rfl rfl) ?_
      intro a109 ha109; clear ha107 a107
      refine wl_val ha109 rfl rfl rfl (op_fieldAddr (sz := 0) ha109 rfl Try.underlying28 rfl rfl ti23 rfl) ?_
      intro a110 ha110; clear ha109 a109
      refine wl_val ha110 rfl rfl rfl (op_loadF (off := 1) ha110 rfl Try.underlying23 rfl rfl hf102.cells rfl) ?_
      intro a111 ha111; clear ha110 a110
      refine wl_val ha111 rfl rfl rfl (op_len_sl ha111 rfl Try.underlying23 rfl h_a1) ?_
      intro a112 ha112; clear ha111 a111
      refine wl_val ha112 rfl rfl rfl (op_lss ha112 rfl rfl rfl) ?_
      intro a113 ha113; clear ha112 a112
      refine wpList_nil ?_
      refine then_n ?_
      by_cases c114 : ((i : Nat) : Int) < ((a.2.length : Nat) : Int)
      ·
       rw [decide_eq_true c114] at ha113
       refine cond_t ha113 rfl ?_
       refine wp_skip ?_
       refine then_n ?_
       refine wp_seq ?_
       refine wp_block ?_
       refine wp_seq ?_
       refine wp_region_lit ?_
       refine wl_val ha113 rfl rfl rfl (op_assign ha113 rfl rfl) ?_
       intro a115 ha115; clear ha113 a113
       refine wpList_nil ?_
       refine then_n ?_
       refine wp_block ?_
       obtain ⟨x116, hx116⟩ := get_ex (xs := a.2) (j := i) (by omega)
       obtain ⟨p117, c118, hi119, hc120, hr121, hs122⟩ := Rds.at_ h_a1 hx116
       obtain ⟨v123, rfl, b124⟩ := inv_shRow hr121
       have hlb124 := b124.length_le
       have hrbx116 := hra _ (List.mem_of_getElem? hx116)
       refine loop_inv (X := Nat × Value × (List (List Int × Value))) (fun (⟨k, v2, ys⟩ : Nat × Value × (List (List Int × Value))) fr wl => Sl 96 fr [(2, .pointer (some (⟨w0.heap.size, 0, none⟩ : Addr))), (3, .pointer (some (⟨w2.heap.size, 0, none⟩ : Addr))), (4, .pointer (some (⟨w9.heap.size, 0, none⟩ : Addr))), (7, v2), (8, .int .i64 ((i : Nat) : Int)), (9, .int .i64 ((k : Nat) : Int))] ∧ Ext w0 wl ∧ Box wl w0.heap.size 28 [v_a0, v_a1] ∧ Box wl w2.heap.size 28 [v_b0, v_b1] ∧ Box wl w9.heap.size 28 [.slice none 0 0, .slice none 0 0] ∧ Own shRowN 41 w42.heap.size w42.heap.size wl.heap.size wl v2 ys ∧ Nst shI64 2 (fun x : List Int => x) w42.heap.size wl.heap.size wl ys ∧ w100.heap.size ≤ wl.heap.size ∧ (k ≤ b.2.length) ∧ (ys.length ≤ 20 * i + k) ∧ (ys.map (·.1) ++ (jnR1 x116 (b.2.drop k) ++ jnR b.2 (a.2.drop (i + 1))) = jnR b.2 a.2) ∧ (∀ z ∈ ys, z.1.length ≤ 20)) (fun (⟨k, v2, ys⟩ : Nat × Value × (List (List Int × Value))) => b.2.length - k) (0, v, zs) ?_ ?_
       ·
        exact ⟨(Sl.cons_ ha115 rfl rfl (Sl.cons_ ha115 rfl rfl (Sl.cons_ ha115 rfl rfl (Sl.cons_ ha115 rfl rfl (Sl.cons_ ha115 rfl rfl (Sl.cons_ ha115 rfl (int_eq (by omega)) (Sl.nil_ ha115))))))), hx101, hf102, hf103, hf104, (hf105.fin (by omega) (by omega) (by omega)), (hf106.fin (by omega) (by omega)), (by omega), (by omega), (by omega), (by rw [drop_cons hx116, jnR] at hF; exact hF), (by exact hS)⟩
       ·
        clear ha115 a115
        rintro ⟨k, v2, ys⟩ a132 w125 ⟨ha132, hx126, hf127, hf128, hf129, hf130, hf131, hzl133, hk, hl2, hF2, hS2⟩
        have hzhx126 := hx126.size
        refine wp_seq ?_
        refine wp_seq ?_
        refine wp_region_lit ?_
        refine wl_val ha132 rfl rfl rfl (op_move ha132 rfl rfl) ?_
        intro a134 ha134; clear ha132 a132
        refine wl_val ha134 rfl rfl rfl (op_fieldAddr (sz := 0) ha134 rfl Try.underlying28 rfl rfl ti23 rfl) ?_
        intro a135 ha135; clear ha134 a134
        refine wl_val ha135 rfl rfl rfl (op_loadF (off := 1) ha135 rfl Try.underlying23 rfl rfl hf128.cells rfl) ?_
        intro a136 ha136; clear ha135 a135
        refine wl_val ha136 rfl rfl rfl (op_len_sl ha136 rfl Try.underlying23 rfl h_b1) ?_
        intro a137 ha137; clear ha136 a136
        refine wl_val ha137 rfl rfl rfl (op_lss ha137 rfl rfl rfl) ?_
        intro a138 ha138; clear ha137 a137
        refine wpList_nil ?_
        refine then_n ?_
        by_cases c139 : ((k : Nat) : Int) < ((b.2.length : Nat) : Int)
        ·
         rw [decide_eq_true c139] at ha138
         refine cond_t ha138 rfl ?_
         refine wp_skip ?_
         refine then_n ?_
         refine wp_seq ?_
         refine wp_block ?_
         refine wp_seq ?_
         refine dr_enter Ext follows_mixed ?_
         intro w140 he141
         have hx142 := hx126.trans' he141
         have hzhx142 := he141.size
         replace hf127 := hf127.ext he141
         replace hf128 := hf128.ext he141
         replace hf129 := hf129.ext he141
         replace hf130 := hf130.ext he141
         replace hf131 := hf131.ext he141
         have hs143 : Ext w140 w140 := Ext.rfl' _
         refine dr_val (i := 0) ha138 rfl (by kernel_rfl) (by kernel_rfl) (by kernel_rfl) rfl rfl rfl hs143 (fun w' hw' => op_fieldAddr (sz := 0) ha138 rfl Try.underlying28 rfl rfl ti23 rfl) ?_
         intro a144 ha144; clear ha138 a138
         refine dr_val (i := 1) ha144 rfl (by kernel_rfl) (by kernel_rfl) (by kernel_rfl) rfl rfl rfl hs143 (fun w' hw' => op_loadF (off := 1) ha144 rfl Try.underlying23 rfl rfl (hf127.ext hw').cells rfl) ?_
         intro a145 ha145; clear ha144 a144
         refine dr_val (i := 2) ha145 rfl (by kernel_rfl) (by kernel_rfl) (by kernel_rfl) rfl rfl rfl hs143 (fun w' hw' => op_move ha145 rfl rfl) ?_
         intro a146 ha146; clear ha145 a145
         refine dr_val (i := 3) ha146 rfl (by kernel_rfl) (by kernel_rfl) (by kernel_rfl) rfl rfl rfl hs143 (fun w' hw' => op_indexAddr ha146 rfl Try.underlying23 ti41 rfl rfl (by omega) hi119) ?_
         intro a147 ha147; clear ha146 a146
         refine dr_val (i := 4) ha147 rfl (by kernel_rfl) (by kernel_rfl) (by kernel_rfl) rfl rfl rfl hs143 (fun w' hw' => op_loadH ha147 rfl Try.underlying41 rfl rfl (hc120.ext (hx142.trans' hw')) rfl) ?_
         intro a148 ha148; clear ha147 a147
         obtain ⟨x149, hx149⟩ := get_ex (xs := x116) (j := 0) (by omega)
         obtain ⟨p150, c151, hi152, hc153, hr154, hs155⟩ := Rds.at_ b124 hx149
         obtain ⟨rfl, b156⟩ := inv_shI64 hr154
         have hvbx149 := hrbx116.2 _ (List.mem_of_getElem? hx149)
         refine dr_val (i := 5) ha148 rfl (by kernel_rfl) (by kernel_rfl) (by kernel_rfl) rfl rfl rfl hs143 (fun w' hw' => op_indexAddr ha148 rfl Try.underlying41 ti2 rfl rfl (by omega) hi152) ?_
         intro a157 ha157; clear ha148 a148
         refine dr_val (i := 6) ha157 rfl (by kernel_rfl) (by kernel_rfl) (by kernel_rfl) rfl rfl rfl hs143 (fun w' hw' => op_loadH ha157 rfl Try.underlying2 rfl rfl (hc153.ext (hx142.trans' hw')) rfl) ?_
         intro a158 ha158; clear ha157 a157
         refine dr_val (i := 7) ha158 rfl (by kernel_rfl) (by kernel_rfl) (by kernel_rfl) rfl rfl rfl hs143 (fun w' hw' => op_fieldAddr (sz := 0) ha158 rfl Try.underlying28 rfl rfl ti23 rfl) ?_
         intro a159 ha159; clear ha158 a158
         refine dr_val (i := 8) ha159 rfl (by kernel_rfl) (by kernel_rfl) (by kernel_rfl) rfl rfl rfl hs143 (fun w' hw' => op_loadF (off := 1) ha159 rfl Try.underlying23 rfl rfl (hf128.ext hw').cells rfl) ?_
         intro a160 ha160; clear ha159 a159
         refine dr_val (i := 9) ha160 rfl (by kernel_rfl) (by kernel_rfl) (by kernel_rfl) rfl rfl rfl hs143 (fun w' hw' => op_move ha160 rfl rfl) ?_
         intro a161 ha161; clear ha160 a160
         obtain ⟨x162, hx162⟩ := get_ex (xs := b.2) (j := k) (by omega)
         obtain ⟨p163, c164, hi165, hc166, hr167, hs168⟩ := Rds.at_ h_b1 hx162
         obtain ⟨v169, rfl, b170⟩ := inv_shRow hr167
         have hlb170 := b170.length_le
         have hrbx162 := hrb _ (List.mem_of_getElem? hx162)
         refine dr_val (i := 10) ha161 rfl (by kernel_rfl) (by kernel_rfl) (by kernel_rfl) rfl rfl rfl hs143 (fun w' hw' => op_indexAddr ha161 rfl Try.underlying23 ti41 rfl rfl (by omega) hi165) ?_
         intro a171 ha171; clear ha161 a161
         refine dr_val (i := 11) ha171 rfl (by kernel_rfl) (by kernel_rfl) (by kernel_rfl) rfl rfl rfl hs143 (fun w' hw' => op_loadH ha171 rfl Try.underlying41 rfl rfl (hc166.ext (hx142.trans' hw')) rfl) ?_
         intro a172 ha172; clear ha171 a171
         obtain ⟨x173, hx173⟩ := get_ex (xs := x162) (j := 0) (by omega)
         obtain ⟨p174, c175, hi176, hc177, hr178, hs179⟩ := Rds.at_ b170 hx173
         obtain ⟨rfl, b180⟩ := inv_shI64 hr178
         have hvbx173 := hrbx162.2 _ (List.mem_of_getElem? hx173)
         refine dr_val (i := 12) ha172 rfl (by kernel_rfl) (by kernel_rfl) (by kernel_rfl) rfl rfl rfl hs143 (fun w' hw' => op_indexAddr ha172 rfl Try.underlying41 ti2 rfl rfl (by omega) hi176) ?_
         intro a181 ha181; clear ha172 a172
         refine dr_val (i := 13) ha181 rfl (by kernel_rfl) (by kernel_rfl) (by kernel_rfl) rfl rfl rfl hs143 (fun w' hw' => op_loadH ha181 rfl Try.underlying2 rfl rfl (hc177.ext (hx142.trans' hw')) rfl) ?_
         intro a182 ha182; clear ha181 a181
         refine dr_val (i := 14) ha182 rfl (by kernel_rfl) (by kernel_rfl) (by kernel_rfl) rfl rfl rfl hs143 (fun w' hw' => op_eql ha182 rfl rfl rfl) ?_
         intro a183 ha183; clear ha182 a182
         refine dr_end (by kernel_rfl) ?_
         replace hf127 := hf127.ext hs143
         replace hf128 := hf128.ext hs143
         replace hf129 := hf129.ext hs143
         replace hf130 := hf130.ext hs143
         replace hf131 := hf131.ext hs143
         refine then_n ?_
         by_cases c184 : x149 = x173
         ·
          rw [decide_eq_true c184] at ha183
          refine cond_t ha183 rfl ?_
          refine dr_enter (fun wa_ wb_ => Stp wa_ wb_ (Value.ownBlock v2)) follows_mixed ?_
          intro w185 he186
          have hx187 := hx142.trans' he186
          have hzhx187 := he186.size
          replace hf127 := hf127.ext he186
          replace hf128 := hf128.ext he186
          replace hf129 := hf129.ext he186
          replace hf130 := hf130.ext he186
          replace hf131 := hf131.ext he186
          have hs188 : Ext w185 w185 := Ext.rfl' _
          refine dr_val (i := 0) ha183 rfl (by kernel_rfl) (by kernel_rfl) (by kernel_rfl) rfl rfl rfl (Stp.of_ext hs188 _) (fun w' hw' => op_move ha183 rfl rfl) ?_
          intro a189 ha189; clear ha183 a183
          refine dr_val (i := 1) ha189 rfl (by kernel_rfl) (by kernel_rfl) (by kernel_rfl) rfl rfl rfl (Stp.of_ext hs188 _) (fun w' hw' => op_fieldAddr (sz := 0) ha189 rfl Try.underlying28 rfl rfl ti23 rfl) ?_
          intro a190 ha190; clear ha189 a189
          refine dr_val (i := 2) ha190 rfl (by kernel_rfl) (by kernel_rfl) (by kernel_rfl) rfl rfl rfl (Stp.of_ext hs188 _) (fun w' hw' => op_loadF (off := 1) ha190 rfl Try.underlying23 rfl rfl (hf127.stp hw' (by intro q hq; first | (have hq0 := hf130.lt q hq; omega) | (intro e; subst e; exact hf130.ne_box hf127 rfl hq))).cells rfl) ?_
          intro a191 ha191; clear ha190 a190
          refine dr_val (i := 3) ha191 rfl (by kernel_rfl) (by kernel_rfl) (by kernel_rfl) rfl rfl rfl (Stp.of_ext hs188 _) (fun w' hw' => op_move ha191 rfl rfl) ?_
          intro a192 ha192; clear ha191 a191
          refine dr_val (i := 4) ha192 rfl (by kernel_rfl) (by kernel_rfl) (by kernel_rfl) rfl rfl rfl (Stp.of_ext hs188 _) (fun w' hw' => op_indexAddr ha192 rfl Try.underlying23 ti41 rfl rfl (by omega) hi119) ?_
          intro a193 ha193; clear ha192 a192
          refine dr_val (i := 5) ha193 rfl (by kernel_rfl) (by kernel_rfl) (by kernel_rfl) rfl rfl rfl (Stp.of_ext hs188 _) (fun w' hw' => op_loadH ha193 rfl Try.underlying41 rfl rfl (hc120.ext (hx187.stp hw' (by intro q hq; have hq0 := hf130.lt q hq; omega))) rfl) ?_
          intro a194 ha194; clear ha193 a193
          refine dr_val (i := 7) ha194 rfl (by kernel_rfl) (by kernel_rfl) (by kernel_rfl) rfl rfl rfl (Stp.of_ext hs188 _) (fun w' hw' => op_fieldAddr (sz := 0) ha194 rfl Try.underlying28 rfl rfl ti23 rfl) ?_
          intro a195 ha195; clear ha194 a194
          refine dr_val (i := 8) ha195 rfl (by kernel_rfl) (by kernel_rfl) (by kernel_rfl) rfl rfl rfl (Stp.of_ext hs188 _) (fun w' hw' => op_loadF (off := 1) ha195 rfl Try.underlying23 rfl rfl (hf128.stp hw' (by intro q hq; first | (have hq0 := hf130.lt q hq; omega) | (intro e; subst e; exact hf130.ne_box hf128 rfl hq))).cells rfl) ?_
          intro a196 ha196; clear ha195 a195
          refine dr_val (i := 9) ha196 rfl (by kernel_rfl) (by kernel_rfl) (by kernel_rfl) rfl rfl rfl (Stp.of_ext hs188 _) (fun w' hw' => op_move ha196 rfl rfl) ?_
          intro a197 ha197; clear ha196 a196
          refine dr_val (i := 10) ha197 rfl (by kernel_rfl) (by kernel_rfl) (by kernel_rfl) rfl rfl rfl (Stp.of_ext hs188 _) (fun w' hw' => op_indexAddr ha197 rfl Try.underlying23 ti41 rfl rfl (by omega) hi165) ?_
          intro a198 ha198; clear ha197 a197
          refine dr_val (i := 11) ha198 rfl (by kernel_rfl) (by kernel_rfl) (by kernel_rfl) rfl rfl rfl (Stp.of_ext hs188 _) (fun w' hw' => op_loadH ha198 rfl Try.underlying41 rfl rfl (hc166.ext (hx187.stp hw' (by intro q hq; have hq0 := hf130.lt q hq; omega))) rfl) ?_
          intro a199 ha199; clear ha198 a198
          obtain ⟨u200, hu201, hr202⟩ := Rds.part b170 Try.underlying41 ti2 (some (.int .i64 (1 : Nat))) none 1 x162.length (.inr ⟨.i64, rfl⟩) (.inl ⟨rfl, rfl⟩) (by omega) (by omega)
          replace hr202 := hr202.cast (ys := x162.drop 1) (by first | rw [List.take_length] | simp)
          refine dr_val (i := 12) ha199 rfl (by kernel_rfl) (by kernel_rfl) (by kernel_rfl) rfl rfl rfl (Stp.of_ext hs188 _) (fun w' hw' => op_slice_f (by omega) ha199 rfl rfl rfl hu201) ?_
          intro a203 ha203; clear ha199 a199
          refine dr_one (i := 6) (by kernel_rfl) ?_
          refine po_callR ha203 rfl rfl rfl rfl (op_call ha203 rfl cb86 rfl) (c_spec_l01Own _ v123 x116 (b124.ext pos_shI64 (hx187.trans' hs188)) (by first | assumption | omega | (simp; omega))) ?_
          rintro v204 w205 he206 ho207 a208 ha208; clear ha203 a203
          have hs209 := hs188.trans' he206
          have hx210 := hx187.trans' he206
          have hzhx210 := he206.size
          refine ⟨(Stp.of_ext hs209 _), ?_⟩
          refine dr_one (i := 13) (by kernel_rfl) ?_
          refine po_eff ha208 rfl rfl rfl rfl (op_append (ts := #[]) (s := shI64) ha208 rfl Try.underlying41 ti2 rfl pos_shI64 rfl rfl ho207 (hr202.ext pos_shI64 (hx187.trans' hs209)) (by omega) (by omega) (by first | omega | (simp; omega) | (simp only [List.length_drop, List.length_append]; omega)) (by first | omega | (simp; omega) | (simp only [List.length_drop, List.length_append]; omega)) (.inl flat_shI64)) ?_
          rintro v211 w212 ⟨ho213, hst214, hob215⟩ a216 ha216; clear ha208 a208
          have hs217 := hs209.stp hst214 (by intro q hq; have hq0 := ho207.lt q hq; omega)
          have hx218 := hx210.stp hst214 (by intro q hq; have hq0 := ho207.lt q hq; omega)
          have hzhx218 := hst214.size
          refine ⟨(Stp.of_ext hs217 _), ?_⟩
          refine dr_one (i := 14) (by kernel_rfl) ?_
          refine po_eff ha216 rfl rfl rfl rfl (op_buildSlice (s := shRowN) (xs := [((((x116) ++ x162.drop 1) : List Int), (v211 : Value))]) (cs := [v211]) (vs := [(0, v211)]) (S := fun _ => False) (le := w212.heap.size) ha216 rfl pos_shRowN Try.underlying23 ti41 rfl rfl (by decide) ((fill_one (off := 0) ho213.cells1 (by kernel_rfl) (by kernel_rfl)).trans (by kernel_rfl)) (Els.single (mk_shRowN (((((x116) ++ x162.drop 1) : List Int), (v211 : Value))) ho213.one)) (fun _ h => h.elim)) ?_
          rintro v219 w220 ⟨ho221, he222, hob223⟩ a224 ha224; clear ha216 a216
          have hs225 := hs217.trans' he222
          have hx226 := hx218.trans' he222
          have hzhx226 := he222.size
          replace ho213 := ho213.ext he222
          refine ⟨(Stp.of_ext hs225 _), ?_⟩
          have hN227 : Nst shI64 2 (fun x : List Int => x) w185.heap.size w220.heap.size w220 ([((((x116) ++ x162.drop 1) : List Int), (v211 : Value))]) := Nst.one (ho213.fin (by omega) (by omega) (by omega))
          refine dr_one (i := 15) (by kernel_rfl) ?_
          replace hf127 := hf127.ext hs225
          replace hf128 := hf128.ext hs225
          replace hf129 := hf129.ext hs225
          replace hf130 := hf130.ext hs225
          replace hf131 := hf131.ext hs225
          refine po_eff ha224 rfl rfl rfl rfl (op_append (ts := #[]) (s := shRowN) ha224 rfl Try.underlying23 ti41 rfl pos_shRowN rfl rfl hf130 (ho221.rds pos_shRowN) (by omega) (by omega) (by first | omega | (simp; omega) | (simp only [List.length_drop, List.length_append]; omega)) (by first | omega | (simp; omega) | (simp only [List.length_drop, List.length_append]; omega)) (.inl flat_shRowN)) ?_
          rintro v228 w229 ⟨ho230, hst231, hob232⟩ a233 ha233; clear ha224 a224
          have hs234 := (Stp.of_ext hs225 (Value.ownBlock v2)).trans' hst231
          have hx235 := hx226.stp hst231 (by intro q hq; have hq0 := hf130.lt q hq; omega)
          have hzhx235 := hst231.size
          replace hf127 := hf127.stp hst231 (by intro q hq; have hq0 := hf130.lt q hq; omega)
          replace hf128 := hf128.stp hst231 (by intro q hq; have hq0 := hf130.lt q hq; omega)
          replace hf129 := hf129.stp hst231 (by intro q hq; have hq0 := hf130.lt q hq; omega)
          replace hf131 : Nst shI64 2 (fun x : List Int => x) w42.heap.size w125.heap.size w229 ys := by first | exact hf131.stpF flat_shI64 hst231 hf130 rfl | exact hf131.stp hst231 (by intro q hq; have hq0 := hf130.lt q hq; omega)
          replace ho213 := ho213.stp hst231 (by intro q hq; have hq0 := hf130.lt q hq; omega)
          replace ho221 := ho221.stp hst231 (by intro q hq; have hq0 := hf130.lt q hq; omega)
          replace hN227 := hN227.stp hst231 (by intro q hq; have hq0 := hf130.lt q hq; omega)
          have hsp236 : ∀ q, Value.ownBlock v228 = some q → Value.ownBlock v219 ≠ some q := by intro q hq hb; have hq0 := ho221.lt q hb; rcases hob232 with h | h; (rw [h] at hq; first | (have hq1 := hf130.lt q hq; omega)); (rw [h] at hq; cases hq; omega)
          have hN237 : Nst shI64 2 (fun x : List Int => x) w42.heap.size w229.heap.size w229 ((ys ++ [((((x116) ++ x162.drop 1) : List Int), (v211 : Value))])) := (hf131.app hN227 (by omega) (by omega) (by omega)).fin (by omega) (by omega)
          refine ⟨hs234, ?_⟩
          refine dr_val (i := 16) ha233 rfl (by kernel_rfl) (by kernel_rfl) (by kernel_rfl) rfl rfl rfl hs234 (fun w' hw' => op_assign ha233 rfl rfl) ?_
          intro a238 ha238; clear ha233 a233
          refine dr_end (by kernel_rfl) ?_
          refine block_n ?_
          refine then_n ?_
          refine wp_region_lit ?_
          refine wl_val ha238 rfl rfl rfl (op_move ha238 rfl rfl) ?_
          intro a239 ha239; clear ha238 a238
          refine wl_val ha239 rfl rfl rfl ((op_add ha239 rfl rfl rfl).int (IntWalk.i64_in _ (by omega))) ?_
          intro a240 ha240; clear ha239 a239
          refine wl_val ha240 rfl rfl rfl (op_assign ha240 rfl rfl) ?_
          intro a241 ha241; clear ha240 a240
          refine wpList_nil ?_
          refine round_end (x := (k, v2, ys)) ((k + 1), v228, (ys ++ [((((x116) ++ x162.drop 1) : List Int), (v211 : Value))])) ?_ ?_
          ·
           refine ⟨(Sl.cons_ ha241 rfl rfl (Sl.cons_ ha241 rfl rfl (Sl.cons_ ha241 rfl rfl (Sl.cons_ ha241 rfl rfl (Sl.cons_ ha241 rfl rfl (Sl.cons_ ha241 rfl (int_eq (by omega)) (Sl.nil_ ha241))))))), hx235, hf127, hf128, hf129, (ho230.fin (by omega) (by omega) (by omega)), (hN237.fin (by omega) (by omega)), (by omega), (by omega), (by first | omega | (simp; omega)), (by rw [drop_cons hx162, jnR1_t ((rowC_eq (c := 0) hx149).trans (c184.trans (rowC_eq (c := 0) hx173).symm))] at hF2; rw [List.map_append, List.append_assoc]; exact hF2), (by intro z hz; rcases List.mem_append.1 hz with hz | hz; (exact hS2 z hz); (obtain rfl := List.mem_singleton.1 hz; show (x116 ++ x162.drop 1).length ≤ 20; rw [List.length_append, List.length_drop]; omega))⟩
          ·show (b.2.length - ((k + 1)) : Nat) < b.2.length - k; omega
         ·
          rw [decide_eq_false c184] at ha183
          refine cond_f ha183 rfl ?_
          refine wp_skip ?_
          refine block_n ?_
          refine then_n ?_
          refine wp_region_lit ?_
          refine wl_val ha183 rfl rfl rfl (op_move ha183 rfl rfl) ?_
          intro a242 ha242; clear ha183 a183
          refine wl_val ha242 rfl rfl rfl ((op_add ha242 rfl rfl rfl).int (IntWalk.i64_in _ (by omega))) ?_
          intro a243 ha243; clear ha242 a242
          refine wl_val ha243 rfl rfl rfl (op_assign ha243 rfl rfl) ?_
          intro a244 ha244; clear ha243 a243
          refine wpList_nil ?_
          refine round_end (x := (k, v2, ys)) ((k + 1), v2, ys) ?_ ?_
          ·
           refine ⟨(Sl.cons_ ha244 rfl rfl (Sl.cons_ ha244 rfl rfl (Sl.cons_ ha244 rfl rfl (Sl.cons_ ha244 rfl rfl (Sl.cons_ ha244 rfl rfl (Sl.cons_ ha244 rfl (int_eq (by omega)) (Sl.nil_ ha244))))))), hx142, hf127, hf128, hf129, (hf130.fin (by omega) (by omega) (by omega)), (hf131.fin (by omega) (by omega)), (by omega), (by omega), (by first | omega | (simp; omega)), (by rw [drop_cons hx162, jnR1_f (fun e => c184 ((rowC_eq (c := 0) hx149).symm.trans (e.trans (rowC_eq (c := 0) hx173))))] at hF2; exact hF2), (by exact hS2)⟩
          ·show (b.2.length - ((k + 1)) : Nat) < b.2.length - k; omega
        ·
         rw [decide_eq_false c139] at ha138
         refine cond_f ha138 rfl ?_
         refine wp_exit ?_
         refine then_e ?_
         refine then_e ?_
         refine block_hit ?_
         refine block_n ?_
         refine then_n ?_
         refine wp_region_lit ?_
         refine wl_val ha138 rfl rfl rfl (op_move ha138 rfl rfl) ?_
         intro a245 ha245; clear ha138 a138
         refine wl_val ha245 rfl rfl rfl ((op_add ha245 rfl rfl rfl).int (IntWalk.i64_in _ (by omega))) ?_
         intro a246 ha246; clear ha245 a245
         refine wl_val ha246 rfl rfl rfl (op_assign ha246 rfl rfl) ?_
         intro a247 ha247; clear ha246 a246
         refine wpList_nil ?_
         refine round_end (x := (i, v, zs)) ((i + 1), v2, ys) ?_ ?_
         ·
          refine ⟨(Sl.cons_ ha247 rfl rfl (Sl.cons_ ha247 rfl rfl (Sl.cons_ ha247 rfl rfl (Sl.cons_ ha247 rfl rfl (Sl.cons_ ha247 rfl (int_eq (by omega)) (Sl.nil_ ha247)))))), hx126, hf127, hf128, hf129, (hf130.fin (by omega) (by omega) (by omega)), (hf131.fin (by omega) (by omega)), (by omega), (by omega), (by omega), (by rw [drop_nil (by omega), jnR1, List.nil_append] at hF2; exact hF2), (by exact hS2)⟩
         ·show (a.2.length - ((i + 1)) : Nat) < a.2.length - i; omega
      ·
       rw [decide_eq_false c114] at ha113
       refine cond_f ha113 rfl ?_
       refine wp_exit ?_
       refine then_e ?_
       refine then_e ?_
       refine block_hit ?_
       refine then_n ?_
       refine seq_mid (fun fr wl => ∃ (g248 : Nat) (q249 : Value) (q250 : Value) (q251 : List ((List Int) × Value)), Sl 96 fr [(4, .pointer (some (⟨w9.heap.size, 0, none⟩ : Addr))), (10, .pointer (some (⟨g248, 0, none⟩ : Addr)))] ∧ Ext w0 wl ∧ Box wl w9.heap.size 28 [.slice none 0 0, .slice none 0 0] ∧ Own shStr 9 w100.heap.size w100.heap.size wl.heap.size wl q249 (((((((a.1 ++ b.1.drop 1)), ((zs.map (·.1)))) : Tab)).1)) ∧ Own shRowN 41 w100.heap.size w100.heap.size wl.heap.size wl q250 q251 ∧ Nst shI64 2 (fun x : List Int => x) w100.heap.size wl.heap.size wl q251 ∧ Box wl g248 28 [q249, q250] ∧ q251.map (·.1) = ((((((a.1 ++ b.1.drop 1)), ((zs.map (·.1)))) : Tab)).2) ∧ w100.heap.size ≤ g248 ∧ w100.heap.size ≤ wl.heap.size) ?_ ?_
       ·
        refine dr_enter Ext follows_mixed ?_
        intro w260 he261
        have hx262 := hx101.trans' he261
        have hzhx262 := he261.size
        replace hf102 := hf102.ext he261
        replace hf103 := hf103.ext he261
        replace hf104 := hf104.ext he261
        replace hf105 := hf105.ext he261
        replace hf106 := hf106.ext he261
        have hs263 : Ext w260 w260 := Ext.rfl' _
        refine dr_val (i := 1) ha113 rfl (by kernel_rfl) (by kernel_rfl) (by kernel_rfl) rfl rfl rfl hs263 (fun w' hw' => op_fieldAddr (sz := 0) ha113 rfl Try.underlying28 rfl rfl ti22 rfl) ?_
        intro a264 ha264; clear ha113 a113
        refine dr_val (i := 2) ha264 rfl (by kernel_rfl) (by kernel_rfl) (by kernel_rfl) rfl rfl rfl hs263 (fun w' hw' => op_loadF (off := 0) ha264 rfl Try.underlying22 rfl rfl (hf102.ext hw').cells rfl) ?_
        intro a265 ha265; clear ha264 a264
        refine dr_val (i := 4) ha265 rfl (by kernel_rfl) (by kernel_rfl) (by kernel_rfl) rfl rfl rfl hs263 (fun w' hw' => op_fieldAddr (sz := 0) ha265 rfl Try.underlying28 rfl rfl ti22 rfl) ?_
        intro a266 ha266; clear ha265 a265
        refine dr_val (i := 5) ha266 rfl (by kernel_rfl) (by kernel_rfl) (by kernel_rfl) rfl rfl rfl hs263 (fun w' hw' => op_loadF (off := 0) ha266 rfl Try.underlying22 rfl rfl (hf103.ext hw').cells rfl) ?_
        intro a267 ha267; clear ha266 a266
        obtain ⟨u268, hu269, hr270⟩ := Rds.part h_b0 Try.underlying22 ti9 (some (.int .i64 (1 : Nat))) none 1 b.1.length (.inr ⟨.i64, rfl⟩) (.inl ⟨rfl, rfl⟩) (by omega) (by omega)
        replace hr270 := hr270.cast (ys := b.1.drop 1) (by first | rw [List.take_length] | simp)
        refine dr_val (i := 6) ha267 rfl (by kernel_rfl) (by kernel_rfl) (by kernel_rfl) rfl rfl rfl hs263 (fun w' hw' => op_slice_f (by omega) ha267 rfl rfl rfl hu269) ?_
        intro a271 ha271; clear ha267 a267
        refine dr_val (i := 8) ha271 rfl (by kernel_rfl) (by kernel_rfl) (by kernel_rfl) rfl rfl rfl hs263 (fun w' hw' => op_move ha271 rfl rfl) ?_
        intro a272 ha272; clear ha271 a271
        refine dr_two (i := 0) (j := 10) (by kernel_rfl) ?_ ?_
        ·
         refine po_eff ha272 rfl rfl rfl rfl (op_buildSlice (s := shStr) (xs := ([] : List Str)) (cs := []) (vs := []) (S := fun _ => False) (le := w260.heap.size) ha272 rfl pos_shStr Try.underlying22 ti9 rfl rfl (by decide) (by kernel_rfl) rfl (fun _ h => h.elim)) ?_
         rintro v273 w274 ⟨ho275, he276, hob277⟩ a278 ha278; clear ha272 a272
         have hs279 := hs263.trans' he276
         have hx280 := hx262.trans' he276
         have hzhx280 := he276.size
         refine ⟨hs279, ?_⟩
         refine dr_two (i := 3) (j := 10) (by kernel_rfl) ?_ ?_
         ·
          refine po_eff ha278 rfl rfl rfl rfl (op_append (ts := #[]) (s := shStr) ha278 rfl Try.underlying22 ti9 rfl pos_shStr rfl rfl ho275 (h_a0.ext pos_shStr (hx262.trans' hs279)) (by omega) (by omega) (by first | omega | (simp; omega) | (simp only [List.length_drop, List.length_append]; omega)) (by first | omega | (simp; omega) | (simp only [List.length_drop, List.length_append]; omega)) (.inl flat_shStr)) ?_
          rintro v281 w282 ⟨ho283, hst284, hob285⟩ a286 ha286; clear ha278 a278
          replace ho283 := ho283.cast (List.nil_append _)
          have hs287 := hs279.stp hst284 (by intro q hq; have hq0 := ho275.lt q hq; omega)
          have hx288 := hx280.stp hst284 (by intro q hq; have hq0 := ho275.lt q hq; omega)
          have hzhx288 := hst284.size
          refine ⟨hs287, ?_⟩
          refine dr_two (i := 7) (j := 10) (by kernel_rfl) ?_ ?_
          ·
           refine po_eff ha286 rfl rfl rfl rfl (op_append (ts := #[]) (s := shStr) ha286 rfl Try.underlying22 ti9 rfl pos_shStr rfl rfl ho283 (hr270.ext pos_shStr (hx262.trans' hs287)) (by omega) (by omega) (by first | omega | (simp; omega) | (simp only [List.length_drop, List.length_append]; omega)) (by first | omega | (simp; omega) | (simp only [List.length_drop, List.length_append]; omega)) (.inl flat_shStr)) ?_
           rintro v289 w290 ⟨ho291, hst292, hob293⟩ a294 ha294; clear ha286 a286
           have hs295 := hs287.stp hst292 (by intro q hq; have hq0 := ho283.lt q hq; omega)
           have hx296 := hx288.stp hst292 (by intro q hq; have hq0 := ho283.lt q hq; omega)
           have hzhx296 := hst292.size
           refine ⟨hs295, ?_⟩
           refine dr_two (i := 9) (j := 10) (by kernel_rfl) ?_ ?_
           ·
            refine po_callR ha294 rfl rfl rfl rfl (op_call ha294 rfl cb74 rfl) (c_spec_l31With _ v289 ((a.1 ++ b.1.drop 1)) v ((zs.map (·.1))) (ho291.rds pos_shStr) ((rds_shRowN (hf105.fin (by omega) (by omega) (by omega)) hf106).ext pos_shRow hs295) (by first | assumption | omega | (simp; omega)) (by first | assumption | omega | (simp; omega)) (by intro r hr9; obtain ⟨z, hz, rfl⟩ := List.mem_map.1 hr9; have h7 := hS _ hz; omega)) ?_
            rintro v297 w298 he299 ⟨u300, u302, z304, rfl, ho301, ho303, hN305, hE306⟩ a307 ha307; clear ha294 a294
            have hs308 := hs295.trans' he299
            have hx309 := hx296.trans' he299
            have hzhx309 := he299.size
            replace ho291 := ho291.ext he299
            refine ⟨hs308, ?_⟩
            have hlhE306 := absLen hE306
            refine dr_one (i := 10) (by kernel_rfl) ?_
            refine po_eff ha307 rfl rfl rfl rfl (op_alloc' rfl ti28 rfl) ?_
            rintro _ w310 ⟨rfl, he311, hb312, hz313⟩ a314 ha314; clear ha307 a307
            have hs315 := hs308.trans' he311
            have hx316 := hx309.trans' he311
            have hzhx316 := he311.size
            replace ho291 := ho291.ext he311
            replace ho301 := ho301.ext he311
            replace ho303 := ho303.ext he311
            replace hN305 := hN305.ext he311
            refine ⟨hs315, ?_⟩
            refine dr_one (i := 11) (by kernel_rfl) ?_
            refine po_effS ha314 rfl rfl rfl (op_storeAll' ha314 rfl ti28 rfl rfl hb312 rfl rfl (by intro u hu; have hu : u ∈ ([u300, u302] : List Value) := hu; simp only [List.mem_cons, List.mem_nil_iff, or_false] at hu; rcases hu with rfl | rfl <;> first | rfl | exact ho301.one | exact ho303.one) rfl) ?_
            rintro w317 ⟨hb319, hst318, hz320⟩
            have hx321 := hx316.stp hst318 (by intro q hq; cases hq; exact (by omega))
            have hzhx321 := hst318.size
            replace ho291 := ho291.stp hst318 (by intro q hq; cases hq; omega)
            replace ho301 := ho301.stp hst318 (by intro q hq; cases hq; omega)
            replace ho303 := ho303.stp hst318 (by intro q hq; cases hq; omega)
            replace hN305 := hN305.stp hst318 (by intro q hq; cases hq; omega)
            clear hb312
            have hs322 := hs315.stp hst318 (by intro q hq; cases hq; omega)
            refine ⟨hs322, ?_⟩
            refine dr_end (by kernel_rfl) ?_
            replace hf102 := hf102.ext hs322
            replace hf103 := hf103.ext hs322
            replace hf104 := hf104.ext hs322
            replace hf105 := hf105.ext hs322
            replace hf106 := hf106.ext hs322
            refine then_n ?_
            exact ⟨w298.heap.size, u300, u302, z304, (Sl.cons_ ha314 rfl rfl (Sl.cons_ ha314 rfl rfl (Sl.nil_ ha314))), hx321, hf104, (ho301.fin (by omega) (by omega) (by omega)), (ho303.fin (by omega) (by omega) (by omega)), (hN305.fin (by omega) (by omega)), hb319, hE306, (by omega), (by omega)⟩
           ·
            refine po_eff ha294 rfl rfl rfl rfl (op_alloc' rfl ti28 rfl) ?_
            rintro _ w323 ⟨rfl, he324, hb325, hz326⟩ a327 ha327; clear ha294 a294
            have hs328 := hs295.trans' he324
            have hx329 := hx296.trans' he324
            have hzhx329 := he324.size
            replace ho291 := ho291.ext he324
            refine ⟨hs328, ?_⟩
            refine dr_one (i := 9) (by kernel_rfl) ?_
            refine po_callR ha327 rfl rfl rfl rfl (op_call ha327 rfl cb74 rfl) (c_spec_l31With _ v289 ((a.1 ++ b.1.drop 1)) v ((zs.map (·.1))) (ho291.rds pos_shStr) ((rds_shRowN (hf105.fin (by omega) (by omega) (by omega)) hf106).ext pos_shRow hs328) (by first | assumption | omega | (simp; omega)) (by first | assumption | omega | (simp; omega)) (by intro r hr9; obtain ⟨z, hz, rfl⟩ := List.mem_map.1 hr9; have h7 := hS _ hz; omega)) ?_
            rintro v330 w331 he332 ⟨u333, u335, z337, rfl, ho334, ho336, hN338, hE339⟩ a340 ha340; clear ha327 a327
            have hs341 := hs328.trans' he332
            have hx342 := hx329.trans' he332
            have hzhx342 := he332.size
            replace ho291 := ho291.ext he332
            replace hb325 := hb325.ext he332
            refine ⟨hs341, ?_⟩
            have hlhE339 := absLen hE339
            refine dr_one (i := 11) (by kernel_rfl) ?_
            refine po_effS ha340 rfl rfl rfl (op_storeAll' ha340 rfl ti28 rfl rfl hb325 rfl rfl (by intro u hu; have hu : u ∈ ([u333, u335] : List Value) := hu; simp only [List.mem_cons, List.mem_nil_iff, or_false] at hu; rcases hu with rfl | rfl <;> first | rfl | exact ho334.one | exact ho336.one) rfl) ?_
            rintro w343 ⟨hb345, hst344, hz346⟩
            have hx347 := hx342.stp hst344 (by intro q hq; cases hq; exact (by omega))
            have hzhx347 := hst344.size
            replace ho291 := ho291.stp hst344 (by intro q hq; cases hq; omega)
            replace ho334 := ho334.stp hst344 (by intro q hq; cases hq; omega)
            replace ho336 := ho336.stp hst344 (by intro q hq; cases hq; omega)
            replace hN338 := hN338.stp hst344 (by intro q hq; cases hq; omega)
            clear hb325
            have hs348 := hs341.stp hst344 (by intro q hq; cases hq; omega)
            refine ⟨hs348, ?_⟩
            refine dr_end (by kernel_rfl) ?_
            replace hf102 := hf102.ext hs348
            replace hf103 := hf103.ext hs348
            replace hf104 := hf104.ext hs348
            replace hf105 := hf105.ext hs348
            replace hf106 := hf106.ext hs348
            refine then_n ?_
            exact ⟨w290.heap.size, u333, u335, z337, (Sl.cons_ ha340 rfl rfl (Sl.cons_ ha340 rfl rfl (Sl.nil_ ha340))), hx347, hf104, (ho334.fin (by omega) (by omega) (by omega)), (ho336.fin (by omega) (by omega) (by omega)), (hN338.fin (by omega) (by omega)), hb345, hE339, (by omega), (by omega)⟩
          ·
           refine po_eff ha286 rfl rfl rfl rfl (op_alloc' rfl ti28 rfl) ?_
           rintro _ w349 ⟨rfl, he350, hb351, hz352⟩ a353 ha353; clear ha286 a286
           have hs354 := hs287.trans' he350
           have hx355 := hx288.trans' he350
           have hzhx355 := he350.size
           replace ho283 := ho283.ext he350
           refine ⟨hs354, ?_⟩
           refine dr_one (i := 7) (by kernel_rfl) ?_
           refine po_eff ha353 rfl rfl rfl rfl (op_append (ts := #[]) (s := shStr) ha353 rfl Try.underlying22 ti9 rfl pos_shStr rfl rfl ho283 (hr270.ext pos_shStr (hx262.trans' hs354)) (by omega) (by omega) (by first | omega | (simp; omega) | (simp only [List.length_drop, List.length_append]; omega)) (by first | omega | (simp; omega) | (simp only [List.length_drop, List.length_append]; omega)) (.inl flat_shStr)) ?_
           rintro v356 w357 ⟨ho358, hst359, hob360⟩ a361 ha361; clear ha353 a353
           have hs362 := hs354.stp hst359 (by intro q hq; have hq0 := ho283.lt q hq; omega)
           have hx363 := hx355.stp hst359 (by intro q hq; have hq0 := ho283.lt q hq; omega)
           have hzhx363 := hst359.size
           replace hb351 := hb351.stp hst359 (by intro q hq; have hq0 := ho283.lt q hq; omega)
           refine ⟨hs362, ?_⟩
           refine dr_one (i := 9) (by kernel_rfl) ?_
           refine po_callR ha361 rfl rfl rfl rfl (op_call ha361 rfl cb74 rfl) (c_spec_l31With _ v356 ((a.1 ++ b.1.drop 1)) v ((zs.map (·.1))) (ho358.rds pos_shStr) ((rds_shRowN (hf105.fin (by omega) (by omega) (by omega)) hf106).ext pos_shRow hs362) (by first | assumption | omega | (simp; omega)) (by first | assumption | omega | (simp; omega)) (by intro r hr9; obtain ⟨z, hz, rfl⟩ := List.mem_map.1 hr9; have h7 := hS _ hz; omega)) ?_
           rintro v364 w365 he366 ⟨u367, u369, z371, rfl, ho368, ho370, hN372, hE373⟩ a374 ha374; clear ha361 a361
           have hs375 := hs362.trans' he366
           have hx376 := hx363.trans' he366
           have hzhx376 := he366.size
           replace hb351 := hb351.ext he366
           replace ho358 := ho358.ext he366
           refine ⟨hs375, ?_⟩
           have hlhE373 := absLen hE373
           refine dr_one (i := 11) (by kernel_rfl) ?_
           refine po_effS ha374 rfl rfl rfl (op_storeAll' ha374 rfl ti28 rfl rfl hb351 rfl rfl (by intro u hu; have hu : u ∈ ([u367, u369] : List Value) := hu; simp only [List.mem_cons, List.mem_nil_iff, or_false] at hu; rcases hu with rfl | rfl <;> first | rfl | exact ho368.one | exact ho370.one) rfl) ?_
           rintro w377 ⟨hb379, hst378, hz380⟩
           have hx381 := hx376.stp hst378 (by intro q hq; cases hq; exact (by omega))
           have hzhx381 := hst378.size
           replace ho358 : Own shStr 9 w260.heap.size w260.heap.size w357.heap.size w377 v356 ((a.1 ++ b.1.drop 1)) := by first | exact ho358.stp hst378 (by intro q hq; cases hq; omega) | exact ho358.stpF flat_shStr hst378 (by intro q hq; cases hq; exact ho358.ne_box (by assumption) rfl)
           replace ho368 := ho368.stp hst378 (by intro q hq; cases hq; omega)
           replace ho370 := ho370.stp hst378 (by intro q hq; cases hq; omega)
           replace hN372 := hN372.stp hst378 (by intro q hq; cases hq; omega)
           clear hb351
           have hs382 := hs375.stp hst378 (by intro q hq; cases hq; omega)
           refine ⟨hs382, ?_⟩
           refine dr_end (by kernel_rfl) ?_
           replace hf102 := hf102.ext hs382
           replace hf103 := hf103.ext hs382
           replace hf104 := hf104.ext hs382
           replace hf105 := hf105.ext hs382
           replace hf106 := hf106.ext hs382
           refine then_n ?_
           exact ⟨w282.heap.size, u367, u369, z371, (Sl.cons_ ha374 rfl rfl (Sl.cons_ ha374 rfl rfl (Sl.nil_ ha374))), hx381, hf104, (ho368.fin (by omega) (by omega) (by omega)), (ho370.fin (by omega) (by omega) (by omega)), (hN372.fin (by omega) (by omega)), hb379, hE373, (by omega), (by omega)⟩
         ·
          refine po_eff ha278 rfl rfl rfl rfl (op_alloc' rfl ti28 rfl) ?_
          rintro _ w383 ⟨rfl, he384, hb385, hz386⟩ a387 ha387; clear ha278 a278
          have hs388 := hs279.trans' he384
          have hx389 := hx280.trans' he384
          have hzhx389 := he384.size
          replace ho275 := ho275.ext he384
          refine ⟨hs388, ?_⟩
          refine dr_one (i := 3) (by kernel_rfl) ?_
          refine po_eff ha387 rfl rfl rfl rfl (op_append (ts := #[]) (s := shStr) ha387 rfl Try.underlying22 ti9 rfl pos_shStr rfl rfl ho275 (h_a0.ext pos_shStr (hx262.trans' hs388)) (by omega) (by omega) (by first | omega | (simp; omega) | (simp only [List.length_drop, List.length_append]; omega)) (by first | omega | (simp; omega) | (simp only [List.length_drop, List.length_append]; omega)) (.inl flat_shStr)) ?_
          rintro v390 w391 ⟨ho392, hst393, hob394⟩ a395 ha395; clear ha387 a387
          replace ho392 := ho392.cast (List.nil_append _)
          have hs396 := hs388.stp hst393 (by intro q hq; have hq0 := ho275.lt q hq; omega)
          have hx397 := hx389.stp hst393 (by intro q hq; have hq0 := ho275.lt q hq; omega)
          have hzhx397 := hst393.size
          replace hb385 := hb385.stp hst393 (by intro q hq; have hq0 := ho275.lt q hq; omega)
          refine ⟨hs396, ?_⟩
          refine dr_one (i := 7) (by kernel_rfl) ?_
          refine po_eff ha395 rfl rfl rfl rfl (op_append (ts := #[]) (s := shStr) ha395 rfl Try.underlying22 ti9 rfl pos_shStr rfl rfl ho392 (hr270.ext pos_shStr (hx262.trans' hs396)) (by omega) (by omega) (by first | omega | (simp; omega) | (simp only [List.length_drop, List.length_append]; omega)) (by first | omega | (simp; omega) | (simp only [List.length_drop, List.length_append]; omega)) (.inl flat_shStr)) ?_
          rintro v398 w399 ⟨ho400, hst401, hob402⟩ a403 ha403; clear ha395 a395
          have hs404 := hs396.stp hst401 (by intro q hq; have hq0 := ho392.lt q hq; omega)
          have hx405 := hx397.stp hst401 (by intro q hq; have hq0 := ho392.lt q hq; omega)
          have hzhx405 := hst401.size
          replace hb385 : Box w399 w274.heap.size 28 [.slice none 0 0, .slice none 0 0] := by first | exact hb385.stp hst401 (by intro q hq; have hq0 := ho392.lt q hq; omega) | exact hb385.stp hst401 (by intro q hq e; subst e; exact ho392.ne_box hb385 rfl hq)
          refine ⟨hs404, ?_⟩
          refine dr_one (i := 9) (by kernel_rfl) ?_
          refine po_callR ha403 rfl rfl rfl rfl (op_call ha403 rfl cb74 rfl) (c_spec_l31With _ v398 ((a.1 ++ b.1.drop 1)) v ((zs.map (·.1))) (ho400.rds pos_shStr) ((rds_shRowN (hf105.fin (by omega) (by omega) (by omega)) hf106).ext pos_shRow hs404) (by first | assumption | omega | (simp; omega)) (by first | assumption | omega | (simp; omega)) (by intro r hr9; obtain ⟨z, hz, rfl⟩ := List.mem_map.1 hr9; have h7 := hS _ hz; omega)) ?_
          rintro v406 w407 he408 ⟨u409, u411, z413, rfl, ho410, ho412, hN414, hE415⟩ a416 ha416; clear ha403 a403
          have hs417 := hs404.trans' he408
          have hx418 := hx405.trans' he408
          have hzhx418 := he408.size
          replace hb385 := hb385.ext he408
          replace ho400 := ho400.ext he408
          refine ⟨hs417, ?_⟩
          have hlhE415 := absLen hE415
          refine dr_one (i := 11) (by kernel_rfl) ?_
          refine po_effS ha416 rfl rfl rfl (op_storeAll' ha416 rfl ti28 rfl rfl hb385 rfl rfl (by intro u hu; have hu : u ∈ ([u409, u411] : List Value) := hu; simp only [List.mem_cons, List.mem_nil_iff, or_false] at hu; rcases hu with rfl | rfl <;> first | rfl | exact ho410.one | exact ho412.one) rfl) ?_
          rintro w419 ⟨hb421, hst420, hz422⟩
          have hx423 := hx418.stp hst420 (by intro q hq; cases hq; exact (by omega))
          have hzhx423 := hst420.size
          replace ho400 : Own shStr 9 w260.heap.size w260.heap.size w399.heap.size w419 v398 ((a.1 ++ b.1.drop 1)) := by first | exact ho400.stp hst420 (by intro q hq; cases hq; omega) | exact ho400.stpF flat_shStr hst420 (by intro q hq; cases hq; exact ho400.ne_box (by assumption) rfl)
          replace ho410 := ho410.stp hst420 (by intro q hq; cases hq; omega)
          replace ho412 := ho412.stp hst420 (by intro q hq; cases hq; omega)
          replace hN414 := hN414.stp hst420 (by intro q hq; cases hq; omega)
          clear hb385
          have hs424 := hs417.stp hst420 (by intro q hq; cases hq; omega)
          refine ⟨hs424, ?_⟩
          refine dr_end (by kernel_rfl) ?_
          replace hf102 := hf102.ext hs424
          replace hf103 := hf103.ext hs424
          replace hf104 := hf104.ext hs424
          replace hf105 := hf105.ext hs424
          replace hf106 := hf106.ext hs424
          refine then_n ?_
          exact ⟨w274.heap.size, u409, u411, z413, (Sl.cons_ ha416 rfl rfl (Sl.cons_ ha416 rfl rfl (Sl.nil_ ha416))), hx423, hf104, (ho410.fin (by omega) (by omega) (by omega)), (ho412.fin (by omega) (by omega) (by omega)), (hN414.fin (by omega) (by omega)), hb421, hE415, (by omega), (by omega)⟩
        ·
         refine po_eff ha272 rfl rfl rfl rfl (op_alloc' rfl ti28 rfl) ?_
         rintro _ w425 ⟨rfl, he426, hb427, hz428⟩ a429 ha429; clear ha272 a272
         have hs430 := hs263.trans' he426
         have hx431 := hx262.trans' he426
         have hzhx431 := he426.size
         refine ⟨hs430, ?_⟩
         refine dr_one (i := 0) (by kernel_rfl) ?_
         refine po_eff ha429 rfl rfl rfl rfl (op_buildSlice (s := shStr) (xs := ([] : List Str)) (cs := []) (vs := []) (S := fun _ => False) (le := w425.heap.size) ha429 rfl pos_shStr Try.underlying22 ti9 rfl rfl (by decide) (by kernel_rfl) rfl (fun _ h => h.elim)) ?_
         rintro v432 w433 ⟨ho434, he435, hob436⟩ a437 ha437; clear ha429 a429
         have hs438 := hs430.trans' he435
         have hx439 := hx431.trans' he435
         have hzhx439 := he435.size
         replace hb427 := hb427.ext he435
         refine ⟨hs438, ?_⟩
         refine dr_one (i := 3) (by kernel_rfl) ?_
         refine po_eff ha437 rfl rfl rfl rfl (op_append (ts := #[]) (s := shStr) ha437 rfl Try.underlying22 ti9 rfl pos_shStr rfl rfl ho434 (h_a0.ext pos_shStr (hx262.trans' hs438)) (by omega) (by omega) (by first | omega | (simp; omega) | (simp only [List.length_drop, List.length_append]; omega)) (by first | omega | (simp; omega) | (simp only [List.length_drop, List.length_append]; omega)) (.inl flat_shStr)) ?_
         rintro v440 w441 ⟨ho442, hst443, hob444⟩ a445 ha445; clear ha437 a437
         replace ho442 := ho442.cast (List.nil_append _)
         have hs446 := hs438.stp hst443 (by intro q hq; have hq0 := ho434.lt q hq; omega)
         have hx447 := hx439.stp hst443 (by intro q hq; have hq0 := ho434.lt q hq; omega)
         have hzhx447 := hst443.size
         replace hb427 := hb427.stp hst443 (by intro q hq; have hq0 := ho434.lt q hq; omega)
         refine ⟨hs446, ?_⟩
         refine dr_one (i := 7) (by kernel_rfl) ?_
         refine po_eff ha445 rfl rfl rfl rfl (op_append (ts := #[]) (s := shStr) ha445 rfl Try.underlying22 ti9 rfl pos_shStr rfl rfl ho442 (hr270.ext pos_shStr (hx262.trans' hs446)) (by omega) (by omega) (by first | omega | (simp; omega) | (simp only [List.length_drop, List.length_append]; omega)) (by first | omega | (simp; omega) | (simp only [List.length_drop, List.length_append]; omega)) (.inl flat_shStr)) ?_
         rintro v448 w449 ⟨ho450, hst451, hob452⟩ a453 ha453; clear ha445 a445
         have hs454 := hs446.stp hst451 (by intro q hq; have hq0 := ho442.lt q hq; omega)
         have hx455 := hx447.stp hst451 (by intro q hq; have hq0 := ho442.lt q hq; omega)
         have hzhx455 := hst451.size
         replace hb427 := hb427.stp hst451 (by intro q hq; have hq0 := ho442.lt q hq; omega)
         refine ⟨hs454, ?_⟩
         refine dr_one (i := 9) (by kernel_rfl) ?_
         refine po_callR ha453 rfl rfl rfl rfl (op_call ha453 rfl cb74 rfl) (c_spec_l31With _ v448 ((a.1 ++ b.1.drop 1)) v ((zs.map (·.1))) (ho450.rds pos_shStr) ((rds_shRowN (hf105.fin (by omega) (by omega) (by omega)) hf106).ext pos_shRow hs454) (by first | assumption | omega | (simp; omega)) (by first | assumption | omega | (simp; omega)) (by intro r hr9; obtain ⟨z, hz, rfl⟩ := List.mem_map.1 hr9; have h7 := hS _ hz; omega)) ?_
         rintro v456 w457 he458 ⟨u459, u461, z463, rfl, ho460, ho462, hN464, hE465⟩ a466 ha466; clear ha453 a453
         have hs467 := hs454.trans' he458
         have hx468 := hx455.trans' he458
         have hzhx468 := he458.size
         replace hb427 := hb427.ext he458
         replace ho450 := ho450.ext he458
         refine ⟨hs467, ?_⟩
         have hlhE465 := absLen hE465
         refine dr_one (i := 11) (by kernel_rfl) ?_
         refine po_effS ha466 rfl rfl rfl (op_storeAll' ha466 rfl ti28 rfl rfl hb427 rfl rfl (by intro u hu; have hu : u ∈ ([u459, u461] : List Value) := hu; simp only [List.mem_cons, List.mem_nil_iff, or_false] at hu; rcases hu with rfl | rfl <;> first | rfl | exact ho460.one | exact ho462.one) rfl) ?_
         rintro w469 ⟨hb471, hst470, hz472⟩
         have hx473 := hx468.stp hst470 (by intro q hq; cases hq; exact (by omega))
         have hzhx473 := hst470.size
         replace ho450 := ho450.stp hst470 (by intro q hq; cases hq; omega)
         replace ho460 := ho460.stp hst470 (by intro q hq; cases hq; omega)
         replace ho462 := ho462.stp hst470 (by intro q hq; cases hq; omega)
         replace hN464 := hN464.stp hst470 (by intro q hq; cases hq; omega)
         clear hb427
         have hs474 := hs467.stp hst470 (by intro q hq; cases hq; omega)
         refine ⟨hs474, ?_⟩
         refine dr_end (by kernel_rfl) ?_
         replace hf102 := hf102.ext hs474
         replace hf103 := hf103.ext hs474
         replace hf104 := hf104.ext hs474
         replace hf105 := hf105.ext hs474
         replace hf106 := hf106.ext hs474
         refine then_n ?_
         exact ⟨w260.heap.size, u459, u461, z463, (Sl.cons_ ha466 rfl rfl (Sl.cons_ ha466 rfl rfl (Sl.nil_ ha466))), hx473, hf104, (ho460.fin (by omega) (by omega) (by omega)), (ho462.fin (by omega) (by omega) (by omega)), (hN464.fin (by omega) (by omega)), hb471, hE465, (by omega), (by omega)⟩
       ·
        clear ha113 a113
        rintro a475 w252 ⟨g248, q249, q250, q251, ha475, hx253, hf254, hf256, hf257, hf259, hf255, hE258, hg477, hzl476⟩
        have hzhx253 := hx253.size
        have hgl478 := hf255.lt
        refine wp_seq ?_
        refine wp_seq ?_
        refine wp_region_lit ?_
        refine wl_val ha475 rfl rfl rfl (op_loadS ha475 rfl Try.underlying28 ti28 rfl rfl hf255.cells) ?_
        intro a479 ha479; clear ha475 a475
        refine wl_callR ha479 rfl rfl rfl (op_call ha479 rfl cb17 rfl) (c_spec_IsTable _ q249 q250 ((((((a.1 ++ b.1.drop 1)), ((zs.map (·.1)))) : Tab))) (hf256.rds pos_shStr) ((rds_shRowN (hf257.fin (by omega) (by omega) (by omega)) hf259).cast hE258)) ?_
        rintro v480 w481 he482 rfl a483 ha483; clear ha479 a479
        have hx484 := hx253.trans' he482
        have hzhx484 := he482.size
        replace hf254 := hf254.ext he482
        replace hf256 := hf256.ext he482
        replace hf257 := hf257.ext he482
        replace hf259 := hf259.ext he482
        replace hf255 := hf255.ext he482
        refine wl_val ha483 rfl rfl rfl (op_not ha483 rfl rfl) ?_
        intro a485 ha485; clear ha483 a483
        refine wpList_nil ?_
        refine then_n ?_
        rcases Bool.eq_false_or_eq_true (tabB ((((((a.1 ++ b.1.drop 1)), ((zs.map (·.1)))) : Tab)))) with c486 | c486
        ·
         rw [c486] at ha485
         refine cond_f ha485 rfl ?_
         refine wp_skip ?_
         refine then_n ?_
         refine wp_seq ?_
         refine wp_region_lit ?_
         refine wl_val ha485 rfl rfl rfl (op_loadS ha485 rfl Try.underlying28 ti28 rfl rfl hf255.cells) ?_
         intro a487 ha487; clear ha485 a485
         refine wl_effS ha487 rfl rfl (op_storeAll' ha487 rfl ti28 rfl rfl hf254 rfl rfl (by intro u hu; have hu : u ∈ ([q249, q250] : List Value) := hu; simp only [List.mem_cons, List.mem_nil_iff, or_false] at hu; rcases hu with rfl | rfl <;> first | rfl | exact hf256.one | exact hf257.one) rfl) ?_
         rintro w488 ⟨hb490, hst489, hz491⟩
         have hx492 := hx484.stp hst489 (by intro q hq; cases hq; exact (by omega))
         have hzhx492 := hst489.size
         replace hf256 := hf256.stp hst489 (by intro q hq; cases hq; omega)
         replace hf257 := hf257.stp hst489 (by intro q hq; cases hq; omega)
         replace hf259 := hf259.stp hst489 (by intro q hq; cases hq; omega)
         replace hf255 := hf255.stp hst489 (by intro q hq; cases hq; omega)
         clear hf254
         refine wl_val ha487 rfl rfl rfl (op_assign ha487 rfl rfl) ?_
         intro a493 ha493; clear ha487 a487
         refine wpList_nil ?_
         refine then_n ?_
         refine wp_ret ?_
         refine retct ha493 rfl rfl rfl Try.underlying28 ti28 rfl hb490.cells ?_
         clear ha493 a493
         have hF9 : zs.map (·.1) = jnR b.2 a.2 := (by rw [drop_nil (by omega), jnR, List.append_nil] at hF; exact hF)
         rw [hF9] at c486
         have hr : cdJ a b = _ := (cdJ_e c31 c40 hfr).trans (if_pos c486)
         refine ret_mk hx492 ⟨q249, q250, q251, (tup2_eq (by rfl) (int_eq (by first | exact hr.symm | omega))), ?_, hf257.fin (by omega) (by omega) (by omega), hf259.fin (by omega) (by omega), ?_⟩
         ·
          refine (hf256.fin (by omega) (by omega) (by omega)).cast ?_
          rw [jcT_ok hr]; rfl
         ·
          rw [jcT_ok hr]; exact (hE258).trans hF9
        ·
         rw [c486] at ha485
         refine cond_t ha485 rfl ?_
         refine wp_seq ?_
         refine wp_region_lit ?_
         refine wl_val ha485 rfl rfl rfl (op_build (vs := []) (cs := #[.slice none 0 0, .slice none 0 0]) ha485 rfl Try.underlying28 ti28 bp28 rfl rfl) ?_
         intro a494 ha494; clear ha485 a485
         refine wl_effS ha494 rfl rfl (op_storeAll' ha494 rfl ti28 rfl rfl hf254 rfl rfl (by simp [Value.oneCell']) rfl) ?_
         rintro w495 ⟨hb497, hst496, hz498⟩
         have hx499 := hx484.stp hst496 (by intro q hq; cases hq; exact (by omega))
         have hzhx499 := hst496.size
         replace hf256 := hf256.stp hst496 (by intro q hq; cases hq; omega)
         replace hf257 := hf257.stp hst496 (by intro q hq; cases hq; omega)
         replace hf259 := hf259.stp hst496 (by intro q hq; cases hq; omega)
         replace hf255 := hf255.stp hst496 (by intro q hq; cases hq; omega)
         clear hf254
         refine wl_val ha494 rfl rfl rfl (op_assign ha494 rfl rfl) ?_
         intro a500 ha500; clear ha494 a494
         refine wpList_nil ?_
         refine then_n ?_
         refine wp_ret ?_
         refine then_r ?_
         refine retct ha500 rfl rfl rfl Try.underlying28 ti28 rfl hb497.cells ?_
         clear ha500 a500
         have hF9 : zs.map (·.1) = jnR b.2 a.2 := (by rw [drop_nil (by omega), jnR, List.append_nil] at hF; exact hF)
         rw [hF9] at c486
         have hr : cdJ a b = _ := (cdJ_e c31 c40 hfr).trans (if_neg (by show ¬ tabB (a.1 ++ b.1.drop 1, jnR b.2 a.2) = true; rw [c486]; decide))
         refine ret_mk hx499 ⟨(.slice none 0 0), (.slice none 0 0), [], (tup2_eq (by rfl) (int_eq (by first | exact hr.symm | omega))), ?_, Own.nil _ _ _ _ _ _, Nst.nil _ _ _ _ _ _, ?_⟩
         ·
          refine Own.nil_ _ _ _ _ _ _ ?_
          rw [jcT_no (by rw [hr]; first | decide | assumption)]
         ·
          rw [jcT_no (by rw [hr]; first | decide | assumption)]; rfl
  ·
   rw [c40] at ha39
   refine cond_t ha39 rfl ?_
   refine wp_seq ?_
   refine wp_region_lit ?_
   refine wl_val ha39 rfl rfl rfl (op_build (vs := []) (cs := #[.slice none 0 0, .slice none 0 0]) ha39 rfl Try.underlying28 ti28 bp28 rfl rfl) ?_
   intro a501 ha501; clear ha39 a39
   refine wl_effS ha501 rfl rfl (op_storeAll' ha501 rfl ti28 rfl rfl hb18 rfl rfl (by simp [Value.oneCell']) rfl) ?_
   rintro w502 ⟨hb504, hst503, hz505⟩
   have hx506 := hx37.stp hst503 (by intro q hq; cases hq; exact (by omega))
   have hzhx506 := hst503.size
   replace hb4 := hb4.stp hst503 (by intro q hq; cases hq; omega)
   replace hb11 := hb11.stp hst503 (by intro q hq; cases hq; omega)
   clear hb18
   refine wl_val ha501 rfl rfl rfl (op_assign ha501 rfl rfl) ?_
   intro a507 ha507; clear ha501 a501
   refine wpList_nil ?_
   refine then_n ?_
   refine wp_ret ?_
   refine then_r ?_
   refine retct ha507 rfl rfl rfl Try.underlying28 ti28 rfl hb504.cells ?_
   clear ha507 a507
   have hr : cdJ a b = _ := cdJ_1 (.inr c40)
   refine ret_mk hx506 ⟨(.slice none 0 0), (.slice none 0 0), [], (tup2_eq (by rfl) (int_eq (by first | exact hr.symm | omega))), ?_, Own.nil _ _ _ _ _ _, Nst.nil _ _ _ _ _ _, ?_⟩
   ·
    refine Own.nil_ _ _ _ _ _ _ ?_
    rw [jcT_no (by rw [hr]; first | decide | assumption)]
   ·
    rw [jcT_no (by rw [hr]; first | decide | assumption)]; rfl
 ·
  rw [c31] at ha30
  refine wl_skip ha30 rfl rfl rfl ?_
  intro a508 ha508; clear ha30 a30
  refine wl_skip ha508 rfl rfl rfl ?_
  intro a509 ha509; clear ha508 a508
  refine wl_skip ha509 rfl rfl rfl ?_
  intro a510 ha510; clear ha509 a509
  refine wl_val ha510 rfl rfl rfl (op_pick_t ha510 rfl rfl rfl) ?_
  intro a511 ha511; clear ha510 a510
  refine wpList_nil ?_
  refine then_n ?_
  refine cond_t ha511 rfl ?_
  refine wp_seq ?_
  refine wp_region_lit ?_
  refine wl_val ha511 rfl rfl rfl (op_build (vs := []) (cs := #[.slice none 0 0, .slice none 0 0]) ha511 rfl Try.underlying28 ti28 bp28 rfl rfl) ?_
  intro a512 ha512; clear ha511 a511
  refine wl_effS ha512 rfl rfl (op_storeAll' ha512 rfl ti28 rfl rfl hb18 rfl rfl (by simp [Value.oneCell']) rfl) ?_
  rintro w513 ⟨hb515, hst514, hz516⟩
  have hx517 := hx28.stp hst514 (by intro q hq; cases hq; exact (by omega))
  have hzhx517 := hst514.size
  replace hb4 := hb4.stp hst514 (by intro q hq; cases hq; omega)
  replace hb11 := hb11.stp hst514 (by intro q hq; cases hq; omega)
  clear hb18
  refine wl_val ha512 rfl rfl rfl (op_assign ha512 rfl rfl) ?_
  intro a518 ha518; clear ha512 a512
  refine wpList_nil ?_
  refine then_n ?_
  refine wp_ret ?_
  refine then_r ?_
  refine retct ha518 rfl rfl rfl Try.underlying28 ti28 rfl hb515.cells ?_
  clear ha518 a518
  have hr : cdJ a b = _ := cdJ_1 (.inl c31)
  refine ret_mk hx517 ⟨(.slice none 0 0), (.slice none 0 0), [], (tup2_eq (by rfl) (int_eq (by first | exact hr.symm | omega))), ?_, Own.nil _ _ _ _ _ _, Nst.nil _ _ _ _ _ _, ?_⟩
  ·
   refine Own.nil_ _ _ _ _ _ _ ?_
   rw [jcT_no (by rw [hr]; first | decide | assumption)]
  ·
   rw [jcT_no (by rw [hr]; first | decide | assumption)]; rfl

set_option maxHeartbeats 4000000 in
theorem c_impl_JoinTables (w0 : World) (v_a0 : Value) (v_a1 : Value) (a : List Str × List (List Int)) {S_a0 : Nat → Prop} {S_a1 : Nat → Prop} (v_b0 : Value) (v_b1 : Value) (b : List Str × List (List Int)) {S_b0 : Nat → Prop} {S_b1 : Nat → Prop} (h_a0 : Rds shStr S_a0 w0 v_a0 a.1) (h_a1 : Rds shRow S_a1 w0 v_a1 a.2) (h_b0 : Rds shStr S_b0 w0 v_b0 b.1) (h_b1 : Rds shRow S_b1 w0 v_b1 b.2) :
  Calls Try.prog 42 #[.agg #[v_a0, v_a1], .agg #[v_b0, v_b1]] w0 (Ret w0 (fun v w1 => ∃ r0_0 r0_1 z0_1, v = .tuple #[.agg #[r0_0, r0_1], .int .i64 (cdJ a b)] ∧ Own shStr 9 w0.heap.size w0.heap.size w1.heap.size w1 r0_0 ((jcT a b).1) ∧ Own shRowN 41 w0.heap.size w0.heap.size w1.heap.size w1 r0_1 z0_1 ∧ Nst shI64 2 (fun x : List Int => x) w0.heap.size w1.heap.size w1 z0_1 ∧ z0_1.map (·.1) = ((jcT a b).2))) := by
 refine enter (N := 86) Try.func42 rfl rfl rfl ?_
 intro a0 ha0
 have hx0 := Ext.rfl' w0
 have hl_a0 := h_a0.length_le
 have hl_a1 := h_a1.length_le
 have hl_b0 := h_b0.length_le
 have hl_b1 := h_b1.length_le
 have hJl : (a.1 ++ b.1.drop 1).length = a.1.length + (b.1.length - 1) := by simp
 refine wp_seq ?_
 refine wp_region_lit ?_
 refine wl_eff ha0 rfl rfl rfl (op_box' ha0 rfl rfl rfl) ?_
 rintro _ w2 ⟨rfl, he3, hb4, hz5⟩ a6 ha6; clear ha0 a0
 have hx7 := hx0.trans' he3
 have hzhx7 := he3.size
 refine wl_eff ha6 rfl rfl rfl (op_box' ha6 rfl rfl rfl) ?_
 rintro _ w9 ⟨rfl, he10, hb11, hz12⟩ a13 ha13; clear ha6 a6
 have hx14 := hx7.trans' he10
 have hzhx14 := he10.size
 replace hb4 := hb4.ext he10
 refine wl_eff ha13 rfl rfl rfl (op_alloc' rfl ti28 rfl) ?_
 rintro _ w16 ⟨rfl, he17, hb18, hz19⟩ a20 ha20; clear ha13 a13
 have hx21 := hx14.trans' he17
 have hzhx21 := he17.size
 replace hb4 := hb4.ext he17
 replace hb11 := hb11.ext he17
 refine wl_val ha20 rfl rfl rfl (op_assign ha20 rfl rfl) ?_
 intro a22 ha22; clear ha20 a20
 refine wpList_nil ?_
 refine then_n ?_
 refine wp_seq ?_
 refine wp_seq ?_
 refine wp_region_lit ?_
 refine wl_val ha22 rfl rfl rfl (op_loadS ha22 rfl Try.underlying28 ti28 rfl rfl hb4.cells) ?_
 intro a23 ha23; clear ha22 a22
 refine wl_callR ha23 rfl rfl rfl (op_call ha23 rfl cb19 rfl) (c_impl_IsTable _ v_a0 v_a1 a (h_a0.ext pos_shStr hx21) (h_a1.ext pos_shRow hx21)) ?_
 rintro v24 w25 he26 rfl a27 ha27; clear ha23 a23
 have hx28 := hx21.trans' he26
 have hzhx28 := he26.size
 replace hb4 := hb4.ext he26
 replace hb11 := hb11.ext he26
 replace hb18 := hb18.ext he26
 refine wl_val ha27 rfl rfl rfl (op_not ha27 rfl rfl) ?_
 intro a29 ha29; clear ha27 a27
 refine wl_val ha29 rfl rfl rfl (op_move ha29 rfl rfl) ?_
 intro a30 ha30; clear ha29 a29
 rcases Bool.eq_false_or_eq_true (tabB a) with c31 | c31
 ·
  rw [c31] at ha30
  have hta := tab_bd c31
  have hra := tab_rows c31
  have hwa := tab_heads c31
  refine wl_val ha30 rfl rfl rfl (op_loadS ha30 rfl Try.underlying28 ti28 rfl rfl hb11.cells) ?_
  intro a32 ha32; clear ha30 a30
  refine wl_callR ha32 rfl rfl rfl (op_call ha32 rfl cb19 rfl) (c_impl_IsTable _ v_b0 v_b1 b (h_b0.ext pos_shStr hx28) (h_b1.ext pos_shRow hx28)) ?_
  rintro v33 w34 he35 rfl a36 ha36; clear ha32 a32
  have hx37 := hx28.trans' he35
  have hzhx37 := he35.size
  replace hb4 := hb4.ext he35
  replace hb11 := hb11.ext he35
  replace hb18 := hb18.ext he35
  refine wl_val ha36 rfl rfl rfl (op_not ha36 rfl rfl) ?_
  intro a38 ha38; clear ha36 a36
  refine wl_val ha38 rfl rfl rfl (op_pick_f ha38 rfl rfl rfl) ?_
  intro a39 ha39; clear ha38 a38
  refine wpList_nil ?_
  refine then_n ?_
  rcases Bool.eq_false_or_eq_true (tabB b) with c40 | c40
  ·
   rw [c40] at ha39
   have htb := tab_bd c40
   have hrb := tab_rows c40
   have hwb := tab_heads c40
   refine cond_f ha39 rfl ?_
   refine wp_skip ?_
   refine then_n ?_
   refine seq_mid (fun fr wl => ∃ (g41 : Nat) (q42 : Value), Sl 86 fr [(2, .pointer (some (⟨w0.heap.size, 0, none⟩ : Addr))), (3, .pointer (some (⟨w2.heap.size, 0, none⟩ : Addr))), (4, .pointer (some (⟨w9.heap.size, 0, none⟩ : Addr))), (6, .pointer (some (⟨g41, 0, none⟩ : Addr)))] ∧ Ext w0 wl ∧ Box wl w0.heap.size 28 [v_a0, v_a1] ∧ Box wl w2.heap.size 28 [v_b0, v_b1] ∧ Box wl w9.heap.size 28 [.slice none 0 0, .slice none 0 0] ∧ Own shStr 9 w34.heap.size w34.heap.size wl.heap.size wl q42 ((a.1 ++ b.1.drop 1)) ∧ Box wl g41 28 [q42, .slice none 0 0] ∧ w34.heap.size ≤ g41 ∧ w34.heap.size ≤ wl.heap.size) ?_ ?_
   ·
    refine dr_enter Ext follows_mixed ?_
    intro w50 he51
    have hx52 := hx37.trans' he51
    have hzhx52 := he51.size
    replace hb4 := hb4.ext he51
    replace hb11 := hb11.ext he51
    replace hb18 := hb18.ext he51
    have hs53 : Ext w50 w50 := Ext.rfl' _
    refine dr_val (i := 1) ha39 rfl (by kernel_rfl) (by kernel_rfl) (by kernel_rfl) rfl rfl rfl hs53 (fun w' hw' => op_fieldAddr (sz := 0) ha39 rfl Try.underlying28 rfl rfl ti22 rfl) ?_
    intro a54 ha54; clear ha39 a39
    refine dr_val (i := 2) ha54 rfl (by kernel_rfl) (by kernel_rfl) (by kernel_rfl) rfl rfl rfl hs53 (fun w' hw' => op_loadF (off := 0) ha54 rfl Try.underlying22 rfl rfl (hb4.ext hw').cells rfl) ?_
    intro a55 ha55; clear ha54 a54
    refine dr_val (i := 4) ha55 rfl (by kernel_rfl) (by kernel_rfl) (by kernel_rfl) rfl rfl rfl hs53 (fun w' hw' => op_fieldAddr (sz := 0) ha55 rfl Try.underlying28 rfl rfl ti22 rfl) ?_
    intro a56 ha56; clear ha55 a55
    refine dr_val (i := 5) ha56 rfl (by kernel_rfl) (by kernel_rfl) (by kernel_rfl) rfl rfl rfl hs53 (fun w' hw' => op_loadF (off := 0) ha56 rfl Try.underlying22 rfl rfl (hb11.ext hw').cells rfl) ?_
    intro a57 ha57; clear ha56 a56
    obtain ⟨u58, hu59, hr60⟩ := Rds.part h_b0 Try.underlying22 ti9 (some (.int .i64 (1 : Nat))) none 1 b.1.length (.inr ⟨.i64, rfl⟩) (.inl ⟨rfl, rfl⟩) (by omega) (by omega)
    replace hr60 := hr60.cast (ys := b.1.drop 1) (by first | rw [List.take_length] | simp)
    refine dr_val (i := 6) ha57 rfl (by kernel_rfl) (by kernel_rfl) (by kernel_rfl) rfl rfl rfl hs53 (fun w' hw' => op_slice_f (by omega) ha57 rfl rfl rfl hu59) ?_
    intro a61 ha61; clear ha57 a57
    refine dr_two (i := 0) (j := 9) (by kernel_rfl) ?_ ?_
    ·
     refine po_eff ha61 rfl rfl rfl rfl (op_buildSlice (s := shStr) (xs := ([] : List Str)) (cs := []) (vs := []) (S := fun _ => False) (le := w50.heap.size) ha61 rfl pos_shStr Try.underlying22 ti9 rfl rfl (by decide) (by kernel_rfl) rfl (fun _ h => h.elim)) ?_
     rintro v62 w63 ⟨ho64, he65, hob66⟩ a67 ha67; clear ha61 a61
     have hs68 := hs53.trans' he65
     have hx69 := hx52.trans' he65
     have hzhx69 := he65.size
     refine ⟨hs68, ?_⟩
     refine dr_two (i := 3) (j := 9) (by kernel_rfl) ?_ ?_
     ·
      refine po_eff ha67 rfl rfl rfl rfl (op_append (ts := #[]) (s := shStr) ha67 rfl Try.underlying22 ti9 rfl pos_shStr rfl rfl ho64 (h_a0.ext pos_shStr (hx52.trans' hs68)) (by omega) (by omega) (by first | omega | (simp; omega) | (simp only [List.length_drop, List.length_append]; omega)) (by first | omega | (simp; omega) | (simp only [List.length_drop, List.length_append]; omega)) (.inl flat_shStr)) ?_
      rintro v70 w71 ⟨ho72, hst73, hob74⟩ a75 ha75; clear ha67 a67
      replace ho72 := ho72.cast (List.nil_append _)
      have hs76 := hs68.stp hst73 (by intro q hq; have hq0 := ho64.lt q hq; omega)
      have hx77 := hx69.stp hst73 (by intro q hq; have hq0 := ho64.lt q hq; omega)
      have hzhx77 := hst73.size
      refine ⟨hs76, ?_⟩
      refine dr_two (i := 7) (j := 9) (by kernel_rfl) ?_ ?_
      ·
       refine po_eff ha75 rfl rfl rfl rfl (op_append (ts := #[]) (s := shStr) ha75 rfl Try.underlying22 ti9 rfl pos_shStr rfl rfl ho72 (hr60.ext pos_shStr (hx52.trans' hs76)) (by omega) (by omega) (by first | omega | (simp; omega) | (simp only [List.length_drop, List.length_append]; omega)) (by first | omega | (simp; omega) | (simp only [List.length_drop, List.length_append]; omega)) (.inl flat_shStr)) ?_
       rintro v78 w79 ⟨ho80, hst81, hob82⟩ a83 ha83; clear ha75 a75
       have hs84 := hs76.stp hst81 (by intro q hq; have hq0 := ho72.lt q hq; omega)
       have hx85 := hx77.stp hst81 (by intro q hq; have hq0 := ho72.lt q hq; omega)
       have hzhx85 := hst81.size
       refine ⟨hs84, ?_⟩
       refine dr_val (i := 8) ha83 rfl (by kernel_rfl) (by kernel_rfl) (by kernel_rfl) rfl rfl rfl hs84 (fun w' hw' => op_build (vs := [(0, v78)]) (cs := #[v78, .slice none 0 0]) ha83 rfl Try.underlying28 ti28 bp28 rfl ((fill_one ho80.cells1 rfl rfl).trans rfl)) ?_
       intro a86 ha86; clear ha83 a83
       refine dr_one (i := 9) (by kernel_rfl) ?_
       refine po_eff ha86 rfl rfl rfl rfl (op_alloc' rfl ti28 rfl) ?_
       rintro _ w87 ⟨rfl, he88, hb89, hz90⟩ a91 ha91; clear ha86 a86
       have hs92 := hs84.trans' he88
       have hx93 := hx85.trans' he88
       have hzhx93 := he88.size
       replace ho80 := ho80.ext he88
       refine ⟨hs92, ?_⟩
       refine dr_one (i := 10) (by kernel_rfl) ?_
       refine po_effS ha91 rfl rfl rfl (op_storeAll' ha91 rfl ti28 rfl rfl hb89 rfl rfl (by intro u hu; have hu : u ∈ ([v78, .slice none 0 0] : List Value) := hu; simp only [List.mem_cons, List.mem_nil_iff, or_false] at hu; rcases hu with rfl | rfl <;> first | rfl | exact ho80.one) rfl) ?_
       rintro w94 ⟨hb96, hst95, hz97⟩
       have hx98 := hx93.stp hst95 (by intro q hq; cases hq; exact (by omega))
       have hzhx98 := hst95.size
       replace ho80 := ho80.stp hst95 (by intro q hq; cases hq; omega)
       clear hb89
       have hs99 := hs92.stp hst95 (by intro q hq; cases hq; omega)
       refine ⟨hs99, ?_⟩
       refine dr_end (by kernel_rfl) ?_
       replace hb4 := hb4.ext hs99
       replace hb11 := hb11.ext hs99
       replace hb18 := hb18.ext hs99
       refine then_n ?_
       exact ⟨w79.heap.size, v78, (Sl.cons_ ha91 rfl rfl (Sl.cons_ ha91 rfl rfl (Sl.cons_ ha91 rfl rfl (Sl.cons_ ha91 rfl rfl (Sl.nil_ ha91))))), hx98, hb4, hb11, hb18, (ho80.fin (by omega) (by omega) (by omega)), hb96, (by omega), (by omega)⟩
      ·
       refine po_eff ha75 rfl rfl rfl rfl (op_alloc' rfl ti28 rfl) ?_
       rintro _ w100 ⟨rfl, he101, hb102, hz103⟩ a104 ha104; clear ha75 a75
       have hs105 := hs76.trans' he101
       have hx106 := hx77.trans' he101
       have hzhx106 := he101.size
       replace ho72 := ho72.ext he101
       refine ⟨hs105, ?_⟩
       refine dr_one (i := 7) (by kernel_rfl) ?_
       refine po_eff ha104 rfl rfl rfl rfl (op_append (ts := #[]) (s := shStr) ha104 rfl Try.underlying22 ti9 rfl pos_shStr rfl rfl ho72 (hr60.ext pos_shStr (hx52.trans' hs105)) (by omega) (by omega) (by first | omega | (simp; omega) | (simp only [List.length_drop, List.length_append]; omega)) (by first | omega | (simp; omega) | (simp only [List.length_drop, List.length_append]; omega)) (.inl flat_shStr)) ?_
       rintro v107 w108 ⟨ho109, hst110, hob111⟩ a112 ha112; clear ha104 a104
       have hs113 := hs105.stp hst110 (by intro q hq; have hq0 := ho72.lt q hq; omega)
       have hx114 := hx106.stp hst110 (by intro q hq; have hq0 := ho72.lt q hq; omega)
       have hzhx114 := hst110.size
       replace hb102 := hb102.stp hst110 (by intro q hq; have hq0 := ho72.lt q hq; omega)
       refine ⟨hs113, ?_⟩
       refine dr_val (i := 8) ha112 rfl (by kernel_rfl) (by kernel_rfl) (by kernel_rfl) rfl rfl rfl hs113 (fun w' hw' => op_build (vs := [(0, v107)]) (cs := #[v107, .slice none 0 0]) ha112 rfl Try.underlying28 ti28 bp28 rfl ((fill_one ho109.cells1 rfl rfl).trans rfl)) ?_
       intro a115 ha115; clear ha112 a112
       refine dr_one (i := 10) (by kernel_rfl) ?_
       refine po_effS ha115 rfl rfl rfl (op_storeAll' ha115 rfl ti28 rfl rfl hb102 rfl rfl (by intro u hu; have hu : u ∈ ([v107, .slice none 0 0] : List Value) := hu; simp only [List.mem_cons, List.mem_nil_iff, or_false] at hu; rcases hu with rfl | rfl <;> first | rfl | exact ho109.one) rfl) ?_
       rintro w116 ⟨hb118, hst117, hz119⟩
       have hx120 := hx114.stp hst117 (by intro q hq; cases hq; exact (by omega))
       have hzhx120 := hst117.size
       replace ho109 : Own shStr 9 w50.heap.size w50.heap.size w108.heap.size w116 v107 ((a.1 ++ b.1.drop 1)) := by first | exact ho109.stp hst117 (by intro q hq; cases hq; omega) | exact ho109.stpF flat_shStr hst117 (by intro q hq; cases hq; exact ho109.ne_box (by assumption) rfl)
       clear hb102
       have hs121 := hs113.stp hst117 (by intro q hq; cases hq; omega)
       refine ⟨hs121, ?_⟩
       refine dr_end (by kernel_rfl) ?_
       replace hb4 := hb4.ext hs121
       replace hb11 := hb11.ext hs121
       replace hb18 := hb18.ext hs121
       refine then_n ?_
       exact ⟨w71.heap.size, v107, (Sl.cons_ ha115 rfl rfl (Sl.cons_ ha115 rfl rfl (Sl.cons_ ha115 rfl rfl (Sl.cons_ ha115 rfl rfl (Sl.nil_ ha115))))), hx120, hb4, hb11, hb18, (ho109.fin (by omega) (by omega) (by omega)), hb118, (by omega), (by omega)⟩
     ·
      refine po_eff ha67 rfl rfl rfl rfl (op_alloc' rfl ti28 rfl) ?_
      rintro _ w122 ⟨rfl, he123, hb124, hz125⟩ a126 ha126; clear ha67 a67
      have hs127 := hs68.trans' he123
      have hx128 := hx69.trans' he123
      have hzhx128 := he123.size
      replace ho64 := ho64.ext he123
      refine ⟨hs127, ?_⟩
      refine dr_one (i := 3) (by kernel_rfl) ?_
      refine po_eff ha126 rfl rfl rfl rfl (op_append (ts := #[]) (s := shStr) ha126 rfl Try.underlying22 ti9 rfl pos_shStr rfl rfl ho64 (h_a0.ext pos_shStr (hx52.trans' hs127)) (by omega) (by omega) (by first | omega | (simp; omega) | (simp only [List.length_drop, List.length_append]; omega)) (by first | omega | (simp; omega) | (simp only [List.length_drop, List.length_append]; omega)) (.inl flat_shStr)) ?_
      rintro v129 w130 ⟨ho131, hst132, hob133⟩ a134 ha134; clear ha126 a126
      replace ho131 := ho131.cast (List.nil_append _)
      have hs135 := hs127.stp hst132 (by intro q hq; have hq0 := ho64.lt q hq; omega)
      have hx136 := hx128.stp hst132 (by intro q hq; have hq0 := ho64.lt q hq; omega)
      have hzhx136 := hst132.size
      replace hb124 := hb124.stp hst132 (by intro q hq; have hq0 := ho64.lt q hq; omega)
      refine ⟨hs135, ?_⟩
      refine dr_one (i := 7) (by kernel_rfl) ?_
      refine po_eff ha134 rfl rfl rfl rfl (op_append (ts := #[]) (s := shStr) ha134 rfl Try.underlying22 ti9 rfl pos_shStr rfl rfl ho131 (hr60.ext pos_shStr (hx52.trans' hs135)) (by omega) (by omega) (by first | omega | (simp; omega) | (simp only [List.length_drop, List.length_append]; omega)) (by first | omega | (simp; omega) | (simp only [List.length_drop, List.length_append]; omega)) (.inl flat_shStr)) ?_
      rintro v137 w138 ⟨ho139, hst140, hob141⟩ a142 ha142; clear ha134 a134
      have hs143 := hs135.stp hst140 (by intro q hq; have hq0 := ho131.lt q hq; omega)
      have hx144 := hx136.stp hst140 (by intro q hq; have hq0 := ho131.lt q hq; omega)
      have hzhx144 := hst140.size
      replace hb124 : Box w138 w63.heap.size 28 [.slice none 0 0, .slice none 0 0] := by first | exact hb124.stp hst140 (by intro q hq; have hq0 := ho131.lt q hq; omega) | exact hb124.stp hst140 (by intro q hq e; subst e; exact ho131.ne_box hb124 rfl hq)
      refine ⟨hs143, ?_⟩
      refine dr_val (i := 8) ha142 rfl (by kernel_rfl) (by kernel_rfl) (by kernel_rfl) rfl rfl rfl hs143 (fun w' hw' => op_build (vs := [(0, v137)]) (cs := #[v137, .slice none 0 0]) ha142 rfl Try.underlying28 ti28 bp28 rfl ((fill_one ho139.cells1 rfl rfl).trans rfl)) ?_
      intro a145 ha145; clear ha142 a142
      refine dr_one (i := 10) (by kernel_rfl) ?_
      refine po_effS ha145 rfl rfl rfl (op_storeAll' ha145 rfl ti28 rfl rfl hb124 rfl rfl (by intro u hu; have hu : u ∈ ([v137, .slice none 0 0] : List Value) := hu; simp only [List.mem_cons, List.mem_nil_iff, or_false] at hu; rcases hu with rfl | rfl <;> first | rfl | exact ho139.one) rfl) ?_
      rintro w146 ⟨hb148, hst147, hz149⟩
      have hx150 := hx144.stp hst147 (by intro q hq; cases hq; exact (by omega))
      have hzhx150 := hst147.size
      replace ho139 : Own shStr 9 w50.heap.size w50.heap.size w138.heap.size w146 v137 ((a.1 ++ b.1.drop 1)) := by first | exact ho139.stp hst147 (by intro q hq; cases hq; omega) | exact ho139.stpF flat_shStr hst147 (by intro q hq; cases hq; exact ho139.ne_box (by assumption) rfl)
      clear hb124
      have hs151 := hs143.stp hst147 (by intro q hq; cases hq; omega)
      refine ⟨hs151, ?_⟩
      refine dr_end (by kernel_rfl) ?_
      replace hb4 := hb4.ext hs151
      replace hb11 := hb11.ext hs151
      replace hb18 := hb18.ext hs151
      refine then_n ?_
      exact ⟨w63.heap.size, v137, (Sl.cons_ ha145 rfl rfl (Sl.cons_ ha145 rfl rfl (Sl.cons_ ha145 rfl rfl (Sl.cons_ ha145 rfl rfl (Sl.nil_ ha145))))), hx150, hb4, hb11, hb18, (ho139.fin (by omega) (by omega) (by omega)), hb148, (by omega), (by omega)⟩
    ·
     refine po_eff ha61 rfl rfl rfl rfl (op_alloc' rfl ti28 rfl) ?_
     rintro _ w152 ⟨rfl, he153, hb154, hz155⟩ a156 ha156; clear ha61 a61
     have hs157 := hs53.trans' he153
     have hx158 := hx52.trans' he153
     have hzhx158 := he153.size
     refine ⟨hs157, ?_⟩
     refine dr_one (i := 0) (by kernel_rfl) ?_
     refine po_eff ha156 rfl rfl rfl rfl (op_buildSlice (s := shStr) (xs := ([] : List Str)) (cs := []) (vs := []) (S := fun _ => False) (le := w152.heap.size) ha156 rfl pos_shStr Try.underlying22 ti9 rfl rfl (by decide) (by kernel_rfl) rfl (fun _ h => h.elim)) ?_
     rintro v159 w160 ⟨ho161, he162, hob163⟩ a164 ha164; clear ha156 a156
     have hs165 := hs157.trans' he162
     have hx166 := hx158.trans' he162
     have hzhx166 := he162.size
     replace hb154 := hb154.ext he162
     refine ⟨hs165, ?_⟩
     refine dr_one (i := 3) (by kernel_rfl) ?_
     refine po_eff ha164 rfl rfl rfl rfl (op_append (ts := #[]) (s := shStr) ha164 rfl Try.underlying22 ti9 rfl pos_shStr rfl rfl ho161 (h_a0.ext pos_shStr (hx52.trans' hs165)) (by omega) (by omega) (by first | omega | (simp; omega) | (simp only [List.length_drop, List.length_append]; omega)) (by first | omega | (simp; omega) | (simp only [List.length_drop, List.length_append]; omega)) (.inl flat_shStr)) ?_
     rintro v167 w168 ⟨ho169, hst170, hob171⟩ a172 ha172; clear ha164 a164
     replace ho169 := ho169.cast (List.nil_append _)
     have hs173 := hs165.stp hst170 (by intro q hq; have hq0 := ho161.lt q hq; omega)
     have hx174 := hx166.stp hst170 (by intro q hq; have hq0 := ho161.lt q hq; omega)
     have hzhx174 := hst170.size
     replace hb154 := hb154.stp hst170 (by intro q hq; have hq0 := ho161.lt q hq; omega)
     refine ⟨hs173, ?_⟩
     refine dr_one (i := 7) (by kernel_rfl) ?_
     refine po_eff ha172 rfl rfl rfl rfl (op_append (ts := #[]) (s := shStr) ha172 rfl Try.underlying22 ti9 rfl pos_shStr rfl rfl ho169 (hr60.ext pos_shStr (hx52.trans' hs173)) (by omega) (by omega) (by first | omega | (simp; omega) | (simp only [List.length_drop, List.length_append]; omega)) (by first | omega | (simp; omega) | (simp only [List.length_drop, List.length_append]; omega)) (.inl flat_shStr)) ?_
     rintro v175 w176 ⟨ho177, hst178, hob179⟩ a180 ha180; clear ha172 a172
     have hs181 := hs173.stp hst178 (by intro q hq; have hq0 := ho169.lt q hq; omega)
     have hx182 := hx174.stp hst178 (by intro q hq; have hq0 := ho169.lt q hq; omega)
     have hzhx182 := hst178.size
     replace hb154 := hb154.stp hst178 (by intro q hq; have hq0 := ho169.lt q hq; omega)
     refine ⟨hs181, ?_⟩
     refine dr_val (i := 8) ha180 rfl (by kernel_rfl) (by kernel_rfl) (by kernel_rfl) rfl rfl rfl hs181 (fun w' hw' => op_build (vs := [(0, v175)]) (cs := #[v175, .slice none 0 0]) ha180 rfl Try.underlying28 ti28 bp28 rfl ((fill_one ho177.cells1 rfl rfl).trans rfl)) ?_
     intro a183 ha183; clear ha180 a180
     refine dr_one (i := 10) (by kernel_rfl) ?_
     refine po_effS ha183 rfl rfl rfl (op_storeAll' ha183 rfl ti28 rfl rfl hb154 rfl rfl (by intro u hu; have hu : u ∈ ([v175, .slice none 0 0] : List Value) := hu; simp only [List.mem_cons, List.mem_nil_iff, or_false] at hu; rcases hu with rfl | rfl <;> first | rfl | exact ho177.one) rfl) ?_
     rintro w184 ⟨hb186, hst185, hz187⟩
     have hx188 := hx182.stp hst185 (by intro q hq; cases hq; exact (by omega))
     have hzhx188 := hst185.size
     replace ho177 := ho177.stp hst185 (by intro q hq; cases hq; omega)
     clear hb154
     have hs189 := hs181.stp hst185 (by intro q hq; cases hq; omega)
     refine ⟨hs189, ?_⟩
     refine dr_end (by kernel_rfl) ?_
     replace hb4 := hb4.ext hs189
     replace hb11 := hb11.ext hs189
     replace hb18 := hb18.ext hs189
     refine then_n ?_
     exact ⟨w50.heap.size, v175, (Sl.cons_ ha183 rfl rfl (Sl.cons_ ha183 rfl rfl (Sl.cons_ ha183 rfl rfl (Sl.cons_ ha183 rfl rfl (Sl.nil_ ha183))))), hx188, hb4, hb11, hb18, (ho177.fin (by omega) (by omega) (by omega)), hb186, (by omega), (by omega)⟩
   ·
    clear ha39 a39
    rintro a190 w43 ⟨g41, q42, ha190, hx44, hf45, hf46, hf47, hf49, hf48, hg192, hzl191⟩
    have hzhx44 := hx44.size
    have hgl193 := hf48.lt
    refine wp_seq ?_
    refine wp_seq ?_
    refine wp_region_lit ?_
    refine wl_val ha190 rfl rfl rfl (op_fieldAddr (sz := 0) ha190 rfl Try.underlying28 rfl rfl ti22 rfl) ?_
    intro a194 ha194; clear ha190 a190
    refine wl_val ha194 rfl rfl rfl (op_loadF (off := 0) ha194 rfl Try.underlying22 rfl rfl hf48.cells rfl) ?_
    intro a195 ha195; clear ha194 a194
    refine wl_val ha195 rfl rfl rfl (op_len_sl ha195 rfl Try.underlying22 rfl (hf49.rds pos_shStr)) ?_
    intro a196 ha196; clear ha195 a195
    refine wl_val ha196 rfl rfl rfl (op_move ha196 rfl rfl) ?_
    intro a197 ha197; clear ha196 a196
    refine wpList_nil ?_
    refine then_n ?_
    refine wp_block ?_
    refine loop_inv (X := Nat) (fun (i : Nat) fr wl => Sl 86 fr [(2, .pointer (some (⟨w0.heap.size, 0, none⟩ : Addr))), (3, .pointer (some (⟨w2.heap.size, 0, none⟩ : Addr))), (4, .pointer (some (⟨w9.heap.size, 0, none⟩ : Addr))), (6, .pointer (some (⟨g41, 0, none⟩ : Addr))), (32, q42), (33, .int .i64 ((((a.1 ++ b.1.drop 1)).length : Nat) : Int)), (34, .int .i64 ((i : Nat) : Int))] ∧ Ext w0 wl ∧ Box wl w0.heap.size 28 [v_a0, v_a1] ∧ Box wl w2.heap.size 28 [v_b0, v_b1] ∧ Box wl w9.heap.size 28 [.slice none 0 0, .slice none 0 0] ∧ Own shStr 9 w34.heap.size w34.heap.size w43.heap.size wl q42 ((a.1 ++ b.1.drop 1)) ∧ Box wl g41 28 [q42, .slice none 0 0] ∧ w43.heap.size ≤ wl.heap.size ∧ (i ≤ (a.1 ++ b.1.drop 1).length) ∧ (∀ (j : Nat) (y : Str), j < i → (a.1 ++ b.1.drop 1)[j]? = some y → fdF (eqB y) ((a.1 ++ b.1.drop 1).take j) < 0)) (fun (i : Nat) => (a.1 ++ b.1.drop 1).length - i) (0) ?_ ?_
    ·
     exact ⟨(Sl.cons_ ha197 rfl rfl (Sl.cons_ ha197 rfl rfl (Sl.cons_ ha197 rfl rfl (Sl.cons_ ha197 rfl rfl (Sl.cons_ ha197 rfl rfl (Sl.cons_ ha197 rfl rfl (Sl.cons_ ha197 rfl (int_eq (by omega)) (Sl.nil_ ha197)))))))), hx44, hf45, hf46, hf47, hf49, hf48, (by omega), (by omega), (by intro j y hj; omega)⟩
    ·
     clear ha197 a197
     rintro i a205 w198 ⟨ha205, hx199, hf200, hf201, hf202, hf204, hf203, hzl206, hi, hA⟩
     have hzhx199 := hx199.size
     refine wp_seq ?_
     refine wp_region_lit ?_
     refine wl_val ha205 rfl rfl rfl (op_lss ha205 rfl rfl rfl) ?_
     intro a207 ha207; clear ha205 a205
     refine wpList_nil ?_
     refine then_n ?_
     refine wp_seq ?_
     by_cases c208 : ((i : Nat) : Int) < ((((a.1 ++ b.1.drop 1)).length : Nat) : Int)
     ·
      rw [decide_eq_true c208] at ha207
      refine cond_t ha207 rfl ?_
      refine wp_skip ?_
      refine then_n ?_
      refine wp_seq ?_
      refine wp_block ?_
      refine wp_seq ?_
      refine wp_region_lit ?_
      refine wl_val ha207 rfl rfl rfl (op_move ha207 rfl rfl) ?_
      intro a209 ha209; clear ha207 a207
      obtain ⟨x210, hx210⟩ := get_ex (xs := (a.1 ++ b.1.drop 1)) (j := i) (by omega)
      obtain ⟨p211, c212, hi213, hc214, hr215, hs216⟩ := Rds.at_ (hf204.rds pos_shStr) hx210
      obtain ⟨rfl, b217⟩ := inv_shStr hr215
      obtain ⟨_, _⟩ : _ ∧ _ := hs216
      have hwbx210 : x210.length ≤ 16 := by rcases List.mem_append.1 (List.mem_of_getElem? hx210) with h9 | h9; exact (wordB_len (hwa _ h9)).2; exact (wordB_len (hwb _ (List.mem_of_mem_drop h9))).2
      refine wl_val ha209 rfl rfl rfl (op_indexAddr ha209 rfl Try.underlying22 ti9 rfl rfl (by omega) hi213) ?_
      intro a218 ha218; clear ha209 a209
      refine wl_val ha218 rfl rfl rfl (op_loadH ha218 rfl Try.underlying9 rfl rfl hc214 rfl) ?_
      intro a219 ha219; clear ha218 a218
      refine wl_val ha219 rfl rfl rfl (op_assign ha219 rfl rfl) ?_
      intro a220 ha220; clear ha219 a219
      refine wl_val ha220 rfl rfl rfl (op_assign ha220 rfl rfl) ?_
      intro a221 ha221; clear ha220 a220
      refine wpList_nil ?_
      refine then_n ?_
      refine wp_seq ?_
      refine wp_region_lit ?_
      refine wl_val ha221 rfl rfl rfl (op_fieldAddr (sz := 0) ha221 rfl Try.underlying28 rfl rfl ti22 rfl) ?_
      intro a222 ha222; clear ha221 a221
      refine wl_val ha222 rfl rfl rfl (op_loadF (off := 0) ha222 rfl Try.underlying22 rfl rfl hf203.cells rfl) ?_
      intro a223 ha223; clear ha222 a222
      refine wl_val ha223 rfl rfl rfl (op_move ha223 rfl rfl) ?_
      intro a224 ha224; clear ha223 a223
      obtain ⟨u225, hu226, hr227⟩ := Rds.part (hf204.rds pos_shStr) Try.underlying22 ti9 none (some (.int .i64 (i : Nat))) 0 i (.inl ⟨rfl, rfl⟩) (.inr ⟨.i64, rfl⟩) (by omega) (by omega)
      replace hr227 := hr227.cast (ys := ((a.1 ++ b.1.drop 1)).take i) (by first | rw [List.take_length] | simp)
      refine wl_val ha224 rfl rfl rfl (op_slice_t (by omega) ha224 rfl rfl rfl hu226) ?_
      intro a228 ha228; clear ha224 a224
      refine wl_val ha228 rfl rfl rfl (op_move ha228 rfl rfl) ?_
      intro a229 ha229; clear ha228 a228
      refine wl_callR ha229 rfl rfl rfl (op_call ha229 rfl cb66 rfl) (c_impl_headAt _ u225 (((a.1 ++ b.1.drop 1)).take i) x210 hr227) ?_
      rintro v230 w231 he232 rfl a233 ha233; clear ha229 a229
      have hx234 := hx199.trans' he232
      have hzhx234 := he232.size
      replace hf200 := hf200.ext he232
      replace hf201 := hf201.ext he232
      replace hf202 := hf202.ext he232
      replace hf204 := hf204.ext he232
      replace hf203 := hf203.ext he232
      replace hc214 := hc214.ext he232
      replace hr227 := hr227.ext pos_shStr he232
      refine wl_val ha233 rfl rfl rfl (op_geq ha233 rfl rfl rfl) ?_
      intro a235 ha235; clear ha233 a233
      refine wpList_nil ?_
      refine then_n ?_
      by_cases c236 : (0 : Int) ≤ (fdF (eqB x210) (((a.1 ++ b.1.drop 1)).take i) : Int)
      ·
       rw [decide_eq_true c236] at ha235
       refine cond_t ha235 rfl ?_
       refine wp_seq ?_
       refine wp_region_lit ?_
       refine wl_val ha235 rfl rfl rfl (op_build (vs := []) (cs := #[.slice none 0 0, .slice none 0 0]) ha235 rfl Try.underlying28 ti28 bp28 rfl rfl) ?_
       intro a237 ha237; clear ha235 a235
       refine wl_effS ha237 rfl rfl (op_storeAll' ha237 rfl ti28 rfl rfl hf202 rfl rfl (by simp [Value.oneCell']) rfl) ?_
       rintro w238 ⟨hb240, hst239, hz241⟩
       have hx242 := hx234.stp hst239 (by intro q hq; cases hq; exact (by omega))
       have hzhx242 := hst239.size
       replace hf200 := hf200.stp hst239 (by intro q hq; cases hq; omega)
       replace hf201 := hf201.stp hst239 (by intro q hq; cases hq; omega)
       replace hf204 := hf204.stp hst239 (by intro q hq; cases hq; omega)
       replace hf203 := hf203.stp hst239 (by intro q hq; cases hq; omega)
       replace hc214 := hc214.stp hst239 (by intro q hq; cases hq; omega)
       replace hr227 := hr227.stp pos_shStr hst239 (by intro q hq; cases hq; exact not_iv (by omega))
       clear hf202
       refine wl_val ha237 rfl rfl rfl (op_assign ha237 rfl rfl) ?_
       intro a243 ha243; clear ha237 a237
       refine wpList_nil ?_
       refine then_n ?_
       refine wp_ret ?_
       refine block_r ?_
       refine then_r ?_
       refine then_r ?_
       refine block_r ?_
       refine then_r ?_
       refine retct ha243 rfl rfl rfl Try.underlying28 ti28 rfl hb240.cells ?_
       clear ha243 a243
       have hr : cdJ a b = _ := cdJ_5 c31 c40 (jn_bad c31 c40 hx210 (by omega))
       refine ret_mk hx242 ⟨(.slice none 0 0), (.slice none 0 0), [], (tup2_eq (by rfl) (int_eq (by first | exact hr.symm | omega))), ?_, Own.nil _ _ _ _ _ _, Nst.nil _ _ _ _ _ _, ?_⟩
       ·
        refine Own.nil_ _ _ _ _ _ _ ?_
        rw [jcT_no (by rw [hr]; first | decide | assumption)]
       ·
        rw [jcT_no (by rw [hr]; first | decide | assumption)]; rfl
      ·
       rw [decide_eq_false c236] at ha235
       refine cond_f ha235 rfl ?_
       refine wp_skip ?_
       refine block_n ?_
       refine then_n ?_
       refine wp_region_lit ?_
       refine wl_val ha235 rfl rfl rfl ((op_add ha235 rfl rfl rfl).int (IntWalk.i64_in _ (by omega))) ?_
       intro a244 ha244; clear ha235 a235
       refine wl_val ha244 rfl rfl rfl (op_move ha244 rfl rfl) ?_
       intro a245 ha245; clear ha244 a244
       refine wpList_nil ?_
       refine round_end (x := i) ((i + 1)) ?_ ?_
       ·
        refine ⟨(Sl.cons_ ha245 rfl rfl (Sl.cons_ ha245 rfl rfl (Sl.cons_ ha245 rfl rfl (Sl.cons_ ha245 rfl rfl (Sl.cons_ ha245 rfl rfl (Sl.cons_ ha245 rfl rfl (Sl.cons_ ha245 rfl (int_eq (by omega)) (Sl.nil_ ha245)))))))), hx234, hf200, hf201, hf202, hf204, hf203, (by omega), (by omega), (by intro j y hj hy; rcases Nat.lt_or_ge j i with q | q; (exact hA j y q hy); (obtain rfl : j = i := (by omega); rw [hx210] at hy; cases hy; omega))⟩
       ·show ((a.1 ++ b.1.drop 1).length - ((i + 1)) : Nat) < (a.1 ++ b.1.drop 1).length - i; omega
     ·
      rw [decide_eq_false c208] at ha207
      refine cond_f ha207 rfl ?_
      refine wp_exit ?_
      refine then_e ?_
      refine then_e ?_
      refine block_hit ?_
      refine then_n ?_
      refine wp_seq ?_
      refine wp_seq ?_
      have hfr : frB a.1 (b.1.drop 1) = true := jn_ok fun j y hj hy => hA j y (by omega) hy
      refine wp_region_lit ?_
      refine wl_val ha207 rfl rfl rfl (op_fieldAddr (sz := 0) ha207 rfl Try.underlying28 rfl rfl ti23 rfl) ?_
      intro a246 ha246; clear ha207 a207
      refine wl_val ha246 rfl rfl rfl (op_loadF (off := 1) ha246 rfl Try.underlying23 rfl rfl hf200.cells rfl) ?_
      intro a247 ha247; clear ha246 a246
      refine wl_val ha247 rfl rfl rfl (op_len_sl ha247 rfl Try.underlying23 rfl h_a1) ?_
      intro a248 ha248; clear ha247 a247
      refine wl_val ha248 rfl rfl rfl (op_move ha248 rfl rfl) ?_
      intro a249 ha249; clear ha248 a248
      refine wpList_nil ?_
      refine then_n ?_
      refine wp_block ?_
      refine loop_inv (X := Nat × Value × (List (List Int × Value))) (fun (⟨i, v, zs⟩ : Nat × Value × (List (List Int × Value))) fr wl => Sl 86 fr [(3, .pointer (some (⟨w2.heap.size, 0, none⟩ : Addr))), (4, .pointer (some (⟨w9.heap.size, 0, none⟩ : Addr))), (6, .pointer (some (⟨g41, 0, none⟩ : Addr))), (49, v_a1), (50, .int .i64 ((a.2.length : Nat) : Int)), (51, .int .i64 ((i : Nat) : Int))] ∧ Ext w0 wl ∧ Box wl w2.heap.size 28 [v_b0, v_b1] ∧ Box wl w9.heap.size 28 [.slice none 0 0, .slice none 0 0] ∧ Own shStr 9 w34.heap.size w34.heap.size w43.heap.size wl q42 ((a.1 ++ b.1.drop 1)) ∧ Own shRowN 41 w198.heap.size w198.heap.size wl.heap.size wl v zs ∧ Nst shI64 2 (fun x : List Int => x) w198.heap.size wl.heap.size wl zs ∧ Box wl g41 28 [q42, v] ∧ w198.heap.size ≤ wl.heap.size ∧ (i ≤ a.2.length) ∧ (zs.length ≤ 20 * i) ∧ (zs.map (·.1) ++ jnR b.2 (a.2.drop i) = jnR b.2 a.2) ∧ (∀ z ∈ zs, z.1.length ≤ 20)) (fun (⟨i, v, zs⟩ : Nat × Value × (List (List Int × Value))) => a.2.length - i) (0, (.slice none 0 0), []) ?_ ?_
      ·
       exact ⟨(Sl.cons_ ha249 rfl rfl (Sl.cons_ ha249 rfl rfl (Sl.cons_ ha249 rfl rfl (Sl.cons_ ha249 rfl rfl (Sl.cons_ ha249 rfl rfl (Sl.cons_ ha249 rfl (int_eq (by omega)) (Sl.nil_ ha249))))))), hx199, hf201, hf202, hf204, (Own.nil _ _ _ _ _ _), (Nst.nil _ _ _ _ _ _), hf203, (by omega), (by omega), (by exact Nat.zero_le _), (by rfl), (by intro z hz; cases hz)⟩
      ·
       clear ha249 a249
       rintro ⟨i, v, zs⟩ a258 w250 ⟨ha258, hx251, hf252, hf253, hf254, hf255, hf256, hf257, hzl259, hi, hl, hF, hS⟩
       have hzhx251 := hx251.size
       refine wp_seq ?_
       refine wp_region_lit ?_
       refine wl_val ha258 rfl rfl rfl (op_lss ha258 rfl rfl rfl) ?_
       intro a260 ha260; clear ha258 a258
       refine wpList_nil ?_
       refine then_n ?_
       refine wp_seq ?_
       by_cases c261 : ((i : Nat) : Int) < ((a.2.length : Nat) : Int)
       ·
        rw [decide_eq_true c261] at ha260
        refine cond_t ha260 rfl ?_
        refine wp_skip ?_
        refine then_n ?_
        refine wp_seq ?_
        refine wp_block ?_
        refine wp_seq ?_
        refine wp_region_lit ?_
        obtain ⟨x262, hx262⟩ := get_ex (xs := a.2) (j := i) (by omega)
        obtain ⟨p263, c264, hi265, hc266, hr267, hs268⟩ := Rds.at_ h_a1 hx262
        obtain ⟨v269, rfl, b270⟩ := inv_shRow hr267
        have hlb270 := b270.length_le
        have hrbx262 := hra _ (List.mem_of_getElem? hx262)
        refine wl_val ha260 rfl rfl rfl (op_indexAddr ha260 rfl Try.underlying23 ti41 rfl rfl (by omega) hi265) ?_
        intro a271 ha271; clear ha260 a260
        refine wl_val ha271 rfl rfl rfl (op_loadH ha271 rfl Try.underlying41 rfl rfl (hc266.ext hx251) rfl) ?_
        intro a272 ha272; clear ha271 a271
        refine wl_val ha272 rfl rfl rfl (op_assign ha272 rfl rfl) ?_
        intro a273 ha273; clear ha272 a272
        refine wpList_nil ?_
        refine then_n ?_
        refine wp_seq ?_
        refine wp_region_lit ?_
        refine wl_val ha273 rfl rfl rfl (op_fieldAddr (sz := 0) ha273 rfl Try.underlying28 rfl rfl ti23 rfl) ?_
        intro a274 ha274; clear ha273 a273
        refine wl_val ha274 rfl rfl rfl (op_loadF (off := 1) ha274 rfl Try.underlying23 rfl rfl hf252.cells rfl) ?_
        intro a275 ha275; clear ha274 a274
        refine wl_val ha275 rfl rfl rfl (op_len_sl ha275 rfl Try.underlying23 rfl h_b1) ?_
        intro a276 ha276; clear ha275 a275
        refine wl_val ha276 rfl rfl rfl (op_move ha276 rfl rfl) ?_
        intro a277 ha277; clear ha276 a276
        refine wpList_nil ?_
        refine then_n ?_
        refine wp_block ?_
        refine loop_inv (X := Nat × Value × (List (List Int × Value))) (fun (⟨k, v2, ys⟩ : Nat × Value × (List (List Int × Value))) fr wl => Sl 86 fr [(3, .pointer (some (⟨w2.heap.size, 0, none⟩ : Addr))), (4, .pointer (some (⟨w9.heap.size, 0, none⟩ : Addr))), (6, .pointer (some (⟨g41, 0, none⟩ : Addr))), (10, v269), (49, v_a1), (50, .int .i64 ((a.2.length : Nat) : Int)), (51, .int .i64 ((i : Nat) : Int)), (56, v_b1), (57, .int .i64 ((b.2.length : Nat) : Int)), (58, .int .i64 ((k : Nat) : Int))] ∧ Ext w0 wl ∧ Box wl w2.heap.size 28 [v_b0, v_b1] ∧ Box wl w9.heap.size 28 [.slice none 0 0, .slice none 0 0] ∧ Own shStr 9 w34.heap.size w34.heap.size w43.heap.size wl q42 ((a.1 ++ b.1.drop 1)) ∧ Own shRowN 41 w198.heap.size w198.heap.size wl.heap.size wl v2 ys ∧ Nst shI64 2 (fun x : List Int => x) w198.heap.size wl.heap.size wl ys ∧ Box wl g41 28 [q42, v2] ∧ w250.heap.size ≤ wl.heap.size ∧ (k ≤ b.2.length) ∧ (ys.length ≤ 20 * i + k) ∧ (ys.map (·.1) ++ (jnR1 x262 (b.2.drop k) ++ jnR b.2 (a.2.drop (i + 1))) = jnR b.2 a.2) ∧ (∀ z ∈ ys, z.1.length ≤ 20)) (fun (⟨k, v2, ys⟩ : Nat × Value × (List (List Int × Value))) => b.2.length - k) (0, v, zs) ?_ ?_
        ·
         exact ⟨(Sl.cons_ ha277 rfl rfl (Sl.cons_ ha277 rfl rfl (Sl.cons_ ha277 rfl rfl (Sl.cons_ ha277 rfl rfl (Sl.cons_ ha277 rfl rfl (Sl.cons_ ha277 rfl rfl (Sl.cons_ ha277 rfl rfl (Sl.cons_ ha277 rfl rfl (Sl.cons_ ha277 rfl rfl (Sl.cons_ ha277 rfl (int_eq (by omega)) (Sl.nil_ ha277))))))))))), hx251, hf252, hf253, hf254, (hf255.fin (by omega) (by omega) (by omega)), (hf256.fin (by omega) (by omega)), hf257, (by omega), (by omega), (by omega), (by rw [drop_cons hx262, jnR] at hF; exact hF), (by exact hS)⟩
        ·
         clear ha277 a277
         rintro ⟨k, v2, ys⟩ a286 w278 ⟨ha286, hx279, hf280, hf281, hf282, hf283, hf284, hf285, hzl287, hk, hl2, hF2, hS2⟩
         have hzhx279 := hx279.size
         refine wp_seq ?_
         refine wp_region_lit ?_
         refine wl_val ha286 rfl rfl rfl (op_lss ha286 rfl rfl rfl) ?_
         intro a288 ha288; clear ha286 a286
         refine wpList_nil ?_
         refine then_n ?_
         refine wp_seq ?_
         by_cases c289 : ((k : Nat) : Int) < ((b.2.length : Nat) : Int)
         ·
          rw [decide_eq_true c289] at ha288
          refine cond_t ha288 rfl ?_
          refine wp_skip ?_
          refine then_n ?_
          refine wp_seq ?_
          refine wp_block ?_
          refine wp_seq ?_
          refine wp_region_lit ?_
          obtain ⟨x290, hx290⟩ := get_ex (xs := b.2) (j := k) (by omega)
          obtain ⟨p291, c292, hi293, hc294, hr295, hs296⟩ := Rds.at_ h_b1 hx290
          obtain ⟨v297, rfl, b298⟩ := inv_shRow hr295
          have hlb298 := b298.length_le
          have hrbx290 := hrb _ (List.mem_of_getElem? hx290)
          refine wl_val ha288 rfl rfl rfl (op_indexAddr ha288 rfl Try.underlying23 ti41 rfl rfl (by omega) hi293) ?_
          intro a299 ha299; clear ha288 a288
          refine wl_val ha299 rfl rfl rfl (op_loadH ha299 rfl Try.underlying41 rfl rfl (hc294.ext hx279) rfl) ?_
          intro a300 ha300; clear ha299 a299
          refine wl_val ha300 rfl rfl rfl (op_assign ha300 rfl rfl) ?_
          intro a301 ha301; clear ha300 a300
          refine wpList_nil ?_
          refine then_n ?_
          refine wp_seq ?_
          refine dr_enter Ext follows_mixed ?_
          intro w302 he303
          have hx304 := hx279.trans' he303
          have hzhx304 := he303.size
          replace hf280 := hf280.ext he303
          replace hf281 := hf281.ext he303
          replace hf282 := hf282.ext he303
          replace hf283 := hf283.ext he303
          replace hf284 := hf284.ext he303
          replace hf285 := hf285.ext he303
          have hs305 : Ext w302 w302 := Ext.rfl' _
          refine dr_val (i := 0) ha301 rfl (by kernel_rfl) (by kernel_rfl) (by kernel_rfl) rfl rfl rfl hs305 (fun w' hw' => op_move ha301 rfl rfl) ?_
          intro a306 ha306; clear ha301 a301
          obtain ⟨x307, hx307⟩ := get_ex (xs := x262) (j := 0) (by omega)
          obtain ⟨p308, c309, hi310, hc311, hr312, hs313⟩ := Rds.at_ b270 hx307
          obtain ⟨rfl, b314⟩ := inv_shI64 hr312
          have hvbx307 := hrbx262.2 _ (List.mem_of_getElem? hx307)
          refine dr_val (i := 1) ha306 rfl (by kernel_rfl) (by kernel_rfl) (by kernel_rfl) rfl rfl rfl hs305 (fun w' hw' => op_indexAddr ha306 rfl Try.underlying41 ti2 rfl rfl (by omega) hi310) ?_
          intro a315 ha315; clear ha306 a306
          refine dr_val (i := 2) ha315 rfl (by kernel_rfl) (by kernel_rfl) (by kernel_rfl) rfl rfl rfl hs305 (fun w' hw' => op_loadH ha315 rfl Try.underlying2 rfl rfl (hc311.ext (hx304.trans' hw')) rfl) ?_
          intro a316 ha316; clear ha315 a315
          refine dr_val (i := 3) ha316 rfl (by kernel_rfl) (by kernel_rfl) (by kernel_rfl) rfl rfl rfl hs305 (fun w' hw' => op_move ha316 rfl rfl) ?_
          intro a317 ha317; clear ha316 a316
          obtain ⟨x318, hx318⟩ := get_ex (xs := x290) (j := 0) (by omega)
          obtain ⟨p319, c320, hi321, hc322, hr323, hs324⟩ := Rds.at_ b298 hx318
          obtain ⟨rfl, b325⟩ := inv_shI64 hr323
          have hvbx318 := hrbx290.2 _ (List.mem_of_getElem? hx318)
          refine dr_val (i := 4) ha317 rfl (by kernel_rfl) (by kernel_rfl) (by kernel_rfl) rfl rfl rfl hs305 (fun w' hw' => op_indexAddr ha317 rfl Try.underlying41 ti2 rfl rfl (by omega) hi321) ?_
          intro a326 ha326; clear ha317 a317
          refine dr_val (i := 5) ha326 rfl (by kernel_rfl) (by kernel_rfl) (by kernel_rfl) rfl rfl rfl hs305 (fun w' hw' => op_loadH ha326 rfl Try.underlying2 rfl rfl (hc322.ext (hx304.trans' hw')) rfl) ?_
          intro a327 ha327; clear ha326 a326
          refine dr_val (i := 6) ha327 rfl (by kernel_rfl) (by kernel_rfl) (by kernel_rfl) rfl rfl rfl hs305 (fun w' hw' => op_eql ha327 rfl rfl rfl) ?_
          intro a328 ha328; clear ha327 a327
          refine dr_end (by kernel_rfl) ?_
          replace hf280 := hf280.ext hs305
          replace hf281 := hf281.ext hs305
          replace hf282 := hf282.ext hs305
          replace hf283 := hf283.ext hs305
          replace hf284 := hf284.ext hs305
          replace hf285 := hf285.ext hs305
          refine then_n ?_
          by_cases c329 : x307 = x318
          ·
           rw [decide_eq_true c329] at ha328
           refine cond_t ha328 rfl ?_
           refine dr_enter (fun wa_ wb_ => StpL wa_ wb_ (fun i => Value.ownBlock v2 = some i ∨ i = g41)) follows_mixed ?_
           intro w330 he331
           have hx332 := hx304.trans' he331
           have hzhx332 := he331.size
           replace hf280 := hf280.ext he331
           replace hf281 := hf281.ext he331
           replace hf282 := hf282.ext he331
           replace hf283 := hf283.ext he331
           replace hf284 := hf284.ext he331
           replace hf285 := hf285.ext he331
           have hs333 : Ext w330 w330 := Ext.rfl' _
           refine dr_val (i := 0) ha328 rfl (by kernel_rfl) (by kernel_rfl) (by kernel_rfl) rfl rfl rfl (StpL.of_ext hs333) (fun w' hw' => op_fieldAddr (sz := 0) ha328 rfl Try.underlying28 rfl rfl ti23 rfl) ?_
           intro a334 ha334; clear ha328 a328
           refine dr_val (i := 2) ha334 rfl (by kernel_rfl) (by kernel_rfl) (by kernel_rfl) rfl rfl rfl (StpL.of_ext hs333) (fun w' hw' => op_move ha334 rfl rfl) ?_
           intro a335 ha335; clear ha334 a334
           refine dr_val (i := 4) ha335 rfl (by kernel_rfl) (by kernel_rfl) (by kernel_rfl) rfl rfl rfl (StpL.of_ext hs333) (fun w' hw' => op_move ha335 rfl rfl) ?_
           intro a336 ha336; clear ha335 a335
           obtain ⟨u337, hu338, hr339⟩ := Rds.part b298 Try.underlying41 ti2 (some (.int .i64 (1 : Nat))) none 1 x290.length (.inr ⟨.i64, rfl⟩) (.inl ⟨rfl, rfl⟩) (by omega) (by omega)
           replace hr339 := hr339.cast (ys := x290.drop 1) (by first | rw [List.take_length] | simp)
           refine dr_val (i := 5) ha336 rfl (by kernel_rfl) (by kernel_rfl) (by kernel_rfl) rfl rfl rfl (StpL.of_ext hs333) (fun w' hw' => op_slice_f (by omega) ha336 rfl rfl rfl hu338) ?_
           intro a340 ha340; clear ha336 a336
           refine dr_two (i := 1) (j := 3) (by kernel_rfl) ?_ ?_
           ·
            refine po_to ha340 rfl rfl rfl rfl (op_loadF (off := 1) ha340 rfl Try.underlying23 rfl rfl (hf285.ext hs333).cells rfl) ?_
            intro a341 ha341; clear ha340 a340
            refine ⟨(StpL.of_ext hs333), ?_⟩
            refine dr_one (i := 3) (by kernel_rfl) ?_
            refine po_callR ha341 rfl rfl rfl rfl (op_call ha341 rfl cb84 rfl) (c_impl_copyList _ v269 x262 (b270.ext pos_shI64 (hx332.trans' hs333)) (by first | assumption | omega | (simp; omega))) ?_
            rintro v342 w343 he344 ho345 a346 ha346; clear ha341 a341
            have hs347 := hs333.trans' he344
            have hx348 := hx332.trans' he344
            have hzhx348 := he344.size
            refine ⟨(StpL.of_ext hs347), ?_⟩
            refine dr_one (i := 6) (by kernel_rfl) ?_
            refine po_eff ha346 rfl rfl rfl rfl (op_append (ts := #[]) (s := shI64) ha346 rfl Try.underlying41 ti2 rfl pos_shI64 rfl rfl ho345 (hr339.ext pos_shI64 (hx332.trans' hs347)) (by omega) (by omega) (by first | omega | (simp; omega) | (simp only [List.length_drop, List.length_append]; omega)) (by first | omega | (simp; omega) | (simp only [List.length_drop, List.length_append]; omega)) (.inl flat_shI64)) ?_
            rintro v349 w350 ⟨ho351, hst352, hob353⟩ a354 ha354; clear ha346 a346
            have hs355 := hs347.stp hst352 (by intro q hq; have hq0 := ho345.lt q hq; omega)
            have hx356 := hx348.stp hst352 (by intro q hq; have hq0 := ho345.lt q hq; omega)
            have hzhx356 := hst352.size
            refine ⟨(StpL.of_ext hs355), ?_⟩
            refine dr_one (i := 7) (by kernel_rfl) ?_
            refine po_eff ha354 rfl rfl rfl rfl (op_buildSlice (s := shRowN) (xs := [((((x262) ++ x290.drop 1) : List Int), (v349 : Value))]) (cs := [v349]) (vs := [(0, v349)]) (S := fun _ => False) (le := w350.heap.size) ha354 rfl pos_shRowN Try.underlying23 ti41 rfl rfl (by decide) ((fill_one (off := 0) ho351.cells1 (by kernel_rfl) (by kernel_rfl)).trans (by kernel_rfl)) (Els.single (mk_shRowN (((((x262) ++ x290.drop 1) : List Int), (v349 : Value))) ho351.one)) (fun _ h => h.elim)) ?_
            rintro v357 w358 ⟨ho359, he360, hob361⟩ a362 ha362; clear ha354 a354
            have hs363 := hs355.trans' he360
            have hx364 := hx356.trans' he360
            have hzhx364 := he360.size
            replace ho351 := ho351.ext he360
            refine ⟨(StpL.of_ext hs363), ?_⟩
            have hN365 : Nst shI64 2 (fun x : List Int => x) w330.heap.size w358.heap.size w358 ([((((x262) ++ x290.drop 1) : List Int), (v349 : Value))]) := Nst.one (ho351.fin (by omega) (by omega) (by omega))
            refine dr_one (i := 8) (by kernel_rfl) ?_
            replace hf280 := hf280.ext hs363
            replace hf281 := hf281.ext hs363
            replace hf282 := hf282.ext hs363
            replace hf283 := hf283.ext hs363
            replace hf284 := hf284.ext hs363
            replace hf285 := hf285.ext hs363
            refine po_eff ha362 rfl rfl rfl rfl (op_append (ts := #[]) (s := shRowN) ha362 rfl Try.underlying23 ti41 rfl pos_shRowN rfl rfl hf283 (ho359.rds pos_shRowN) (by omega) (by omega) (by first | omega | (simp; omega) | (simp only [List.length_drop, List.length_append]; omega)) (by first | omega | (simp; omega) | (simp only [List.length_drop, List.length_append]; omega)) (.inl flat_shRowN)) ?_
            rintro v366 w367 ⟨ho368, hst369, hob370⟩ a371 ha371; clear ha362 a362
            have hx372 := hx364.stp hst369 (by intro q hq; have hq0 := hf283.lt q hq; omega)
            have hzhx372 := hst369.size
            replace hf280 := hf280.stp hst369 (by intro q hq; have hq0 := hf283.lt q hq; omega)
            replace hf281 := hf281.stp hst369 (by intro q hq; have hq0 := hf283.lt q hq; omega)
            replace hf282 := hf282.stp hst369 (by intro q hq; have hq0 := hf283.lt q hq; omega)
            replace hf284 : Nst shI64 2 (fun x : List Int => x) w198.heap.size w278.heap.size w367 ys := by first | exact hf284.stpF flat_shI64 hst369 hf283 rfl | exact hf284.stp hst369 (by intro q hq; have hq0 := hf283.lt q hq; omega)
            replace hf285 : Box w367 g41 28 [q42, v2] := by first | exact hf285.stp hst369 (by intro q hq; have hq0 := hf283.lt q hq; omega) | exact hf285.stp hst369 (by intro q hq e; subst e; exact hf283.ne_box hf285 rfl hq)
            replace ho351 := ho351.stp hst369 (by intro q hq; have hq0 := hf283.lt q hq; omega)
            replace ho359 := ho359.stp hst369 (by intro q hq; have hq0 := hf283.lt q hq; omega)
            replace hN365 := hN365.stp hst369 (by intro q hq; have hq0 := hf283.lt q hq; omega)
            have hsp373 : ∀ q, Value.ownBlock v366 = some q → Value.ownBlock v357 ≠ some q := by intro q hq hb; have hq0 := ho359.lt q hb; rcases hob370 with h | h; (rw [h] at hq; first | (have hq1 := hf283.lt q hq; omega)); (rw [h] at hq; cases hq; omega)
            have hN374 : Nst shI64 2 (fun x : List Int => x) w198.heap.size w367.heap.size w367 ((ys ++ [((((x262) ++ x290.drop 1) : List Int), (v349 : Value))])) := (hf284.app hN365 (by omega) (by omega) (by omega)).fin (by omega) (by omega)
            have hs375 := (StpL.of_ext (B := fun i => Value.ownBlock v2 = some i ∨ i = g41) hs363).trans' (Stp.toL hst369 (by intro q hq; exact Or.inl hq))
            refine ⟨hs375, ?_⟩
            refine dr_val (i := 9) ha371 rfl (by kernel_rfl) (by kernel_rfl) (by kernel_rfl) rfl rfl rfl hs375 (fun w' hw' => op_fieldAddr (sz := 0) ha371 rfl Try.underlying28 rfl rfl ti23 rfl) ?_
            intro a376 ha376; clear ha371 a371
            refine dr_one (i := 10) (by kernel_rfl) ?_
            refine po_effS ha376 rfl rfl rfl (op_store' (off := 1) ha376 rfl ti23 rfl rfl hf285 ho368.cells1 rfl (by intro u hu; have hu : u ∈ ([v366] : List Value) := hu; simp only [List.mem_cons, List.mem_nil_iff, or_false] at hu; rcases hu with rfl <;> first | rfl | exact ho368.one) (Nat.le_of_ble_eq_true rfl)) ?_
            rintro w377 ⟨hb379, hst378, hz380⟩
            have hx381 := hx372.stp hst378 (by intro q hq; cases hq; exact (by omega))
            have hzhx381 := hst378.size
            replace hf280 := hf280.stp hst378 (by intro q hq; cases hq; omega)
            replace hf281 := hf281.stp hst378 (by intro q hq; cases hq; omega)
            replace hf282 : Own shStr 9 w34.heap.size w34.heap.size w43.heap.size w377 q42 ((a.1 ++ b.1.drop 1)) := by first | exact hf282.stp hst378 (by intro q hq; cases hq; omega) | exact hf282.stpF flat_shStr hst378 (by intro q hq; cases hq; exact hf282.ne_box (by assumption) rfl)
            replace ho351 : Own shI64 2 w330.heap.size w330.heap.size w350.heap.size w377 v349 (((x262) ++ x290.drop 1)) := by first | exact ho351.stp hst378 (by intro q hq; cases hq; omega) | exact ho351.stpF flat_shI64 hst378 (by intro q hq; cases hq; exact ho351.ne_box (by assumption) rfl)
            replace ho359 : Own shRowN 41 w350.heap.size w350.heap.size w358.heap.size w377 v357 ([((((x262) ++ x290.drop 1) : List Int), (v349 : Value))]) := by first | exact ho359.stp hst378 (by intro q hq; cases hq; omega) | exact ho359.stpF flat_shRowN hst378 (by intro q hq; cases hq; exact ho359.ne_box (by assumption) rfl)
            replace ho368 : Own shRowN 41 w198.heap.size w198.heap.size w367.heap.size w377 v366 ((ys ++ [((((x262) ++ x290.drop 1) : List Int), (v349 : Value))])) := by first | exact ho368.stp hst378 (by intro q hq; cases hq; omega) | exact ho368.stpF flat_shRowN hst378 (by intro q hq; cases hq; exact ho368.ne_box (by assumption) rfl)
            replace hN374 : Nst shI64 2 (fun x : List Int => x) w198.heap.size w367.heap.size w377 ((ys ++ [((((x262) ++ x290.drop 1) : List Int), (v349 : Value))])) := by first | exact hN374.stp hst378 (by intro q hq; cases hq; omega) | exact hN374.stpB flat_shI64 hst378 (by assumption) rfl
            clear hf285
            have hs382 := hs375.trans' (Stp.toL hst378 (by intro q hq; cases hq; exact Or.inr (rfl)))
            refine ⟨hs382, ?_⟩
            refine dr_end (by kernel_rfl) ?_
            refine block_n ?_
            refine then_n ?_
            refine wp_region_lit ?_
            refine wl_val ha376 rfl rfl rfl ((op_add ha376 rfl rfl rfl).int (IntWalk.i64_in _ (by omega))) ?_
            intro a383 ha383; clear ha376 a376
            refine wl_val ha383 rfl rfl rfl (op_move ha383 rfl rfl) ?_
            intro a384 ha384; clear ha383 a383
            refine wpList_nil ?_
            refine round_end (x := (k, v2, ys)) ((k + 1), v366, (ys ++ [((((x262) ++ x290.drop 1) : List Int), (v349 : Value))])) ?_ ?_
            ·
             refine ⟨(Sl.cons_ ha384 rfl rfl (Sl.cons_ ha384 rfl rfl (Sl.cons_ ha384 rfl rfl (Sl.cons_ ha384 rfl rfl (Sl.cons_ ha384 rfl rfl (Sl.cons_ ha384 rfl rfl (Sl.cons_ ha384 rfl rfl (Sl.cons_ ha384 rfl rfl (Sl.cons_ ha384 rfl rfl (Sl.cons_ ha384 rfl (int_eq (by omega)) (Sl.nil_ ha384))))))))))), hx381, hf280, hf281, hf282, (ho368.fin (by omega) (by omega) (by omega)), (hN374.fin (by omega) (by omega)), hb379, (by omega), (by omega), (by first | omega | (simp; omega)), (by rw [drop_cons hx290, jnR1_t ((rowC_eq (c := 0) hx307).trans (c329.trans (rowC_eq (c := 0) hx318).symm))] at hF2; rw [List.map_append, List.append_assoc]; exact hF2), (by intro z hz; rcases List.mem_append.1 hz with hz | hz; (exact hS2 z hz); (obtain rfl := List.mem_singleton.1 hz; show (x262 ++ x290.drop 1).length ≤ 20; rw [List.length_append, List.length_drop]; omega))⟩
            ·show (b.2.length - ((k + 1)) : Nat) < b.2.length - k; omega
           ·
            refine po_callR ha340 rfl rfl rfl rfl (op_call ha340 rfl cb84 rfl) (c_impl_copyList _ v269 x262 (b270.ext pos_shI64 (hx332.trans' hs333)) (by first | assumption | omega | (simp; omega))) ?_
            rintro v385 w386 he387 ho388 a389 ha389; clear ha340 a340
            have hs390 := hs333.trans' he387
            have hx391 := hx332.trans' he387
            have hzhx391 := he387.size
            refine ⟨(StpL.of_ext hs390), ?_⟩
            refine dr_two (i := 1) (j := 6) (by kernel_rfl) ?_ ?_
            ·
             refine po_to ha389 rfl rfl rfl rfl (op_loadF (off := 1) ha389 rfl Try.underlying23 rfl rfl (hf285.ext hs390).cells rfl) ?_
             intro a392 ha392; clear ha389 a389
             refine ⟨(StpL.of_ext hs390), ?_⟩
             refine dr_one (i := 6) (by kernel_rfl) ?_
             refine po_eff ha392 rfl rfl rfl rfl (op_append (ts := #[]) (s := shI64) ha392 rfl Try.underlying41 ti2 rfl pos_shI64 rfl rfl ho388 (hr339.ext pos_shI64 (hx332.trans' hs390)) (by omega) (by omega) (by first | omega | (simp; omega) | (simp only [List.length_drop, List.length_append]; omega)) (by first | omega | (simp; omega) | (simp only [List.length_drop, List.length_append]; omega)) (.inl flat_shI64)) ?_
             rintro v393 w394 ⟨ho395, hst396, hob397⟩ a398 ha398; clear ha392 a392
             have hs399 := hs390.stp hst396 (by intro q hq; have hq0 := ho388.lt q hq; omega)
             have hx400 := hx391.stp hst396 (by intro q hq; have hq0 := ho388.lt q hq; omega)
             have hzhx400 := hst396.size
             refine ⟨(StpL.of_ext hs399), ?_⟩
             refine dr_one (i := 7) (by kernel_rfl) ?_
             refine po_eff ha398 rfl rfl rfl rfl (op_buildSlice (s := shRowN) (xs := [((((x262) ++ x290.drop 1) : List Int), (v393 : Value))]) (cs := [v393]) (vs := [(0, v393)]) (S := fun _ => False) (le := w394.heap.size) ha398 rfl pos_shRowN Try.underlying23 ti41 rfl rfl (by decide) ((fill_one (off := 0) ho395.cells1 (by kernel_rfl) (by kernel_rfl)).trans (by kernel_rfl)) (Els.single (mk_shRowN (((((x262) ++ x290.drop 1) : List Int), (v393 : Value))) ho395.one)) (fun _ h => h.elim)) ?_
             rintro v401 w402 ⟨ho403, he404, hob405⟩ a406 ha406; clear ha398 a398
             have hs407 := hs399.trans' he404
             have hx408 := hx400.trans' he404
             have hzhx408 := he404.size
             replace ho395 := ho395.ext he404
             refine ⟨(StpL.of_ext hs407), ?_⟩
             have hN409 : Nst shI64 2 (fun x : List Int => x) w330.heap.size w402.heap.size w402 ([((((x262) ++ x290.drop 1) : List Int), (v393 : Value))]) := Nst.one (ho395.fin (by omega) (by omega) (by omega))
             refine dr_one (i := 8) (by kernel_rfl) ?_
             replace hf280 := hf280.ext hs407
             replace hf281 := hf281.ext hs407
             replace hf282 := hf282.ext hs407
             replace hf283 := hf283.ext hs407
             replace hf284 := hf284.ext hs407
             replace hf285 := hf285.ext hs407
             refine po_eff ha406 rfl rfl rfl rfl (op_append (ts := #[]) (s := shRowN) ha406 rfl Try.underlying23 ti41 rfl pos_shRowN rfl rfl hf283 (ho403.rds pos_shRowN) (by omega) (by omega) (by first | omega | (simp; omega) | (simp only [List.length_drop, List.length_append]; omega)) (by first | omega | (simp; omega) | (simp only [List.length_drop, List.length_append]; omega)) (.inl flat_shRowN)) ?_
             rintro v410 w411 ⟨ho412, hst413, hob414⟩ a415 ha415; clear ha406 a406
             have hx416 := hx408.stp hst413 (by intro q hq; have hq0 := hf283.lt q hq; omega)
             have hzhx416 := hst413.size
             replace hf280 := hf280.stp hst413 (by intro q hq; have hq0 := hf283.lt q hq; omega)
             replace hf281 := hf281.stp hst413 (by intro q hq; have hq0 := hf283.lt q hq; omega)
             replace hf282 := hf282.stp hst413 (by intro q hq; have hq0 := hf283.lt q hq; omega)
             replace hf284 : Nst shI64 2 (fun x : List Int => x) w198.heap.size w278.heap.size w411 ys := by first | exact hf284.stpF flat_shI64 hst413 hf283 rfl | exact hf284.stp hst413 (by intro q hq; have hq0 := hf283.lt q hq; omega)
             replace hf285 : Box w411 g41 28 [q42, v2] := by first | exact hf285.stp hst413 (by intro q hq; have hq0 := hf283.lt q hq; omega) | exact hf285.stp hst413 (by intro q hq e; subst e; exact hf283.ne_box hf285 rfl hq)
             replace ho395 := ho395.stp hst413 (by intro q hq; have hq0 := hf283.lt q hq; omega)
             replace ho403 := ho403.stp hst413 (by intro q hq; have hq0 := hf283.lt q hq; omega)
             replace hN409 := hN409.stp hst413 (by intro q hq; have hq0 := hf283.lt q hq; omega)
             have hsp417 : ∀ q, Value.ownBlock v410 = some q → Value.ownBlock v401 ≠ some q := by intro q hq hb; have hq0 := ho403.lt q hb; rcases hob414 with h | h; (rw [h] at hq; first | (have hq1 := hf283.lt q hq; omega)); (rw [h] at hq; cases hq; omega)
             have hN418 : Nst shI64 2 (fun x : List Int => x) w198.heap.size w411.heap.size w411 ((ys ++ [((((x262) ++ x290.drop 1) : List Int), (v393 : Value))])) := (hf284.app hN409 (by omega) (by omega) (by omega)).fin (by omega) (by omega)
             have hs419 := (StpL.of_ext (B := fun i => Value.ownBlock v2 = some i ∨ i = g41) hs407).trans' (Stp.toL hst413 (by intro q hq; exact Or.inl hq))
             refine ⟨hs419, ?_⟩
             refine dr_val (i := 9) ha415 rfl (by kernel_rfl) (by kernel_rfl) (by kernel_rfl) rfl rfl rfl hs419 (fun w' hw' => op_fieldAddr (sz := 0) ha415 rfl Try.underlying28 rfl rfl ti23 rfl) ?_
             intro a420 ha420; clear ha415 a415
             refine dr_one (i := 10) (by kernel_rfl) ?_
             refine po_effS ha420 rfl rfl rfl (op_store' (off := 1) ha420 rfl ti23 rfl rfl hf285 ho412.cells1 rfl (by intro u hu; have hu : u ∈ ([v410] : List Value) := hu; simp only [List.mem_cons, List.mem_nil_iff, or_false] at hu; rcases hu with rfl <;> first | rfl | exact ho412.one) (Nat.le_of_ble_eq_true rfl)) ?_
             rintro w421 ⟨hb423, hst422, hz424⟩
             have hx425 := hx416.stp hst422 (by intro q hq; cases hq; exact (by omega))
             have hzhx425 := hst422.size
             replace hf280 := hf280.stp hst422 (by intro q hq; cases hq; omega)
             replace hf281 := hf281.stp hst422 (by intro q hq; cases hq; omega)
             replace hf282 : Own shStr 9 w34.heap.size w34.heap.size w43.heap.size w421 q42 ((a.1 ++ b.1.drop 1)) := by first | exact hf282.stp hst422 (by intro q hq; cases hq; omega) | exact hf282.stpF flat_shStr hst422 (by intro q hq; cases hq; exact hf282.ne_box (by assumption) rfl)
             replace ho395 : Own shI64 2 w330.heap.size w330.heap.size w394.heap.size w421 v393 (((x262) ++ x290.drop 1)) := by first | exact ho395.stp hst422 (by intro q hq; cases hq; omega) | exact ho395.stpF flat_shI64 hst422 (by intro q hq; cases hq; exact ho395.ne_box (by assumption) rfl)
             replace ho403 : Own shRowN 41 w394.heap.size w394.heap.size w402.heap.size w421 v401 ([((((x262) ++ x290.drop 1) : List Int), (v393 : Value))]) := by first | exact ho403.stp hst422 (by intro q hq; cases hq; omega) | exact ho403.stpF flat_shRowN hst422 (by intro q hq; cases hq; exact ho403.ne_box (by assumption) rfl)
             replace ho412 : Own shRowN 41 w198.heap.size w198.heap.size w411.heap.size w421 v410 ((ys ++ [((((x262) ++ x290.drop 1) : List Int), (v393 : Value))])) := by first | exact ho412.stp hst422 (by intro q hq; cases hq; omega) | exact ho412.stpF flat_shRowN hst422 (by intro q hq; cases hq; exact ho412.ne_box (by assumption) rfl)
             replace hN418 : Nst shI64 2 (fun x : List Int => x) w198.heap.size w411.heap.size w421 ((ys ++ [((((x262) ++ x290.drop 1) : List Int), (v393 : Value))])) := by first | exact hN418.stp hst422 (by intro q hq; cases hq; omega) | exact hN418.stpB flat_shI64 hst422 (by assumption) rfl
             clear hf285
             have hs426 := hs419.trans' (Stp.toL hst422 (by intro q hq; cases hq; exact Or.inr (rfl)))
             refine ⟨hs426, ?_⟩
             refine dr_end (by kernel_rfl) ?_
             refine block_n ?_
             refine then_n ?_
             refine wp_region_lit ?_
             refine wl_val ha420 rfl rfl rfl ((op_add ha420 rfl rfl rfl).int (IntWalk.i64_in _ (by omega))) ?_
             intro a427 ha427; clear ha420 a420
             refine wl_val ha427 rfl rfl rfl (op_move ha427 rfl rfl) ?_
             intro a428 ha428; clear ha427 a427
             refine wpList_nil ?_
             refine round_end (x := (k, v2, ys)) ((k + 1), v410, (ys ++ [((((x262) ++ x290.drop 1) : List Int), (v393 : Value))])) ?_ ?_
             ·
              refine ⟨(Sl.cons_ ha428 rfl rfl (Sl.cons_ ha428 rfl rfl (Sl.cons_ ha428 rfl rfl (Sl.cons_ ha428 rfl rfl (Sl.cons_ ha428 rfl rfl (Sl.cons_ ha428 rfl rfl (Sl.cons_ ha428 rfl rfl (Sl.cons_ ha428 rfl rfl (Sl.cons_ ha428 rfl rfl (Sl.cons_ ha428 rfl (int_eq (by omega)) (Sl.nil_ ha428))))))))))), hx425, hf280, hf281, hf282, (ho412.fin (by omega) (by omega) (by omega)), (hN418.fin (by omega) (by omega)), hb423, (by omega), (by omega), (by first | omega | (simp; omega)), (by rw [drop_cons hx290, jnR1_t ((rowC_eq (c := 0) hx307).trans (c329.trans (rowC_eq (c := 0) hx318).symm))] at hF2; rw [List.map_append, List.append_assoc]; exact hF2), (by intro z hz; rcases List.mem_append.1 hz with hz | hz; (exact hS2 z hz); (obtain rfl := List.mem_singleton.1 hz; show (x262 ++ x290.drop 1).length ≤ 20; rw [List.length_append, List.length_drop]; omega))⟩
             ·show (b.2.length - ((k + 1)) : Nat) < b.2.length - k; omega
            ·
             refine po_eff ha389 rfl rfl rfl rfl (op_append (ts := #[]) (s := shI64) ha389 rfl Try.underlying41 ti2 rfl pos_shI64 rfl rfl ho388 (hr339.ext pos_shI64 (hx332.trans' hs390)) (by omega) (by omega) (by first | omega | (simp; omega) | (simp only [List.length_drop, List.length_append]; omega)) (by first | omega | (simp; omega) | (simp only [List.length_drop, List.length_append]; omega)) (.inl flat_shI64)) ?_
             rintro v429 w430 ⟨ho431, hst432, hob433⟩ a434 ha434; clear ha389 a389
             have hs435 := hs390.stp hst432 (by intro q hq; have hq0 := ho388.lt q hq; omega)
             have hx436 := hx391.stp hst432 (by intro q hq; have hq0 := ho388.lt q hq; omega)
             have hzhx436 := hst432.size
             refine ⟨(StpL.of_ext hs435), ?_⟩
             refine dr_two (i := 1) (j := 7) (by kernel_rfl) ?_ ?_
             ·
              refine po_to ha434 rfl rfl rfl rfl (op_loadF (off := 1) ha434 rfl Try.underlying23 rfl rfl (hf285.ext hs435).cells rfl) ?_
              intro a437 ha437; clear ha434 a434
              refine ⟨(StpL.of_ext hs435), ?_⟩
              refine dr_one (i := 7) (by kernel_rfl) ?_
              refine po_eff ha437 rfl rfl rfl rfl (op_buildSlice (s := shRowN) (xs := [((((x262) ++ x290.drop 1) : List Int), (v429 : Value))]) (cs := [v429]) (vs := [(0, v429)]) (S := fun _ => False) (le := w430.heap.size) ha437 rfl pos_shRowN Try.underlying23 ti41 rfl rfl (by decide) ((fill_one (off := 0) ho431.cells1 (by kernel_rfl) (by kernel_rfl)).trans (by kernel_rfl)) (Els.single (mk_shRowN (((((x262) ++ x290.drop 1) : List Int), (v429 : Value))) ho431.one)) (fun _ h => h.elim)) ?_
              rintro v438 w439 ⟨ho440, he441, hob442⟩ a443 ha443; clear ha437 a437
              have hs444 := hs435.trans' he441
              have hx445 := hx436.trans' he441
              have hzhx445 := he441.size
              replace ho431 := ho431.ext he441
              refine ⟨(StpL.of_ext hs444), ?_⟩
              have hN446 : Nst shI64 2 (fun x : List Int => x) w330.heap.size w439.heap.size w439 ([((((x262) ++ x290.drop 1) : List Int), (v429 : Value))]) := Nst.one (ho431.fin (by omega) (by omega) (by omega))
              refine dr_one (i := 8) (by kernel_rfl) ?_
              replace hf280 := hf280.ext hs444
              replace hf281 := hf281.ext hs444
              replace hf282 := hf282.ext hs444
              replace hf283 := hf283.ext hs444
              replace hf284 := hf284.ext hs444
              replace hf285 := hf285.ext hs444
              refine po_eff ha443 rfl rfl rfl rfl (op_append (ts := #[]) (s := shRowN) ha443 rfl Try.underlying23 ti41 rfl pos_shRowN rfl rfl hf283 (ho440.rds pos_shRowN) (by omega) (by omega) (by first | omega | (simp; omega) | (simp only [List.length_drop, List.length_append]; omega)) (by first | omega | (simp; omega) | (simp only [List.length_drop, List.length_append]; omega)) (.inl flat_shRowN)) ?_
              rintro v447 w448 ⟨ho449, hst450, hob451⟩ a452 ha452; clear ha443 a443
              have hx453 := hx445.stp hst450 (by intro q hq; have hq0 := hf283.lt q hq; omega)
              have hzhx453 := hst450.size
              replace hf280 := hf280.stp hst450 (by intro q hq; have hq0 := hf283.lt q hq; omega)
              replace hf281 := hf281.stp hst450 (by intro q hq; have hq0 := hf283.lt q hq; omega)
              replace hf282 := hf282.stp hst450 (by intro q hq; have hq0 := hf283.lt q hq; omega)
              replace hf284 : Nst shI64 2 (fun x : List Int => x) w198.heap.size w278.heap.size w448 ys := by first | exact hf284.stpF flat_shI64 hst450 hf283 rfl | exact hf284.stp hst450 (by intro q hq; have hq0 := hf283.lt q hq; omega)
              replace hf285 : Box w448 g41 28 [q42, v2] := by first | exact hf285.stp hst450 (by intro q hq; have hq0 := hf283.lt q hq; omega) | exact hf285.stp hst450 (by intro q hq e; subst e; exact hf283.ne_box hf285 rfl hq)
              replace ho431 := ho431.stp hst450 (by intro q hq; have hq0 := hf283.lt q hq; omega)
              replace ho440 := ho440.stp hst450 (by intro q hq; have hq0 := hf283.lt q hq; omega)
              replace hN446 := hN446.stp hst450 (by intro q hq; have hq0 := hf283.lt q hq; omega)
              have hsp454 : ∀ q, Value.ownBlock v447 = some q → Value.ownBlock v438 ≠ some q := by intro q hq hb; have hq0 := ho440.lt q hb; rcases hob451 with h | h; (rw [h] at hq; first | (have hq1 := hf283.lt q hq; omega)); (rw [h] at hq; cases hq; omega)
              have hN455 : Nst shI64 2 (fun x : List Int => x) w198.heap.size w448.heap.size w448 ((ys ++ [((((x262) ++ x290.drop 1) : List Int), (v429 : Value))])) := (hf284.app hN446 (by omega) (by omega) (by omega)).fin (by omega) (by omega)
              have hs456 := (StpL.of_ext (B := fun i => Value.ownBlock v2 = some i ∨ i = g41) hs444).trans' (Stp.toL hst450 (by intro q hq; exact Or.inl hq))
              refine ⟨hs456, ?_⟩
              refine dr_val (i := 9) ha452 rfl (by kernel_rfl) (by kernel_rfl) (by kernel_rfl) rfl rfl rfl hs456 (fun w' hw' => op_fieldAddr (sz := 0) ha452 rfl Try.underlying28 rfl rfl ti23 rfl) ?_
              intro a457 ha457; clear ha452 a452
              refine dr_one (i := 10) (by kernel_rfl) ?_
              refine po_effS ha457 rfl rfl rfl (op_store' (off := 1) ha457 rfl ti23 rfl rfl hf285 ho449.cells1 rfl (by intro u hu; have hu : u ∈ ([v447] : List Value) := hu; simp only [List.mem_cons, List.mem_nil_iff, or_false] at hu; rcases hu with rfl <;> first | rfl | exact ho449.one) (Nat.le_of_ble_eq_true rfl)) ?_
              rintro w458 ⟨hb460, hst459, hz461⟩
              have hx462 := hx453.stp hst459 (by intro q hq; cases hq; exact (by omega))
              have hzhx462 := hst459.size
              replace hf280 := hf280.stp hst459 (by intro q hq; cases hq; omega)
              replace hf281 := hf281.stp hst459 (by intro q hq; cases hq; omega)
              replace hf282 : Own shStr 9 w34.heap.size w34.heap.size w43.heap.size w458 q42 ((a.1 ++ b.1.drop 1)) := by first | exact hf282.stp hst459 (by intro q hq; cases hq; omega) | exact hf282.stpF flat_shStr hst459 (by intro q hq; cases hq; exact hf282.ne_box (by assumption) rfl)
              replace ho431 : Own shI64 2 w330.heap.size w330.heap.size w430.heap.size w458 v429 (((x262) ++ x290.drop 1)) := by first | exact ho431.stp hst459 (by intro q hq; cases hq; omega) | exact ho431.stpF flat_shI64 hst459 (by intro q hq; cases hq; exact ho431.ne_box (by assumption) rfl)
              replace ho440 : Own shRowN 41 w430.heap.size w430.heap.size w439.heap.size w458 v438 ([((((x262) ++ x290.drop 1) : List Int), (v429 : Value))]) := by first | exact ho440.stp hst459 (by intro q hq; cases hq; omega) | exact ho440.stpF flat_shRowN hst459 (by intro q hq; cases hq; exact ho440.ne_box (by assumption) rfl)
              replace ho449 : Own shRowN 41 w198.heap.size w198.heap.size w448.heap.size w458 v447 ((ys ++ [((((x262) ++ x290.drop 1) : List Int), (v429 : Value))])) := by first | exact ho449.stp hst459 (by intro q hq; cases hq; omega) | exact ho449.stpF flat_shRowN hst459 (by intro q hq; cases hq; exact ho449.ne_box (by assumption) rfl)
              replace hN455 : Nst shI64 2 (fun x : List Int => x) w198.heap.size w448.heap.size w458 ((ys ++ [((((x262) ++ x290.drop 1) : List Int), (v429 : Value))])) := by first | exact hN455.stp hst459 (by intro q hq; cases hq; omega) | exact hN455.stpB flat_shI64 hst459 (by assumption) rfl
              clear hf285
              have hs463 := hs456.trans' (Stp.toL hst459 (by intro q hq; cases hq; exact Or.inr (rfl)))
              refine ⟨hs463, ?_⟩
              refine dr_end (by kernel_rfl) ?_
              refine block_n ?_
              refine then_n ?_
              refine wp_region_lit ?_
              refine wl_val ha457 rfl rfl rfl ((op_add ha457 rfl rfl rfl).int (IntWalk.i64_in _ (by omega))) ?_
              intro a464 ha464; clear ha457 a457
              refine wl_val ha464 rfl rfl rfl (op_move ha464 rfl rfl) ?_
              intro a465 ha465; clear ha464 a464
              refine wpList_nil ?_
              refine round_end (x := (k, v2, ys)) ((k + 1), v447, (ys ++ [((((x262) ++ x290.drop 1) : List Int), (v429 : Value))])) ?_ ?_
              ·
               refine ⟨(Sl.cons_ ha465 rfl rfl (Sl.cons_ ha465 rfl rfl (Sl.cons_ ha465 rfl rfl (Sl.cons_ ha465 rfl rfl (Sl.cons_ ha465 rfl rfl (Sl.cons_ ha465 rfl rfl (Sl.cons_ ha465 rfl rfl (Sl.cons_ ha465 rfl rfl (Sl.cons_ ha465 rfl rfl (Sl.cons_ ha465 rfl (int_eq (by omega)) (Sl.nil_ ha465))))))))))), hx462, hf280, hf281, hf282, (ho449.fin (by omega) (by omega) (by omega)), (hN455.fin (by omega) (by omega)), hb460, (by omega), (by omega), (by first | omega | (simp; omega)), (by rw [drop_cons hx290, jnR1_t ((rowC_eq (c := 0) hx307).trans (c329.trans (rowC_eq (c := 0) hx318).symm))] at hF2; rw [List.map_append, List.append_assoc]; exact hF2), (by intro z hz; rcases List.mem_append.1 hz with hz | hz; (exact hS2 z hz); (obtain rfl := List.mem_singleton.1 hz; show (x262 ++ x290.drop 1).length ≤ 20; rw [List.length_append, List.length_drop]; omega))⟩
              ·show (b.2.length - ((k + 1)) : Nat) < b.2.length - k; omega
             ·
              refine po_eff ha434 rfl rfl rfl rfl (op_buildSlice (s := shRowN) (xs := [((((x262) ++ x290.drop 1) : List Int), (v429 : Value))]) (cs := [v429]) (vs := [(0, v429)]) (S := fun _ => False) (le := w430.heap.size) ha434 rfl pos_shRowN Try.underlying23 ti41 rfl rfl (by decide) ((fill_one (off := 0) ho431.cells1 (by kernel_rfl) (by kernel_rfl)).trans (by kernel_rfl)) (Els.single (mk_shRowN (((((x262) ++ x290.drop 1) : List Int), (v429 : Value))) ho431.one)) (fun _ h => h.elim)) ?_
              rintro v466 w467 ⟨ho468, he469, hob470⟩ a471 ha471; clear ha434 a434
              have hs472 := hs435.trans' he469
              have hx473 := hx436.trans' he469
              have hzhx473 := he469.size
              replace ho431 := ho431.ext he469
              refine ⟨(StpL.of_ext hs472), ?_⟩
              have hN474 : Nst shI64 2 (fun x : List Int => x) w330.heap.size w467.heap.size w467 ([((((x262) ++ x290.drop 1) : List Int), (v429 : Value))]) := Nst.one (ho431.fin (by omega) (by omega) (by omega))
              refine dr_one (i := 1) (by kernel_rfl) ?_
              refine po_to ha471 rfl rfl rfl rfl (op_loadF (off := 1) ha471 rfl Try.underlying23 rfl rfl (hf285.ext hs472).cells rfl) ?_
              intro a475 ha475; clear ha471 a471
              refine ⟨(StpL.of_ext hs472), ?_⟩
              refine dr_one (i := 8) (by kernel_rfl) ?_
              replace hf280 := hf280.ext hs472
              replace hf281 := hf281.ext hs472
              replace hf282 := hf282.ext hs472
              replace hf283 := hf283.ext hs472
              replace hf284 := hf284.ext hs472
              replace hf285 := hf285.ext hs472
              refine po_eff ha475 rfl rfl rfl rfl (op_append (ts := #[]) (s := shRowN) ha475 rfl Try.underlying23 ti41 rfl pos_shRowN rfl rfl hf283 (ho468.rds pos_shRowN) (by omega) (by omega) (by first | omega | (simp; omega) | (simp only [List.length_drop, List.length_append]; omega)) (by first | omega | (simp; omega) | (simp only [List.length_drop, List.length_append]; omega)) (.inl flat_shRowN)) ?_
              rintro v476 w477 ⟨ho478, hst479, hob480⟩ a481 ha481; clear ha475 a475
              have hx482 := hx473.stp hst479 (by intro q hq; have hq0 := hf283.lt q hq; omega)
              have hzhx482 := hst479.size
              replace hf280 := hf280.stp hst479 (by intro q hq; have hq0 := hf283.lt q hq; omega)
              replace hf281 := hf281.stp hst479 (by intro q hq; have hq0 := hf283.lt q hq; omega)
              replace hf282 := hf282.stp hst479 (by intro q hq; have hq0 := hf283.lt q hq; omega)
              replace hf284 : Nst shI64 2 (fun x : List Int => x) w198.heap.size w278.heap.size w477 ys := by first | exact hf284.stpF flat_shI64 hst479 hf283 rfl | exact hf284.stp hst479 (by intro q hq; have hq0 := hf283.lt q hq; omega)
              replace hf285 : Box w477 g41 28 [q42, v2] := by first | exact hf285.stp hst479 (by intro q hq; have hq0 := hf283.lt q hq; omega) | exact hf285.stp hst479 (by intro q hq e; subst e; exact hf283.ne_box hf285 rfl hq)
              replace ho431 := ho431.stp hst479 (by intro q hq; have hq0 := hf283.lt q hq; omega)
              replace ho468 := ho468.stp hst479 (by intro q hq; have hq0 := hf283.lt q hq; omega)
              replace hN474 := hN474.stp hst479 (by intro q hq; have hq0 := hf283.lt q hq; omega)
              have hsp483 : ∀ q, Value.ownBlock v476 = some q → Value.ownBlock v466 ≠ some q := by intro q hq hb; have hq0 := ho468.lt q hb; rcases hob480 with h | h; (rw [h] at hq; first | (have hq1 := hf283.lt q hq; omega)); (rw [h] at hq; cases hq; omega)
              have hN484 : Nst shI64 2 (fun x : List Int => x) w198.heap.size w477.heap.size w477 ((ys ++ [((((x262) ++ x290.drop 1) : List Int), (v429 : Value))])) := (hf284.app hN474 (by omega) (by omega) (by omega)).fin (by omega) (by omega)
              have hs485 := (StpL.of_ext (B := fun i => Value.ownBlock v2 = some i ∨ i = g41) hs472).trans' (Stp.toL hst479 (by intro q hq; exact Or.inl hq))
              refine ⟨hs485, ?_⟩
              refine dr_val (i := 9) ha481 rfl (by kernel_rfl) (by kernel_rfl) (by kernel_rfl) rfl rfl rfl hs485 (fun w' hw' => op_fieldAddr (sz := 0) ha481 rfl Try.underlying28 rfl rfl ti23 rfl) ?_
              intro a486 ha486; clear ha481 a481
              refine dr_one (i := 10) (by kernel_rfl) ?_
              refine po_effS ha486 rfl rfl rfl (op_store' (off := 1) ha486 rfl ti23 rfl rfl hf285 ho478.cells1 rfl (by intro u hu; have hu : u ∈ ([v476] : List Value) := hu; simp only [List.mem_cons, List.mem_nil_iff, or_false] at hu; rcases hu with rfl <;> first | rfl | exact ho478.one) (Nat.le_of_ble_eq_true rfl)) ?_
              rintro w487 ⟨hb489, hst488, hz490⟩
              have hx491 := hx482.stp hst488 (by intro q hq; cases hq; exact (by omega))
              have hzhx491 := hst488.size
              replace hf280 := hf280.stp hst488 (by intro q hq; cases hq; omega)
              replace hf281 := hf281.stp hst488 (by intro q hq; cases hq; omega)
              replace hf282 : Own shStr 9 w34.heap.size w34.heap.size w43.heap.size w487 q42 ((a.1 ++ b.1.drop 1)) := by first | exact hf282.stp hst488 (by intro q hq; cases hq; omega) | exact hf282.stpF flat_shStr hst488 (by intro q hq; cases hq; exact hf282.ne_box (by assumption) rfl)
              replace ho431 : Own shI64 2 w330.heap.size w330.heap.size w430.heap.size w487 v429 (((x262) ++ x290.drop 1)) := by first | exact ho431.stp hst488 (by intro q hq; cases hq; omega) | exact ho431.stpF flat_shI64 hst488 (by intro q hq; cases hq; exact ho431.ne_box (by assumption) rfl)
              replace ho468 : Own shRowN 41 w430.heap.size w430.heap.size w467.heap.size w487 v466 ([((((x262) ++ x290.drop 1) : List Int), (v429 : Value))]) := by first | exact ho468.stp hst488 (by intro q hq; cases hq; omega) | exact ho468.stpF flat_shRowN hst488 (by intro q hq; cases hq; exact ho468.ne_box (by assumption) rfl)
              replace ho478 : Own shRowN 41 w198.heap.size w198.heap.size w477.heap.size w487 v476 ((ys ++ [((((x262) ++ x290.drop 1) : List Int), (v429 : Value))])) := by first | exact ho478.stp hst488 (by intro q hq; cases hq; omega) | exact ho478.stpF flat_shRowN hst488 (by intro q hq; cases hq; exact ho478.ne_box (by assumption) rfl)
              replace hN484 : Nst shI64 2 (fun x : List Int => x) w198.heap.size w477.heap.size w487 ((ys ++ [((((x262) ++ x290.drop 1) : List Int), (v429 : Value))])) := by first | exact hN484.stp hst488 (by intro q hq; cases hq; omega) | exact hN484.stpB flat_shI64 hst488 (by assumption) rfl
              clear hf285
              have hs492 := hs485.trans' (Stp.toL hst488 (by intro q hq; cases hq; exact Or.inr (rfl)))
              refine ⟨hs492, ?_⟩
              refine dr_end (by kernel_rfl) ?_
              refine block_n ?_
              refine then_n ?_
              refine wp_region_lit ?_
              refine wl_val ha486 rfl rfl rfl ((op_add ha486 rfl rfl rfl).int (IntWalk.i64_in _ (by omega))) ?_
              intro a493 ha493; clear ha486 a486
              refine wl_val ha493 rfl rfl rfl (op_move ha493 rfl rfl) ?_
              intro a494 ha494; clear ha493 a493
              refine wpList_nil ?_
              refine round_end (x := (k, v2, ys)) ((k + 1), v476, (ys ++ [((((x262) ++ x290.drop 1) : List Int), (v429 : Value))])) ?_ ?_
              ·
               refine ⟨(Sl.cons_ ha494 rfl rfl (Sl.cons_ ha494 rfl rfl (Sl.cons_ ha494 rfl rfl (Sl.cons_ ha494 rfl rfl (Sl.cons_ ha494 rfl rfl (Sl.cons_ ha494 rfl rfl (Sl.cons_ ha494 rfl rfl (Sl.cons_ ha494 rfl rfl (Sl.cons_ ha494 rfl rfl (Sl.cons_ ha494 rfl (int_eq (by omega)) (Sl.nil_ ha494))))))))))), hx491, hf280, hf281, hf282, (ho478.fin (by omega) (by omega) (by omega)), (hN484.fin (by omega) (by omega)), hb489, (by omega), (by omega), (by first | omega | (simp; omega)), (by rw [drop_cons hx290, jnR1_t ((rowC_eq (c := 0) hx307).trans (c329.trans (rowC_eq (c := 0) hx318).symm))] at hF2; rw [List.map_append, List.append_assoc]; exact hF2), (by intro z hz; rcases List.mem_append.1 hz with hz | hz; (exact hS2 z hz); (obtain rfl := List.mem_singleton.1 hz; show (x262 ++ x290.drop 1).length ≤ 20; rw [List.length_append, List.length_drop]; omega))⟩
              ·show (b.2.length - ((k + 1)) : Nat) < b.2.length - k; omega
          ·
           rw [decide_eq_false c329] at ha328
           refine cond_f ha328 rfl ?_
           refine wp_skip ?_
           refine block_n ?_
           refine then_n ?_
           refine wp_region_lit ?_
           refine wl_val ha328 rfl rfl rfl ((op_add ha328 rfl rfl rfl).int (IntWalk.i64_in _ (by omega))) ?_
           intro a495 ha495; clear ha328 a328
           refine wl_val ha495 rfl rfl rfl (op_move ha495 rfl rfl) ?_
           intro a496 ha496; clear ha495 a495
           refine wpList_nil ?_
           refine round_end (x := (k, v2, ys)) ((k + 1), v2, ys) ?_ ?_
           ·
            refine ⟨(Sl.cons_ ha496 rfl rfl (Sl.cons_ ha496 rfl rfl (Sl.cons_ ha496 rfl rfl (Sl.cons_ ha496 rfl rfl (Sl.cons_ ha496 rfl rfl (Sl.cons_ ha496 rfl rfl (Sl.cons_ ha496 rfl rfl (Sl.cons_ ha496 rfl rfl (Sl.cons_ ha496 rfl rfl (Sl.cons_ ha496 rfl (int_eq (by omega)) (Sl.nil_ ha496))))))))))), hx304, hf280, hf281, hf282, (hf283.fin (by omega) (by omega) (by omega)), (hf284.fin (by omega) (by omega)), hf285, (by omega), (by omega), (by first | omega | (simp; omega)), (by rw [drop_cons hx290, jnR1_f (fun e => c329 ((rowC_eq (c := 0) hx307).symm.trans (e.trans (rowC_eq (c := 0) hx318))))] at hF2; exact hF2), (by exact hS2)⟩
           ·show (b.2.length - ((k + 1)) : Nat) < b.2.length - k; omega
         ·
          rw [decide_eq_false c289] at ha288
          refine cond_f ha288 rfl ?_
          refine wp_exit ?_
          refine then_e ?_
          refine then_e ?_
          refine block_hit ?_
          refine block_n ?_
          refine then_n ?_
          refine wp_region_lit ?_
          refine wl_val ha288 rfl rfl rfl ((op_add ha288 rfl rfl rfl).int (IntWalk.i64_in _ (by omega))) ?_
          intro a497 ha497; clear ha288 a288
          refine wl_val ha497 rfl rfl rfl (op_move ha497 rfl rfl) ?_
          intro a498 ha498; clear ha497 a497
          refine wpList_nil ?_
          refine round_end (x := (i, v, zs)) ((i + 1), v2, ys) ?_ ?_
          ·
           refine ⟨(Sl.cons_ ha498 rfl rfl (Sl.cons_ ha498 rfl rfl (Sl.cons_ ha498 rfl rfl (Sl.cons_ ha498 rfl rfl (Sl.cons_ ha498 rfl rfl (Sl.cons_ ha498 rfl (int_eq (by omega)) (Sl.nil_ ha498))))))), hx279, hf280, hf281, hf282, (hf283.fin (by omega) (by omega) (by omega)), (hf284.fin (by omega) (by omega)), hf285, (by omega), (by omega), (by omega), (by rw [drop_nil (by omega), jnR1, List.nil_append] at hF2; exact hF2), (by exact hS2)⟩
          ·show (a.2.length - ((i + 1)) : Nat) < a.2.length - i; omega
       ·
        rw [decide_eq_false c261] at ha260
        refine cond_f ha260 rfl ?_
        refine wp_exit ?_
        refine then_e ?_
        refine then_e ?_
        refine block_hit ?_
        refine then_n ?_
        refine wp_seq ?_
        refine wp_seq ?_
        refine wp_region_lit ?_
        refine wl_val ha260 rfl rfl rfl (op_loadS ha260 rfl Try.underlying28 ti28 rfl rfl hf257.cells) ?_
        intro a499 ha499; clear ha260 a260
        refine wl_callR ha499 rfl rfl rfl (op_call ha499 rfl cb19 rfl) (c_impl_IsTable _ q42 v (((a.1 ++ b.1.drop 1), (zs.map (·.1)))) (hf254.rds pos_shStr) (rds_shRowN (hf255.fin (by omega) (by omega) (by omega)) hf256)) ?_
        rintro v500 w501 he502 rfl a503 ha503; clear ha499 a499
        have hx504 := hx251.trans' he502
        have hzhx504 := he502.size
        replace hf252 := hf252.ext he502
        replace hf253 := hf253.ext he502
        replace hf254 := hf254.ext he502
        replace hf255 := hf255.ext he502
        replace hf256 := hf256.ext he502
        replace hf257 := hf257.ext he502
        refine wl_val ha503 rfl rfl rfl (op_not ha503 rfl rfl) ?_
        intro a505 ha505; clear ha503 a503
        refine wpList_nil ?_
        refine then_n ?_
        rcases Bool.eq_false_or_eq_true (tabB (((a.1 ++ b.1.drop 1), (zs.map (·.1))))) with c506 | c506
        ·
         rw [c506] at ha505
         refine cond_f ha505 rfl ?_
         refine wp_skip ?_
         refine then_n ?_
         refine wp_seq ?_
         refine wp_region_lit ?_
         refine wl_val ha505 rfl rfl rfl (op_loadS ha505 rfl Try.underlying28 ti28 rfl rfl hf257.cells) ?_
         intro a507 ha507; clear ha505 a505
         refine wl_effS ha507 rfl rfl (op_storeAll' ha507 rfl ti28 rfl rfl hf253 rfl rfl (by intro u hu; have hu : u ∈ ([q42, v] : List Value) := hu; simp only [List.mem_cons, List.mem_nil_iff, or_false] at hu; rcases hu with rfl | rfl <;> first | rfl | exact hf254.one | exact hf255.one) rfl) ?_
         rintro w508 ⟨hb510, hst509, hz511⟩
         have hx512 := hx504.stp hst509 (by intro q hq; cases hq; exact (by omega))
         have hzhx512 := hst509.size
         replace hf252 := hf252.stp hst509 (by intro q hq; cases hq; omega)
         replace hf254 := hf254.stp hst509 (by intro q hq; cases hq; omega)
         replace hf255 := hf255.stp hst509 (by intro q hq; cases hq; omega)
         replace hf256 := hf256.stp hst509 (by intro q hq; cases hq; omega)
         replace hf257 := hf257.stp hst509 (by intro q hq; cases hq; omega)
         clear hf253
         refine wl_val ha507 rfl rfl rfl (op_assign ha507 rfl rfl) ?_
         intro a513 ha513; clear ha507 a507
         refine wpList_nil ?_
         refine then_n ?_
         refine wp_ret ?_
         refine retct ha513 rfl rfl rfl Try.underlying28 ti28 rfl hb510.cells ?_
         clear ha513 a513
         have hF9 : zs.map (·.1) = jnR b.2 a.2 := (by rw [drop_nil (by omega), jnR, List.append_nil] at hF; exact hF)
         rw [hF9] at c506
         have hr : cdJ a b = _ := (cdJ_e c31 c40 hfr).trans (if_pos c506)
         refine ret_mk hx512 ⟨q42, v, zs, (tup2_eq (by rfl) (int_eq (by first | exact hr.symm | omega))), ?_, hf255.fin (by omega) (by omega) (by omega), hf256.fin (by omega) (by omega), ?_⟩
         ·
          refine (hf254.fin (by omega) (by omega) (by omega)).cast ?_
          rw [jcT_ok hr]; rfl
         ·
          rw [jcT_ok hr]; exact hF9
        ·
         rw [c506] at ha505
         refine cond_t ha505 rfl ?_
         refine wp_seq ?_
         refine wp_region_lit ?_
         refine wl_val ha505 rfl rfl rfl (op_build (vs := []) (cs := #[.slice none 0 0, .slice none 0 0]) ha505 rfl Try.underlying28 ti28 bp28 rfl rfl) ?_
         intro a514 ha514; clear ha505 a505
         refine wl_effS ha514 rfl rfl (op_storeAll' ha514 rfl ti28 rfl rfl hf253 rfl rfl (by simp [Value.oneCell']) rfl) ?_
         rintro w515 ⟨hb517, hst516, hz518⟩
         have hx519 := hx504.stp hst516 (by intro q hq; cases hq; exact (by omega))
         have hzhx519 := hst516.size
         replace hf252 := hf252.stp hst516 (by intro q hq; cases hq; omega)
         replace hf254 := hf254.stp hst516 (by intro q hq; cases hq; omega)
         replace hf255 := hf255.stp hst516 (by intro q hq; cases hq; omega)
         replace hf256 := hf256.stp hst516 (by intro q hq; cases hq; omega)
         replace hf257 := hf257.stp hst516 (by intro q hq; cases hq; omega)
         clear hf253
         refine wl_val ha514 rfl rfl rfl (op_assign ha514 rfl rfl) ?_
         intro a520 ha520; clear ha514 a514
         refine wpList_nil ?_
         refine then_n ?_
         refine wp_ret ?_
         refine then_r ?_
         refine retct ha520 rfl rfl rfl Try.underlying28 ti28 rfl hb517.cells ?_
         clear ha520 a520
         have hF9 : zs.map (·.1) = jnR b.2 a.2 := (by rw [drop_nil (by omega), jnR, List.append_nil] at hF; exact hF)
         rw [hF9] at c506
         have hr : cdJ a b = _ := (cdJ_e c31 c40 hfr).trans (if_neg (by show ¬ tabB (a.1 ++ b.1.drop 1, jnR b.2 a.2) = true; rw [c506]; decide))
         refine ret_mk hx519 ⟨(.slice none 0 0), (.slice none 0 0), [], (tup2_eq (by rfl) (int_eq (by first | exact hr.symm | omega))), ?_, Own.nil _ _ _ _ _ _, Nst.nil _ _ _ _ _ _, ?_⟩
         ·
          refine Own.nil_ _ _ _ _ _ _ ?_
          rw [jcT_no (by rw [hr]; first | decide | assumption)]
         ·
          rw [jcT_no (by rw [hr]; first | decide | assumption)]; rfl
  ·
   rw [c40] at ha39
   refine cond_t ha39 rfl ?_
   refine wp_seq ?_
   refine wp_region_lit ?_
   refine wl_val ha39 rfl rfl rfl (op_build (vs := []) (cs := #[.slice none 0 0, .slice none 0 0]) ha39 rfl Try.underlying28 ti28 bp28 rfl rfl) ?_
   intro a521 ha521; clear ha39 a39
   refine wl_effS ha521 rfl rfl (op_storeAll' ha521 rfl ti28 rfl rfl hb18 rfl rfl (by simp [Value.oneCell']) rfl) ?_
   rintro w522 ⟨hb524, hst523, hz525⟩
   have hx526 := hx37.stp hst523 (by intro q hq; cases hq; exact (by omega))
   have hzhx526 := hst523.size
   replace hb4 := hb4.stp hst523 (by intro q hq; cases hq; omega)
   replace hb11 := hb11.stp hst523 (by intro q hq; cases hq; omega)
   clear hb18
   refine wl_val ha521 rfl rfl rfl (op_assign ha521 rfl rfl) ?_
   intro a527 ha527; clear ha521 a521
   refine wpList_nil ?_
   refine then_n ?_
   refine wp_ret ?_
   refine then_r ?_
   refine retct ha527 rfl rfl rfl Try.underlying28 ti28 rfl hb524.cells ?_
   clear ha527 a527
   have hr : cdJ a b = _ := cdJ_1 (.inr c40)
   refine ret_mk hx526 ⟨(.slice none 0 0), (.slice none 0 0), [], (tup2_eq (by rfl) (int_eq (by first | exact hr.symm | omega))), ?_, Own.nil _ _ _ _ _ _, Nst.nil _ _ _ _ _ _, ?_⟩
   ·
    refine Own.nil_ _ _ _ _ _ _ ?_
    rw [jcT_no (by rw [hr]; first | decide | assumption)]
   ·
    rw [jcT_no (by rw [hr]; first | decide | assumption)]; rfl
 ·
  rw [c31] at ha30
  refine wl_skip ha30 rfl rfl rfl ?_
  intro a528 ha528; clear ha30 a30
  refine wl_skip ha528 rfl rfl rfl ?_
  intro a529 ha529; clear ha528 a528
  refine wl_skip ha529 rfl rfl rfl ?_
  intro a530 ha530; clear ha529 a529
  refine wl_val ha530 rfl rfl rfl (op_pick_t ha530 rfl rfl rfl) ?_
  intro a531 ha531; clear ha530 a530
  refine wpList_nil ?_
  refine then_n ?_
  refine cond_t ha531 rfl ?_
  refine wp_seq ?_
  refine wp_region_lit ?_
  refine wl_val ha531 rfl rfl rfl (op_build (vs := []) (cs := #[.slice none 0 0, .slice none 0 0]) ha531 rfl Try.underlying28 ti28 bp28 rfl rfl) ?_
  intro a532 ha532; clear ha531 a531
  refine wl_effS ha532 rfl rfl (op_storeAll' ha532 rfl ti28 rfl rfl hb18 rfl rfl (by simp [Value.oneCell']) rfl) ?_
  rintro w533 ⟨hb535, hst534, hz536⟩
  have hx537 := hx28.stp hst534 (by intro q hq; cases hq; exact (by omega))
  have hzhx537 := hst534.size
  replace hb4 := hb4.stp hst534 (by intro q hq; cases hq; omega)
  replace hb11 := hb11.stp hst534 (by intro q hq; cases hq; omega)
  clear hb18
  refine wl_val ha532 rfl rfl rfl (op_assign ha532 rfl rfl) ?_
  intro a538 ha538; clear ha532 a532
  refine wpList_nil ?_
  refine then_n ?_
  refine wp_ret ?_
  refine then_r ?_
  refine retct ha538 rfl rfl rfl Try.underlying28 ti28 rfl hb535.cells ?_
  clear ha538 a538
  have hr : cdJ a b = _ := cdJ_1 (.inl c31)
  refine ret_mk hx537 ⟨(.slice none 0 0), (.slice none 0 0), [], (tup2_eq (by rfl) (int_eq (by first | exact hr.symm | omega))), ?_, Own.nil _ _ _ _ _ _, Nst.nil _ _ _ _ _ _, ?_⟩
  ·
   refine Own.nil_ _ _ _ _ _ _ ?_
   rw [jcT_no (by rw [hr]; first | decide | assumption)]
  ·
   rw [jcT_no (by rw [hr]; first | decide | assumption)]; rfl


end Go.Proofs.Ytjpldgicibnkcaa
