/- The law FnTables, walked. -/
import Derived.Test.YtjpldgicibnkcaaR6
import Derived.Test.YtjpldgicibnkcaaR7
import Derived.Test.YtjpldgicibnkcaaP0
import Derived.Test.YtjpldgicibnkcaaW5
import Derived.Test.YtjpldgicibnkcaaW12
import Derived.Test.YtjpldgicibnkcaaW3
namespace Go.Proofs.Ytjpldgicibnkcaa
open Go Go.RowKit

theorem heldG_val {α : Type} {ok : α → Int → Bool} {st : Int} : ∀ {xs : List α} {k : Int}, 0 ≤ st → 0 ≤ k → heldG ok st xs k < 0 ∨ heldG ok st xs k = k + st * (xs.length : Nat)
  | [], k, _, _ => .inr (by simp [heldG])
  | x :: xs, k, h, h' => by
    rw [heldG]; split
    · rcases heldG_val (ok := ok) (xs := xs) (k := k + st) h (by omega) with q | q
      · exact .inl q
      · right; rw [q, List.length_cons, Int.natCast_add, Int.mul_add]; simp; omega
    · exact .inl (by omega)
theorem setN_take {X : Type} {zs : List (X × Value)} {a : List X} {i : Nat} {x : X} {u : Value} (h : (zs.take i).map (·.1) = a.take i) (hl : zs.length = a.length) (hx : a[i]? = some x) : ((zs.set i (x, u)).take (i + 1)).map (·.1) = a.take (i + 1) := by
  have hi : i < a.length := (List.getElem?_eq_some_iff.1 hx).1
  have : (zs.set i (x, u))[i]? = some (x, u) := by rw [List.getElem?_set_self (by omega)]
  rw [take_snoc this, List.take_set_of_le (Nat.le_refl _), List.map_append, h, take_snoc hx]
  rfl
theorem map_take_all {X : Type} {zs : List (X × Value)} {a : List X} {i : Nat} (h : (zs.take i).map (·.1) = a.take i) (hl : zs.length = a.length) (hi : a.length ≤ i) : zs.map (·.1) = a := by
  rw [List.take_of_length_le (by omega), List.take_of_length_le (by omega)] at h; exact h
theorem abs_get {X : Type} {zs : List (X × Value)} {T : List X} {i : Nat} {z : X × Value} (h : zs.map (·.1) = T) (hz : zs[i]? = some z) : T[i]? = some z.1 := by rw [← h, List.getElem?_map, hz]; rfl
theorem abs_len {X : Type} {zs : List (X × Value)} {T : List X} (h : zs.map (·.1) = T) : zs.length = T.length := by rw [← h, List.length_map]
theorem map_set_abs {X : Type} {zs : List (X × Value)} {i : Nat} {q : X × Value} : (zs.set i q).map (·.1) = (zs.map (·.1)).set i q.1 := by rw [List.map_set]
theorem mark_step {X : Type} {zs a : List (X × Value)} {i : Nat} {q : X × Value} {M L : List X} {m : X} (hd : (zs.drop i).map (·.1) = (a.map (·.1)).drop i) (hi : i < zs.length) (hF : (zs.take i).map (·.1) ++ m :: M = L) (hq : q.1 = m) :
    ((zs.set i q).drop (i + 1)).map (·.1) = (a.map (·.1)).drop (i + 1) ∧ ((zs.set i q).take (i + 1)).map (·.1) ++ M = L := by
  constructor
  · rw [List.drop_set_of_lt (by omega), ← List.drop_drop (i := 1) (j := i), ← List.drop_drop (i := 1) (j := i), List.map_drop, hd]
  · have : (zs.set i q)[i]? = some q := by rw [List.getElem?_set_self hi]
    rw [take_snoc this, List.take_set_of_le (Nat.le_refl _), List.map_append, ← hF, ← hq, List.append_assoc]; rfl
theorem mark_at {X : Type} {zs a : List (X × Value)} {i : Nat} {z : X × Value} (hd : (zs.drop i).map (·.1) = (a.map (·.1)).drop i) (hz : zs[i]? = some z) : (a.map (·.1))[i]? = some z.1 := by
  have h1 : ((zs.drop i).map (·.1))[0]? = some z.1 := by rw [List.getElem?_map, List.getElem?_drop, Nat.add_zero, hz]; rfl
  rw [hd, List.getElem?_drop, Nat.add_zero] at h1; exact h1

theorem sumI_ins {α : Type} (f key : α → Int) (x : α) : ∀ xs : List α, sumI f (insK key x xs) = f x + sumI f xs
  | [] => by simp [insK, sumI]
  | y :: ys => by
    have ih := sumI_ins f key x ys
    rw [insK]; split <;> simp only [sumI] <;> omega
theorem srGo_all (c : Int) : ∀ rs acc : List (List Int), UpK (rowC c) acc → UpK (rowC c) (srGo c rs acc) ∧ sumI (rowC c) (srGo c rs acc) = sumI (rowC c) acc + sumI (rowC c) rs ∧ (srGo c rs acc).length = acc.length + rs.length ∧ ∀ z ∈ srGo c rs acc, z ∈ rs ∨ z ∈ acc
  | [], acc, h => ⟨h, by simp [srGo, sumI], by simp [srGo], fun z hz => .inr hz⟩
  | r :: rs, acc, h => by
    obtain ⟨h1, h2, h3, h4⟩ := srGo_all c rs (insK (rowC c) r acc) (insK_up h)
    refine ⟨h1, ?_, ?_, ?_⟩
    · rw [srGo, h2, sumI_ins]; simp only [sumI]; omega
    · rw [srGo, h3, insK_len]; simp only [List.length_cons]; omega
    · intro z hz
      rcases h4 z hz with q | q
      · exact .inl (List.mem_cons_of_mem _ q)
      · rcases insK_mem.1 q with q | q
        · exact .inl (by rw [q]; simp)
        · exact .inr q
theorem tab_re {t : Tab} {rs : List (List Int)} (h : tabB t = true) (hl : rs.length ≤ 20) (hm : ∀ r ∈ rs, r ∈ t.2) : tabB (t.1, rs) = true := by
  have hb := tab_bd h
  have h1 : upB (hdAt t.1) t.1.length = true := by unfold tabB at h; simp only [Bool.and_eq_true] at h; exact h.2.1
  have h2 : upB (rwAt t.1.length rs) rs.length = true := by
    rw [upB_iff]
    intro k hk
    have ek : rs[k]? = some rs[k] := List.getElem?_eq_getElem hk
    have hr := tab_rows h _ (hm _ (List.mem_of_getElem? ek))
    exact (rwAt_eq ek).trans (rwB_ok hr.1 (by rw [List.all_eq_true]; intro n hn; have := hr.2 n hn; unfold valB; simp; omega))
  rw [tab_y (t := (t.1, rs)) h1 h2]
  simp; omega
/-- What is known of a sorted table. -/
theorem sr_all {t : Tab} {c : Int} (h : cdT t c = 0) : tabB (srT t c) = true ∧ cdT (srT t c) c = 0 ∧ sumI (rowC c) (srT t c).2 = sumI (rowC c) t.2 ∧ UpK (rowC c) (srT t c).2 ∧ (∀ r ∈ (srT t c).2, r.length = t.1.length) ∧ 0 ≤ c ∧ c < (t.1.length : Nat) ∧ t.1.length ≤ 6 ∧ (srT t c).2.length ≤ 20 := by
  have h1 := cdT_ok h; have hb := tab_bd h1.1; have hc := col_bd h1.2
  obtain ⟨g1, g2, g3, g4⟩ := srGo_all c t.2 [] List.Pairwise.nil
  rw [srT_ok h]
  have hm : ∀ r ∈ srGo c t.2 [], r ∈ t.2 := fun r hr => (g4 r hr).elim id fun q => by cases q
  have ht : tabB (t.1, srGo c t.2 []) = true := tab_re h1.1 (by rw [g3]; simp; omega) hm
  refine ⟨ht, cdT_0 ht h1.2, by rw [g2]; simp [sumI], g1, fun r hr => (tab_rows h1.1 r (hm r hr)).1, hc.1, hc.2, hb.2.1, ?_⟩
  show (srGo c t.2 []).length ≤ 20
  rw [g3]; simp; omega
/-- What is known of rows within bounds. -/
theorem fl_all {t : Tab} {c lo hi : Int} (h : cdR t c lo hi = 0) : (∀ r ∈ (flT t c lo hi).2, r.length = t.1.length ∧ lo ≤ rowC c r ∧ rowC c r ≤ hi) ∧ 0 ≤ c ∧ c < (t.1.length : Nat) ∧ t.1.length ≤ 6 ∧ (flT t c lo hi).2.length ≤ 20 := by
  have h0 : cdT t c = 0 := by
    unfold cdR at h; split at h
    · assumption
    · exact absurd h ‹_›
  have h1 := cdT_ok h0; have hb := tab_bd h1.1; have hc := col_bd h1.2
  rw [flT_ok h]
  refine ⟨fun r hr => ?_, hc.1, hc.2, hb.2.1, ?_⟩
  · have h2 := List.mem_filter.1 (show r ∈ flR c lo hi t.2 from hr)
    have h3 := h2.2; unfold inC at h3; simp only [Bool.and_eq_true, decide_eq_true_eq] at h3
    exact ⟨(tab_rows h1.1 r h2.1).1, h3.1, h3.2⟩
  · have := flR_len c lo hi t.2; show (flR c lo hi t.2).length ≤ 20; omega
theorem sum_bd {f : List Int → Int} : ∀ {rs : List (List Int)}, (∀ r ∈ rs, -1000000000000 ≤ f r ∧ f r ≤ 1000000000000) → -1000000000000 * (rs.length : Int) ≤ sumI f rs ∧ sumI f rs ≤ 1000000000000 * (rs.length : Int)
  | [], _ => by simp [sumI]
  | r :: rs, h => by
    have h1 := h r (by simp); have h2 := sum_bd (f := f) (rs := rs) fun q hq => h q (by simp [hq])
    simp only [sumI, List.length_cons]; omega
theorem rowC_bd2 {t : Tab} (h : tabB t = true) (c : Int) : ∀ r ∈ t.2, -1000000000000 ≤ rowC c r ∧ rowC c r ≤ 1000000000000 := by
  intro r hr
  unfold rowC
  cases e : r[c.toNat]? with
  | none => simp
  | some n => exact (tab_rows h r hr).2 n (List.mem_of_getElem? e)
theorem mul_bd2 {m x : Int} (h1 : -1000 ≤ m ∧ m ≤ 1000) (h2 : -20000000000000 ≤ x ∧ x ≤ 20000000000000) : -20000000000000000 ≤ m * x ∧ m * x ≤ 20000000000000000 := by
  rcases Int.le_total 0 m with hm | hm
  · have a1 := Int.mul_le_mul_of_nonneg_left h2.1 hm
    have a2 := Int.mul_le_mul_of_nonneg_left h2.2 hm
    omega
  · have a1 := Int.mul_le_mul_of_nonpos_left hm h2.1
    have a2 := Int.mul_le_mul_of_nonpos_left hm h2.2
    omega
theorem ad_sum {t : Tab} {a b m : Int} : ∀ {rs : List (List Int)}, (∀ r ∈ rs, r.length = t.1.length) → sumI (rowC ((t.1.length : Nat) : Int)) (adR a b m rs) = sumI (rowC a) rs + m * sumI (rowC b) rs
  | [], _ => by simp [adR, sumI]
  | r :: rs, h => by
    have ih := ad_sum (t := t) (a := a) (b := b) (m := m) (rs := rs) fun q hq => h q (by simp [hq])
    have e : rowC ((t.1.length : Nat) : Int) (adRow a b m r) = rowC a r + m * rowC b r := rowC_eq (by unfold adRow; rw [Int.toNat_natCast, ← h r (by simp)]; simp)
    show sumI _ (adRow a b m r :: adR a b m rs) = _
    simp only [sumI]
    rw [e, ih, Int.mul_add]; omega
/-- What is known of a table with one more column. -/
theorem ac_all {t : Tab} {h : Str} {a b m : Int} (e : cdA t h a b m = 0) : cdT (acT t h a b m) ((t.1.length : Nat) : Int) = 0 ∧ cdT t a = 0 ∧ cdT t b = 0 ∧ sumI (rowC ((t.1.length : Nat) : Int)) (acT t h a b m).2 = sumI (rowC a) t.2 + m * sumI (rowC b) t.2 ∧ (acT t h a b m).1 = t.1 ++ [h] ∧ t.1.length ≤ 5 ∧ (-20000000000000 ≤ sumI (rowC a) t.2 ∧ sumI (rowC a) t.2 ≤ 20000000000000) ∧ (-20000000000000000 ≤ m * sumI (rowC b) t.2 ∧ m * sumI (rowC b) t.2 ≤ 20000000000000000) := by
  rw [acT_ok e]
  unfold cdA at e
  by_cases e1 : cdT t a = 0
  · rw [if_pos e1] at e
    by_cases e2 : cdT t b = 0
    · rw [if_pos e2] at e
      split at e
      · have hm := wtn ‹_›
        split at e
        · split at e
          · have ht : tabB (adT t h a b m) = true := ‹_›
            have h1 := cdT_ok e1; have hb := tab_bd h1.1; have hb2 := tab_bd ht
            have hl : (adT t h a b m).1.length = t.1.length + 1 := by show (t.1 ++ [h]).length = _; simp
            have s1 := sum_bd (f := rowC a) (rowC_bd2 h1.1 a); have s2 := sum_bd (f := rowC b) (rowC_bd2 h1.1 b)
            refine ⟨cdT_0 ht (by unfold colB; rw [hl]; simp), e1, e2, ad_sum fun r hr => (tab_rows h1.1 r hr).1, rfl, by omega, by omega, mul_bd2 hm (by omega)⟩
          · cases e
        · cases e
      · cases e
    · rw [if_neg e2] at e; exact absurd e e2
  · rw [if_neg e1] at e; exact absurd e e1

set_option maxHeartbeats 8000000 in
set_option maxRecDepth 8000 in
theorem c_laws_FnTables (w0 : World) (v_code : Value) (code : List UInt8) {S_code : Nat → Prop} (h_code : Rds shU8 S_code w0 v_code code) :
  Calls Try.prog 13 #[v_code] w0 (Ret w0 (fun v _ => v = .bool (true))) := by
 refine enter (N := 320) Try.func13 rfl rfl rfl ?_
 intro a0 ha0
 have hx0 := Ext.rfl' w0
 have hl_code := h_code.length_le
 refine wp_seq ?_
 refine wp_region_lit ?_
 refine wl_val ha0 rfl rfl rfl (op_assign ha0 rfl rfl) ?_
 intro a1 ha1; clear ha0 a0
 refine wpList_nil ?_
 refine then_n ?_
 refine wp_seq ?_
 refine wp_seq ?_
 refine wp_region_lit ?_
 refine wl_val ha1 rfl rfl rfl (op_move ha1 rfl rfl) ?_
 intro a2 ha2; clear ha1 a1
 refine wl_callR ha2 rfl rfl rfl (op_call ha2 rfl cb39 rfl) (c_laws_big _ v_code code (h_code.ext pos_shU8 hx0)) ?_
 rintro v3 w4 he5 rfl a6 ha6; clear ha2 a2
 have hx7 := hx0.trans' he5
 have hzhx7 := he5.size
 refine wpList_nil ?_
 refine then_n ?_
 rcases Bool.eq_false_or_eq_true (decide (4096 < code.length)) with c8 | c8
 ·
  rw [c8] at ha6
  refine cond_t ha6 rfl ?_
  refine wp_seq ?_
  refine wp_region_lit ?_
  refine wl_val ha6 rfl rfl rfl (op_assign ha6 rfl rfl) ?_
  intro a9 ha9; clear ha6 a6
  refine wpList_nil ?_
  refine then_n ?_
  refine wp_ret ?_
  refine then_r ?_
  refine ret1 ha9 rfl rfl ?_
  clear ha9 a9
  exact ret_mk hx7 (congrArg Value.bool (by first | rfl | (simp at c8; done) | omega | omega))
 ·
  rw [c8] at ha6
  refine cond_f ha6 rfl ?_
  refine wp_skip ?_
  refine then_n ?_
  refine wp_seq ?_
  refine wp_region_lit ?_
  refine wl_val ha6 rfl rfl rfl (op_move ha6 rfl rfl) ?_
  intro a10 ha10; clear ha6 a6
  refine wl_callR ha10 rfl rfl rfl (op_call ha10 rfl cb50 rfl) (c_spec_DrawSortRows _ v_code code (h_code.ext pos_shU8 hx7)) ?_
  rintro v11 w12 he13 ⟨q14, q15, ⟨u16, u18, z20, rfl, ho17, ho19, hN21, hE22⟩⟩ a23 ha23; clear ha10 a10
  have hx24 := hx7.trans' he13
  have hzhx24 := he13.size
  have hlhE22 := absLen hE22
  refine wl_val ha23 rfl rfl rfl (op_move ha23 rfl rfl) ?_
  intro a25 ha25; clear ha23 a23
  refine wl_val ha25 rfl rfl rfl (op_extract ha25 rfl rfl rfl) ?_
  intro a26 ha26; clear ha25 a25
  refine wl_val ha26 rfl rfl rfl (op_extract ha26 rfl rfl rfl) ?_
  intro a27 ha27; clear ha26 a26
  refine wl_eff ha27 rfl rfl rfl (op_alloc' rfl ti28 rfl) ?_
  rintro _ w29 ⟨rfl, he30, hb31, hz32⟩ a33 ha33; clear ha27 a27
  have hx34 := hx24.trans' he30
  have hzhx34 := he30.size
  replace ho17 := ho17.ext he30
  replace ho19 := ho19.ext he30
  replace hN21 := hN21.ext he30
  refine wl_effS ha33 rfl rfl (op_storeAll' ha33 rfl ti28 rfl rfl hb31 rfl rfl (by intro u hu; have hu : u ∈ ([u16, u18] : List Value) := hu; simp only [List.mem_cons, List.mem_nil_iff, or_false] at hu; rcases hu with rfl | rfl <;> first | rfl | exact ho17.one | exact ho19.one) rfl) ?_
  rintro w35 ⟨hb37, hst36, hz38⟩
  have hx39 := hx34.stp hst36 (by intro q hq; cases hq; exact (by omega))
  have hzhx39 := hst36.size
  replace ho17 := ho17.stp hst36 (by intro q hq; cases hq; omega)
  replace ho19 := ho19.stp hst36 (by intro q hq; cases hq; omega)
  replace hN21 := hN21.stp hst36 (by intro q hq; cases hq; omega)
  clear hb31
  refine wl_val ha33 rfl rfl rfl (op_assign ha33 rfl rfl) ?_
  intro a40 ha40; clear ha33 a33
  refine wpList_nil ?_
  refine then_n ?_
  refine wp_seq ?_
  refine wp_region_lit ?_
  refine wl_val ha40 rfl rfl rfl (op_loadS ha40 rfl Try.underlying28 ti28 rfl rfl hb37.cells) ?_
  intro a41 ha41; clear ha40 a40
  refine wl_val ha41 rfl rfl rfl (op_move ha41 rfl rfl) ?_
  intro a42 ha42; clear ha41 a41
  refine wl_callR ha42 rfl rfl rfl (op_call ha42 rfl cb35 rfl) (c_impl_SortRows _ u16 u18 ((q14)) (q15 : Int) (ho17.rds pos_shStr) ((rds_shRowN (ho19.fin (by omega) (by omega) (by omega)) hN21).cast hE22)) ?_
  rintro v43 w44 he45 ⟨u46, u48, z50, rfl, ho47, ho49, hN51, hE52⟩ a53 ha53; clear ha42 a42
  have hx54 := hx39.trans' he45
  have hzhx54 := he45.size
  replace ho17 := ho17.ext he45
  replace ho19 := ho19.ext he45
  replace hN21 := hN21.ext he45
  replace hb37 := hb37.ext he45
  have hlhE52 := absLen hE52
  refine wl_val ha53 rfl rfl rfl (op_move ha53 rfl rfl) ?_
  intro a55 ha55; clear ha53 a53
  refine wl_val ha55 rfl rfl rfl (op_extract ha55 rfl rfl rfl) ?_
  intro a56 ha56; clear ha55 a55
  refine wl_val ha56 rfl rfl rfl (op_extract ha56 rfl rfl rfl) ?_
  intro a57 ha57; clear ha56 a56
  refine wl_eff ha57 rfl rfl rfl (op_alloc' rfl ti28 rfl) ?_
  rintro _ w59 ⟨rfl, he60, hb61, hz62⟩ a63 ha63; clear ha57 a57
  have hx64 := hx54.trans' he60
  have hzhx64 := he60.size
  replace ho17 := ho17.ext he60
  replace ho19 := ho19.ext he60
  replace hN21 := hN21.ext he60
  replace hb37 := hb37.ext he60
  replace ho47 := ho47.ext he60
  replace ho49 := ho49.ext he60
  replace hN51 := hN51.ext he60
  refine wl_effS ha63 rfl rfl (op_storeAll' ha63 rfl ti28 rfl rfl hb61 rfl rfl (by intro u hu; have hu : u ∈ ([u46, u48] : List Value) := hu; simp only [List.mem_cons, List.mem_nil_iff, or_false] at hu; rcases hu with rfl | rfl <;> first | rfl | exact ho47.one | exact ho49.one) rfl) ?_
  rintro w65 ⟨hb67, hst66, hz68⟩
  have hx69 := hx64.stp hst66 (by intro q hq; cases hq; exact (by omega))
  have hzhx69 := hst66.size
  replace ho17 := ho17.stp hst66 (by intro q hq; cases hq; omega)
  replace ho19 := ho19.stp hst66 (by intro q hq; cases hq; omega)
  replace hN21 := hN21.stp hst66 (by intro q hq; cases hq; omega)
  replace hb37 := hb37.stp hst66 (by intro q hq; cases hq; omega)
  replace ho47 := ho47.stp hst66 (by intro q hq; cases hq; omega)
  replace ho49 := ho49.stp hst66 (by intro q hq; cases hq; omega)
  replace hN51 := hN51.stp hst66 (by intro q hq; cases hq; omega)
  clear hb61
  refine wl_val ha63 rfl rfl rfl (op_assign ha63 rfl rfl) ?_
  intro a70 ha70; clear ha63 a63
  refine wpList_nil ?_
  refine then_n ?_
  refine wp_seq ?_
  refine wp_region_lit ?_
  refine wl_val ha70 rfl rfl rfl (op_loadS ha70 rfl Try.underlying28 ti28 rfl rfl hb37.cells) ?_
  intro a71 ha71; clear ha70 a70
  refine wl_val ha71 rfl rfl rfl (op_move ha71 rfl rfl) ?_
  intro a72 ha72; clear ha71 a71
  refine wl_callR ha72 rfl rfl rfl (op_call ha72 rfl cb34 rfl) (c_spec_SortRows _ u16 u18 ((q14)) (q15 : Int) (ho17.rds pos_shStr) ((rds_shRowN (ho19.fin (by omega) (by omega) (by omega)) hN21).cast hE22)) ?_
  rintro v73 w74 he75 ⟨u76, u78, z80, rfl, ho77, ho79, hN81, hE82⟩ a83 ha83; clear ha72 a72
  have hx84 := hx69.trans' he75
  have hzhx84 := he75.size
  replace ho17 := ho17.ext he75
  replace ho19 := ho19.ext he75
  replace hN21 := hN21.ext he75
  replace hb37 := hb37.ext he75
  replace ho47 := ho47.ext he75
  replace ho49 := ho49.ext he75
  replace hN51 := hN51.ext he75
  replace hb67 := hb67.ext he75
  have hlhE82 := absLen hE82
  refine wl_val ha83 rfl rfl rfl (op_move ha83 rfl rfl) ?_
  intro a85 ha85; clear ha83 a83
  refine wl_val ha85 rfl rfl rfl (op_extract ha85 rfl rfl rfl) ?_
  intro a86 ha86; clear ha85 a85
  refine wl_val ha86 rfl rfl rfl (op_extract ha86 rfl rfl rfl) ?_
  intro a87 ha87; clear ha86 a86
  refine wl_eff ha87 rfl rfl rfl (op_alloc' rfl ti28 rfl) ?_
  rintro _ w89 ⟨rfl, he90, hb91, hz92⟩ a93 ha93; clear ha87 a87
  have hx94 := hx84.trans' he90
  have hzhx94 := he90.size
  replace ho17 := ho17.ext he90
  replace ho19 := ho19.ext he90
  replace hN21 := hN21.ext he90
  replace hb37 := hb37.ext he90
  replace ho47 := ho47.ext he90
  replace ho49 := ho49.ext he90
  replace hN51 := hN51.ext he90
  replace hb67 := hb67.ext he90
  replace ho77 := ho77.ext he90
  replace ho79 := ho79.ext he90
  replace hN81 := hN81.ext he90
  refine wl_effS ha93 rfl rfl (op_storeAll' ha93 rfl ti28 rfl rfl hb91 rfl rfl (by intro u hu; have hu : u ∈ ([u76, u78] : List Value) := hu; simp only [List.mem_cons, List.mem_nil_iff, or_false] at hu; rcases hu with rfl | rfl <;> first | rfl | exact ho77.one | exact ho79.one) rfl) ?_
  rintro w95 ⟨hb97, hst96, hz98⟩
  have hx99 := hx94.stp hst96 (by intro q hq; cases hq; exact (by omega))
  have hzhx99 := hst96.size
  replace ho17 := ho17.stp hst96 (by intro q hq; cases hq; omega)
  replace ho19 := ho19.stp hst96 (by intro q hq; cases hq; omega)
  replace hN21 := hN21.stp hst96 (by intro q hq; cases hq; omega)
  replace hb37 := hb37.stp hst96 (by intro q hq; cases hq; omega)
  replace ho47 := ho47.stp hst96 (by intro q hq; cases hq; omega)
  replace ho49 := ho49.stp hst96 (by intro q hq; cases hq; omega)
  replace hN51 := hN51.stp hst96 (by intro q hq; cases hq; omega)
  replace hb67 := hb67.stp hst96 (by intro q hq; cases hq; omega)
  replace ho77 := ho77.stp hst96 (by intro q hq; cases hq; omega)
  replace ho79 := ho79.stp hst96 (by intro q hq; cases hq; omega)
  replace hN81 := hN81.stp hst96 (by intro q hq; cases hq; omega)
  clear hb91
  refine wl_val ha93 rfl rfl rfl (op_assign ha93 rfl rfl) ?_
  intro a100 ha100; clear ha93 a93
  refine wpList_nil ?_
  refine then_n ?_
  refine wp_seq ?_
  refine wp_region_lit ?_
  refine wl_val ha100 rfl rfl rfl (op_loadS ha100 rfl Try.underlying28 ti28 rfl rfl hb37.cells) ?_
  intro a101 ha101; clear ha100 a100
  refine wl_val ha101 rfl rfl rfl (op_move ha101 rfl rfl) ?_
  intro a102 ha102; clear ha101 a101
  refine wl_callR ha102 rfl rfl rfl (op_call ha102 rfl cb22 rfl) (c_impl_SumColumn _ u16 u18 ((q14)) (q15 : Int) (ho17.rds pos_shStr) ((rds_shRowN (ho19.fin (by omega) (by omega) (by omega)) hN21).cast hE22)) ?_
  rintro v103 w104 he105 rfl a106 ha106; clear ha102 a102
  have hx107 := hx99.trans' he105
  have hzhx107 := he105.size
  replace ho17 := ho17.ext he105
  replace ho19 := ho19.ext he105
  replace hN21 := hN21.ext he105
  replace hb37 := hb37.ext he105
  replace ho47 := ho47.ext he105
  replace ho49 := ho49.ext he105
  replace hN51 := hN51.ext he105
  replace hb67 := hb67.ext he105
  replace ho77 := ho77.ext he105
  replace ho79 := ho79.ext he105
  replace hN81 := hN81.ext he105
  replace hb97 := hb97.ext he105
  refine wl_val ha106 rfl rfl rfl (op_move ha106 rfl rfl) ?_
  intro a108 ha108; clear ha106 a106
  refine wl_val ha108 rfl rfl rfl (op_extract ha108 rfl rfl rfl) ?_
  intro a109 ha109; clear ha108 a108
  refine wl_val ha109 rfl rfl rfl (op_extract ha109 rfl rfl rfl) ?_
  intro a110 ha110; clear ha109 a109
  refine wl_val ha110 rfl rfl rfl (op_assign ha110 rfl rfl) ?_
  intro a111 ha111; clear ha110 a110
  refine wl_val ha111 rfl rfl rfl (op_assign ha111 rfl rfl) ?_
  intro a112 ha112; clear ha111 a111
  refine wpList_nil ?_
  refine then_n ?_
  refine wp_seq ?_
  refine wp_region_lit ?_
  refine wl_val ha112 rfl rfl rfl (op_loadS ha112 rfl Try.underlying28 ti28 rfl rfl hb37.cells) ?_
  intro a113 ha113; clear ha112 a112
  refine wl_val ha113 rfl rfl rfl (op_move ha113 rfl rfl) ?_
  intro a114 ha114; clear ha113 a113
  refine wl_callR ha114 rfl rfl rfl (op_call ha114 rfl cb21 rfl) (c_spec_SumColumn _ u16 u18 ((q14)) (q15 : Int) (ho17.rds pos_shStr) ((rds_shRowN (ho19.fin (by omega) (by omega) (by omega)) hN21).cast hE22)) ?_
  rintro v115 w116 he117 rfl a118 ha118; clear ha114 a114
  have hx119 := hx107.trans' he117
  have hzhx119 := he117.size
  replace ho17 := ho17.ext he117
  replace ho19 := ho19.ext he117
  replace hN21 := hN21.ext he117
  replace hb37 := hb37.ext he117
  replace ho47 := ho47.ext he117
  replace ho49 := ho49.ext he117
  replace hN51 := hN51.ext he117
  replace hb67 := hb67.ext he117
  replace ho77 := ho77.ext he117
  replace ho79 := ho79.ext he117
  replace hN81 := hN81.ext he117
  replace hb97 := hb97.ext he117
  refine wl_val ha118 rfl rfl rfl (op_move ha118 rfl rfl) ?_
  intro a120 ha120; clear ha118 a118
  refine wl_val ha120 rfl rfl rfl (op_extract ha120 rfl rfl rfl) ?_
  intro a121 ha121; clear ha120 a120
  refine wl_val ha121 rfl rfl rfl (op_extract ha121 rfl rfl rfl) ?_
  intro a122 ha122; clear ha121 a121
  refine wl_val ha122 rfl rfl rfl (op_assign ha122 rfl rfl) ?_
  intro a123 ha123; clear ha122 a122
  refine wl_val ha123 rfl rfl rfl (op_assign ha123 rfl rfl) ?_
  intro a124 ha124; clear ha123 a123
  refine wpList_nil ?_
  refine then_n ?_
  refine wp_seq ?_
  refine wp_region_lit ?_
  refine wl_val ha124 rfl rfl rfl (op_move ha124 rfl rfl) ?_
  intro a125 ha125; clear ha124 a124
  refine wl_callR ha125 rfl rfl rfl (op_call ha125 rfl cb51 rfl) (c_spec_DrawFilterRows _ v_code code (h_code.ext pos_shU8 hx119)) ?_
  rintro v126 w127 he128 ⟨q129, q130, q131, q132, ⟨u133, u135, z137, rfl, ho134, ho136, hN138, hE139⟩⟩ a140 ha140; clear ha125 a125
  have hx141 := hx119.trans' he128
  have hzhx141 := he128.size
  replace ho17 := ho17.ext he128
  replace ho19 := ho19.ext he128
  replace hN21 := hN21.ext he128
  replace hb37 := hb37.ext he128
  replace ho47 := ho47.ext he128
  replace ho49 := ho49.ext he128
  replace hN51 := hN51.ext he128
  replace hb67 := hb67.ext he128
  replace ho77 := ho77.ext he128
  replace ho79 := ho79.ext he128
  replace hN81 := hN81.ext he128
  replace hb97 := hb97.ext he128
  have hlhE139 := absLen hE139
  refine wl_val ha140 rfl rfl rfl (op_move ha140 rfl rfl) ?_
  intro a142 ha142; clear ha140 a140
  refine wl_val ha142 rfl rfl rfl (op_extract ha142 rfl rfl rfl) ?_
  intro a143 ha143; clear ha142 a142
  refine wl_val ha143 rfl rfl rfl (op_extract ha143 rfl rfl rfl) ?_
  intro a144 ha144; clear ha143 a143
  refine wl_val ha144 rfl rfl rfl (op_extract ha144 rfl rfl rfl) ?_
  intro a145 ha145; clear ha144 a144
  refine wl_val ha145 rfl rfl rfl (op_extract ha145 rfl rfl rfl) ?_
  intro a146 ha146; clear ha145 a145
  refine wl_eff ha146 rfl rfl rfl (op_alloc' rfl ti28 rfl) ?_
  rintro _ w148 ⟨rfl, he149, hb150, hz151⟩ a152 ha152; clear ha146 a146
  have hx153 := hx141.trans' he149
  have hzhx153 := he149.size
  replace ho17 := ho17.ext he149
  replace ho19 := ho19.ext he149
  replace hN21 := hN21.ext he149
  replace hb37 := hb37.ext he149
  replace ho47 := ho47.ext he149
  replace ho49 := ho49.ext he149
  replace hN51 := hN51.ext he149
  replace hb67 := hb67.ext he149
  replace ho77 := ho77.ext he149
  replace ho79 := ho79.ext he149
  replace hN81 := hN81.ext he149
  replace hb97 := hb97.ext he149
  replace ho134 := ho134.ext he149
  replace ho136 := ho136.ext he149
  replace hN138 := hN138.ext he149
  refine wl_effS ha152 rfl rfl (op_storeAll' ha152 rfl ti28 rfl rfl hb150 rfl rfl (by intro u hu; have hu : u ∈ ([u133, u135] : List Value) := hu; simp only [List.mem_cons, List.mem_nil_iff, or_false] at hu; rcases hu with rfl | rfl <;> first | rfl | exact ho134.one | exact ho136.one) rfl) ?_
  rintro w154 ⟨hb156, hst155, hz157⟩
  have hx158 := hx153.stp hst155 (by intro q hq; cases hq; exact (by omega))
  have hzhx158 := hst155.size
  replace ho17 := ho17.stp hst155 (by intro q hq; cases hq; omega)
  replace ho19 := ho19.stp hst155 (by intro q hq; cases hq; omega)
  replace hN21 := hN21.stp hst155 (by intro q hq; cases hq; omega)
  replace hb37 := hb37.stp hst155 (by intro q hq; cases hq; omega)
  replace ho47 := ho47.stp hst155 (by intro q hq; cases hq; omega)
  replace ho49 := ho49.stp hst155 (by intro q hq; cases hq; omega)
  replace hN51 := hN51.stp hst155 (by intro q hq; cases hq; omega)
  replace hb67 := hb67.stp hst155 (by intro q hq; cases hq; omega)
  replace ho77 := ho77.stp hst155 (by intro q hq; cases hq; omega)
  replace ho79 := ho79.stp hst155 (by intro q hq; cases hq; omega)
  replace hN81 := hN81.stp hst155 (by intro q hq; cases hq; omega)
  replace hb97 := hb97.stp hst155 (by intro q hq; cases hq; omega)
  replace ho134 := ho134.stp hst155 (by intro q hq; cases hq; omega)
  replace ho136 := ho136.stp hst155 (by intro q hq; cases hq; omega)
  replace hN138 := hN138.stp hst155 (by intro q hq; cases hq; omega)
  clear hb150
  refine wl_val ha152 rfl rfl rfl (op_assign ha152 rfl rfl) ?_
  intro a159 ha159; clear ha152 a152
  refine wl_val ha159 rfl rfl rfl (op_assign ha159 rfl rfl) ?_
  intro a160 ha160; clear ha159 a159
  refine wl_val ha160 rfl rfl rfl (op_assign ha160 rfl rfl) ?_
  intro a161 ha161; clear ha160 a160
  refine wpList_nil ?_
  refine then_n ?_
  refine wp_seq ?_
  refine wp_region_lit ?_
  refine wl_val ha161 rfl rfl rfl (op_loadS ha161 rfl Try.underlying28 ti28 rfl rfl hb156.cells) ?_
  intro a162 ha162; clear ha161 a161
  refine wl_val ha162 rfl rfl rfl (op_move ha162 rfl rfl) ?_
  intro a163 ha163; clear ha162 a162
  refine wl_val ha163 rfl rfl rfl (op_move ha163 rfl rfl) ?_
  intro a164 ha164; clear ha163 a163
  refine wl_val ha164 rfl rfl rfl (op_move ha164 rfl rfl) ?_
  intro a165 ha165; clear ha164 a164
  refine wl_callR ha165 rfl rfl rfl (op_call ha165 rfl cb38 rfl) (c_impl_FilterRows _ u133 u135 ((q129)) (q130 : Int) (q131 : Int) (q132 : Int) (ho134.rds pos_shStr) ((rds_shRowN (ho136.fin (by omega) (by omega) (by omega)) hN138).cast hE139)) ?_
  rintro v166 w167 he168 ⟨u169, u171, z173, rfl, ho170, ho172, hN174, hE175⟩ a176 ha176; clear ha165 a165
  have hx177 := hx158.trans' he168
  have hzhx177 := he168.size
  replace ho17 := ho17.ext he168
  replace ho19 := ho19.ext he168
  replace hN21 := hN21.ext he168
  replace hb37 := hb37.ext he168
  replace ho47 := ho47.ext he168
  replace ho49 := ho49.ext he168
  replace hN51 := hN51.ext he168
  replace hb67 := hb67.ext he168
  replace ho77 := ho77.ext he168
  replace ho79 := ho79.ext he168
  replace hN81 := hN81.ext he168
  replace hb97 := hb97.ext he168
  replace ho134 := ho134.ext he168
  replace ho136 := ho136.ext he168
  replace hN138 := hN138.ext he168
  replace hb156 := hb156.ext he168
  have hlhE175 := absLen hE175
  refine wl_val ha176 rfl rfl rfl (op_move ha176 rfl rfl) ?_
  intro a178 ha178; clear ha176 a176
  refine wl_val ha178 rfl rfl rfl (op_extract ha178 rfl rfl rfl) ?_
  intro a179 ha179; clear ha178 a178
  refine wl_val ha179 rfl rfl rfl (op_extract ha179 rfl rfl rfl) ?_
  intro a180 ha180; clear ha179 a179
  refine wl_eff ha180 rfl rfl rfl (op_alloc' rfl ti28 rfl) ?_
  rintro _ w182 ⟨rfl, he183, hb184, hz185⟩ a186 ha186; clear ha180 a180
  have hx187 := hx177.trans' he183
  have hzhx187 := he183.size
  replace ho17 := ho17.ext he183
  replace ho19 := ho19.ext he183
  replace hN21 := hN21.ext he183
  replace hb37 := hb37.ext he183
  replace ho47 := ho47.ext he183
  replace ho49 := ho49.ext he183
  replace hN51 := hN51.ext he183
  replace hb67 := hb67.ext he183
  replace ho77 := ho77.ext he183
  replace ho79 := ho79.ext he183
  replace hN81 := hN81.ext he183
  replace hb97 := hb97.ext he183
  replace ho134 := ho134.ext he183
  replace ho136 := ho136.ext he183
  replace hN138 := hN138.ext he183
  replace hb156 := hb156.ext he183
  replace ho170 := ho170.ext he183
  replace ho172 := ho172.ext he183
  replace hN174 := hN174.ext he183
  refine wl_effS ha186 rfl rfl (op_storeAll' ha186 rfl ti28 rfl rfl hb184 rfl rfl (by intro u hu; have hu : u ∈ ([u169, u171] : List Value) := hu; simp only [List.mem_cons, List.mem_nil_iff, or_false] at hu; rcases hu with rfl | rfl <;> first | rfl | exact ho170.one | exact ho172.one) rfl) ?_
  rintro w188 ⟨hb190, hst189, hz191⟩
  have hx192 := hx187.stp hst189 (by intro q hq; cases hq; exact (by omega))
  have hzhx192 := hst189.size
  replace ho17 := ho17.stp hst189 (by intro q hq; cases hq; omega)
  replace ho19 := ho19.stp hst189 (by intro q hq; cases hq; omega)
  replace hN21 := hN21.stp hst189 (by intro q hq; cases hq; omega)
  replace hb37 := hb37.stp hst189 (by intro q hq; cases hq; omega)
  replace ho47 := ho47.stp hst189 (by intro q hq; cases hq; omega)
  replace ho49 := ho49.stp hst189 (by intro q hq; cases hq; omega)
  replace hN51 := hN51.stp hst189 (by intro q hq; cases hq; omega)
  replace hb67 := hb67.stp hst189 (by intro q hq; cases hq; omega)
  replace ho77 := ho77.stp hst189 (by intro q hq; cases hq; omega)
  replace ho79 := ho79.stp hst189 (by intro q hq; cases hq; omega)
  replace hN81 := hN81.stp hst189 (by intro q hq; cases hq; omega)
  replace hb97 := hb97.stp hst189 (by intro q hq; cases hq; omega)
  replace ho134 := ho134.stp hst189 (by intro q hq; cases hq; omega)
  replace ho136 := ho136.stp hst189 (by intro q hq; cases hq; omega)
  replace hN138 := hN138.stp hst189 (by intro q hq; cases hq; omega)
  replace hb156 := hb156.stp hst189 (by intro q hq; cases hq; omega)
  replace ho170 := ho170.stp hst189 (by intro q hq; cases hq; omega)
  replace ho172 := ho172.stp hst189 (by intro q hq; cases hq; omega)
  replace hN174 := hN174.stp hst189 (by intro q hq; cases hq; omega)
  clear hb184
  refine wl_val ha186 rfl rfl rfl (op_assign ha186 rfl rfl) ?_
  intro a193 ha193; clear ha186 a186
  refine wpList_nil ?_
  refine then_n ?_
  refine wp_seq ?_
  refine wp_region_lit ?_
  refine wl_val ha193 rfl rfl rfl (op_loadS ha193 rfl Try.underlying28 ti28 rfl rfl hb156.cells) ?_
  intro a194 ha194; clear ha193 a193
  refine wl_val ha194 rfl rfl rfl (op_move ha194 rfl rfl) ?_
  intro a195 ha195; clear ha194 a194
  refine wl_val ha195 rfl rfl rfl (op_move ha195 rfl rfl) ?_
  intro a196 ha196; clear ha195 a195
  refine wl_val ha196 rfl rfl rfl (op_move ha196 rfl rfl) ?_
  intro a197 ha197; clear ha196 a196
  refine wl_callR ha197 rfl rfl rfl (op_call ha197 rfl cb37 rfl) (c_spec_FilterRows _ u133 u135 ((q129)) (q130 : Int) (q131 : Int) (q132 : Int) (ho134.rds pos_shStr) ((rds_shRowN (ho136.fin (by omega) (by omega) (by omega)) hN138).cast hE139)) ?_
  rintro v198 w199 he200 ⟨u201, u203, z205, rfl, ho202, ho204, hN206, hE207⟩ a208 ha208; clear ha197 a197
  have hx209 := hx192.trans' he200
  have hzhx209 := he200.size
  replace ho17 := ho17.ext he200
  replace ho19 := ho19.ext he200
  replace hN21 := hN21.ext he200
  replace hb37 := hb37.ext he200
  replace ho47 := ho47.ext he200
  replace ho49 := ho49.ext he200
  replace hN51 := hN51.ext he200
  replace hb67 := hb67.ext he200
  replace ho77 := ho77.ext he200
  replace ho79 := ho79.ext he200
  replace hN81 := hN81.ext he200
  replace hb97 := hb97.ext he200
  replace ho134 := ho134.ext he200
  replace ho136 := ho136.ext he200
  replace hN138 := hN138.ext he200
  replace hb156 := hb156.ext he200
  replace ho170 := ho170.ext he200
  replace ho172 := ho172.ext he200
  replace hN174 := hN174.ext he200
  replace hb190 := hb190.ext he200
  have hlhE207 := absLen hE207
  refine wl_val ha208 rfl rfl rfl (op_move ha208 rfl rfl) ?_
  intro a210 ha210; clear ha208 a208
  refine wl_val ha210 rfl rfl rfl (op_extract ha210 rfl rfl rfl) ?_
  intro a211 ha211; clear ha210 a210
  refine wl_val ha211 rfl rfl rfl (op_extract ha211 rfl rfl rfl) ?_
  intro a212 ha212; clear ha211 a211
  refine wl_eff ha212 rfl rfl rfl (op_alloc' rfl ti28 rfl) ?_
  rintro _ w214 ⟨rfl, he215, hb216, hz217⟩ a218 ha218; clear ha212 a212
  have hx219 := hx209.trans' he215
  have hzhx219 := he215.size
  replace ho17 := ho17.ext he215
  replace ho19 := ho19.ext he215
  replace hN21 := hN21.ext he215
  replace hb37 := hb37.ext he215
  replace ho47 := ho47.ext he215
  replace ho49 := ho49.ext he215
  replace hN51 := hN51.ext he215
  replace hb67 := hb67.ext he215
  replace ho77 := ho77.ext he215
  replace ho79 := ho79.ext he215
  replace hN81 := hN81.ext he215
  replace hb97 := hb97.ext he215
  replace ho134 := ho134.ext he215
  replace ho136 := ho136.ext he215
  replace hN138 := hN138.ext he215
  replace hb156 := hb156.ext he215
  replace ho170 := ho170.ext he215
  replace ho172 := ho172.ext he215
  replace hN174 := hN174.ext he215
  replace hb190 := hb190.ext he215
  replace ho202 := ho202.ext he215
  replace ho204 := ho204.ext he215
  replace hN206 := hN206.ext he215
  refine wl_effS ha218 rfl rfl (op_storeAll' ha218 rfl ti28 rfl rfl hb216 rfl rfl (by intro u hu; have hu : u ∈ ([u201, u203] : List Value) := hu; simp only [List.mem_cons, List.mem_nil_iff, or_false] at hu; rcases hu with rfl | rfl <;> first | rfl | exact ho202.one | exact ho204.one) rfl) ?_
  rintro w220 ⟨hb222, hst221, hz223⟩
  have hx224 := hx219.stp hst221 (by intro q hq; cases hq; exact (by omega))
  have hzhx224 := hst221.size
  replace ho17 := ho17.stp hst221 (by intro q hq; cases hq; omega)
  replace ho19 := ho19.stp hst221 (by intro q hq; cases hq; omega)
  replace hN21 := hN21.stp hst221 (by intro q hq; cases hq; omega)
  replace hb37 := hb37.stp hst221 (by intro q hq; cases hq; omega)
  replace ho47 := ho47.stp hst221 (by intro q hq; cases hq; omega)
  replace ho49 := ho49.stp hst221 (by intro q hq; cases hq; omega)
  replace hN51 := hN51.stp hst221 (by intro q hq; cases hq; omega)
  replace hb67 := hb67.stp hst221 (by intro q hq; cases hq; omega)
  replace ho77 := ho77.stp hst221 (by intro q hq; cases hq; omega)
  replace ho79 := ho79.stp hst221 (by intro q hq; cases hq; omega)
  replace hN81 := hN81.stp hst221 (by intro q hq; cases hq; omega)
  replace hb97 := hb97.stp hst221 (by intro q hq; cases hq; omega)
  replace ho134 := ho134.stp hst221 (by intro q hq; cases hq; omega)
  replace ho136 := ho136.stp hst221 (by intro q hq; cases hq; omega)
  replace hN138 := hN138.stp hst221 (by intro q hq; cases hq; omega)
  replace hb156 := hb156.stp hst221 (by intro q hq; cases hq; omega)
  replace ho170 := ho170.stp hst221 (by intro q hq; cases hq; omega)
  replace ho172 := ho172.stp hst221 (by intro q hq; cases hq; omega)
  replace hN174 := hN174.stp hst221 (by intro q hq; cases hq; omega)
  replace hb190 := hb190.stp hst221 (by intro q hq; cases hq; omega)
  replace ho202 := ho202.stp hst221 (by intro q hq; cases hq; omega)
  replace ho204 := ho204.stp hst221 (by intro q hq; cases hq; omega)
  replace hN206 := hN206.stp hst221 (by intro q hq; cases hq; omega)
  clear hb216
  refine wl_val ha218 rfl rfl rfl (op_assign ha218 rfl rfl) ?_
  intro a225 ha225; clear ha218 a218
  refine wpList_nil ?_
  refine then_n ?_
  refine wp_seq ?_
  clear ho134 ho136 hN138 hb156
  refine wp_region_lit ?_
  refine wl_val ha225 rfl rfl rfl (op_move ha225 rfl rfl) ?_
  intro a226 ha226; clear ha225 a225
  refine wl_callR ha226 rfl rfl rfl (op_call ha226 rfl cb52 rfl) (c_spec_DrawAddColumn _ v_code code (h_code.ext pos_shU8 hx224)) ?_
  rintro v227 w228 he229 ⟨q230, q231, q232, q233, q234, hq235, ⟨u236, u238, z240, rfl, ho237, ho239, hN241, hE242⟩⟩ a243 ha243; clear ha226 a226
  have hx244 := hx224.trans' he229
  have hzhx244 := he229.size
  replace ho17 := ho17.ext he229
  replace ho19 := ho19.ext he229
  replace hN21 := hN21.ext he229
  replace hb37 := hb37.ext he229
  replace ho47 := ho47.ext he229
  replace ho49 := ho49.ext he229
  replace hN51 := hN51.ext he229
  replace hb67 := hb67.ext he229
  replace ho77 := ho77.ext he229
  replace ho79 := ho79.ext he229
  replace hN81 := hN81.ext he229
  replace hb97 := hb97.ext he229
  replace ho170 := ho170.ext he229
  replace ho172 := ho172.ext he229
  replace hN174 := hN174.ext he229
  replace hb190 := hb190.ext he229
  replace ho202 := ho202.ext he229
  replace ho204 := ho204.ext he229
  replace hN206 := hN206.ext he229
  replace hb222 := hb222.ext he229
  have hlhE242 := absLen hE242
  refine wl_val ha243 rfl rfl rfl (op_move ha243 rfl rfl) ?_
  intro a245 ha245; clear ha243 a243
  refine wl_val ha245 rfl rfl rfl (op_extract ha245 rfl rfl rfl) ?_
  intro a246 ha246; clear ha245 a245
  refine wl_val ha246 rfl rfl rfl (op_extract ha246 rfl rfl rfl) ?_
  intro a247 ha247; clear ha246 a246
  refine wl_val ha247 rfl rfl rfl (op_extract ha247 rfl rfl rfl) ?_
  intro a248 ha248; clear ha247 a247
  refine wl_val ha248 rfl rfl rfl (op_extract ha248 rfl rfl rfl) ?_
  intro a249 ha249; clear ha248 a248
  refine wl_val ha249 rfl rfl rfl (op_extract ha249 rfl rfl rfl) ?_
  intro a250 ha250; clear ha249 a249
  refine wl_eff ha250 rfl rfl rfl (op_alloc' rfl ti28 rfl) ?_
  rintro _ w252 ⟨rfl, he253, hb254, hz255⟩ a256 ha256; clear ha250 a250
  have hx257 := hx244.trans' he253
  have hzhx257 := he253.size
  replace ho17 := ho17.ext he253
  replace ho19 := ho19.ext he253
  replace hN21 := hN21.ext he253
  replace hb37 := hb37.ext he253
  replace ho47 := ho47.ext he253
  replace ho49 := ho49.ext he253
  replace hN51 := hN51.ext he253
  replace hb67 := hb67.ext he253
  replace ho77 := ho77.ext he253
  replace ho79 := ho79.ext he253
  replace hN81 := hN81.ext he253
  replace hb97 := hb97.ext he253
  replace ho170 := ho170.ext he253
  replace ho172 := ho172.ext he253
  replace hN174 := hN174.ext he253
  replace hb190 := hb190.ext he253
  replace ho202 := ho202.ext he253
  replace ho204 := ho204.ext he253
  replace hN206 := hN206.ext he253
  replace hb222 := hb222.ext he253
  replace ho237 := ho237.ext he253
  replace ho239 := ho239.ext he253
  replace hN241 := hN241.ext he253
  refine wl_effS ha256 rfl rfl (op_storeAll' ha256 rfl ti28 rfl rfl hb254 rfl rfl (by intro u hu; have hu : u ∈ ([u236, u238] : List Value) := hu; simp only [List.mem_cons, List.mem_nil_iff, or_false] at hu; rcases hu with rfl | rfl <;> first | rfl | exact ho237.one | exact ho239.one) rfl) ?_
  rintro w258 ⟨hb260, hst259, hz261⟩
  have hx262 := hx257.stp hst259 (by intro q hq; cases hq; exact (by omega))
  have hzhx262 := hst259.size
  replace ho17 := ho17.stp hst259 (by intro q hq; cases hq; omega)
  replace ho19 := ho19.stp hst259 (by intro q hq; cases hq; omega)
  replace hN21 := hN21.stp hst259 (by intro q hq; cases hq; omega)
  replace hb37 := hb37.stp hst259 (by intro q hq; cases hq; omega)
  replace ho47 := ho47.stp hst259 (by intro q hq; cases hq; omega)
  replace ho49 := ho49.stp hst259 (by intro q hq; cases hq; omega)
  replace hN51 := hN51.stp hst259 (by intro q hq; cases hq; omega)
  replace hb67 := hb67.stp hst259 (by intro q hq; cases hq; omega)
  replace ho77 := ho77.stp hst259 (by intro q hq; cases hq; omega)
  replace ho79 := ho79.stp hst259 (by intro q hq; cases hq; omega)
  replace hN81 := hN81.stp hst259 (by intro q hq; cases hq; omega)
  replace hb97 := hb97.stp hst259 (by intro q hq; cases hq; omega)
  replace ho170 := ho170.stp hst259 (by intro q hq; cases hq; omega)
  replace ho172 := ho172.stp hst259 (by intro q hq; cases hq; omega)
  replace hN174 := hN174.stp hst259 (by intro q hq; cases hq; omega)
  replace hb190 := hb190.stp hst259 (by intro q hq; cases hq; omega)
  replace ho202 := ho202.stp hst259 (by intro q hq; cases hq; omega)
  replace ho204 := ho204.stp hst259 (by intro q hq; cases hq; omega)
  replace hN206 := hN206.stp hst259 (by intro q hq; cases hq; omega)
  replace hb222 := hb222.stp hst259 (by intro q hq; cases hq; omega)
  replace ho237 := ho237.stp hst259 (by intro q hq; cases hq; omega)
  replace ho239 := ho239.stp hst259 (by intro q hq; cases hq; omega)
  replace hN241 := hN241.stp hst259 (by intro q hq; cases hq; omega)
  clear hb254
  refine wl_val ha256 rfl rfl rfl (op_assign ha256 rfl rfl) ?_
  intro a263 ha263; clear ha256 a256
  refine wl_val ha263 rfl rfl rfl (op_assign ha263 rfl rfl) ?_
  intro a264 ha264; clear ha263 a263
  refine wl_val ha264 rfl rfl rfl (op_assign ha264 rfl rfl) ?_
  intro a265 ha265; clear ha264 a264
  refine wl_val ha265 rfl rfl rfl (op_assign ha265 rfl rfl) ?_
  intro a266 ha266; clear ha265 a265
  refine wpList_nil ?_
  refine then_n ?_
  refine wp_seq ?_
  refine wp_region_lit ?_
  refine wl_val ha266 rfl rfl rfl (op_loadS ha266 rfl Try.underlying28 ti28 rfl rfl hb260.cells) ?_
  intro a267 ha267; clear ha266 a266
  refine wl_val ha267 rfl rfl rfl (op_move ha267 rfl rfl) ?_
  intro a268 ha268; clear ha267 a267
  refine wl_val ha268 rfl rfl rfl (op_move ha268 rfl rfl) ?_
  intro a269 ha269; clear ha268 a268
  refine wl_val ha269 rfl rfl rfl (op_move ha269 rfl rfl) ?_
  intro a270 ha270; clear ha269 a269
  refine wl_val ha270 rfl rfl rfl (op_move ha270 rfl rfl) ?_
  intro a271 ha271; clear ha270 a270
  refine wl_callR ha271 rfl rfl rfl (op_call ha271 rfl cb49 rfl) (c_impl_AddColumn _ u236 u238 ((q230)) ((q231)) (q232 : Int) (q233 : Int) (q234 : Int) (ho237.rds pos_shStr) ((rds_shRowN (ho239.fin (by omega) (by omega) (by omega)) hN241).cast hE242) (by first | assumption | omega | (simp; done) | (simp; omega))) ?_
  rintro v272 w273 he274 ⟨u275, u277, z279, rfl, ho276, ho278, hN280, hE281⟩ a282 ha282; clear ha271 a271
  have hx283 := hx262.trans' he274
  have hzhx283 := he274.size
  replace ho17 := ho17.ext he274
  replace ho19 := ho19.ext he274
  replace hN21 := hN21.ext he274
  replace hb37 := hb37.ext he274
  replace ho47 := ho47.ext he274
  replace ho49 := ho49.ext he274
  replace hN51 := hN51.ext he274
  replace hb67 := hb67.ext he274
  replace ho77 := ho77.ext he274
  replace ho79 := ho79.ext he274
  replace hN81 := hN81.ext he274
  replace hb97 := hb97.ext he274
  replace ho170 := ho170.ext he274
  replace ho172 := ho172.ext he274
  replace hN174 := hN174.ext he274
  replace hb190 := hb190.ext he274
  replace ho202 := ho202.ext he274
  replace ho204 := ho204.ext he274
  replace hN206 := hN206.ext he274
  replace hb222 := hb222.ext he274
  replace ho237 := ho237.ext he274
  replace ho239 := ho239.ext he274
  replace hN241 := hN241.ext he274
  replace hb260 := hb260.ext he274
  have hlhE281 := absLen hE281
  refine wl_val ha282 rfl rfl rfl (op_move ha282 rfl rfl) ?_
  intro a284 ha284; clear ha282 a282
  refine wl_val ha284 rfl rfl rfl (op_extract ha284 rfl rfl rfl) ?_
  intro a285 ha285; clear ha284 a284
  refine wl_val ha285 rfl rfl rfl (op_extract ha285 rfl rfl rfl) ?_
  intro a286 ha286; clear ha285 a285
  refine wl_eff ha286 rfl rfl rfl (op_alloc' rfl ti28 rfl) ?_
  rintro _ w288 ⟨rfl, he289, hb290, hz291⟩ a292 ha292; clear ha286 a286
  have hx293 := hx283.trans' he289
  have hzhx293 := he289.size
  replace ho17 := ho17.ext he289
  replace ho19 := ho19.ext he289
  replace hN21 := hN21.ext he289
  replace hb37 := hb37.ext he289
  replace ho47 := ho47.ext he289
  replace ho49 := ho49.ext he289
  replace hN51 := hN51.ext he289
  replace hb67 := hb67.ext he289
  replace ho77 := ho77.ext he289
  replace ho79 := ho79.ext he289
  replace hN81 := hN81.ext he289
  replace hb97 := hb97.ext he289
  replace ho170 := ho170.ext he289
  replace ho172 := ho172.ext he289
  replace hN174 := hN174.ext he289
  replace hb190 := hb190.ext he289
  replace ho202 := ho202.ext he289
  replace ho204 := ho204.ext he289
  replace hN206 := hN206.ext he289
  replace hb222 := hb222.ext he289
  replace ho237 := ho237.ext he289
  replace ho239 := ho239.ext he289
  replace hN241 := hN241.ext he289
  replace hb260 := hb260.ext he289
  replace ho276 := ho276.ext he289
  replace ho278 := ho278.ext he289
  replace hN280 := hN280.ext he289
  refine wl_effS ha292 rfl rfl (op_storeAll' ha292 rfl ti28 rfl rfl hb290 rfl rfl (by intro u hu; have hu : u ∈ ([u275, u277] : List Value) := hu; simp only [List.mem_cons, List.mem_nil_iff, or_false] at hu; rcases hu with rfl | rfl <;> first | rfl | exact ho276.one | exact ho278.one) rfl) ?_
  rintro w294 ⟨hb296, hst295, hz297⟩
  have hx298 := hx293.stp hst295 (by intro q hq; cases hq; exact (by omega))
  have hzhx298 := hst295.size
  replace ho17 := ho17.stp hst295 (by intro q hq; cases hq; omega)
  replace ho19 := ho19.stp hst295 (by intro q hq; cases hq; omega)
  replace hN21 := hN21.stp hst295 (by intro q hq; cases hq; omega)
  replace hb37 := hb37.stp hst295 (by intro q hq; cases hq; omega)
  replace ho47 := ho47.stp hst295 (by intro q hq; cases hq; omega)
  replace ho49 := ho49.stp hst295 (by intro q hq; cases hq; omega)
  replace hN51 := hN51.stp hst295 (by intro q hq; cases hq; omega)
  replace hb67 := hb67.stp hst295 (by intro q hq; cases hq; omega)
  replace ho77 := ho77.stp hst295 (by intro q hq; cases hq; omega)
  replace ho79 := ho79.stp hst295 (by intro q hq; cases hq; omega)
  replace hN81 := hN81.stp hst295 (by intro q hq; cases hq; omega)
  replace hb97 := hb97.stp hst295 (by intro q hq; cases hq; omega)
  replace ho170 := ho170.stp hst295 (by intro q hq; cases hq; omega)
  replace ho172 := ho172.stp hst295 (by intro q hq; cases hq; omega)
  replace hN174 := hN174.stp hst295 (by intro q hq; cases hq; omega)
  replace hb190 := hb190.stp hst295 (by intro q hq; cases hq; omega)
  replace ho202 := ho202.stp hst295 (by intro q hq; cases hq; omega)
  replace ho204 := ho204.stp hst295 (by intro q hq; cases hq; omega)
  replace hN206 := hN206.stp hst295 (by intro q hq; cases hq; omega)
  replace hb222 := hb222.stp hst295 (by intro q hq; cases hq; omega)
  replace ho237 := ho237.stp hst295 (by intro q hq; cases hq; omega)
  replace ho239 := ho239.stp hst295 (by intro q hq; cases hq; omega)
  replace hN241 := hN241.stp hst295 (by intro q hq; cases hq; omega)
  replace hb260 := hb260.stp hst295 (by intro q hq; cases hq; omega)
  replace ho276 := ho276.stp hst295 (by intro q hq; cases hq; omega)
  replace ho278 := ho278.stp hst295 (by intro q hq; cases hq; omega)
  replace hN280 := hN280.stp hst295 (by intro q hq; cases hq; omega)
  clear hb290
  refine wl_val ha292 rfl rfl rfl (op_assign ha292 rfl rfl) ?_
  intro a299 ha299; clear ha292 a292
  refine wpList_nil ?_
  refine then_n ?_
  refine wp_seq ?_
  refine wp_region_lit ?_
  refine wl_val ha299 rfl rfl rfl (op_loadS ha299 rfl Try.underlying28 ti28 rfl rfl hb260.cells) ?_
  intro a300 ha300; clear ha299 a299
  refine wl_val ha300 rfl rfl rfl (op_move ha300 rfl rfl) ?_
  intro a301 ha301; clear ha300 a300
  refine wl_val ha301 rfl rfl rfl (op_move ha301 rfl rfl) ?_
  intro a302 ha302; clear ha301 a301
  refine wl_val ha302 rfl rfl rfl (op_move ha302 rfl rfl) ?_
  intro a303 ha303; clear ha302 a302
  refine wl_val ha303 rfl rfl rfl (op_move ha303 rfl rfl) ?_
  intro a304 ha304; clear ha303 a303
  refine wl_callR ha304 rfl rfl rfl (op_call ha304 rfl cb48 rfl) (c_spec_AddColumn _ u236 u238 ((q230)) ((q231)) (q232 : Int) (q233 : Int) (q234 : Int) (ho237.rds pos_shStr) ((rds_shRowN (ho239.fin (by omega) (by omega) (by omega)) hN241).cast hE242) (by first | assumption | omega | (simp; done) | (simp; omega))) ?_
  rintro v305 w306 he307 ⟨u308, u310, z312, rfl, ho309, ho311, hN313, hE314⟩ a315 ha315; clear ha304 a304
  have hx316 := hx298.trans' he307
  have hzhx316 := he307.size
  replace ho17 := ho17.ext he307
  replace ho19 := ho19.ext he307
  replace hN21 := hN21.ext he307
  replace hb37 := hb37.ext he307
  replace ho47 := ho47.ext he307
  replace ho49 := ho49.ext he307
  replace hN51 := hN51.ext he307
  replace hb67 := hb67.ext he307
  replace ho77 := ho77.ext he307
  replace ho79 := ho79.ext he307
  replace hN81 := hN81.ext he307
  replace hb97 := hb97.ext he307
  replace ho170 := ho170.ext he307
  replace ho172 := ho172.ext he307
  replace hN174 := hN174.ext he307
  replace hb190 := hb190.ext he307
  replace ho202 := ho202.ext he307
  replace ho204 := ho204.ext he307
  replace hN206 := hN206.ext he307
  replace hb222 := hb222.ext he307
  replace ho237 := ho237.ext he307
  replace ho239 := ho239.ext he307
  replace hN241 := hN241.ext he307
  replace hb260 := hb260.ext he307
  replace ho276 := ho276.ext he307
  replace ho278 := ho278.ext he307
  replace hN280 := hN280.ext he307
  replace hb296 := hb296.ext he307
  have hlhE314 := absLen hE314
  refine wl_val ha315 rfl rfl rfl (op_move ha315 rfl rfl) ?_
  intro a317 ha317; clear ha315 a315
  refine wl_val ha317 rfl rfl rfl (op_extract ha317 rfl rfl rfl) ?_
  intro a318 ha318; clear ha317 a317
  refine wl_val ha318 rfl rfl rfl (op_extract ha318 rfl rfl rfl) ?_
  intro a319 ha319; clear ha318 a318
  refine wl_eff ha319 rfl rfl rfl (op_alloc' rfl ti28 rfl) ?_
  rintro _ w321 ⟨rfl, he322, hb323, hz324⟩ a325 ha325; clear ha319 a319
  have hx326 := hx316.trans' he322
  have hzhx326 := he322.size
  replace ho17 := ho17.ext he322
  replace ho19 := ho19.ext he322
  replace hN21 := hN21.ext he322
  replace hb37 := hb37.ext he322
  replace ho47 := ho47.ext he322
  replace ho49 := ho49.ext he322
  replace hN51 := hN51.ext he322
  replace hb67 := hb67.ext he322
  replace ho77 := ho77.ext he322
  replace ho79 := ho79.ext he322
  replace hN81 := hN81.ext he322
  replace hb97 := hb97.ext he322
  replace ho170 := ho170.ext he322
  replace ho172 := ho172.ext he322
  replace hN174 := hN174.ext he322
  replace hb190 := hb190.ext he322
  replace ho202 := ho202.ext he322
  replace ho204 := ho204.ext he322
  replace hN206 := hN206.ext he322
  replace hb222 := hb222.ext he322
  replace ho237 := ho237.ext he322
  replace ho239 := ho239.ext he322
  replace hN241 := hN241.ext he322
  replace hb260 := hb260.ext he322
  replace ho276 := ho276.ext he322
  replace ho278 := ho278.ext he322
  replace hN280 := hN280.ext he322
  replace hb296 := hb296.ext he322
  replace ho309 := ho309.ext he322
  replace ho311 := ho311.ext he322
  replace hN313 := hN313.ext he322
  refine wl_effS ha325 rfl rfl (op_storeAll' ha325 rfl ti28 rfl rfl hb323 rfl rfl (by intro u hu; have hu : u ∈ ([u308, u310] : List Value) := hu; simp only [List.mem_cons, List.mem_nil_iff, or_false] at hu; rcases hu with rfl | rfl <;> first | rfl | exact ho309.one | exact ho311.one) rfl) ?_
  rintro w327 ⟨hb329, hst328, hz330⟩
  have hx331 := hx326.stp hst328 (by intro q hq; cases hq; exact (by omega))
  have hzhx331 := hst328.size
  replace ho17 := ho17.stp hst328 (by intro q hq; cases hq; omega)
  replace ho19 := ho19.stp hst328 (by intro q hq; cases hq; omega)
  replace hN21 := hN21.stp hst328 (by intro q hq; cases hq; omega)
  replace hb37 := hb37.stp hst328 (by intro q hq; cases hq; omega)
  replace ho47 := ho47.stp hst328 (by intro q hq; cases hq; omega)
  replace ho49 := ho49.stp hst328 (by intro q hq; cases hq; omega)
  replace hN51 := hN51.stp hst328 (by intro q hq; cases hq; omega)
  replace hb67 := hb67.stp hst328 (by intro q hq; cases hq; omega)
  replace ho77 := ho77.stp hst328 (by intro q hq; cases hq; omega)
  replace ho79 := ho79.stp hst328 (by intro q hq; cases hq; omega)
  replace hN81 := hN81.stp hst328 (by intro q hq; cases hq; omega)
  replace hb97 := hb97.stp hst328 (by intro q hq; cases hq; omega)
  replace ho170 := ho170.stp hst328 (by intro q hq; cases hq; omega)
  replace ho172 := ho172.stp hst328 (by intro q hq; cases hq; omega)
  replace hN174 := hN174.stp hst328 (by intro q hq; cases hq; omega)
  replace hb190 := hb190.stp hst328 (by intro q hq; cases hq; omega)
  replace ho202 := ho202.stp hst328 (by intro q hq; cases hq; omega)
  replace ho204 := ho204.stp hst328 (by intro q hq; cases hq; omega)
  replace hN206 := hN206.stp hst328 (by intro q hq; cases hq; omega)
  replace hb222 := hb222.stp hst328 (by intro q hq; cases hq; omega)
  replace ho237 := ho237.stp hst328 (by intro q hq; cases hq; omega)
  replace ho239 := ho239.stp hst328 (by intro q hq; cases hq; omega)
  replace hN241 := hN241.stp hst328 (by intro q hq; cases hq; omega)
  replace hb260 := hb260.stp hst328 (by intro q hq; cases hq; omega)
  replace ho276 := ho276.stp hst328 (by intro q hq; cases hq; omega)
  replace ho278 := ho278.stp hst328 (by intro q hq; cases hq; omega)
  replace hN280 := hN280.stp hst328 (by intro q hq; cases hq; omega)
  replace hb296 := hb296.stp hst328 (by intro q hq; cases hq; omega)
  replace ho309 := ho309.stp hst328 (by intro q hq; cases hq; omega)
  replace ho311 := ho311.stp hst328 (by intro q hq; cases hq; omega)
  replace hN313 := hN313.stp hst328 (by intro q hq; cases hq; omega)
  clear hb323
  refine wl_val ha325 rfl rfl rfl (op_assign ha325 rfl rfl) ?_
  intro a332 ha332; clear ha325 a325
  refine wpList_nil ?_
  refine then_n ?_
  refine wp_seq ?_
  refine wp_region_lit ?_
  refine wl_val ha332 rfl rfl rfl (op_loadS ha332 rfl Try.underlying28 ti28 rfl rfl hb37.cells) ?_
  intro a333 ha333; clear ha332 a332
  refine wl_callR ha333 rfl rfl rfl (op_call ha333 rfl cb30 rfl) (c_impl_WidthsOf _ u16 u18 ((q14)) (ho17.rds pos_shStr) ((rds_shRowN (ho19.fin (by omega) (by omega) (by omega)) hN21).cast hE22)) ?_
  rintro v334 w335 he336 ⟨v337, rfl, ho338⟩ a339 ha339; clear ha333 a333
  have hx340 := hx331.trans' he336
  have hzhx340 := he336.size
  replace ho17 := ho17.ext he336
  replace ho19 := ho19.ext he336
  replace hN21 := hN21.ext he336
  replace hb37 := hb37.ext he336
  replace ho47 := ho47.ext he336
  replace ho49 := ho49.ext he336
  replace hN51 := hN51.ext he336
  replace hb67 := hb67.ext he336
  replace ho77 := ho77.ext he336
  replace ho79 := ho79.ext he336
  replace hN81 := hN81.ext he336
  replace hb97 := hb97.ext he336
  replace ho170 := ho170.ext he336
  replace ho172 := ho172.ext he336
  replace hN174 := hN174.ext he336
  replace hb190 := hb190.ext he336
  replace ho202 := ho202.ext he336
  replace ho204 := ho204.ext he336
  replace hN206 := hN206.ext he336
  replace hb222 := hb222.ext he336
  replace ho237 := ho237.ext he336
  replace ho239 := ho239.ext he336
  replace hN241 := hN241.ext he336
  replace hb260 := hb260.ext he336
  replace ho276 := ho276.ext he336
  replace ho278 := ho278.ext he336
  replace hN280 := hN280.ext he336
  replace hb296 := hb296.ext he336
  replace ho309 := ho309.ext he336
  replace ho311 := ho311.ext he336
  replace hN313 := hN313.ext he336
  replace hb329 := hb329.ext he336
  refine wl_val ha339 rfl rfl rfl (op_move ha339 rfl rfl) ?_
  intro a341 ha341; clear ha339 a339
  refine wl_val ha341 rfl rfl rfl (op_extract ha341 rfl rfl rfl) ?_
  intro a342 ha342; clear ha341 a341
  refine wl_val ha342 rfl rfl rfl (op_extract ha342 rfl rfl rfl) ?_
  intro a343 ha343; clear ha342 a342
  refine wl_val ha343 rfl rfl rfl (op_assign ha343 rfl rfl) ?_
  intro a344 ha344; clear ha343 a343
  refine wl_val ha344 rfl rfl rfl (op_assign ha344 rfl rfl) ?_
  intro a345 ha345; clear ha344 a344
  refine wpList_nil ?_
  refine then_n ?_
  refine wp_seq ?_
  refine wp_region_lit ?_
  refine wl_val ha345 rfl rfl rfl (op_loadS ha345 rfl Try.underlying28 ti28 rfl rfl hb37.cells) ?_
  intro a346 ha346; clear ha345 a345
  refine wl_callR ha346 rfl rfl rfl (op_call ha346 rfl cb29 rfl) (c_spec_WidthsOf _ u16 u18 ((q14)) (ho17.rds pos_shStr) ((rds_shRowN (ho19.fin (by omega) (by omega) (by omega)) hN21).cast hE22)) ?_
  rintro v347 w348 he349 ⟨v350, rfl, ho351⟩ a352 ha352; clear ha346 a346
  have hx353 := hx340.trans' he349
  have hzhx353 := he349.size
  replace ho17 := ho17.ext he349
  replace ho19 := ho19.ext he349
  replace hN21 := hN21.ext he349
  replace hb37 := hb37.ext he349
  replace ho47 := ho47.ext he349
  replace ho49 := ho49.ext he349
  replace hN51 := hN51.ext he349
  replace hb67 := hb67.ext he349
  replace ho77 := ho77.ext he349
  replace ho79 := ho79.ext he349
  replace hN81 := hN81.ext he349
  replace hb97 := hb97.ext he349
  replace ho170 := ho170.ext he349
  replace ho172 := ho172.ext he349
  replace hN174 := hN174.ext he349
  replace hb190 := hb190.ext he349
  replace ho202 := ho202.ext he349
  replace ho204 := ho204.ext he349
  replace hN206 := hN206.ext he349
  replace hb222 := hb222.ext he349
  replace ho237 := ho237.ext he349
  replace ho239 := ho239.ext he349
  replace hN241 := hN241.ext he349
  replace hb260 := hb260.ext he349
  replace ho276 := ho276.ext he349
  replace ho278 := ho278.ext he349
  replace hN280 := hN280.ext he349
  replace hb296 := hb296.ext he349
  replace ho309 := ho309.ext he349
  replace ho311 := ho311.ext he349
  replace hN313 := hN313.ext he349
  replace hb329 := hb329.ext he349
  replace ho338 := ho338.ext he349
  refine wl_val ha352 rfl rfl rfl (op_move ha352 rfl rfl) ?_
  intro a354 ha354; clear ha352 a352
  refine wl_val ha354 rfl rfl rfl (op_extract ha354 rfl rfl rfl) ?_
  intro a355 ha355; clear ha354 a354
  refine wl_val ha355 rfl rfl rfl (op_extract ha355 rfl rfl rfl) ?_
  intro a356 ha356; clear ha355 a355
  refine wl_val ha356 rfl rfl rfl (op_assign ha356 rfl rfl) ?_
  intro a357 ha357; clear ha356 a356
  refine wl_val ha357 rfl rfl rfl (op_assign ha357 rfl rfl) ?_
  intro a358 ha358; clear ha357 a357
  refine wpList_nil ?_
  refine then_n ?_
  refine wp_seq ?_
  refine wp_seq ?_
  clear ho17 ho19 hN21 hb37
  refine wp_region_lit ?_
  refine wl_val ha358 rfl rfl rfl (op_move ha358 rfl rfl) ?_
  intro a359 ha359; clear ha358 a358
  refine wl_val ha359 rfl rfl rfl (op_move ha359 rfl rfl) ?_
  intro a360 ha360; clear ha359 a359
  refine wl_val ha360 rfl rfl rfl ((op_neq ha360 rfl rfl rfl).to (congrArg Value.bool decide_not)) ?_
  intro a361 ha361; clear ha360 a360
  refine wl_val ha361 rfl rfl rfl (op_move ha361 rfl rfl) ?_
  intro a362 ha362; clear ha361 a361
  by_cases c363 : (cdT ((q14)) (q15 : Int) : Int) = (cdT ((q14)) (q15 : Int) : Int)
  ·
   rw [decide_eq_true c363] at ha362
   refine wl_val ha362 rfl rfl rfl (op_loadS ha362 rfl Try.underlying28 ti28 rfl rfl hb67.cells) ?_
   intro a364 ha364; clear ha362 a362
   refine wl_val ha364 rfl rfl rfl (op_loadS ha364 rfl Try.underlying28 ti28 rfl rfl hb97.cells) ?_
   intro a365 ha365; clear ha364 a364
   refine wl_callR ha365 rfl rfl rfl (op_call ha365 rfl cb45 rfl) (c_laws_likeTable _ u46 u48 ((srT ((q14)) (q15 : Int))) u76 u78 ((srT ((q14)) (q15 : Int))) (ho47.rds pos_shStr) ((rds_shRowN (ho49.fin (by omega) (by omega) (by omega)) hN51).cast hE52) (ho77.rds pos_shStr) ((rds_shRowN (ho79.fin (by omega) (by omega) (by omega)) hN81).cast hE82)) ?_
   rintro v366 w367 he368 rfl a369 ha369; clear ha365 a365
   have hx370 := hx353.trans' he368
   have hzhx370 := he368.size
   replace ho47 := ho47.ext he368
   replace ho49 := ho49.ext he368
   replace hN51 := hN51.ext he368
   replace hb67 := hb67.ext he368
   replace ho77 := ho77.ext he368
   replace ho79 := ho79.ext he368
   replace hN81 := hN81.ext he368
   replace hb97 := hb97.ext he368
   replace ho170 := ho170.ext he368
   replace ho172 := ho172.ext he368
   replace hN174 := hN174.ext he368
   replace hb190 := hb190.ext he368
   replace ho202 := ho202.ext he368
   replace ho204 := ho204.ext he368
   replace hN206 := hN206.ext he368
   replace hb222 := hb222.ext he368
   replace ho237 := ho237.ext he368
   replace ho239 := ho239.ext he368
   replace hN241 := hN241.ext he368
   replace hb260 := hb260.ext he368
   replace ho276 := ho276.ext he368
   replace ho278 := ho278.ext he368
   replace hN280 := hN280.ext he368
   replace hb296 := hb296.ext he368
   replace ho309 := ho309.ext he368
   replace ho311 := ho311.ext he368
   replace hN313 := hN313.ext he368
   replace hb329 := hb329.ext he368
   replace ho338 := ho338.ext he368
   replace ho351 := ho351.ext he368
   refine wl_val ha369 rfl rfl rfl (op_not ha369 rfl rfl) ?_
   intro a371 ha371; clear ha369 a369
   refine wl_val ha371 rfl rfl rfl (op_pick_f ha371 rfl rfl rfl) ?_
   intro a372 ha372; clear ha371 a371
   refine wl_val ha372 rfl rfl rfl (op_move ha372 rfl rfl) ?_
   intro a373 ha373; clear ha372 a372
   rcases Bool.eq_false_or_eq_true (decide (((srT ((q14)) (q15 : Int))) = ((srT ((q14)) (q15 : Int))))) with c374 | c374
   ·
    rw [c374] at ha373
    refine wl_val ha373 rfl rfl rfl (op_move ha373 rfl rfl) ?_
    intro a375 ha375; clear ha373 a373
    refine wl_val ha375 rfl rfl rfl (op_move ha375 rfl rfl) ?_
    intro a376 ha376; clear ha375 a375
    refine wl_val ha376 rfl rfl rfl ((op_neq ha376 rfl rfl rfl).to (congrArg Value.bool decide_not)) ?_
    intro a377 ha377; clear ha376 a376
    refine wl_val ha377 rfl rfl rfl (op_pick_f ha377 rfl rfl rfl) ?_
    intro a378 ha378; clear ha377 a377
    refine wl_val ha378 rfl rfl rfl (op_move ha378 rfl rfl) ?_
    intro a379 ha379; clear ha378 a378
    rw [decide_eq_true c363] at ha379
    refine wl_val ha379 rfl rfl rfl (op_move ha379 rfl rfl) ?_
    intro a380 ha380; clear ha379 a379
    refine wl_val ha380 rfl rfl rfl (op_move ha380 rfl rfl) ?_
    intro a381 ha381; clear ha380 a380
    refine wl_val ha381 rfl rfl rfl ((op_neq ha381 rfl rfl rfl).to (congrArg Value.bool decide_not)) ?_
    intro a382 ha382; clear ha381 a381
    refine wl_val ha382 rfl rfl rfl (op_pick_f ha382 rfl rfl rfl) ?_
    intro a383 ha383; clear ha382 a382
    refine wl_val ha383 rfl rfl rfl (op_move ha383 rfl rfl) ?_
    intro a384 ha384; clear ha383 a383
    by_cases c385 : (if cdT ((q14)) (q15 : Int) = 0 then sumI (rowC (q15 : Int)) ((q14)).2 else 0 : Int) = (if cdT ((q14)) (q15 : Int) = 0 then sumI (rowC (q15 : Int)) ((q14)).2 else 0 : Int)
    ·
     rw [decide_eq_true c385] at ha384
     refine wl_val ha384 rfl rfl rfl (op_move ha384 rfl rfl) ?_
     intro a386 ha386; clear ha384 a384
     refine wl_val ha386 rfl rfl rfl (op_move ha386 rfl rfl) ?_
     intro a387 ha387; clear ha386 a386
     refine wl_val ha387 rfl rfl rfl ((op_neq ha387 rfl rfl rfl).to (congrArg Value.bool decide_not)) ?_
     intro a388 ha388; clear ha387 a387
     refine wl_val ha388 rfl rfl rfl (op_pick_f ha388 rfl rfl rfl) ?_
     intro a389 ha389; clear ha388 a388
     refine wl_val ha389 rfl rfl rfl (op_move ha389 rfl rfl) ?_
     intro a390 ha390; clear ha389 a389
     by_cases c391 : (cdR ((q129)) (q130 : Int) (q131 : Int) (q132 : Int) : Int) = (cdR ((q129)) (q130 : Int) (q131 : Int) (q132 : Int) : Int)
     ·
      rw [decide_eq_true c391] at ha390
      refine wl_val ha390 rfl rfl rfl (op_loadS ha390 rfl Try.underlying28 ti28 rfl rfl hb190.cells) ?_
      intro a392 ha392; clear ha390 a390
      refine wl_val ha392 rfl rfl rfl (op_loadS ha392 rfl Try.underlying28 ti28 rfl rfl hb222.cells) ?_
      intro a393 ha393; clear ha392 a392
      refine wl_callR ha393 rfl rfl rfl (op_call ha393 rfl cb45 rfl) (c_laws_likeTable _ u169 u171 ((flT ((q129)) (q130 : Int) (q131 : Int) (q132 : Int))) u201 u203 ((flT ((q129)) (q130 : Int) (q131 : Int) (q132 : Int))) (ho170.rds pos_shStr) ((rds_shRowN (ho172.fin (by omega) (by omega) (by omega)) hN174).cast hE175) (ho202.rds pos_shStr) ((rds_shRowN (ho204.fin (by omega) (by omega) (by omega)) hN206).cast hE207)) ?_
      rintro v394 w395 he396 rfl a397 ha397; clear ha393 a393
      have hx398 := hx370.trans' he396
      have hzhx398 := he396.size
      replace ho47 := ho47.ext he396
      replace ho49 := ho49.ext he396
      replace hN51 := hN51.ext he396
      replace hb67 := hb67.ext he396
      replace ho77 := ho77.ext he396
      replace ho79 := ho79.ext he396
      replace hN81 := hN81.ext he396
      replace hb97 := hb97.ext he396
      replace ho170 := ho170.ext he396
      replace ho172 := ho172.ext he396
      replace hN174 := hN174.ext he396
      replace hb190 := hb190.ext he396
      replace ho202 := ho202.ext he396
      replace ho204 := ho204.ext he396
      replace hN206 := hN206.ext he396
      replace hb222 := hb222.ext he396
      replace ho237 := ho237.ext he396
      replace ho239 := ho239.ext he396
      replace hN241 := hN241.ext he396
      replace hb260 := hb260.ext he396
      replace ho276 := ho276.ext he396
      replace ho278 := ho278.ext he396
      replace hN280 := hN280.ext he396
      replace hb296 := hb296.ext he396
      replace ho309 := ho309.ext he396
      replace ho311 := ho311.ext he396
      replace hN313 := hN313.ext he396
      replace hb329 := hb329.ext he396
      replace ho338 := ho338.ext he396
      replace ho351 := ho351.ext he396
      refine wl_val ha397 rfl rfl rfl (op_not ha397 rfl rfl) ?_
      intro a399 ha399; clear ha397 a397
      refine wl_val ha399 rfl rfl rfl (op_pick_f ha399 rfl rfl rfl) ?_
      intro a400 ha400; clear ha399 a399
      refine wl_val ha400 rfl rfl rfl (op_move ha400 rfl rfl) ?_
      intro a401 ha401; clear ha400 a400
      rcases Bool.eq_false_or_eq_true (decide (((flT ((q129)) (q130 : Int) (q131 : Int) (q132 : Int))) = ((flT ((q129)) (q130 : Int) (q131 : Int) (q132 : Int))))) with c402 | c402
      ·
       rw [c402] at ha401
       refine wl_val ha401 rfl rfl rfl (op_move ha401 rfl rfl) ?_
       intro a403 ha403; clear ha401 a401
       refine wl_val ha403 rfl rfl rfl (op_move ha403 rfl rfl) ?_
       intro a404 ha404; clear ha403 a403
       refine wl_val ha404 rfl rfl rfl ((op_neq ha404 rfl rfl rfl).to (congrArg Value.bool decide_not)) ?_
       intro a405 ha405; clear ha404 a404
       refine wl_val ha405 rfl rfl rfl (op_pick_f ha405 rfl rfl rfl) ?_
       intro a406 ha406; clear ha405 a405
       refine wl_val ha406 rfl rfl rfl (op_move ha406 rfl rfl) ?_
       intro a407 ha407; clear ha406 a406
       by_cases c408 : (cdA ((q230)) ((q231)) (q232 : Int) (q233 : Int) (q234 : Int) : Int) = (cdA ((q230)) ((q231)) (q232 : Int) (q233 : Int) (q234 : Int) : Int)
       ·
        rw [decide_eq_true c408] at ha407
        refine wl_val ha407 rfl rfl rfl (op_loadS ha407 rfl Try.underlying28 ti28 rfl rfl hb296.cells) ?_
        intro a409 ha409; clear ha407 a407
        refine wl_val ha409 rfl rfl rfl (op_loadS ha409 rfl Try.underlying28 ti28 rfl rfl hb329.cells) ?_
        intro a410 ha410; clear ha409 a409
        refine wl_callR ha410 rfl rfl rfl (op_call ha410 rfl cb45 rfl) (c_laws_likeTable _ u275 u277 ((acT ((q230)) ((q231)) (q232 : Int) (q233 : Int) (q234 : Int))) u308 u310 ((acT ((q230)) ((q231)) (q232 : Int) (q233 : Int) (q234 : Int))) (ho276.rds pos_shStr) ((rds_shRowN (ho278.fin (by omega) (by omega) (by omega)) hN280).cast hE281) (ho309.rds pos_shStr) ((rds_shRowN (ho311.fin (by omega) (by omega) (by omega)) hN313).cast hE314)) ?_
        rintro v411 w412 he413 rfl a414 ha414; clear ha410 a410
        have hx415 := hx398.trans' he413
        have hzhx415 := he413.size
        replace ho47 := ho47.ext he413
        replace ho49 := ho49.ext he413
        replace hN51 := hN51.ext he413
        replace hb67 := hb67.ext he413
        replace ho77 := ho77.ext he413
        replace ho79 := ho79.ext he413
        replace hN81 := hN81.ext he413
        replace hb97 := hb97.ext he413
        replace ho170 := ho170.ext he413
        replace ho172 := ho172.ext he413
        replace hN174 := hN174.ext he413
        replace hb190 := hb190.ext he413
        replace ho202 := ho202.ext he413
        replace ho204 := ho204.ext he413
        replace hN206 := hN206.ext he413
        replace hb222 := hb222.ext he413
        replace ho237 := ho237.ext he413
        replace ho239 := ho239.ext he413
        replace hN241 := hN241.ext he413
        replace hb260 := hb260.ext he413
        replace ho276 := ho276.ext he413
        replace ho278 := ho278.ext he413
        replace hN280 := hN280.ext he413
        replace hb296 := hb296.ext he413
        replace ho309 := ho309.ext he413
        replace ho311 := ho311.ext he413
        replace hN313 := hN313.ext he413
        replace hb329 := hb329.ext he413
        replace ho338 := ho338.ext he413
        replace ho351 := ho351.ext he413
        refine wl_val ha414 rfl rfl rfl (op_not ha414 rfl rfl) ?_
        intro a416 ha416; clear ha414 a414
        refine wl_val ha416 rfl rfl rfl (op_pick_f ha416 rfl rfl rfl) ?_
        intro a417 ha417; clear ha416 a416
        refine wl_val ha417 rfl rfl rfl (op_move ha417 rfl rfl) ?_
        intro a418 ha418; clear ha417 a417
        rcases Bool.eq_false_or_eq_true (decide (((acT ((q230)) ((q231)) (q232 : Int) (q233 : Int) (q234 : Int))) = ((acT ((q230)) ((q231)) (q232 : Int) (q233 : Int) (q234 : Int))))) with c419 | c419
        ·
         rw [c419] at ha418
         refine wl_val ha418 rfl rfl rfl (op_move ha418 rfl rfl) ?_
         intro a420 ha420; clear ha418 a418
         refine wl_val ha420 rfl rfl rfl (op_move ha420 rfl rfl) ?_
         intro a421 ha421; clear ha420 a420
         refine wl_val ha421 rfl rfl rfl ((op_neq ha421 rfl rfl rfl).to (congrArg Value.bool decide_not)) ?_
         intro a422 ha422; clear ha421 a421
         refine wl_val ha422 rfl rfl rfl (op_pick_f ha422 rfl rfl rfl) ?_
         intro a423 ha423; clear ha422 a422
         refine wl_val ha423 rfl rfl rfl (op_move ha423 rfl rfl) ?_
         intro a424 ha424; clear ha423 a423
         by_cases c425 : (if tabB ((q14)) then 0 else 1 : Int) = (if tabB ((q14)) then 0 else 1 : Int)
         ·
          rw [decide_eq_true c425] at ha424
          refine wl_val ha424 rfl rfl rfl (op_move ha424 rfl rfl) ?_
          intro a426 ha426; clear ha424 a424
          refine wl_val ha426 rfl rfl rfl (op_move ha426 rfl rfl) ?_
          intro a427 ha427; clear ha426 a426
          refine wl_callR ha427 rfl rfl rfl (op_call ha427 rfl cb53 rfl) (c_laws_likeInts _ v337 ((wdT ((q14)))) v350 ((wdT ((q14)))) (ho338.rds pos_shI64) (ho351.rds pos_shI64)) ?_
          rintro v428 w429 he430 rfl a431 ha431; clear ha427 a427
          have hx432 := hx415.trans' he430
          have hzhx432 := he430.size
          replace ho47 := ho47.ext he430
          replace ho49 := ho49.ext he430
          replace hN51 := hN51.ext he430
          replace hb67 := hb67.ext he430
          replace ho77 := ho77.ext he430
          replace ho79 := ho79.ext he430
          replace hN81 := hN81.ext he430
          replace hb97 := hb97.ext he430
          replace ho170 := ho170.ext he430
          replace ho172 := ho172.ext he430
          replace hN174 := hN174.ext he430
          replace hb190 := hb190.ext he430
          replace ho202 := ho202.ext he430
          replace ho204 := ho204.ext he430
          replace hN206 := hN206.ext he430
          replace hb222 := hb222.ext he430
          replace ho237 := ho237.ext he430
          replace ho239 := ho239.ext he430
          replace hN241 := hN241.ext he430
          replace hb260 := hb260.ext he430
          replace ho276 := ho276.ext he430
          replace ho278 := ho278.ext he430
          replace hN280 := hN280.ext he430
          replace hb296 := hb296.ext he430
          replace ho309 := ho309.ext he430
          replace ho311 := ho311.ext he430
          replace hN313 := hN313.ext he430
          replace hb329 := hb329.ext he430
          replace ho338 := ho338.ext he430
          replace ho351 := ho351.ext he430
          refine wl_val ha431 rfl rfl rfl (op_not ha431 rfl rfl) ?_
          intro a433 ha433; clear ha431 a431
          refine wl_val ha433 rfl rfl rfl (op_pick_f ha433 rfl rfl rfl) ?_
          intro a434 ha434; clear ha433 a433
          refine wl_val ha434 rfl rfl rfl (op_move ha434 rfl rfl) ?_
          intro a435 ha435; clear ha434 a434
          rcases Bool.eq_false_or_eq_true (eqL ((wdT ((q14)))) ((wdT ((q14))))) with c436 | c436
          ·
           rw [c436] at ha435
           refine wl_val ha435 rfl rfl rfl (op_move ha435 rfl rfl) ?_
           intro a437 ha437; clear ha435 a435
           refine wl_val ha437 rfl rfl rfl (op_move ha437 rfl rfl) ?_
           intro a438 ha438; clear ha437 a437
           refine wl_val ha438 rfl rfl rfl ((op_neq ha438 rfl rfl rfl).to (congrArg Value.bool decide_not)) ?_
           intro a439 ha439; clear ha438 a438
           refine wl_val ha439 rfl rfl rfl (op_pick_f ha439 rfl rfl rfl) ?_
           intro a440 ha440; clear ha439 a439
           refine wpList_nil ?_
           refine then_n ?_
           rw [decide_eq_true c363] at ha440
           refine cond_f ha440 rfl ?_
           refine wp_skip ?_
           refine then_n ?_
           refine seq_mid (fun fr wl => Sl 320 fr [(4, .int .i64 (q15 : Int)), (5, .pointer (some (⟨w44.heap.size, 0, none⟩ : Addr))), (6, .int .i64 (cdT ((q14)) (q15 : Int) : Int)), (7, .pointer (some (⟨w74.heap.size, 0, none⟩ : Addr))), (9, .int .i64 (if cdT ((q14)) (q15 : Int) = 0 then sumI (rowC (q15 : Int)) ((q14)).2 else 0 : Int)), (14, .int .i64 (q130 : Int)), (15, .int .i64 (q131 : Int)), (16, .int .i64 (q132 : Int)), (17, .pointer (some (⟨w167.heap.size, 0, none⟩ : Addr))), (18, .int .i64 (cdR ((q129)) (q130 : Int) (q131 : Int) (q132 : Int) : Int)), (19, .pointer (some (⟨w199.heap.size, 0, none⟩ : Addr)))] ∧ Ext w0 wl ∧ Own shStr 9 w35.heap.size w35.heap.size w44.heap.size wl u46 (((srT ((q14)) (q15 : Int)).1)) ∧ Own shRowN 41 w35.heap.size w35.heap.size w44.heap.size wl u48 z50 ∧ Nst shI64 2 (fun x : List Int => x) w35.heap.size w44.heap.size wl z50 ∧ Box wl w44.heap.size 28 [u46, u48] ∧ Own shStr 9 w65.heap.size w65.heap.size w74.heap.size wl u76 (((srT ((q14)) (q15 : Int)).1)) ∧ Own shRowN 41 w65.heap.size w65.heap.size w74.heap.size wl u78 z80 ∧ Nst shI64 2 (fun x : List Int => x) w65.heap.size w74.heap.size wl z80 ∧ Box wl w74.heap.size 28 [u76, u78] ∧ Own shStr 9 w154.heap.size w154.heap.size w167.heap.size wl u169 (((flT ((q129)) (q130 : Int) (q131 : Int) (q132 : Int)).1)) ∧ Own shRowN 41 w154.heap.size w154.heap.size w167.heap.size wl u171 z173 ∧ Nst shI64 2 (fun x : List Int => x) w154.heap.size w167.heap.size wl z173 ∧ Box wl w167.heap.size 28 [u169, u171] ∧ Own shStr 9 w188.heap.size w188.heap.size w199.heap.size wl u201 (((flT ((q129)) (q130 : Int) (q131 : Int) (q132 : Int)).1)) ∧ Own shRowN 41 w188.heap.size w188.heap.size w199.heap.size wl u203 z205 ∧ Nst shI64 2 (fun x : List Int => x) w188.heap.size w199.heap.size wl z205 ∧ Box wl w199.heap.size 28 [u201, u203] ∧ w429.heap.size ≤ wl.heap.size) ?_ ?_
           ·
            refine wp_seq ?_
            clear ho309 ho311 hN313 hb329 ho338 ho351
            refine wp_region_lit ?_
            refine wl_val ha440 rfl rfl rfl (op_move ha440 rfl rfl) ?_
            intro a459 ha459; clear ha440 a440
            refine wl_val ha459 rfl rfl rfl (op_eql ha459 rfl rfl rfl) ?_
            intro a460 ha460; clear ha459 a459
            refine wpList_nil ?_
            refine then_n ?_
            by_cases c461 : (cdA ((q230)) ((q231)) (q232 : Int) (q233 : Int) (q234 : Int) : Int) = (0 : Int)
            ·
             rw [decide_eq_true c461] at ha460
             obtain ⟨ha1, ha2, ha3, ha4, ha5, ha6, ha7, ha8⟩ := ac_all c461
             have haz : q234 * (if cdT q230 q233 = 0 then sumI (rowC q233) q230.2 else 0) = q234 * sumI (rowC q233) q230.2 := by rw [if_pos ha3]
             refine cond_t ha460 rfl ?_
             refine wp_seq ?_
             refine wp_region_lit ?_
             refine wl_val ha460 rfl rfl rfl (op_fieldAddr (sz := 0) ha460 rfl Try.underlying28 rfl rfl ti22 rfl) ?_
             intro a462 ha462; clear ha460 a460
             refine wl_val ha462 rfl rfl rfl (op_loadF (off := 0) ha462 rfl Try.underlying22 rfl rfl hb260.cells rfl) ?_
             intro a463 ha463; clear ha462 a462
             refine wl_val ha463 rfl rfl rfl (op_len_sl ha463 rfl Try.underlying22 rfl (ho237.rds pos_shStr)) ?_
             intro a464 ha464; clear ha463 a463
             refine wl_val ha464 rfl rfl rfl (op_assign ha464 rfl rfl) ?_
             intro a465 ha465; clear ha464 a464
             refine wpList_nil ?_
             refine then_n ?_
             refine wp_seq ?_
             refine wp_region_lit ?_
             refine wl_val ha465 rfl rfl rfl (op_loadS ha465 rfl Try.underlying28 ti28 rfl rfl hb296.cells) ?_
             intro a466 ha466; clear ha465 a465
             refine wl_val ha466 rfl rfl rfl (op_move ha466 rfl rfl) ?_
             intro a467 ha467; clear ha466 a466
             refine wl_callR ha467 rfl rfl rfl (op_call ha467 rfl cb22 rfl) (c_impl_SumColumn _ u275 u277 ((acT ((q230)) ((q231)) (q232 : Int) (q233 : Int) (q234 : Int))) (((((q230).1)).length : Nat) : Int) (ho276.rds pos_shStr) ((rds_shRowN (ho278.fin (by omega) (by omega) (by omega)) hN280).cast hE281)) ?_
             rintro v468 w469 he470 rfl a471 ha471; clear ha467 a467
             have hx472 := hx432.trans' he470
             have hzhx472 := he470.size
             replace ho47 := ho47.ext he470
             replace ho49 := ho49.ext he470
             replace hN51 := hN51.ext he470
             replace hb67 := hb67.ext he470
             replace ho77 := ho77.ext he470
             replace ho79 := ho79.ext he470
             replace hN81 := hN81.ext he470
             replace hb97 := hb97.ext he470
             replace ho170 := ho170.ext he470
             replace ho172 := ho172.ext he470
             replace hN174 := hN174.ext he470
             replace hb190 := hb190.ext he470
             replace ho202 := ho202.ext he470
             replace ho204 := ho204.ext he470
             replace hN206 := hN206.ext he470
             replace hb222 := hb222.ext he470
             replace ho237 := ho237.ext he470
             replace ho239 := ho239.ext he470
             replace hN241 := hN241.ext he470
             replace hb260 := hb260.ext he470
             replace ho276 := ho276.ext he470
             replace ho278 := ho278.ext he470
             replace hN280 := hN280.ext he470
             replace hb296 := hb296.ext he470
             refine wl_val ha471 rfl rfl rfl (op_move ha471 rfl rfl) ?_
             intro a473 ha473; clear ha471 a471
             refine wl_val ha473 rfl rfl rfl (op_extract ha473 rfl rfl rfl) ?_
             intro a474 ha474; clear ha473 a473
             refine wl_val ha474 rfl rfl rfl (op_extract ha474 rfl rfl rfl) ?_
             intro a475 ha475; clear ha474 a474
             refine wl_val ha475 rfl rfl rfl (op_assign ha475 rfl rfl) ?_
             intro a476 ha476; clear ha475 a475
             refine wl_val ha476 rfl rfl rfl (op_assign ha476 rfl rfl) ?_
             intro a477 ha477; clear ha476 a476
             refine wpList_nil ?_
             refine then_n ?_
             refine wp_seq ?_
             refine wp_region_lit ?_
             refine wl_val ha477 rfl rfl rfl (op_loadS ha477 rfl Try.underlying28 ti28 rfl rfl hb260.cells) ?_
             intro a478 ha478; clear ha477 a477
             refine wl_val ha478 rfl rfl rfl (op_move ha478 rfl rfl) ?_
             intro a479 ha479; clear ha478 a478
             refine wl_callR ha479 rfl rfl rfl (op_call ha479 rfl cb22 rfl) (c_impl_SumColumn _ u236 u238 ((q230)) (q232 : Int) (ho237.rds pos_shStr) ((rds_shRowN (ho239.fin (by omega) (by omega) (by omega)) hN241).cast hE242)) ?_
             rintro v480 w481 he482 rfl a483 ha483; clear ha479 a479
             have hx484 := hx472.trans' he482
             have hzhx484 := he482.size
             replace ho47 := ho47.ext he482
             replace ho49 := ho49.ext he482
             replace hN51 := hN51.ext he482
             replace hb67 := hb67.ext he482
             replace ho77 := ho77.ext he482
             replace ho79 := ho79.ext he482
             replace hN81 := hN81.ext he482
             replace hb97 := hb97.ext he482
             replace ho170 := ho170.ext he482
             replace ho172 := ho172.ext he482
             replace hN174 := hN174.ext he482
             replace hb190 := hb190.ext he482
             replace ho202 := ho202.ext he482
             replace ho204 := ho204.ext he482
             replace hN206 := hN206.ext he482
             replace hb222 := hb222.ext he482
             replace ho237 := ho237.ext he482
             replace ho239 := ho239.ext he482
             replace hN241 := hN241.ext he482
             replace hb260 := hb260.ext he482
             replace ho276 := ho276.ext he482
             replace ho278 := ho278.ext he482
             replace hN280 := hN280.ext he482
             replace hb296 := hb296.ext he482
             refine wl_val ha483 rfl rfl rfl (op_move ha483 rfl rfl) ?_
             intro a485 ha485; clear ha483 a483
             refine wl_val ha485 rfl rfl rfl (op_extract ha485 rfl rfl rfl) ?_
             intro a486 ha486; clear ha485 a485
             refine wl_val ha486 rfl rfl rfl (op_extract ha486 rfl rfl rfl) ?_
             intro a487 ha487; clear ha486 a486
             refine wl_val ha487 rfl rfl rfl (op_assign ha487 rfl rfl) ?_
             intro a488 ha488; clear ha487 a487
             refine wl_val ha488 rfl rfl rfl (op_assign ha488 rfl rfl) ?_
             intro a489 ha489; clear ha488 a488
             refine wpList_nil ?_
             refine then_n ?_
             refine wp_seq ?_
             refine wp_region_lit ?_
             refine wl_val ha489 rfl rfl rfl (op_loadS ha489 rfl Try.underlying28 ti28 rfl rfl hb260.cells) ?_
             intro a490 ha490; clear ha489 a489
             refine wl_val ha490 rfl rfl rfl (op_move ha490 rfl rfl) ?_
             intro a491 ha491; clear ha490 a490
             refine wl_callR ha491 rfl rfl rfl (op_call ha491 rfl cb22 rfl) (c_impl_SumColumn _ u236 u238 ((q230)) (q233 : Int) (ho237.rds pos_shStr) ((rds_shRowN (ho239.fin (by omega) (by omega) (by omega)) hN241).cast hE242)) ?_
             rintro v492 w493 he494 rfl a495 ha495; clear ha491 a491
             have hx496 := hx484.trans' he494
             have hzhx496 := he494.size
             replace ho47 := ho47.ext he494
             replace ho49 := ho49.ext he494
             replace hN51 := hN51.ext he494
             replace hb67 := hb67.ext he494
             replace ho77 := ho77.ext he494
             replace ho79 := ho79.ext he494
             replace hN81 := hN81.ext he494
             replace hb97 := hb97.ext he494
             replace ho170 := ho170.ext he494
             replace ho172 := ho172.ext he494
             replace hN174 := hN174.ext he494
             replace hb190 := hb190.ext he494
             replace ho202 := ho202.ext he494
             replace ho204 := ho204.ext he494
             replace hN206 := hN206.ext he494
             replace hb222 := hb222.ext he494
             replace ho237 := ho237.ext he494
             replace ho239 := ho239.ext he494
             replace hN241 := hN241.ext he494
             replace hb260 := hb260.ext he494
             replace ho276 := ho276.ext he494
             replace ho278 := ho278.ext he494
             replace hN280 := hN280.ext he494
             replace hb296 := hb296.ext he494
             refine wl_val ha495 rfl rfl rfl (op_move ha495 rfl rfl) ?_
             intro a497 ha497; clear ha495 a495
             refine wl_val ha497 rfl rfl rfl (op_extract ha497 rfl rfl rfl) ?_
             intro a498 ha498; clear ha497 a497
             refine wl_val ha498 rfl rfl rfl (op_extract ha498 rfl rfl rfl) ?_
             intro a499 ha499; clear ha498 a498
             refine wl_val ha499 rfl rfl rfl (op_assign ha499 rfl rfl) ?_
             intro a500 ha500; clear ha499 a499
             refine wl_val ha500 rfl rfl rfl (op_assign ha500 rfl rfl) ?_
             intro a501 ha501; clear ha500 a500
             refine wpList_nil ?_
             refine then_n ?_
             refine wp_seq ?_
             clear ho237 ho239 hN241 hb260
             refine wp_region_lit ?_
             refine wl_val ha501 rfl rfl rfl (op_move ha501 rfl rfl) ?_
             intro a502 ha502; clear ha501 a501
             refine wl_val ha502 rfl rfl rfl ((op_neq ha502 rfl rfl rfl).to (congrArg Value.bool decide_not)) ?_
             intro a503 ha503; clear ha502 a502
             refine wl_val ha503 rfl rfl rfl (op_move ha503 rfl rfl) ?_
             intro a504 ha504; clear ha503 a503
             by_cases c505 : (cdT ((acT ((q230)) ((q231)) (q232 : Int) (q233 : Int) (q234 : Int))) (((((q230).1)).length : Nat) : Int) : Int) = (0 : Int)
             ·
              rw [decide_eq_true c505] at ha504
              obtain ⟨ht1, ht2, ht3, ht4, ht5, ht6, ht7, ht8, ht9⟩ := sr_all c505
              refine wl_val ha504 rfl rfl rfl (op_move ha504 rfl rfl) ?_
              intro a506 ha506; clear ha504 a504
              refine wl_val ha506 rfl rfl rfl ((op_neq ha506 rfl rfl rfl).to (congrArg Value.bool decide_not)) ?_
              intro a507 ha507; clear ha506 a506
              refine wl_val ha507 rfl rfl rfl (op_pick_f ha507 rfl rfl rfl) ?_
              intro a508 ha508; clear ha507 a507
              refine wl_val ha508 rfl rfl rfl (op_move ha508 rfl rfl) ?_
              intro a509 ha509; clear ha508 a508
              by_cases c510 : (cdT ((q230)) (q232 : Int) : Int) = (0 : Int)
              ·
               rw [decide_eq_true c510] at ha509
               obtain ⟨ht1, ht2, ht3, ht4, ht5, ht6, ht7, ht8, ht9⟩ := sr_all c510
               refine wl_val ha509 rfl rfl rfl (op_move ha509 rfl rfl) ?_
               intro a511 ha511; clear ha509 a509
               refine wl_val ha511 rfl rfl rfl ((op_neq ha511 rfl rfl rfl).to (congrArg Value.bool decide_not)) ?_
               intro a512 ha512; clear ha511 a511
               refine wl_val ha512 rfl rfl rfl (op_pick_f ha512 rfl rfl rfl) ?_
               intro a513 ha513; clear ha512 a512
               refine wl_val ha513 rfl rfl rfl (op_move ha513 rfl rfl) ?_
               intro a514 ha514; clear ha513 a513
               by_cases c515 : (cdT ((q230)) (q233 : Int) : Int) = (0 : Int)
               ·
                rw [decide_eq_true c515] at ha514
                obtain ⟨ht1, ht2, ht3, ht4, ht5, ht6, ht7, ht8, ht9⟩ := sr_all c515
                refine wl_val ha514 rfl rfl rfl (op_move ha514 rfl rfl) ?_
                intro a516 ha516; clear ha514 a514
                refine wl_val ha516 rfl rfl rfl (op_move ha516 rfl rfl) ?_
                intro a517 ha517; clear ha516 a516
                refine wl_val ha517 rfl rfl rfl (op_move ha517 rfl rfl) ?_
                intro a518 ha518; clear ha517 a517
                refine wl_val ha518 rfl rfl rfl (op_move ha518 rfl rfl) ?_
                intro a519 ha519; clear ha518 a518
                refine wl_val ha519 rfl rfl rfl ((op_mul ha519 rfl rfl rfl).int (IntWalk.i64_in _ (by omega))) ?_
                intro a520 ha520; clear ha519 a519
                refine wl_val ha520 rfl rfl rfl ((op_add ha520 rfl rfl rfl).int (IntWalk.i64_in _ (by omega))) ?_
                intro a521 ha521; clear ha520 a520
                refine wl_val ha521 rfl rfl rfl ((op_neq ha521 rfl rfl rfl).to (congrArg Value.bool decide_not)) ?_
                intro a522 ha522; clear ha521 a521
                refine wl_val ha522 rfl rfl rfl (op_pick_f ha522 rfl rfl rfl) ?_
                intro a523 ha523; clear ha522 a522
                refine wl_val ha523 rfl rfl rfl (op_move ha523 rfl rfl) ?_
                intro a524 ha524; clear ha523 a523
                by_cases c525 : (if cdT ((acT ((q230)) ((q231)) (q232 : Int) (q233 : Int) (q234 : Int))) (((((q230).1)).length : Nat) : Int) = 0 then sumI (rowC (((((q230).1)).length : Nat) : Int)) ((acT ((q230)) ((q231)) (q232 : Int) (q233 : Int) (q234 : Int))).2 else 0 : Int) = ((if cdT ((q230)) (q232 : Int) = 0 then sumI (rowC (q232 : Int)) ((q230)).2 else 0 : Int) + ((q234 : Int) * (if cdT ((q230)) (q233 : Int) = 0 then sumI (rowC (q233 : Int)) ((q230)).2 else 0 : Int)))
                ·
                 rw [decide_eq_true c525] at ha524
                 refine wl_val ha524 rfl rfl rfl (op_fieldAddr (sz := 0) ha524 rfl Try.underlying28 rfl rfl ti22 rfl) ?_
                 intro a526 ha526; clear ha524 a524
                 refine wl_val ha526 rfl rfl rfl (op_loadF (off := 0) ha526 rfl Try.underlying22 rfl rfl hb296.cells rfl) ?_
                 intro a527 ha527; clear ha526 a526
                 refine wl_val ha527 rfl rfl rfl (op_move ha527 rfl rfl) ?_
                 intro a528 ha528; clear ha527 a527
                 obtain ⟨x529, hx529⟩ := get_ex (xs := ((acT ((q230)) ((q231)) (q232 : Int) (q233 : Int) (q234 : Int)).1)) (j := (((q230).1)).length) (by omega)
                 obtain ⟨p530, c531, hi532, hc533, hr534, hs535⟩ := Rds.at_ (ho276.rds pos_shStr) hx529
                 obtain ⟨rfl, b536⟩ := inv_shStr hr534
                 obtain ⟨_, _⟩ : _ ∧ _ := hs535
                 refine wl_val ha528 rfl rfl rfl (op_indexAddr ha528 rfl Try.underlying22 ti9 rfl rfl (by omega) hi532) ?_
                 intro a537 ha537; clear ha528 a528
                 refine wl_val ha537 rfl rfl rfl (op_loadH ha537 rfl Try.underlying9 rfl rfl hc533 rfl) ?_
                 intro a538 ha538; clear ha537 a537
                 refine wl_val ha538 rfl rfl rfl (op_move ha538 rfl rfl) ?_
                 intro a539 ha539; clear ha538 a538
                 refine wl_val ha539 rfl rfl rfl ((op_sneq ha539 rfl rfl rfl).to (congrArg Value.bool decide_not)) ?_
                 intro a540 ha540; clear ha539 a539
                 refine wl_val ha540 rfl rfl rfl (op_pick_f ha540 rfl rfl rfl) ?_
                 intro a541 ha541; clear ha540 a540
                 refine wpList_nil ?_
                 refine then_n ?_
                 by_cases c542 : x529 = (q231)
                 ·
                  rw [decide_eq_true c542] at ha541
                  refine cond_f ha541 rfl ?_
                  refine wp_skip ?_
                  refine then_n ?_
                  refine ⟨(Sl.cons_ ha541 rfl rfl (Sl.cons_ ha541 rfl rfl (Sl.cons_ ha541 rfl rfl (Sl.cons_ ha541 rfl rfl (Sl.cons_ ha541 rfl rfl (Sl.cons_ ha541 rfl rfl (Sl.cons_ ha541 rfl rfl (Sl.cons_ ha541 rfl rfl (Sl.cons_ ha541 rfl rfl (Sl.cons_ ha541 rfl rfl (Sl.cons_ ha541 rfl rfl (Sl.nil_ ha541)))))))))))), hx496, ho47, ho49, hN51, hb67, ho77, ho79, hN81, hb97, ho170, ho172, hN174, hb190, ho202, ho204, hN206, hb222, (by omega)⟩
                 ·
                  rw [decide_eq_false c542] at ha541
                  refine cond_t ha541 rfl ?_
                  refine wp_seq ?_
                  clear ho47 ho49 hN51 hb67 ho77 ho79 hN81 hb97 ho170 ho172 hN174 hb190 ho202 ho204 hN206 hb222 ho276 ho278 hN280 hb296 hc533
                  refine wp_region_lit ?_
                  refine wl_val ha541 rfl rfl rfl (op_assign ha541 rfl rfl) ?_
                  intro a543 ha543; clear ha541 a541
                  refine wpList_nil ?_
                  refine then_n ?_
                  refine wp_ret ?_
                  refine ret1 ha543 rfl rfl ?_
                  clear ha543 a543
                  exact ret_mk hx496 (congrArg Value.bool (by first | rfl | (exact absurd rfl c542) | (simp at c419; done) | (simp at c402; done) | (simp at c374; done) | (simp at c8; done) | (exact absurd (by have h9 := hx529; rw [ha5] at h9; simp at h9; first | exact h9.symm | exact h9) c542) | omega | omega))
                ·
                 rw [decide_eq_false c525] at ha524
                 refine wl_skip ha524 rfl rfl rfl ?_
                 intro a544 ha544; clear ha524 a524
                 refine wl_skip ha544 rfl rfl rfl ?_
                 intro a545 ha545; clear ha544 a544
                 refine wl_skip ha545 rfl rfl rfl ?_
                 intro a546 ha546; clear ha545 a545
                 refine wl_skip ha546 rfl rfl rfl ?_
                 intro a547 ha547; clear ha546 a546
                 refine wl_skip ha547 rfl rfl rfl ?_
                 intro a548 ha548; clear ha547 a547
                 refine wl_skip ha548 rfl rfl rfl ?_
                 intro a549 ha549; clear ha548 a548
                 refine wl_skip ha549 rfl rfl rfl ?_
                 intro a550 ha550; clear ha549 a549
                 refine wl_val ha550 rfl rfl rfl (op_pick_t ha550 rfl rfl rfl) ?_
                 intro a551 ha551; clear ha550 a550
                 refine wpList_nil ?_
                 refine then_n ?_
                 refine cond_t ha551 rfl ?_
                 refine wp_seq ?_
                 clear ho47 ho49 hN51 hb67 ho77 ho79 hN81 hb97 ho170 ho172 hN174 hb190 ho202 ho204 hN206 hb222 ho276 ho278 hN280 hb296
                 refine wp_region_lit ?_
                 refine wl_val ha551 rfl rfl rfl (op_assign ha551 rfl rfl) ?_
                 intro a552 ha552; clear ha551 a551
                 refine wpList_nil ?_
                 refine then_n ?_
                 refine wp_ret ?_
                 refine ret1 ha552 rfl rfl ?_
                 clear ha552 a552
                 exact ret_mk hx496 (congrArg Value.bool (by first | rfl | (exact absurd rfl c525) | (simp at c419; done) | (simp at c402; done) | (simp at c374; done) | (simp at c8; done) | (exact absurd (by rw [if_pos ha1, if_pos ha2, if_pos ha3]; exact ha4) c525) | omega | omega))
               ·
                rw [decide_eq_false c515] at ha514
                refine wl_skip ha514 rfl rfl rfl ?_
                intro a553 ha553; clear ha514 a514
                refine wl_skip ha553 rfl rfl rfl ?_
                intro a554 ha554; clear ha553 a553
                refine wl_skip ha554 rfl rfl rfl ?_
                intro a555 ha555; clear ha554 a554
                refine wl_skip ha555 rfl rfl rfl ?_
                intro a556 ha556; clear ha555 a555
                refine wl_skip ha556 rfl rfl rfl ?_
                intro a557 ha557; clear ha556 a556
                refine wl_skip ha557 rfl rfl rfl ?_
                intro a558 ha558; clear ha557 a557
                refine wl_skip ha558 rfl rfl rfl ?_
                intro a559 ha559; clear ha558 a558
                refine wl_val ha559 rfl rfl rfl (op_pick_t ha559 rfl rfl rfl) ?_
                intro a560 ha560; clear ha559 a559
                refine wl_val ha560 rfl rfl rfl (op_move ha560 rfl rfl) ?_
                intro a561 ha561; clear ha560 a560
                refine wl_skip ha561 rfl rfl rfl ?_
                intro a562 ha562; clear ha561 a561
                refine wl_skip ha562 rfl rfl rfl ?_
                intro a563 ha563; clear ha562 a562
                refine wl_skip ha563 rfl rfl rfl ?_
                intro a564 ha564; clear ha563 a563
                refine wl_skip ha564 rfl rfl rfl ?_
                intro a565 ha565; clear ha564 a564
                refine wl_skip ha565 rfl rfl rfl ?_
                intro a566 ha566; clear ha565 a565
                refine wl_skip ha566 rfl rfl rfl ?_
                intro a567 ha567; clear ha566 a566
                refine wl_skip ha567 rfl rfl rfl ?_
                intro a568 ha568; clear ha567 a567
                refine wl_val ha568 rfl rfl rfl (op_pick_t ha568 rfl rfl rfl) ?_
                intro a569 ha569; clear ha568 a568
                refine wpList_nil ?_
                refine then_n ?_
                refine cond_t ha569 rfl ?_
                refine wp_seq ?_
                clear ho47 ho49 hN51 hb67 ho77 ho79 hN81 hb97 ho170 ho172 hN174 hb190 ho202 ho204 hN206 hb222 ho276 ho278 hN280 hb296
                refine wp_region_lit ?_
                refine wl_val ha569 rfl rfl rfl (op_assign ha569 rfl rfl) ?_
                intro a570 ha570; clear ha569 a569
                refine wpList_nil ?_
                refine then_n ?_
                refine wp_ret ?_
                refine ret1 ha570 rfl rfl ?_
                clear ha570 a570
                exact ret_mk hx496 (congrArg Value.bool (by first | rfl | (exact absurd rfl c515) | (simp at c419; done) | (simp at c402; done) | (simp at c374; done) | (simp at c8; done) | omega | omega))
              ·
               rw [decide_eq_false c510] at ha509
               refine wl_skip ha509 rfl rfl rfl ?_
               intro a571 ha571; clear ha509 a509
               refine wl_skip ha571 rfl rfl rfl ?_
               intro a572 ha572; clear ha571 a571
               refine wl_val ha572 rfl rfl rfl (op_pick_t ha572 rfl rfl rfl) ?_
               intro a573 ha573; clear ha572 a572
               refine wl_val ha573 rfl rfl rfl (op_move ha573 rfl rfl) ?_
               intro a574 ha574; clear ha573 a573
               refine wl_skip ha574 rfl rfl rfl ?_
               intro a575 ha575; clear ha574 a574
               refine wl_skip ha575 rfl rfl rfl ?_
               intro a576 ha576; clear ha575 a575
               refine wl_skip ha576 rfl rfl rfl ?_
               intro a577 ha577; clear ha576 a576
               refine wl_skip ha577 rfl rfl rfl ?_
               intro a578 ha578; clear ha577 a577
               refine wl_skip ha578 rfl rfl rfl ?_
               intro a579 ha579; clear ha578 a578
               refine wl_skip ha579 rfl rfl rfl ?_
               intro a580 ha580; clear ha579 a579
               refine wl_skip ha580 rfl rfl rfl ?_
               intro a581 ha581; clear ha580 a580
               refine wl_val ha581 rfl rfl rfl (op_pick_t ha581 rfl rfl rfl) ?_
               intro a582 ha582; clear ha581 a581
               refine wl_val ha582 rfl rfl rfl (op_move ha582 rfl rfl) ?_
               intro a583 ha583; clear ha582 a582
               refine wl_skip ha583 rfl rfl rfl ?_
               intro a584 ha584; clear ha583 a583
               refine wl_skip ha584 rfl rfl rfl ?_
               intro a585 ha585; clear ha584 a584
               refine wl_skip ha585 rfl rfl rfl ?_
               intro a586 ha586; clear ha585 a585
               refine wl_skip ha586 rfl rfl rfl ?_
               intro a587 ha587; clear ha586 a586
               refine wl_skip ha587 rfl rfl rfl ?_
               intro a588 ha588; clear ha587 a587
               refine wl_skip ha588 rfl rfl rfl ?_
               intro a589 ha589; clear ha588 a588
               refine wl_skip ha589 rfl rfl rfl ?_
               intro a590 ha590; clear ha589 a589
               refine wl_val ha590 rfl rfl rfl (op_pick_t ha590 rfl rfl rfl) ?_
               intro a591 ha591; clear ha590 a590
               refine wpList_nil ?_
               refine then_n ?_
               refine cond_t ha591 rfl ?_
               refine wp_seq ?_
               clear ho47 ho49 hN51 hb67 ho77 ho79 hN81 hb97 ho170 ho172 hN174 hb190 ho202 ho204 hN206 hb222 ho276 ho278 hN280 hb296
               refine wp_region_lit ?_
               refine wl_val ha591 rfl rfl rfl (op_assign ha591 rfl rfl) ?_
               intro a592 ha592; clear ha591 a591
               refine wpList_nil ?_
               refine then_n ?_
               refine wp_ret ?_
               refine ret1 ha592 rfl rfl ?_
               clear ha592 a592
               exact ret_mk hx496 (congrArg Value.bool (by first | rfl | (exact absurd rfl c510) | (simp at c419; done) | (simp at c402; done) | (simp at c374; done) | (simp at c8; done) | omega | omega))
             ·
              rw [decide_eq_false c505] at ha504
              refine wl_skip ha504 rfl rfl rfl ?_
              intro a593 ha593; clear ha504 a504
              refine wl_skip ha593 rfl rfl rfl ?_
              intro a594 ha594; clear ha593 a593
              refine wl_val ha594 rfl rfl rfl (op_pick_t ha594 rfl rfl rfl) ?_
              intro a595 ha595; clear ha594 a594
              refine wl_val ha595 rfl rfl rfl (op_move ha595 rfl rfl) ?_
              intro a596 ha596; clear ha595 a595
              refine wl_skip ha596 rfl rfl rfl ?_
              intro a597 ha597; clear ha596 a596
              refine wl_skip ha597 rfl rfl rfl ?_
              intro a598 ha598; clear ha597 a597
              refine wl_val ha598 rfl rfl rfl (op_pick_t ha598 rfl rfl rfl) ?_
              intro a599 ha599; clear ha598 a598
              refine wl_val ha599 rfl rfl rfl (op_move ha599 rfl rfl) ?_
              intro a600 ha600; clear ha599 a599
              refine wl_skip ha600 rfl rfl rfl ?_
              intro a601 ha601; clear ha600 a600
              refine wl_skip ha601 rfl rfl rfl ?_
              intro a602 ha602; clear ha601 a601
              refine wl_skip ha602 rfl rfl rfl ?_
              intro a603 ha603; clear ha602 a602
              refine wl_skip ha603 rfl rfl rfl ?_
              intro a604 ha604; clear ha603 a603
              refine wl_skip ha604 rfl rfl rfl ?_
              intro a605 ha605; clear ha604 a604
              refine wl_skip ha605 rfl rfl rfl ?_
              intro a606 ha606; clear ha605 a605
              refine wl_skip ha606 rfl rfl rfl ?_
              intro a607 ha607; clear ha606 a606
              refine wl_val ha607 rfl rfl rfl (op_pick_t ha607 rfl rfl rfl) ?_
              intro a608 ha608; clear ha607 a607
              refine wl_val ha608 rfl rfl rfl (op_move ha608 rfl rfl) ?_
              intro a609 ha609; clear ha608 a608
              refine wl_skip ha609 rfl rfl rfl ?_
              intro a610 ha610; clear ha609 a609
              refine wl_skip ha610 rfl rfl rfl ?_
              intro a611 ha611; clear ha610 a610
              refine wl_skip ha611 rfl rfl rfl ?_
              intro a612 ha612; clear ha611 a611
              refine wl_skip ha612 rfl rfl rfl ?_
              intro a613 ha613; clear ha612 a612
              refine wl_skip ha613 rfl rfl rfl ?_
              intro a614 ha614; clear ha613 a613
              refine wl_skip ha614 rfl rfl rfl ?_
              intro a615 ha615; clear ha614 a614
              refine wl_skip ha615 rfl rfl rfl ?_
              intro a616 ha616; clear ha615 a615
              refine wl_val ha616 rfl rfl rfl (op_pick_t ha616 rfl rfl rfl) ?_
              intro a617 ha617; clear ha616 a616
              refine wpList_nil ?_
              refine then_n ?_
              refine cond_t ha617 rfl ?_
              refine wp_seq ?_
              clear ho47 ho49 hN51 hb67 ho77 ho79 hN81 hb97 ho170 ho172 hN174 hb190 ho202 ho204 hN206 hb222 ho276 ho278 hN280 hb296
              refine wp_region_lit ?_
              refine wl_val ha617 rfl rfl rfl (op_assign ha617 rfl rfl) ?_
              intro a618 ha618; clear ha617 a617
              refine wpList_nil ?_
              refine then_n ?_
              refine wp_ret ?_
              refine ret1 ha618 rfl rfl ?_
              clear ha618 a618
              exact ret_mk hx496 (congrArg Value.bool (by first | rfl | (exact absurd rfl c505) | (simp at c419; done) | (simp at c402; done) | (simp at c374; done) | (simp at c8; done) | omega | omega))
            ·
             rw [decide_eq_false c461] at ha460
             refine cond_f ha460 rfl ?_
             refine wp_skip ?_
             refine then_n ?_
             refine ⟨(Sl.cons_ ha460 rfl rfl (Sl.cons_ ha460 rfl rfl (Sl.cons_ ha460 rfl rfl (Sl.cons_ ha460 rfl rfl (Sl.cons_ ha460 rfl rfl (Sl.cons_ ha460 rfl rfl (Sl.cons_ ha460 rfl rfl (Sl.cons_ ha460 rfl rfl (Sl.cons_ ha460 rfl rfl (Sl.cons_ ha460 rfl rfl (Sl.cons_ ha460 rfl rfl (Sl.nil_ ha460)))))))))))), hx432, ho47, ho49, hN51, hb67, ho77, ho79, hN81, hb97, ho170, ho172, hN174, hb190, ho202, ho204, hN206, hb222, (by omega)⟩
           ·
            clear ha440 a440
            rintro a619 w441 ⟨ha619, hx442, hf444, hf445, hf446, hf443, hf448, hf449, hf450, hf447, hf452, hf453, hf454, hf451, hf456, hf457, hf458, hf455, hzl620⟩
            have hzhx442 := hx442.size
            refine seq_mid (fun fr wl => Sl 320 fr [(4, .int .i64 (q15 : Int)), (5, .pointer (some (⟨w44.heap.size, 0, none⟩ : Addr))), (6, .int .i64 (cdT ((q14)) (q15 : Int) : Int)), (7, .pointer (some (⟨w74.heap.size, 0, none⟩ : Addr))), (9, .int .i64 (if cdT ((q14)) (q15 : Int) = 0 then sumI (rowC (q15 : Int)) ((q14)).2 else 0 : Int))] ∧ Ext w0 wl ∧ Own shStr 9 w35.heap.size w35.heap.size w44.heap.size wl u46 (((srT ((q14)) (q15 : Int)).1)) ∧ Own shRowN 41 w35.heap.size w35.heap.size w44.heap.size wl u48 z50 ∧ Nst shI64 2 (fun x : List Int => x) w35.heap.size w44.heap.size wl z50 ∧ Box wl w44.heap.size 28 [u46, u48] ∧ Own shStr 9 w65.heap.size w65.heap.size w74.heap.size wl u76 (((srT ((q14)) (q15 : Int)).1)) ∧ Own shRowN 41 w65.heap.size w65.heap.size w74.heap.size wl u78 z80 ∧ Nst shI64 2 (fun x : List Int => x) w65.heap.size w74.heap.size wl z80 ∧ Box wl w74.heap.size 28 [u76, u78] ∧ w441.heap.size ≤ wl.heap.size) ?_ ?_
            ·
             refine wp_seq ?_
             refine wp_region_lit ?_
             refine wl_val ha619 rfl rfl rfl (op_assign ha619 rfl rfl) ?_
             intro a631 ha631; clear ha619 a619
             refine wpList_nil ?_
             refine then_n ?_
             refine wp_block ?_
             refine loop_inv (X := Nat) (fun (i : Nat) fr wl => Sl 320 fr [(4, .int .i64 (q15 : Int)), (5, .pointer (some (⟨w44.heap.size, 0, none⟩ : Addr))), (6, .int .i64 (cdT ((q14)) (q15 : Int) : Int)), (7, .pointer (some (⟨w74.heap.size, 0, none⟩ : Addr))), (9, .int .i64 (if cdT ((q14)) (q15 : Int) = 0 then sumI (rowC (q15 : Int)) ((q14)).2 else 0 : Int)), (14, .int .i64 (q130 : Int)), (15, .int .i64 (q131 : Int)), (16, .int .i64 (q132 : Int)), (17, .pointer (some (⟨w167.heap.size, 0, none⟩ : Addr))), (18, .int .i64 (cdR ((q129)) (q130 : Int) (q131 : Int) (q132 : Int) : Int)), (19, .pointer (some (⟨w199.heap.size, 0, none⟩ : Addr))), (41, .int .i64 ((i : Nat) : Int))] ∧ Ext w0 wl ∧ Own shStr 9 w35.heap.size w35.heap.size w44.heap.size wl u46 (((srT ((q14)) (q15 : Int)).1)) ∧ Own shRowN 41 w35.heap.size w35.heap.size w44.heap.size wl u48 z50 ∧ Nst shI64 2 (fun x : List Int => x) w35.heap.size w44.heap.size wl z50 ∧ Box wl w44.heap.size 28 [u46, u48] ∧ Own shStr 9 w65.heap.size w65.heap.size w74.heap.size wl u76 (((srT ((q14)) (q15 : Int)).1)) ∧ Own shRowN 41 w65.heap.size w65.heap.size w74.heap.size wl u78 z80 ∧ Nst shI64 2 (fun x : List Int => x) w65.heap.size w74.heap.size wl z80 ∧ Box wl w74.heap.size 28 [u76, u78] ∧ Own shStr 9 w154.heap.size w154.heap.size w167.heap.size wl u169 (((flT ((q129)) (q130 : Int) (q131 : Int) (q132 : Int)).1)) ∧ Own shRowN 41 w154.heap.size w154.heap.size w167.heap.size wl u171 z173 ∧ Nst shI64 2 (fun x : List Int => x) w154.heap.size w167.heap.size wl z173 ∧ Box wl w167.heap.size 28 [u169, u171] ∧ Own shStr 9 w188.heap.size w188.heap.size w199.heap.size wl u201 (((flT ((q129)) (q130 : Int) (q131 : Int) (q132 : Int)).1)) ∧ Own shRowN 41 w188.heap.size w188.heap.size w199.heap.size wl u203 z205 ∧ Nst shI64 2 (fun x : List Int => x) w188.heap.size w199.heap.size wl z205 ∧ Box wl w199.heap.size 28 [u201, u203] ∧ w441.heap.size ≤ wl.heap.size ∧ (i ≤ z173.length) ∧ (z173.length = z205.length)) (fun (i : Nat) => z205.length - i) (0) ?_ ?_
             ·
              exact ⟨(Sl.cons_ ha631 rfl rfl (Sl.cons_ ha631 rfl rfl (Sl.cons_ ha631 rfl rfl (Sl.cons_ ha631 rfl rfl (Sl.cons_ ha631 rfl rfl (Sl.cons_ ha631 rfl rfl (Sl.cons_ ha631 rfl rfl (Sl.cons_ ha631 rfl rfl (Sl.cons_ ha631 rfl rfl (Sl.cons_ ha631 rfl rfl (Sl.cons_ ha631 rfl rfl (Sl.cons_ ha631 rfl (int_eq (by omega)) (Sl.nil_ ha631))))))))))))), hx442, hf444, hf445, hf446, hf443, hf448, hf449, hf450, hf447, hf452, hf453, hf454, hf451, hf456, hf457, hf458, hf455, (by omega), (by omega), (by have h8 := absLen hE175; have h9 := absLen hE207; omega)⟩
             ·
              clear ha631 a631
              rintro i a650 w632 ⟨ha650, hx633, hf635, hf636, hf637, hf634, hf639, hf640, hf641, hf638, hf643, hf644, hf645, hf642, hf647, hf648, hf649, hf646, hzl651, hi, hL⟩
              have hzhx633 := hx633.size
              refine wp_seq ?_
              refine wp_seq ?_
              refine wp_region_lit ?_
              refine wl_val ha650 rfl rfl rfl (op_move ha650 rfl rfl) ?_
              intro a652 ha652; clear ha650 a650
              refine wl_val ha652 rfl rfl rfl (op_eql ha652 rfl rfl rfl) ?_
              intro a653 ha653; clear ha652 a652
              refine wl_val ha653 rfl rfl rfl (op_move ha653 rfl rfl) ?_
              intro a654 ha654; clear ha653 a653
              by_cases c655 : (cdR ((q129)) (q130 : Int) (q131 : Int) (q132 : Int) : Int) = (0 : Int)
              ·
               rw [decide_eq_true c655] at ha654
               obtain ⟨hf1, hf2, hf3, hf4, hf5⟩ := fl_all c655
               refine wl_val ha654 rfl rfl rfl (op_move ha654 rfl rfl) ?_
               intro a656 ha656; clear ha654 a654
               refine wl_val ha656 rfl rfl rfl (op_fieldAddr (sz := 0) ha656 rfl Try.underlying28 rfl rfl ti23 rfl) ?_
               intro a657 ha657; clear ha656 a656
               refine wl_val ha657 rfl rfl rfl (op_loadF (off := 1) ha657 rfl Try.underlying23 rfl rfl hf642.cells rfl) ?_
               intro a658 ha658; clear ha657 a657
               refine wl_val ha658 rfl rfl rfl (op_len_sl ha658 rfl Try.underlying23 rfl (hf644.rds pos_shRowN)) ?_
               intro a659 ha659; clear ha658 a658
               refine wl_val ha659 rfl rfl rfl (op_lss ha659 rfl rfl rfl) ?_
               intro a660 ha660; clear ha659 a659
               refine wl_val ha660 rfl rfl rfl (op_pick_t ha660 rfl rfl rfl) ?_
               intro a661 ha661; clear ha660 a660
               refine wpList_nil ?_
               refine then_n ?_
               by_cases c662 : ((i : Nat) : Int) < ((z173.length : Nat) : Int)
               ·
                rw [decide_eq_true c662] at ha661
                refine cond_t ha661 rfl ?_
                refine wp_skip ?_
                refine then_n ?_
                refine wp_seq ?_
                refine wp_block ?_
                refine wp_seq ?_
                refine wp_region_lit ?_
                refine wl_val ha661 rfl rfl rfl (op_fieldAddr (sz := 0) ha661 rfl Try.underlying28 rfl rfl ti23 rfl) ?_
                intro a663 ha663; clear ha661 a661
                refine wl_val ha663 rfl rfl rfl (op_loadF (off := 1) ha663 rfl Try.underlying23 rfl rfl hf646.cells rfl) ?_
                intro a664 ha664; clear ha663 a663
                refine wl_val ha664 rfl rfl rfl (op_move ha664 rfl rfl) ?_
                intro a665 ha665; clear ha664 a664
                obtain ⟨x666, hx666⟩ := get_ex (xs := z205) (j := i) (by omega)
                obtain ⟨p667, c668, hi669, hc670, hr671, hs672⟩ := Rds.at_ (hf648.rds pos_shRowN) hx666
                obtain ⟨rfl, b673⟩ := inv_shRowN hr671
                have hn674 : Own shI64 2 w188.heap.size w188.heap.size w199.heap.size w632 x666.2 x666.1 := hf649.get hx666
                obtain ⟨_, _⟩ : _ ∧ _ := hs672
                have hgmx666 : x666.1 ∈ ((flT ((q129)) (q130 : Int) (q131 : Int) (q132 : Int)).2) := (by rw [← hE207]; exact List.mem_map_of_mem (List.mem_of_getElem? hx666))
                have hgzx666 := hf1 _ hgmx666
                refine wl_val ha665 rfl rfl rfl (op_indexAddr ha665 rfl Try.underlying23 ti41 rfl rfl (by omega) hi669) ?_
                intro a675 ha675; clear ha665 a665
                refine wl_val ha675 rfl rfl rfl (op_loadH ha675 rfl Try.underlying41 rfl rfl hc670 rfl) ?_
                intro a676 ha676; clear ha675 a675
                refine wl_val ha676 rfl rfl rfl (op_move ha676 rfl rfl) ?_
                intro a677 ha677; clear ha676 a676
                obtain ⟨x678, hx678⟩ := get_ex (xs := x666.1) (j := ((q130 : Int)).toNat) (by omega)
                obtain ⟨p679, c680, hi681, hc682, hr683, hs684⟩ := Rds.at_ (hn674.rds pos_shI64) hx678
                obtain ⟨rfl, b685⟩ := inv_shI64 hr683
                obtain ⟨_, _⟩ : _ ∧ _ := hs684
                have hrwx678 := rowC_eq (by first | exact hx678 | (simpa using hx678))
                refine wl_val ha677 rfl rfl rfl (op_indexAddr ha677 rfl Try.underlying41 ti2 rfl rfl (by omega) hi681) ?_
                intro a686 ha686; clear ha677 a677
                refine wl_val ha686 rfl rfl rfl (op_loadH ha686 rfl Try.underlying2 rfl rfl hc682 rfl) ?_
                intro a687 ha687; clear ha686 a686
                refine wl_val ha687 rfl rfl rfl (op_move ha687 rfl rfl) ?_
                intro a688 ha688; clear ha687 a687
                refine wl_val ha688 rfl rfl rfl (op_lss ha688 rfl rfl rfl) ?_
                intro a689 ha689; clear ha688 a688
                refine wl_val ha689 rfl rfl rfl (op_move ha689 rfl rfl) ?_
                intro a690 ha690; clear ha689 a689
                by_cases c691 : x678 < (q131 : Int)
                ·
                 rw [decide_eq_true c691] at ha690
                 refine wl_skip ha690 rfl rfl rfl ?_
                 intro a692 ha692; clear ha690 a690
                 refine wl_skip ha692 rfl rfl rfl ?_
                 intro a693 ha693; clear ha692 a692
                 refine wl_skip ha693 rfl rfl rfl ?_
                 intro a694 ha694; clear ha693 a693
                 refine wl_skip ha694 rfl rfl rfl ?_
                 intro a695 ha695; clear ha694 a694
                 refine wl_skip ha695 rfl rfl rfl ?_
                 intro a696 ha696; clear ha695 a695
                 refine wl_skip ha696 rfl rfl rfl ?_
                 intro a697 ha697; clear ha696 a696
                 refine wl_skip ha697 rfl rfl rfl ?_
                 intro a698 ha698; clear ha697 a697
                 refine wl_skip ha698 rfl rfl rfl ?_
                 intro a699 ha699; clear ha698 a698
                 refine wl_skip ha699 rfl rfl rfl ?_
                 intro a700 ha700; clear ha699 a699
                 refine wl_skip ha700 rfl rfl rfl ?_
                 intro a701 ha701; clear ha700 a700
                 refine wl_val ha701 rfl rfl rfl (op_pick_t ha701 rfl rfl rfl) ?_
                 intro a702 ha702; clear ha701 a701
                 refine wpList_nil ?_
                 refine then_n ?_
                 refine cond_t ha702 rfl ?_
                 refine wp_seq ?_
                 clear hf635 hf636 hf637 hf634 hf639 hf640 hf641 hf638 hf643 hf644 hf645 hf642 hf647 hf648 hf649 hf646 hn674 hc670 hc682
                 refine wp_region_lit ?_
                 refine wl_val ha702 rfl rfl rfl (op_assign ha702 rfl rfl) ?_
                 intro a703 ha703; clear ha702 a702
                 refine wpList_nil ?_
                 refine then_n ?_
                 refine wp_ret ?_
                 refine block_r ?_
                 refine then_r ?_
                 refine then_r ?_
                 refine block_r ?_
                 refine ret1 ha703 rfl rfl ?_
                 clear ha703 a703
                 exact ret_mk hx633 (congrArg Value.bool (by first | rfl | (simp at c419; done) | (simp at c402; done) | (simp at c374; done) | (simp at c8; done) | omega | omega))
                ·
                 rw [decide_eq_false c691] at ha690
                 refine wl_val ha690 rfl rfl rfl (op_fieldAddr (sz := 0) ha690 rfl Try.underlying28 rfl rfl ti23 rfl) ?_
                 intro a704 ha704; clear ha690 a690
                 refine wl_val ha704 rfl rfl rfl (op_loadF (off := 1) ha704 rfl Try.underlying23 rfl rfl hf642.cells rfl) ?_
                 intro a705 ha705; clear ha704 a704
                 refine wl_val ha705 rfl rfl rfl (op_move ha705 rfl rfl) ?_
                 intro a706 ha706; clear ha705 a705
                 obtain ⟨x707, hx707⟩ := get_ex (xs := z173) (j := i) (by omega)
                 obtain ⟨p708, c709, hi710, hc711, hr712, hs713⟩ := Rds.at_ (hf644.rds pos_shRowN) hx707
                 obtain ⟨rfl, b714⟩ := inv_shRowN hr712
                 have hn715 : Own shI64 2 w154.heap.size w154.heap.size w167.heap.size w632 x707.2 x707.1 := hf645.get hx707
                 obtain ⟨_, _⟩ : _ ∧ _ := hs713
                 have hgmx707 : x707.1 ∈ ((flT ((q129)) (q130 : Int) (q131 : Int) (q132 : Int)).2) := (by rw [← hE175]; exact List.mem_map_of_mem (List.mem_of_getElem? hx707))
                 have hgzx707 := hf1 _ hgmx707
                 refine wl_val ha706 rfl rfl rfl (op_indexAddr ha706 rfl Try.underlying23 ti41 rfl rfl (by omega) hi710) ?_
                 intro a716 ha716; clear ha706 a706
                 refine wl_val ha716 rfl rfl rfl (op_loadH ha716 rfl Try.underlying41 rfl rfl hc711 rfl) ?_
                 intro a717 ha717; clear ha716 a716
                 refine wl_val ha717 rfl rfl rfl (op_move ha717 rfl rfl) ?_
                 intro a718 ha718; clear ha717 a717
                 obtain ⟨x719, hx719⟩ := get_ex (xs := x707.1) (j := ((q130 : Int)).toNat) (by omega)
                 obtain ⟨p720, c721, hi722, hc723, hr724, hs725⟩ := Rds.at_ (hn715.rds pos_shI64) hx719
                 obtain ⟨rfl, b726⟩ := inv_shI64 hr724
                 obtain ⟨_, _⟩ : _ ∧ _ := hs725
                 have hrwx719 := rowC_eq (by first | exact hx719 | (simpa using hx719))
                 refine wl_val ha718 rfl rfl rfl (op_indexAddr ha718 rfl Try.underlying41 ti2 rfl rfl (by omega) hi722) ?_
                 intro a727 ha727; clear ha718 a718
                 refine wl_val ha727 rfl rfl rfl (op_loadH ha727 rfl Try.underlying2 rfl rfl hc723 rfl) ?_
                 intro a728 ha728; clear ha727 a727
                 refine wl_val ha728 rfl rfl rfl (op_move ha728 rfl rfl) ?_
                 intro a729 ha729; clear ha728 a728
                 refine wl_val ha729 rfl rfl rfl (op_gtr ha729 rfl rfl rfl) ?_
                 intro a730 ha730; clear ha729 a729
                 refine wl_val ha730 rfl rfl rfl (op_pick_f ha730 rfl rfl rfl) ?_
                 intro a731 ha731; clear ha730 a730
                 refine wpList_nil ?_
                 refine then_n ?_
                 by_cases c732 : (q132 : Int) < x719
                 ·
                  rw [decide_eq_true c732] at ha731
                  refine cond_t ha731 rfl ?_
                  refine wp_seq ?_
                  clear hf635 hf636 hf637 hf634 hf639 hf640 hf641 hf638 hf643 hf644 hf645 hf642 hf647 hf648 hf649 hf646 hn674 hc670 hc682 hn715 hc711 hc723
                  refine wp_region_lit ?_
                  refine wl_val ha731 rfl rfl rfl (op_assign ha731 rfl rfl) ?_
                  intro a733 ha733; clear ha731 a731
                  refine wpList_nil ?_
                  refine then_n ?_
                  refine wp_ret ?_
                  refine block_r ?_
                  refine then_r ?_
                  refine then_r ?_
                  refine block_r ?_
                  refine ret1 ha733 rfl rfl ?_
                  clear ha733 a733
                  exact ret_mk hx633 (congrArg Value.bool (by first | rfl | (simp at c419; done) | (simp at c402; done) | (simp at c374; done) | (simp at c8; done) | omega | omega))
                 ·
                  rw [decide_eq_false c732] at ha731
                  refine cond_f ha731 rfl ?_
                  refine wp_skip ?_
                  refine block_n ?_
                  refine then_n ?_
                  clear hn674 hc670 hc682 hn715 hc711 hc723
                  refine wp_region_lit ?_
                  refine wl_val ha731 rfl rfl rfl (op_move ha731 rfl rfl) ?_
                  intro a734 ha734; clear ha731 a731
                  refine wl_val ha734 rfl rfl rfl ((op_add ha734 rfl rfl rfl).int (IntWalk.i64_in _ (by omega))) ?_
                  intro a735 ha735; clear ha734 a734
                  refine wl_val ha735 rfl rfl rfl (op_assign ha735 rfl rfl) ?_
                  intro a736 ha736; clear ha735 a735
                  refine wpList_nil ?_
                  refine round_end (x := i) ((i + 1)) ?_ ?_
                  ·
                   refine ⟨(Sl.cons_ ha736 rfl rfl (Sl.cons_ ha736 rfl rfl (Sl.cons_ ha736 rfl rfl (Sl.cons_ ha736 rfl rfl (Sl.cons_ ha736 rfl rfl (Sl.cons_ ha736 rfl rfl (Sl.cons_ ha736 rfl rfl (Sl.cons_ ha736 rfl rfl (Sl.cons_ ha736 rfl rfl (Sl.cons_ ha736 rfl rfl (Sl.cons_ ha736 rfl rfl (Sl.cons_ ha736 rfl (int_eq (by omega)) (Sl.nil_ ha736))))))))))))), hx633, hf635, hf636, hf637, hf634, hf639, hf640, hf641, hf638, hf643, hf644, hf645, hf642, hf647, hf648, hf649, hf646, (by omega), (by omega), (by exact hL)⟩
                  ·show (z205.length - ((i + 1)) : Nat) < z205.length - i; omega
               ·
                rw [decide_eq_false c662] at ha661
                refine cond_f ha661 rfl ?_
                refine wp_exit ?_
                refine then_e ?_
                refine then_e ?_
                refine block_hit ?_
                refine then_n ?_
                refine ⟨(Sl.cons_ ha661 rfl rfl (Sl.cons_ ha661 rfl rfl (Sl.cons_ ha661 rfl rfl (Sl.cons_ ha661 rfl rfl (Sl.cons_ ha661 rfl rfl (Sl.nil_ ha661)))))), hx633, hf635, hf636, hf637, hf634, hf639, hf640, hf641, hf638, (by omega)⟩
              ·
               rw [decide_eq_false c655] at ha654
               refine wl_skip ha654 rfl rfl rfl ?_
               intro a737 ha737; clear ha654 a654
               refine wl_skip ha737 rfl rfl rfl ?_
               intro a738 ha738; clear ha737 a737
               refine wl_skip ha738 rfl rfl rfl ?_
               intro a739 ha739; clear ha738 a738
               refine wl_skip ha739 rfl rfl rfl ?_
               intro a740 ha740; clear ha739 a739
               refine wl_skip ha740 rfl rfl rfl ?_
               intro a741 ha741; clear ha740 a740
               refine wl_val ha741 rfl rfl rfl (op_pick_f ha741 rfl rfl rfl) ?_
               intro a742 ha742; clear ha741 a741
               refine wpList_nil ?_
               refine then_n ?_
               refine cond_f ha742 rfl ?_
               refine wp_exit ?_
               refine then_e ?_
               refine then_e ?_
               refine block_hit ?_
               refine then_n ?_
               refine ⟨(Sl.cons_ ha742 rfl rfl (Sl.cons_ ha742 rfl rfl (Sl.cons_ ha742 rfl rfl (Sl.cons_ ha742 rfl rfl (Sl.cons_ ha742 rfl rfl (Sl.nil_ ha742)))))), hx633, hf635, hf636, hf637, hf634, hf639, hf640, hf641, hf638, (by omega)⟩
            ·
             clear ha619 a619
             rintro a743 w621 ⟨ha743, hx622, hf624, hf625, hf626, hf623, hf628, hf629, hf630, hf627, hzl744⟩
             have hzhx622 := hx622.size
             refine wp_seq ?_
             refine wp_seq ?_
             refine wp_region_lit ?_
             refine wl_val ha743 rfl rfl rfl (op_move ha743 rfl rfl) ?_
             intro a745 ha745; clear ha743 a743
             refine wl_val ha745 rfl rfl rfl ((op_neq ha745 rfl rfl rfl).to (congrArg Value.bool decide_not)) ?_
             intro a746 ha746; clear ha745 a745
             refine wpList_nil ?_
             refine then_n ?_
             by_cases c747 : (cdT ((q14)) (q15 : Int) : Int) = (0 : Int)
             ·
              rw [decide_eq_true c747] at ha746
              obtain ⟨ht1, ht2, ht3, ht4, ht5, ht6, ht7, ht8, ht9⟩ := sr_all c747
              refine cond_f ha746 rfl ?_
              refine wp_skip ?_
              refine then_n ?_
              refine wp_seq ?_
              refine wp_region_lit ?_
              refine wl_val ha746 rfl rfl rfl (op_loadS ha746 rfl Try.underlying28 ti28 rfl rfl hf623.cells) ?_
              intro a748 ha748; clear ha746 a746
              refine wl_val ha748 rfl rfl rfl (op_move ha748 rfl rfl) ?_
              intro a749 ha749; clear ha748 a748
              refine wl_callR ha749 rfl rfl rfl (op_call ha749 rfl cb22 rfl) (c_impl_SumColumn _ u46 u48 ((srT ((q14)) (q15 : Int))) (q15 : Int) (hf624.rds pos_shStr) ((rds_shRowN (hf625.fin (by omega) (by omega) (by omega)) hf626).cast hE52)) ?_
              rintro v750 w751 he752 rfl a753 ha753; clear ha749 a749
              have hx754 := hx622.trans' he752
              have hzhx754 := he752.size
              replace hf624 := hf624.ext he752
              replace hf625 := hf625.ext he752
              replace hf626 := hf626.ext he752
              replace hf623 := hf623.ext he752
              replace hf628 := hf628.ext he752
              replace hf629 := hf629.ext he752
              replace hf630 := hf630.ext he752
              replace hf627 := hf627.ext he752
              refine wl_val ha753 rfl rfl rfl (op_move ha753 rfl rfl) ?_
              intro a755 ha755; clear ha753 a753
              refine wl_val ha755 rfl rfl rfl (op_extract ha755 rfl rfl rfl) ?_
              intro a756 ha756; clear ha755 a755
              refine wl_val ha756 rfl rfl rfl (op_extract ha756 rfl rfl rfl) ?_
              intro a757 ha757; clear ha756 a756
              refine wl_val ha757 rfl rfl rfl (op_assign ha757 rfl rfl) ?_
              intro a758 ha758; clear ha757 a757
              refine wl_val ha758 rfl rfl rfl (op_assign ha758 rfl rfl) ?_
              intro a759 ha759; clear ha758 a758
              refine wpList_nil ?_
              refine then_n ?_
              refine wp_seq ?_
              refine wp_seq ?_
              refine wp_region_lit ?_
              refine wl_val ha759 rfl rfl rfl (op_assign ha759 rfl rfl) ?_
              intro a760 ha760; clear ha759 a759
              refine wpList_nil ?_
              refine then_n ?_
              refine wp_block ?_
              refine loop_inv (X := Nat) (fun (i : Nat) fr wl => Sl 320 fr [(4, .int .i64 (q15 : Int)), (5, .pointer (some (⟨w44.heap.size, 0, none⟩ : Addr))), (7, .pointer (some (⟨w74.heap.size, 0, none⟩ : Addr))), (9, .int .i64 (if cdT ((q14)) (q15 : Int) = 0 then sumI (rowC (q15 : Int)) ((q14)).2 else 0 : Int)), (42, .int .i64 (if cdT ((srT ((q14)) (q15 : Int))) (q15 : Int) = 0 then sumI (rowC (q15 : Int)) ((srT ((q14)) (q15 : Int))).2 else 0 : Int)), (43, .int .i64 (cdT ((srT ((q14)) (q15 : Int))) (q15 : Int) : Int)), (44, .int .i64 ((i : Nat) : Int))] ∧ Ext w0 wl ∧ Own shStr 9 w35.heap.size w35.heap.size w44.heap.size wl u46 (((srT ((q14)) (q15 : Int)).1)) ∧ Own shRowN 41 w35.heap.size w35.heap.size w44.heap.size wl u48 z50 ∧ Nst shI64 2 (fun x : List Int => x) w35.heap.size w44.heap.size wl z50 ∧ Box wl w44.heap.size 28 [u46, u48] ∧ Own shStr 9 w65.heap.size w65.heap.size w74.heap.size wl u76 (((srT ((q14)) (q15 : Int)).1)) ∧ Own shRowN 41 w65.heap.size w65.heap.size w74.heap.size wl u78 z80 ∧ Nst shI64 2 (fun x : List Int => x) w65.heap.size w74.heap.size wl z80 ∧ Box wl w74.heap.size 28 [u76, u78] ∧ w751.heap.size ≤ wl.heap.size ∧ (1 ≤ i) ∧ (i ≤ z50.length + 1) ∧ (z50.length = z80.length)) (fun (i : Nat) => z80.length + 1 - i) (1) ?_ ?_
              ·
               exact ⟨(Sl.cons_ ha760 rfl rfl (Sl.cons_ ha760 rfl rfl (Sl.cons_ ha760 rfl rfl (Sl.cons_ ha760 rfl rfl (Sl.cons_ ha760 rfl rfl (Sl.cons_ ha760 rfl rfl (Sl.cons_ ha760 rfl (int_eq (by omega)) (Sl.nil_ ha760)))))))), hx754, hf624, hf625, hf626, hf623, hf628, hf629, hf630, hf627, (by omega), (by omega), (by omega), (by have h8 := absLen hE52; have h9 := absLen hE82; omega)⟩
              ·
               clear ha760 a760
               rintro i a771 w761 ⟨ha771, hx762, hf764, hf765, hf766, hf763, hf768, hf769, hf770, hf767, hzl772, hi1, hi, hL⟩
               have hzhx762 := hx762.size
               refine wp_seq ?_
               refine wp_seq ?_
               refine wp_region_lit ?_
               refine wl_val ha771 rfl rfl rfl (op_move ha771 rfl rfl) ?_
               intro a773 ha773; clear ha771 a771
               refine wl_val ha773 rfl rfl rfl (op_fieldAddr (sz := 0) ha773 rfl Try.underlying28 rfl rfl ti23 rfl) ?_
               intro a774 ha774; clear ha773 a773
               refine wl_val ha774 rfl rfl rfl (op_loadF (off := 1) ha774 rfl Try.underlying23 rfl rfl hf763.cells rfl) ?_
               intro a775 ha775; clear ha774 a774
               refine wl_val ha775 rfl rfl rfl (op_len_sl ha775 rfl Try.underlying23 rfl (hf765.rds pos_shRowN)) ?_
               intro a776 ha776; clear ha775 a775
               refine wl_val ha776 rfl rfl rfl (op_lss ha776 rfl rfl rfl) ?_
               intro a777 ha777; clear ha776 a776
               refine wpList_nil ?_
               refine then_n ?_
               by_cases c778 : ((i : Nat) : Int) < ((z50.length : Nat) : Int)
               ·
                rw [decide_eq_true c778] at ha777
                refine cond_t ha777 rfl ?_
                refine wp_skip ?_
                refine then_n ?_
                refine wp_seq ?_
                refine wp_block ?_
                refine wp_seq ?_
                refine dr_enter Ext follows_mixed ?_
                intro w779 he780
                have hx781 := hx762.trans' he780
                have hzhx781 := he780.size
                replace hf764 := hf764.ext he780
                replace hf765 := hf765.ext he780
                replace hf766 := hf766.ext he780
                replace hf763 := hf763.ext he780
                replace hf768 := hf768.ext he780
                replace hf769 := hf769.ext he780
                replace hf770 := hf770.ext he780
                replace hf767 := hf767.ext he780
                have hs782 : Ext w779 w779 := Ext.rfl' _
                refine dr_val (i := 0) ha777 rfl (by kernel_rfl) (by kernel_rfl) (by kernel_rfl) rfl rfl rfl hs782 (fun w' hw' => op_fieldAddr (sz := 0) ha777 rfl Try.underlying28 rfl rfl ti23 rfl) ?_
                intro a783 ha783; clear ha777 a777
                refine dr_val (i := 1) ha783 rfl (by kernel_rfl) (by kernel_rfl) (by kernel_rfl) rfl rfl rfl hs782 (fun w' hw' => op_loadF (off := 1) ha783 rfl Try.underlying23 rfl rfl (hf763.ext hw').cells rfl) ?_
                intro a784 ha784; clear ha783 a783
                refine dr_val (i := 2) ha784 rfl (by kernel_rfl) (by kernel_rfl) (by kernel_rfl) rfl rfl rfl hs782 (fun w' hw' => op_move ha784 rfl rfl) ?_
                intro a785 ha785; clear ha784 a784
                obtain ⟨x786, hx786⟩ := get_ex (xs := z50) (j := i) (by omega)
                obtain ⟨p787, c788, hi789, hc790, hr791, hs792⟩ := Rds.at_ (hf765.rds pos_shRowN) hx786
                obtain ⟨rfl, b793⟩ := inv_shRowN hr791
                have hn794 : Own shI64 2 w35.heap.size w35.heap.size w44.heap.size w779 x786.2 x786.1 := hf766.get hx786
                obtain ⟨_, _⟩ : _ ∧ _ := hs792
                have hgmx786 : x786.1 ∈ ((srT ((q14)) (q15 : Int)).2) := (by rw [← hE52]; exact List.mem_map_of_mem (List.mem_of_getElem? hx786))
                have hgzx786 := ht5 _ hgmx786
                refine dr_val (i := 3) ha785 rfl (by kernel_rfl) (by kernel_rfl) (by kernel_rfl) rfl rfl rfl hs782 (fun w' hw' => op_indexAddr ha785 rfl Try.underlying23 ti41 rfl rfl (by omega) hi789) ?_
                intro a795 ha795; clear ha785 a785
                refine dr_val (i := 4) ha795 rfl (by kernel_rfl) (by kernel_rfl) (by kernel_rfl) rfl rfl rfl hs782 (fun w' hw' => op_loadH ha795 rfl Try.underlying41 rfl rfl (hc790.ext hw') rfl) ?_
                intro a796 ha796; clear ha795 a795
                refine dr_val (i := 5) ha796 rfl (by kernel_rfl) (by kernel_rfl) (by kernel_rfl) rfl rfl rfl hs782 (fun w' hw' => op_move ha796 rfl rfl) ?_
                intro a797 ha797; clear ha796 a796
                obtain ⟨x798, hx798⟩ := get_ex (xs := x786.1) (j := ((q15 : Int)).toNat) (by omega)
                obtain ⟨p799, c800, hi801, hc802, hr803, hs804⟩ := Rds.at_ (hn794.rds pos_shI64) hx798
                obtain ⟨rfl, b805⟩ := inv_shI64 hr803
                obtain ⟨_, _⟩ : _ ∧ _ := hs804
                have hrwx798 := rowC_eq (by first | exact hx798 | (simpa using hx798))
                refine dr_val (i := 6) ha797 rfl (by kernel_rfl) (by kernel_rfl) (by kernel_rfl) rfl rfl rfl hs782 (fun w' hw' => op_indexAddr ha797 rfl Try.underlying41 ti2 rfl rfl (by omega) hi801) ?_
                intro a806 ha806; clear ha797 a797
                refine dr_val (i := 7) ha806 rfl (by kernel_rfl) (by kernel_rfl) (by kernel_rfl) rfl rfl rfl hs782 (fun w' hw' => op_loadH ha806 rfl Try.underlying2 rfl rfl (hc802.ext hw') rfl) ?_
                intro a807 ha807; clear ha806 a806
                refine dr_val (i := 8) ha807 rfl (by kernel_rfl) (by kernel_rfl) (by kernel_rfl) rfl rfl rfl hs782 (fun w' hw' => op_fieldAddr (sz := 0) ha807 rfl Try.underlying28 rfl rfl ti23 rfl) ?_
                intro a808 ha808; clear ha807 a807
                refine dr_val (i := 9) ha808 rfl (by kernel_rfl) (by kernel_rfl) (by kernel_rfl) rfl rfl rfl hs782 (fun w' hw' => op_loadF (off := 1) ha808 rfl Try.underlying23 rfl rfl (hf767.ext hw').cells rfl) ?_
                intro a809 ha809; clear ha808 a808
                refine dr_val (i := 10) ha809 rfl (by kernel_rfl) (by kernel_rfl) (by kernel_rfl) rfl rfl rfl hs782 (fun w' hw' => op_move ha809 rfl rfl) ?_
                intro a810 ha810; clear ha809 a809
                refine dr_val (i := 11) ha810 rfl (by kernel_rfl) (by kernel_rfl) (by kernel_rfl) rfl rfl rfl hs782 (fun w' hw' => (op_sub ha810 rfl rfl rfl).int (IntWalk.i64_in _ (by omega))) ?_
                intro a811 ha811; clear ha810 a810
                obtain ⟨x812, hx812⟩ := get_ex (xs := z80) (j := (i - 1)) (by omega)
                obtain ⟨p813, c814, hi815, hc816, hr817, hs818⟩ := Rds.at_ (hf769.rds pos_shRowN) hx812
                obtain ⟨rfl, b819⟩ := inv_shRowN hr817
                have hn820 : Own shI64 2 w65.heap.size w65.heap.size w74.heap.size w779 x812.2 x812.1 := hf770.get hx812
                obtain ⟨_, _⟩ : _ ∧ _ := hs818
                have hgmx812 : x812.1 ∈ ((srT ((q14)) (q15 : Int)).2) := (by rw [← hE82]; exact List.mem_map_of_mem (List.mem_of_getElem? hx812))
                have hgzx812 := ht5 _ hgmx812
                refine dr_val (i := 12) ha811 rfl (by kernel_rfl) (by kernel_rfl) (by kernel_rfl) rfl rfl rfl hs782 (fun w' hw' => op_indexAddr ha811 rfl Try.underlying23 ti41 rfl rfl (by omega) hi815) ?_
                intro a821 ha821; clear ha811 a811
                refine dr_val (i := 13) ha821 rfl (by kernel_rfl) (by kernel_rfl) (by kernel_rfl) rfl rfl rfl hs782 (fun w' hw' => op_loadH ha821 rfl Try.underlying41 rfl rfl (hc816.ext hw') rfl) ?_
                intro a822 ha822; clear ha821 a821
                refine dr_val (i := 14) ha822 rfl (by kernel_rfl) (by kernel_rfl) (by kernel_rfl) rfl rfl rfl hs782 (fun w' hw' => op_move ha822 rfl rfl) ?_
                intro a823 ha823; clear ha822 a822
                obtain ⟨x824, hx824⟩ := get_ex (xs := x812.1) (j := ((q15 : Int)).toNat) (by omega)
                obtain ⟨p825, c826, hi827, hc828, hr829, hs830⟩ := Rds.at_ (hn820.rds pos_shI64) hx824
                obtain ⟨rfl, b831⟩ := inv_shI64 hr829
                obtain ⟨_, _⟩ : _ ∧ _ := hs830
                have hrwx824 := rowC_eq (by first | exact hx824 | (simpa using hx824))
                refine dr_val (i := 15) ha823 rfl (by kernel_rfl) (by kernel_rfl) (by kernel_rfl) rfl rfl rfl hs782 (fun w' hw' => op_indexAddr ha823 rfl Try.underlying41 ti2 rfl rfl (by omega) hi827) ?_
                intro a832 ha832; clear ha823 a823
                refine dr_val (i := 16) ha832 rfl (by kernel_rfl) (by kernel_rfl) (by kernel_rfl) rfl rfl rfl hs782 (fun w' hw' => op_loadH ha832 rfl Try.underlying2 rfl rfl (hc828.ext hw') rfl) ?_
                intro a833 ha833; clear ha832 a832
                refine dr_val (i := 17) ha833 rfl (by kernel_rfl) (by kernel_rfl) (by kernel_rfl) rfl rfl rfl hs782 (fun w' hw' => op_lss ha833 rfl rfl rfl) ?_
                intro a834 ha834; clear ha833 a833
                refine dr_end (by kernel_rfl) ?_
                replace hf764 := hf764.ext hs782
                replace hf765 := hf765.ext hs782
                replace hf766 := hf766.ext hs782
                replace hf763 := hf763.ext hs782
                replace hf768 := hf768.ext hs782
                replace hf769 := hf769.ext hs782
                replace hf770 := hf770.ext hs782
                replace hf767 := hf767.ext hs782
                replace hn794 := hn794.ext hs782
                replace hc790 := hc790.ext hs782
                replace hc802 := hc802.ext hs782
                replace hn820 := hn820.ext hs782
                replace hc816 := hc816.ext hs782
                replace hc828 := hc828.ext hs782
                refine then_n ?_
                by_cases c835 : x798 < x824
                ·
                 rw [decide_eq_true c835] at ha834
                 refine cond_t ha834 rfl ?_
                 refine wp_seq ?_
                 clear hf764 hf765 hf766 hf763 hf768 hf769 hf770 hf767 hn794 hc790 hc802 hn820 hc816 hc828
                 refine wp_region_lit ?_
                 refine wl_val ha834 rfl rfl rfl (op_assign ha834 rfl rfl) ?_
                 intro a836 ha836; clear ha834 a834
                 refine wpList_nil ?_
                 refine then_n ?_
                 refine wp_ret ?_
                 refine block_r ?_
                 refine then_r ?_
                 refine then_r ?_
                 refine block_r ?_
                 refine then_r ?_
                 refine ret1 ha836 rfl rfl ?_
                 clear ha836 a836
                 exact ret_mk hx781 (congrArg Value.bool (by first | rfl | (simp at c419; done) | (simp at c402; done) | (simp at c374; done) | (simp at c8; done) | (exfalso; have h8 := upK_at ht4 (show i - 1 ≤ i by omega) (abs_get hE82 hx812) (abs_get hE52 hx786); omega) | omega | omega))
                ·
                 rw [decide_eq_false c835] at ha834
                 refine cond_f ha834 rfl ?_
                 refine wp_skip ?_
                 refine block_n ?_
                 refine then_n ?_
                 clear hn794 hc790 hc802 hn820 hc816 hc828
                 refine wp_region_lit ?_
                 refine wl_val ha834 rfl rfl rfl (op_move ha834 rfl rfl) ?_
                 intro a837 ha837; clear ha834 a834
                 refine wl_val ha837 rfl rfl rfl ((op_add ha837 rfl rfl rfl).int (IntWalk.i64_in _ (by omega))) ?_
                 intro a838 ha838; clear ha837 a837
                 refine wl_val ha838 rfl rfl rfl (op_assign ha838 rfl rfl) ?_
                 intro a839 ha839; clear ha838 a838
                 refine wpList_nil ?_
                 refine round_end (x := i) ((i + 1)) ?_ ?_
                 ·
                  refine ⟨(Sl.cons_ ha839 rfl rfl (Sl.cons_ ha839 rfl rfl (Sl.cons_ ha839 rfl rfl (Sl.cons_ ha839 rfl rfl (Sl.cons_ ha839 rfl rfl (Sl.cons_ ha839 rfl rfl (Sl.cons_ ha839 rfl (int_eq (by omega)) (Sl.nil_ ha839)))))))), hx781, hf764, hf765, hf766, hf763, hf768, hf769, hf770, hf767, (by omega), (by omega), (by omega), (by exact hL)⟩
                 ·show (z80.length + 1 - ((i + 1)) : Nat) < z80.length + 1 - i; omega
               ·
                rw [decide_eq_false c778] at ha777
                refine cond_f ha777 rfl ?_
                refine wp_exit ?_
                refine then_e ?_
                refine then_e ?_
                refine block_hit ?_
                refine then_n ?_
                refine wp_seq ?_
                clear hf768 hf769 hf770 hf767
                refine wp_region_lit ?_
                refine wl_val ha777 rfl rfl rfl (op_move ha777 rfl rfl) ?_
                intro a840 ha840; clear ha777 a777
                refine wl_val ha840 rfl rfl rfl (op_eql ha840 rfl rfl rfl) ?_
                intro a841 ha841; clear ha840 a840
                refine wl_val ha841 rfl rfl rfl (op_move ha841 rfl rfl) ?_
                intro a842 ha842; clear ha841 a841
                by_cases c843 : (cdT ((srT ((q14)) (q15 : Int))) (q15 : Int) : Int) = (0 : Int)
                ·
                 rw [decide_eq_true c843] at ha842
                 obtain ⟨ht1, ht2, ht3, ht4, ht5, ht6, ht7, ht8, ht9⟩ := sr_all c843
                 refine wl_val ha842 rfl rfl rfl (op_move ha842 rfl rfl) ?_
                 intro a844 ha844; clear ha842 a842
                 refine wl_val ha844 rfl rfl rfl (op_move ha844 rfl rfl) ?_
                 intro a845 ha845; clear ha844 a844
                 refine wl_val ha845 rfl rfl rfl (op_eql ha845 rfl rfl rfl) ?_
                 intro a846 ha846; clear ha845 a845
                 refine wl_val ha846 rfl rfl rfl (op_pick_t ha846 rfl rfl rfl) ?_
                 intro a847 ha847; clear ha846 a846
                 refine wl_val ha847 rfl rfl rfl (op_move ha847 rfl rfl) ?_
                 intro a848 ha848; clear ha847 a847
                 by_cases c849 : (if cdT ((srT ((q14)) (q15 : Int))) (q15 : Int) = 0 then sumI (rowC (q15 : Int)) ((srT ((q14)) (q15 : Int))).2 else 0 : Int) = (if cdT ((q14)) (q15 : Int) = 0 then sumI (rowC (q15 : Int)) ((q14)).2 else 0 : Int)
                 ·
                  rw [decide_eq_true c849] at ha848
                  refine wl_val ha848 rfl rfl rfl (op_loadS ha848 rfl Try.underlying28 ti28 rfl rfl hf763.cells) ?_
                  intro a850 ha850; clear ha848 a848
                  refine wl_callR ha850 rfl rfl rfl (op_call ha850 rfl cb19 rfl) (c_impl_IsTable _ u46 u48 ((srT ((q14)) (q15 : Int))) (hf764.rds pos_shStr) ((rds_shRowN (hf765.fin (by omega) (by omega) (by omega)) hf766).cast hE52)) ?_
                  rintro v851 w852 he853 rfl a854 ha854; clear ha850 a850
                  have hx855 := hx762.trans' he853
                  have hzhx855 := he853.size
                  replace hf764 := hf764.ext he853
                  replace hf765 := hf765.ext he853
                  replace hf766 := hf766.ext he853
                  replace hf763 := hf763.ext he853
                  refine wl_val ha854 rfl rfl rfl (op_pick_t ha854 rfl rfl rfl) ?_
                  intro a856 ha856; clear ha854 a854
                  refine wl_val ha856 rfl rfl rfl (op_assign ha856 rfl rfl) ?_
                  intro a857 ha857; clear ha856 a856
                  refine wpList_nil ?_
                  refine then_n ?_
                  refine wp_ret ?_
                  refine ret1 ha857 rfl rfl ?_
                  clear ha857 a857
                  exact ret_mk hx855 (congrArg Value.bool (by first | rfl | (simp at c419; done) | (simp at c402; done) | (simp at c374; done) | (simp at c8; done) | omega | omega))
                 ·
                  rw [decide_eq_false c849] at ha848
                  refine wl_skip ha848 rfl rfl rfl ?_
                  intro a858 ha858; clear ha848 a848
                  refine wl_skip ha858 rfl rfl rfl ?_
                  intro a859 ha859; clear ha858 a858
                  refine wl_val ha859 rfl rfl rfl (op_pick_f ha859 rfl rfl rfl) ?_
                  intro a860 ha860; clear ha859 a859
                  refine wl_val ha860 rfl rfl rfl (op_assign ha860 rfl rfl) ?_
                  intro a861 ha861; clear ha860 a860
                  refine wpList_nil ?_
                  refine then_n ?_
                  refine wp_ret ?_
                  refine ret1 ha861 rfl rfl ?_
                  clear ha861 a861
                  exact ret_mk hx762 (congrArg Value.bool (by first | rfl | (exact absurd rfl c849) | (simp at c419; done) | (simp at c402; done) | (simp at c374; done) | (simp at c8; done) | omega | omega))
                ·
                 rw [decide_eq_false c843] at ha842
                 refine wl_skip ha842 rfl rfl rfl ?_
                 intro a862 ha862; clear ha842 a842
                 refine wl_skip ha862 rfl rfl rfl ?_
                 intro a863 ha863; clear ha862 a862
                 refine wl_skip ha863 rfl rfl rfl ?_
                 intro a864 ha864; clear ha863 a863
                 refine wl_val ha864 rfl rfl rfl (op_pick_f ha864 rfl rfl rfl) ?_
                 intro a865 ha865; clear ha864 a864
                 refine wl_val ha865 rfl rfl rfl (op_move ha865 rfl rfl) ?_
                 intro a866 ha866; clear ha865 a865
                 refine wl_skip ha866 rfl rfl rfl ?_
                 intro a867 ha867; clear ha866 a866
                 refine wl_skip ha867 rfl rfl rfl ?_
                 intro a868 ha868; clear ha867 a867
                 refine wl_val ha868 rfl rfl rfl (op_pick_f ha868 rfl rfl rfl) ?_
                 intro a869 ha869; clear ha868 a868
                 refine wl_val ha869 rfl rfl rfl (op_assign ha869 rfl rfl) ?_
                 intro a870 ha870; clear ha869 a869
                 refine wpList_nil ?_
                 refine then_n ?_
                 refine wp_ret ?_
                 refine ret1 ha870 rfl rfl ?_
                 clear ha870 a870
                 exact ret_mk hx762 (congrArg Value.bool (by first | rfl | (exact absurd rfl c843) | (simp at c419; done) | (simp at c402; done) | (simp at c374; done) | (simp at c8; done) | omega | omega))
             ·
              rw [decide_eq_false c747] at ha746
              refine cond_t ha746 rfl ?_
              refine wp_seq ?_
              clear hf624 hf625 hf626 hf623 hf628 hf629 hf630 hf627
              refine wp_region_lit ?_
              refine wl_val ha746 rfl rfl rfl (op_assign ha746 rfl rfl) ?_
              intro a871 ha871; clear ha746 a746
              refine wpList_nil ?_
              refine then_n ?_
              refine wp_ret ?_
              refine then_r ?_
              refine ret1 ha871 rfl rfl ?_
              clear ha871 a871
              exact ret_mk hx622 (congrArg Value.bool (by first | rfl | (exact absurd rfl c747) | (simp at c419; done) | (simp at c402; done) | (simp at c374; done) | (simp at c8; done) | omega | omega))
          ·
           rw [c436] at ha435
           refine wl_skip ha435 rfl rfl rfl ?_
           intro a872 ha872; clear ha435 a435
           refine wl_skip ha872 rfl rfl rfl ?_
           intro a873 ha873; clear ha872 a872
           refine wl_skip ha873 rfl rfl rfl ?_
           intro a874 ha874; clear ha873 a873
           refine wl_val ha874 rfl rfl rfl (op_pick_t ha874 rfl rfl rfl) ?_
           intro a875 ha875; clear ha874 a874
           refine wpList_nil ?_
           refine then_n ?_
           refine cond_t ha875 rfl ?_
           refine wp_seq ?_
           clear ho47 ho49 hN51 hb67 ho77 ho79 hN81 hb97 ho170 ho172 hN174 hb190 ho202 ho204 hN206 hb222 ho237 ho239 hN241 hb260 ho276 ho278 hN280 hb296 ho309 ho311 hN313 hb329 ho338 ho351
           refine wp_region_lit ?_
           refine wl_val ha875 rfl rfl rfl (op_assign ha875 rfl rfl) ?_
           intro a876 ha876; clear ha875 a875
           refine wpList_nil ?_
           refine then_n ?_
           refine wp_ret ?_
           refine then_r ?_
           refine ret1 ha876 rfl rfl ?_
           clear ha876 a876
           exact ret_mk hx432 (congrArg Value.bool (by first | rfl | (rw [eqL_self] at c436; cases c436) | (simp at c419; done) | (simp at c402; done) | (simp at c374; done) | (simp at c8; done) | omega | omega))
         ·
          rw [decide_eq_false c425] at ha424
          refine wl_skip ha424 rfl rfl rfl ?_
          intro a877 ha877; clear ha424 a424
          refine wl_skip ha877 rfl rfl rfl ?_
          intro a878 ha878; clear ha877 a877
          refine wl_skip ha878 rfl rfl rfl ?_
          intro a879 ha879; clear ha878 a878
          refine wl_skip ha879 rfl rfl rfl ?_
          intro a880 ha880; clear ha879 a879
          refine wl_val ha880 rfl rfl rfl (op_pick_t ha880 rfl rfl rfl) ?_
          intro a881 ha881; clear ha880 a880
          refine wl_val ha881 rfl rfl rfl (op_move ha881 rfl rfl) ?_
          intro a882 ha882; clear ha881 a881
          refine wl_skip ha882 rfl rfl rfl ?_
          intro a883 ha883; clear ha882 a882
          refine wl_skip ha883 rfl rfl rfl ?_
          intro a884 ha884; clear ha883 a883
          refine wl_skip ha884 rfl rfl rfl ?_
          intro a885 ha885; clear ha884 a884
          refine wl_val ha885 rfl rfl rfl (op_pick_t ha885 rfl rfl rfl) ?_
          intro a886 ha886; clear ha885 a885
          refine wpList_nil ?_
          refine then_n ?_
          refine cond_t ha886 rfl ?_
          refine wp_seq ?_
          clear ho47 ho49 hN51 hb67 ho77 ho79 hN81 hb97 ho170 ho172 hN174 hb190 ho202 ho204 hN206 hb222 ho237 ho239 hN241 hb260 ho276 ho278 hN280 hb296 ho309 ho311 hN313 hb329 ho338 ho351
          refine wp_region_lit ?_
          refine wl_val ha886 rfl rfl rfl (op_assign ha886 rfl rfl) ?_
          intro a887 ha887; clear ha886 a886
          refine wpList_nil ?_
          refine then_n ?_
          refine wp_ret ?_
          refine then_r ?_
          refine ret1 ha887 rfl rfl ?_
          clear ha887 a887
          exact ret_mk hx415 (congrArg Value.bool (by first | rfl | (exact absurd rfl c425) | (simp at c419; done) | (simp at c402; done) | (simp at c374; done) | (simp at c8; done) | omega | omega))
        ·
         rw [c419] at ha418
         refine wl_skip ha418 rfl rfl rfl ?_
         intro a888 ha888; clear ha418 a418
         refine wl_skip ha888 rfl rfl rfl ?_
         intro a889 ha889; clear ha888 a888
         refine wl_skip ha889 rfl rfl rfl ?_
         intro a890 ha890; clear ha889 a889
         refine wl_val ha890 rfl rfl rfl (op_pick_t ha890 rfl rfl rfl) ?_
         intro a891 ha891; clear ha890 a890
         refine wl_val ha891 rfl rfl rfl (op_move ha891 rfl rfl) ?_
         intro a892 ha892; clear ha891 a891
         refine wl_skip ha892 rfl rfl rfl ?_
         intro a893 ha893; clear ha892 a892
         refine wl_skip ha893 rfl rfl rfl ?_
         intro a894 ha894; clear ha893 a893
         refine wl_skip ha894 rfl rfl rfl ?_
         intro a895 ha895; clear ha894 a894
         refine wl_skip ha895 rfl rfl rfl ?_
         intro a896 ha896; clear ha895 a895
         refine wl_val ha896 rfl rfl rfl (op_pick_t ha896 rfl rfl rfl) ?_
         intro a897 ha897; clear ha896 a896
         refine wl_val ha897 rfl rfl rfl (op_move ha897 rfl rfl) ?_
         intro a898 ha898; clear ha897 a897
         refine wl_skip ha898 rfl rfl rfl ?_
         intro a899 ha899; clear ha898 a898
         refine wl_skip ha899 rfl rfl rfl ?_
         intro a900 ha900; clear ha899 a899
         refine wl_skip ha900 rfl rfl rfl ?_
         intro a901 ha901; clear ha900 a900
         refine wl_val ha901 rfl rfl rfl (op_pick_t ha901 rfl rfl rfl) ?_
         intro a902 ha902; clear ha901 a901
         refine wpList_nil ?_
         refine then_n ?_
         refine cond_t ha902 rfl ?_
         refine wp_seq ?_
         clear ho47 ho49 hN51 hb67 ho77 ho79 hN81 hb97 ho170 ho172 hN174 hb190 ho202 ho204 hN206 hb222 ho237 ho239 hN241 hb260 ho276 ho278 hN280 hb296 ho309 ho311 hN313 hb329 ho338 ho351
         refine wp_region_lit ?_
         refine wl_val ha902 rfl rfl rfl (op_assign ha902 rfl rfl) ?_
         intro a903 ha903; clear ha902 a902
         refine wpList_nil ?_
         refine then_n ?_
         refine wp_ret ?_
         refine then_r ?_
         refine ret1 ha903 rfl rfl ?_
         clear ha903 a903
         exact ret_mk hx415 (congrArg Value.bool (by first | rfl | (exact absurd rfl c419) | (simp at c419; done) | (simp at c402; done) | (simp at c374; done) | (simp at c8; done) | omega | omega))
       ·
        rw [decide_eq_false c408] at ha407
        refine wl_skip ha407 rfl rfl rfl ?_
        intro a904 ha904; clear ha407 a407
        refine wl_skip ha904 rfl rfl rfl ?_
        intro a905 ha905; clear ha904 a904
        refine wl_skip ha905 rfl rfl rfl ?_
        intro a906 ha906; clear ha905 a905
        refine wl_skip ha906 rfl rfl rfl ?_
        intro a907 ha907; clear ha906 a906
        refine wl_val ha907 rfl rfl rfl (op_pick_t ha907 rfl rfl rfl) ?_
        intro a908 ha908; clear ha907 a907
        refine wl_val ha908 rfl rfl rfl (op_move ha908 rfl rfl) ?_
        intro a909 ha909; clear ha908 a908
        refine wl_skip ha909 rfl rfl rfl ?_
        intro a910 ha910; clear ha909 a909
        refine wl_skip ha910 rfl rfl rfl ?_
        intro a911 ha911; clear ha910 a910
        refine wl_skip ha911 rfl rfl rfl ?_
        intro a912 ha912; clear ha911 a911
        refine wl_val ha912 rfl rfl rfl (op_pick_t ha912 rfl rfl rfl) ?_
        intro a913 ha913; clear ha912 a912
        refine wl_val ha913 rfl rfl rfl (op_move ha913 rfl rfl) ?_
        intro a914 ha914; clear ha913 a913
        refine wl_skip ha914 rfl rfl rfl ?_
        intro a915 ha915; clear ha914 a914
        refine wl_skip ha915 rfl rfl rfl ?_
        intro a916 ha916; clear ha915 a915
        refine wl_skip ha916 rfl rfl rfl ?_
        intro a917 ha917; clear ha916 a916
        refine wl_skip ha917 rfl rfl rfl ?_
        intro a918 ha918; clear ha917 a917
        refine wl_val ha918 rfl rfl rfl (op_pick_t ha918 rfl rfl rfl) ?_
        intro a919 ha919; clear ha918 a918
        refine wl_val ha919 rfl rfl rfl (op_move ha919 rfl rfl) ?_
        intro a920 ha920; clear ha919 a919
        refine wl_skip ha920 rfl rfl rfl ?_
        intro a921 ha921; clear ha920 a920
        refine wl_skip ha921 rfl rfl rfl ?_
        intro a922 ha922; clear ha921 a921
        refine wl_skip ha922 rfl rfl rfl ?_
        intro a923 ha923; clear ha922 a922
        refine wl_val ha923 rfl rfl rfl (op_pick_t ha923 rfl rfl rfl) ?_
        intro a924 ha924; clear ha923 a923
        refine wpList_nil ?_
        refine then_n ?_
        refine cond_t ha924 rfl ?_
        refine wp_seq ?_
        clear ho47 ho49 hN51 hb67 ho77 ho79 hN81 hb97 ho170 ho172 hN174 hb190 ho202 ho204 hN206 hb222 ho237 ho239 hN241 hb260 ho276 ho278 hN280 hb296 ho309 ho311 hN313 hb329 ho338 ho351
        refine wp_region_lit ?_
        refine wl_val ha924 rfl rfl rfl (op_assign ha924 rfl rfl) ?_
        intro a925 ha925; clear ha924 a924
        refine wpList_nil ?_
        refine then_n ?_
        refine wp_ret ?_
        refine then_r ?_
        refine ret1 ha925 rfl rfl ?_
        clear ha925 a925
        exact ret_mk hx398 (congrArg Value.bool (by first | rfl | (exact absurd rfl c408) | (simp at c402; done) | (simp at c374; done) | (simp at c8; done) | omega | omega))
      ·
       rw [c402] at ha401
       refine wl_skip ha401 rfl rfl rfl ?_
       intro a926 ha926; clear ha401 a401
       refine wl_skip ha926 rfl rfl rfl ?_
       intro a927 ha927; clear ha926 a926
       refine wl_skip ha927 rfl rfl rfl ?_
       intro a928 ha928; clear ha927 a927
       refine wl_val ha928 rfl rfl rfl (op_pick_t ha928 rfl rfl rfl) ?_
       intro a929 ha929; clear ha928 a928
       refine wl_val ha929 rfl rfl rfl (op_move ha929 rfl rfl) ?_
       intro a930 ha930; clear ha929 a929
       refine wl_skip ha930 rfl rfl rfl ?_
       intro a931 ha931; clear ha930 a930
       refine wl_skip ha931 rfl rfl rfl ?_
       intro a932 ha932; clear ha931 a931
       refine wl_skip ha932 rfl rfl rfl ?_
       intro a933 ha933; clear ha932 a932
       refine wl_skip ha933 rfl rfl rfl ?_
       intro a934 ha934; clear ha933 a933
       refine wl_val ha934 rfl rfl rfl (op_pick_t ha934 rfl rfl rfl) ?_
       intro a935 ha935; clear ha934 a934
       refine wl_val ha935 rfl rfl rfl (op_move ha935 rfl rfl) ?_
       intro a936 ha936; clear ha935 a935
       refine wl_skip ha936 rfl rfl rfl ?_
       intro a937 ha937; clear ha936 a936
       refine wl_skip ha937 rfl rfl rfl ?_
       intro a938 ha938; clear ha937 a937
       refine wl_skip ha938 rfl rfl rfl ?_
       intro a939 ha939; clear ha938 a938
       refine wl_val ha939 rfl rfl rfl (op_pick_t ha939 rfl rfl rfl) ?_
       intro a940 ha940; clear ha939 a939
       refine wl_val ha940 rfl rfl rfl (op_move ha940 rfl rfl) ?_
       intro a941 ha941; clear ha940 a940
       refine wl_skip ha941 rfl rfl rfl ?_
       intro a942 ha942; clear ha941 a941
       refine wl_skip ha942 rfl rfl rfl ?_
       intro a943 ha943; clear ha942 a942
       refine wl_skip ha943 rfl rfl rfl ?_
       intro a944 ha944; clear ha943 a943
       refine wl_skip ha944 rfl rfl rfl ?_
       intro a945 ha945; clear ha944 a944
       refine wl_val ha945 rfl rfl rfl (op_pick_t ha945 rfl rfl rfl) ?_
       intro a946 ha946; clear ha945 a945
       refine wl_val ha946 rfl rfl rfl (op_move ha946 rfl rfl) ?_
       intro a947 ha947; clear ha946 a946
       refine wl_skip ha947 rfl rfl rfl ?_
       intro a948 ha948; clear ha947 a947
       refine wl_skip ha948 rfl rfl rfl ?_
       intro a949 ha949; clear ha948 a948
       refine wl_skip ha949 rfl rfl rfl ?_
       intro a950 ha950; clear ha949 a949
       refine wl_val ha950 rfl rfl rfl (op_pick_t ha950 rfl rfl rfl) ?_
       intro a951 ha951; clear ha950 a950
       refine wpList_nil ?_
       refine then_n ?_
       refine cond_t ha951 rfl ?_
       refine wp_seq ?_
       clear ho47 ho49 hN51 hb67 ho77 ho79 hN81 hb97 ho170 ho172 hN174 hb190 ho202 ho204 hN206 hb222 ho237 ho239 hN241 hb260 ho276 ho278 hN280 hb296 ho309 ho311 hN313 hb329 ho338 ho351
       refine wp_region_lit ?_
       refine wl_val ha951 rfl rfl rfl (op_assign ha951 rfl rfl) ?_
       intro a952 ha952; clear ha951 a951
       refine wpList_nil ?_
       refine then_n ?_
       refine wp_ret ?_
       refine then_r ?_
       refine ret1 ha952 rfl rfl ?_
       clear ha952 a952
       exact ret_mk hx398 (congrArg Value.bool (by first | rfl | (exact absurd rfl c402) | (simp at c402; done) | (simp at c374; done) | (simp at c8; done) | omega | omega))
     ·
      rw [decide_eq_false c391] at ha390
      refine wl_skip ha390 rfl rfl rfl ?_
      intro a953 ha953; clear ha390 a390
      refine wl_skip ha953 rfl rfl rfl ?_
      intro a954 ha954; clear ha953 a953
      refine wl_skip ha954 rfl rfl rfl ?_
      intro a955 ha955; clear ha954 a954
      refine wl_skip ha955 rfl rfl rfl ?_
      intro a956 ha956; clear ha955 a955
      refine wl_val ha956 rfl rfl rfl (op_pick_t ha956 rfl rfl rfl) ?_
      intro a957 ha957; clear ha956 a956
      refine wl_val ha957 rfl rfl rfl (op_move ha957 rfl rfl) ?_
      intro a958 ha958; clear ha957 a957
      refine wl_skip ha958 rfl rfl rfl ?_
      intro a959 ha959; clear ha958 a958
      refine wl_skip ha959 rfl rfl rfl ?_
      intro a960 ha960; clear ha959 a959
      refine wl_skip ha960 rfl rfl rfl ?_
      intro a961 ha961; clear ha960 a960
      refine wl_val ha961 rfl rfl rfl (op_pick_t ha961 rfl rfl rfl) ?_
      intro a962 ha962; clear ha961 a961
      refine wl_val ha962 rfl rfl rfl (op_move ha962 rfl rfl) ?_
      intro a963 ha963; clear ha962 a962
      refine wl_skip ha963 rfl rfl rfl ?_
      intro a964 ha964; clear ha963 a963
      refine wl_skip ha964 rfl rfl rfl ?_
      intro a965 ha965; clear ha964 a964
      refine wl_skip ha965 rfl rfl rfl ?_
      intro a966 ha966; clear ha965 a965
      refine wl_skip ha966 rfl rfl rfl ?_
      intro a967 ha967; clear ha966 a966
      refine wl_val ha967 rfl rfl rfl (op_pick_t ha967 rfl rfl rfl) ?_
      intro a968 ha968; clear ha967 a967
      refine wl_val ha968 rfl rfl rfl (op_move ha968 rfl rfl) ?_
      intro a969 ha969; clear ha968 a968
      refine wl_skip ha969 rfl rfl rfl ?_
      intro a970 ha970; clear ha969 a969
      refine wl_skip ha970 rfl rfl rfl ?_
      intro a971 ha971; clear ha970 a970
      refine wl_skip ha971 rfl rfl rfl ?_
      intro a972 ha972; clear ha971 a971
      refine wl_val ha972 rfl rfl rfl (op_pick_t ha972 rfl rfl rfl) ?_
      intro a973 ha973; clear ha972 a972
      refine wl_val ha973 rfl rfl rfl (op_move ha973 rfl rfl) ?_
      intro a974 ha974; clear ha973 a973
      refine wl_skip ha974 rfl rfl rfl ?_
      intro a975 ha975; clear ha974 a974
      refine wl_skip ha975 rfl rfl rfl ?_
      intro a976 ha976; clear ha975 a975
      refine wl_skip ha976 rfl rfl rfl ?_
      intro a977 ha977; clear ha976 a976
      refine wl_skip ha977 rfl rfl rfl ?_
      intro a978 ha978; clear ha977 a977
      refine wl_val ha978 rfl rfl rfl (op_pick_t ha978 rfl rfl rfl) ?_
      intro a979 ha979; clear ha978 a978
      refine wl_val ha979 rfl rfl rfl (op_move ha979 rfl rfl) ?_
      intro a980 ha980; clear ha979 a979
      refine wl_skip ha980 rfl rfl rfl ?_
      intro a981 ha981; clear ha980 a980
      refine wl_skip ha981 rfl rfl rfl ?_
      intro a982 ha982; clear ha981 a981
      refine wl_skip ha982 rfl rfl rfl ?_
      intro a983 ha983; clear ha982 a982
      refine wl_val ha983 rfl rfl rfl (op_pick_t ha983 rfl rfl rfl) ?_
      intro a984 ha984; clear ha983 a983
      refine wpList_nil ?_
      refine then_n ?_
      refine cond_t ha984 rfl ?_
      refine wp_seq ?_
      clear ho47 ho49 hN51 hb67 ho77 ho79 hN81 hb97 ho170 ho172 hN174 hb190 ho202 ho204 hN206 hb222 ho237 ho239 hN241 hb260 ho276 ho278 hN280 hb296 ho309 ho311 hN313 hb329 ho338 ho351
      refine wp_region_lit ?_
      refine wl_val ha984 rfl rfl rfl (op_assign ha984 rfl rfl) ?_
      intro a985 ha985; clear ha984 a984
      refine wpList_nil ?_
      refine then_n ?_
      refine wp_ret ?_
      refine then_r ?_
      refine ret1 ha985 rfl rfl ?_
      clear ha985 a985
      exact ret_mk hx370 (congrArg Value.bool (by first | rfl | (exact absurd rfl c391) | (simp at c374; done) | (simp at c8; done) | omega | omega))
    ·
     rw [decide_eq_false c385] at ha384
     refine wl_skip ha384 rfl rfl rfl ?_
     intro a986 ha986; clear ha384 a384
     refine wl_skip ha986 rfl rfl rfl ?_
     intro a987 ha987; clear ha986 a986
     refine wl_skip ha987 rfl rfl rfl ?_
     intro a988 ha988; clear ha987 a987
     refine wl_val ha988 rfl rfl rfl (op_pick_t ha988 rfl rfl rfl) ?_
     intro a989 ha989; clear ha988 a988
     refine wl_val ha989 rfl rfl rfl (op_move ha989 rfl rfl) ?_
     intro a990 ha990; clear ha989 a989
     refine wl_skip ha990 rfl rfl rfl ?_
     intro a991 ha991; clear ha990 a990
     refine wl_skip ha991 rfl rfl rfl ?_
     intro a992 ha992; clear ha991 a991
     refine wl_skip ha992 rfl rfl rfl ?_
     intro a993 ha993; clear ha992 a992
     refine wl_skip ha993 rfl rfl rfl ?_
     intro a994 ha994; clear ha993 a993
     refine wl_val ha994 rfl rfl rfl (op_pick_t ha994 rfl rfl rfl) ?_
     intro a995 ha995; clear ha994 a994
     refine wl_val ha995 rfl rfl rfl (op_move ha995 rfl rfl) ?_
     intro a996 ha996; clear ha995 a995
     refine wl_skip ha996 rfl rfl rfl ?_
     intro a997 ha997; clear ha996 a996
     refine wl_skip ha997 rfl rfl rfl ?_
     intro a998 ha998; clear ha997 a997
     refine wl_skip ha998 rfl rfl rfl ?_
     intro a999 ha999; clear ha998 a998
     refine wl_val ha999 rfl rfl rfl (op_pick_t ha999 rfl rfl rfl) ?_
     intro a1000 ha1000; clear ha999 a999
     refine wl_val ha1000 rfl rfl rfl (op_move ha1000 rfl rfl) ?_
     intro a1001 ha1001; clear ha1000 a1000
     refine wl_skip ha1001 rfl rfl rfl ?_
     intro a1002 ha1002; clear ha1001 a1001
     refine wl_skip ha1002 rfl rfl rfl ?_
     intro a1003 ha1003; clear ha1002 a1002
     refine wl_skip ha1003 rfl rfl rfl ?_
     intro a1004 ha1004; clear ha1003 a1003
     refine wl_skip ha1004 rfl rfl rfl ?_
     intro a1005 ha1005; clear ha1004 a1004
     refine wl_val ha1005 rfl rfl rfl (op_pick_t ha1005 rfl rfl rfl) ?_
     intro a1006 ha1006; clear ha1005 a1005
     refine wl_val ha1006 rfl rfl rfl (op_move ha1006 rfl rfl) ?_
     intro a1007 ha1007; clear ha1006 a1006
     refine wl_skip ha1007 rfl rfl rfl ?_
     intro a1008 ha1008; clear ha1007 a1007
     refine wl_skip ha1008 rfl rfl rfl ?_
     intro a1009 ha1009; clear ha1008 a1008
     refine wl_skip ha1009 rfl rfl rfl ?_
     intro a1010 ha1010; clear ha1009 a1009
     refine wl_val ha1010 rfl rfl rfl (op_pick_t ha1010 rfl rfl rfl) ?_
     intro a1011 ha1011; clear ha1010 a1010
     refine wl_val ha1011 rfl rfl rfl (op_move ha1011 rfl rfl) ?_
     intro a1012 ha1012; clear ha1011 a1011
     refine wl_skip ha1012 rfl rfl rfl ?_
     intro a1013 ha1013; clear ha1012 a1012
     refine wl_skip ha1013 rfl rfl rfl ?_
     intro a1014 ha1014; clear ha1013 a1013
     refine wl_skip ha1014 rfl rfl rfl ?_
     intro a1015 ha1015; clear ha1014 a1014
     refine wl_skip ha1015 rfl rfl rfl ?_
     intro a1016 ha1016; clear ha1015 a1015
     refine wl_val ha1016 rfl rfl rfl (op_pick_t ha1016 rfl rfl rfl) ?_
     intro a1017 ha1017; clear ha1016 a1016
     refine wl_val ha1017 rfl rfl rfl (op_move ha1017 rfl rfl) ?_
     intro a1018 ha1018; clear ha1017 a1017
     refine wl_skip ha1018 rfl rfl rfl ?_
     intro a1019 ha1019; clear ha1018 a1018
     refine wl_skip ha1019 rfl rfl rfl ?_
     intro a1020 ha1020; clear ha1019 a1019
     refine wl_skip ha1020 rfl rfl rfl ?_
     intro a1021 ha1021; clear ha1020 a1020
     refine wl_val ha1021 rfl rfl rfl (op_pick_t ha1021 rfl rfl rfl) ?_
     intro a1022 ha1022; clear ha1021 a1021
     refine wpList_nil ?_
     refine then_n ?_
     refine cond_t ha1022 rfl ?_
     refine wp_seq ?_
     clear ho47 ho49 hN51 hb67 ho77 ho79 hN81 hb97 ho170 ho172 hN174 hb190 ho202 ho204 hN206 hb222 ho237 ho239 hN241 hb260 ho276 ho278 hN280 hb296 ho309 ho311 hN313 hb329 ho338 ho351
     refine wp_region_lit ?_
     refine wl_val ha1022 rfl rfl rfl (op_assign ha1022 rfl rfl) ?_
     intro a1023 ha1023; clear ha1022 a1022
     refine wpList_nil ?_
     refine then_n ?_
     refine wp_ret ?_
     refine then_r ?_
     refine ret1 ha1023 rfl rfl ?_
     clear ha1023 a1023
     exact ret_mk hx370 (congrArg Value.bool (by first | rfl | (exact absurd rfl c385) | (simp at c374; done) | (simp at c8; done) | omega | omega))
   ·
    rw [c374] at ha373
    refine wl_skip ha373 rfl rfl rfl ?_
    intro a1024 ha1024; clear ha373 a373
    refine wl_skip ha1024 rfl rfl rfl ?_
    intro a1025 ha1025; clear ha1024 a1024
    refine wl_skip ha1025 rfl rfl rfl ?_
    intro a1026 ha1026; clear ha1025 a1025
    refine wl_val ha1026 rfl rfl rfl (op_pick_t ha1026 rfl rfl rfl) ?_
    intro a1027 ha1027; clear ha1026 a1026
    refine wl_val ha1027 rfl rfl rfl (op_move ha1027 rfl rfl) ?_
    intro a1028 ha1028; clear ha1027 a1027
    refine wl_skip ha1028 rfl rfl rfl ?_
    intro a1029 ha1029; clear ha1028 a1028
    refine wl_skip ha1029 rfl rfl rfl ?_
    intro a1030 ha1030; clear ha1029 a1029
    refine wl_skip ha1030 rfl rfl rfl ?_
    intro a1031 ha1031; clear ha1030 a1030
    refine wl_val ha1031 rfl rfl rfl (op_pick_t ha1031 rfl rfl rfl) ?_
    intro a1032 ha1032; clear ha1031 a1031
    refine wl_val ha1032 rfl rfl rfl (op_move ha1032 rfl rfl) ?_
    intro a1033 ha1033; clear ha1032 a1032
    refine wl_skip ha1033 rfl rfl rfl ?_
    intro a1034 ha1034; clear ha1033 a1033
    refine wl_skip ha1034 rfl rfl rfl ?_
    intro a1035 ha1035; clear ha1034 a1034
    refine wl_skip ha1035 rfl rfl rfl ?_
    intro a1036 ha1036; clear ha1035 a1035
    refine wl_val ha1036 rfl rfl rfl (op_pick_t ha1036 rfl rfl rfl) ?_
    intro a1037 ha1037; clear ha1036 a1036
    refine wl_val ha1037 rfl rfl rfl (op_move ha1037 rfl rfl) ?_
    intro a1038 ha1038; clear ha1037 a1037
    refine wl_skip ha1038 rfl rfl rfl ?_
    intro a1039 ha1039; clear ha1038 a1038
    refine wl_skip ha1039 rfl rfl rfl ?_
    intro a1040 ha1040; clear ha1039 a1039
    refine wl_skip ha1040 rfl rfl rfl ?_
    intro a1041 ha1041; clear ha1040 a1040
    refine wl_skip ha1041 rfl rfl rfl ?_
    intro a1042 ha1042; clear ha1041 a1041
    refine wl_val ha1042 rfl rfl rfl (op_pick_t ha1042 rfl rfl rfl) ?_
    intro a1043 ha1043; clear ha1042 a1042
    refine wl_val ha1043 rfl rfl rfl (op_move ha1043 rfl rfl) ?_
    intro a1044 ha1044; clear ha1043 a1043
    refine wl_skip ha1044 rfl rfl rfl ?_
    intro a1045 ha1045; clear ha1044 a1044
    refine wl_skip ha1045 rfl rfl rfl ?_
    intro a1046 ha1046; clear ha1045 a1045
    refine wl_skip ha1046 rfl rfl rfl ?_
    intro a1047 ha1047; clear ha1046 a1046
    refine wl_val ha1047 rfl rfl rfl (op_pick_t ha1047 rfl rfl rfl) ?_
    intro a1048 ha1048; clear ha1047 a1047
    refine wl_val ha1048 rfl rfl rfl (op_move ha1048 rfl rfl) ?_
    intro a1049 ha1049; clear ha1048 a1048
    refine wl_skip ha1049 rfl rfl rfl ?_
    intro a1050 ha1050; clear ha1049 a1049
    refine wl_skip ha1050 rfl rfl rfl ?_
    intro a1051 ha1051; clear ha1050 a1050
    refine wl_skip ha1051 rfl rfl rfl ?_
    intro a1052 ha1052; clear ha1051 a1051
    refine wl_skip ha1052 rfl rfl rfl ?_
    intro a1053 ha1053; clear ha1052 a1052
    refine wl_val ha1053 rfl rfl rfl (op_pick_t ha1053 rfl rfl rfl) ?_
    intro a1054 ha1054; clear ha1053 a1053
    refine wl_val ha1054 rfl rfl rfl (op_move ha1054 rfl rfl) ?_
    intro a1055 ha1055; clear ha1054 a1054
    refine wl_skip ha1055 rfl rfl rfl ?_
    intro a1056 ha1056; clear ha1055 a1055
    refine wl_skip ha1056 rfl rfl rfl ?_
    intro a1057 ha1057; clear ha1056 a1056
    refine wl_skip ha1057 rfl rfl rfl ?_
    intro a1058 ha1058; clear ha1057 a1057
    refine wl_val ha1058 rfl rfl rfl (op_pick_t ha1058 rfl rfl rfl) ?_
    intro a1059 ha1059; clear ha1058 a1058
    refine wl_val ha1059 rfl rfl rfl (op_move ha1059 rfl rfl) ?_
    intro a1060 ha1060; clear ha1059 a1059
    refine wl_skip ha1060 rfl rfl rfl ?_
    intro a1061 ha1061; clear ha1060 a1060
    refine wl_skip ha1061 rfl rfl rfl ?_
    intro a1062 ha1062; clear ha1061 a1061
    refine wl_skip ha1062 rfl rfl rfl ?_
    intro a1063 ha1063; clear ha1062 a1062
    refine wl_skip ha1063 rfl rfl rfl ?_
    intro a1064 ha1064; clear ha1063 a1063
    refine wl_val ha1064 rfl rfl rfl (op_pick_t ha1064 rfl rfl rfl) ?_
    intro a1065 ha1065; clear ha1064 a1064
    refine wl_val ha1065 rfl rfl rfl (op_move ha1065 rfl rfl) ?_
    intro a1066 ha1066; clear ha1065 a1065
    refine wl_skip ha1066 rfl rfl rfl ?_
    intro a1067 ha1067; clear ha1066 a1066
    refine wl_skip ha1067 rfl rfl rfl ?_
    intro a1068 ha1068; clear ha1067 a1067
    refine wl_skip ha1068 rfl rfl rfl ?_
    intro a1069 ha1069; clear ha1068 a1068
    refine wl_val ha1069 rfl rfl rfl (op_pick_t ha1069 rfl rfl rfl) ?_
    intro a1070 ha1070; clear ha1069 a1069
    refine wpList_nil ?_
    refine then_n ?_
    refine cond_t ha1070 rfl ?_
    refine wp_seq ?_
    clear ho47 ho49 hN51 hb67 ho77 ho79 hN81 hb97 ho170 ho172 hN174 hb190 ho202 ho204 hN206 hb222 ho237 ho239 hN241 hb260 ho276 ho278 hN280 hb296 ho309 ho311 hN313 hb329 ho338 ho351
    refine wp_region_lit ?_
    refine wl_val ha1070 rfl rfl rfl (op_assign ha1070 rfl rfl) ?_
    intro a1071 ha1071; clear ha1070 a1070
    refine wpList_nil ?_
    refine then_n ?_
    refine wp_ret ?_
    refine then_r ?_
    refine ret1 ha1071 rfl rfl ?_
    clear ha1071 a1071
    exact ret_mk hx370 (congrArg Value.bool (by first | rfl | (exact absurd rfl c374) | (simp at c374; done) | (simp at c8; done) | omega | omega))
  ·
   rw [decide_eq_false c363] at ha362
   refine wl_skip ha362 rfl rfl rfl ?_
   intro a1072 ha1072; clear ha362 a362
   refine wl_skip ha1072 rfl rfl rfl ?_
   intro a1073 ha1073; clear ha1072 a1072
   refine wl_skip ha1073 rfl rfl rfl ?_
   intro a1074 ha1074; clear ha1073 a1073
   refine wl_skip ha1074 rfl rfl rfl ?_
   intro a1075 ha1075; clear ha1074 a1074
   refine wl_val ha1075 rfl rfl rfl (op_pick_t ha1075 rfl rfl rfl) ?_
   intro a1076 ha1076; clear ha1075 a1075
   refine wl_val ha1076 rfl rfl rfl (op_move ha1076 rfl rfl) ?_
   intro a1077 ha1077; clear ha1076 a1076
   refine wl_skip ha1077 rfl rfl rfl ?_
   intro a1078 ha1078; clear ha1077 a1077
   refine wl_skip ha1078 rfl rfl rfl ?_
   intro a1079 ha1079; clear ha1078 a1078
   refine wl_skip ha1079 rfl rfl rfl ?_
   intro a1080 ha1080; clear ha1079 a1079
   refine wl_val ha1080 rfl rfl rfl (op_pick_t ha1080 rfl rfl rfl) ?_
   intro a1081 ha1081; clear ha1080 a1080
   refine wl_val ha1081 rfl rfl rfl (op_move ha1081 rfl rfl) ?_
   intro a1082 ha1082; clear ha1081 a1081
   refine wl_skip ha1082 rfl rfl rfl ?_
   intro a1083 ha1083; clear ha1082 a1082
   refine wl_skip ha1083 rfl rfl rfl ?_
   intro a1084 ha1084; clear ha1083 a1083
   refine wl_skip ha1084 rfl rfl rfl ?_
   intro a1085 ha1085; clear ha1084 a1084
   refine wl_val ha1085 rfl rfl rfl (op_pick_t ha1085 rfl rfl rfl) ?_
   intro a1086 ha1086; clear ha1085 a1085
   refine wl_val ha1086 rfl rfl rfl (op_move ha1086 rfl rfl) ?_
   intro a1087 ha1087; clear ha1086 a1086
   refine wl_skip ha1087 rfl rfl rfl ?_
   intro a1088 ha1088; clear ha1087 a1087
   refine wl_skip ha1088 rfl rfl rfl ?_
   intro a1089 ha1089; clear ha1088 a1088
   refine wl_skip ha1089 rfl rfl rfl ?_
   intro a1090 ha1090; clear ha1089 a1089
   refine wl_val ha1090 rfl rfl rfl (op_pick_t ha1090 rfl rfl rfl) ?_
   intro a1091 ha1091; clear ha1090 a1090
   refine wl_val ha1091 rfl rfl rfl (op_move ha1091 rfl rfl) ?_
   intro a1092 ha1092; clear ha1091 a1091
   refine wl_skip ha1092 rfl rfl rfl ?_
   intro a1093 ha1093; clear ha1092 a1092
   refine wl_skip ha1093 rfl rfl rfl ?_
   intro a1094 ha1094; clear ha1093 a1093
   refine wl_skip ha1094 rfl rfl rfl ?_
   intro a1095 ha1095; clear ha1094 a1094
   refine wl_skip ha1095 rfl rfl rfl ?_
   intro a1096 ha1096; clear ha1095 a1095
   refine wl_val ha1096 rfl rfl rfl (op_pick_t ha1096 rfl rfl rfl) ?_
   intro a1097 ha1097; clear ha1096 a1096
   refine wl_val ha1097 rfl rfl rfl (op_move ha1097 rfl rfl) ?_
   intro a1098 ha1098; clear ha1097 a1097
   refine wl_skip ha1098 rfl rfl rfl ?_
   intro a1099 ha1099; clear ha1098 a1098
   refine wl_skip ha1099 rfl rfl rfl ?_
   intro a1100 ha1100; clear ha1099 a1099
   refine wl_skip ha1100 rfl rfl rfl ?_
   intro a1101 ha1101; clear ha1100 a1100
   refine wl_val ha1101 rfl rfl rfl (op_pick_t ha1101 rfl rfl rfl) ?_
   intro a1102 ha1102; clear ha1101 a1101
   refine wl_val ha1102 rfl rfl rfl (op_move ha1102 rfl rfl) ?_
   intro a1103 ha1103; clear ha1102 a1102
   refine wl_skip ha1103 rfl rfl rfl ?_
   intro a1104 ha1104; clear ha1103 a1103
   refine wl_skip ha1104 rfl rfl rfl ?_
   intro a1105 ha1105; clear ha1104 a1104
   refine wl_skip ha1105 rfl rfl rfl ?_
   intro a1106 ha1106; clear ha1105 a1105
   refine wl_skip ha1106 rfl rfl rfl ?_
   intro a1107 ha1107; clear ha1106 a1106
   refine wl_val ha1107 rfl rfl rfl (op_pick_t ha1107 rfl rfl rfl) ?_
   intro a1108 ha1108; clear ha1107 a1107
   refine wl_val ha1108 rfl rfl rfl (op_move ha1108 rfl rfl) ?_
   intro a1109 ha1109; clear ha1108 a1108
   refine wl_skip ha1109 rfl rfl rfl ?_
   intro a1110 ha1110; clear ha1109 a1109
   refine wl_skip ha1110 rfl rfl rfl ?_
   intro a1111 ha1111; clear ha1110 a1110
   refine wl_skip ha1111 rfl rfl rfl ?_
   intro a1112 ha1112; clear ha1111 a1111
   refine wl_val ha1112 rfl rfl rfl (op_pick_t ha1112 rfl rfl rfl) ?_
   intro a1113 ha1113; clear ha1112 a1112
   refine wl_val ha1113 rfl rfl rfl (op_move ha1113 rfl rfl) ?_
   intro a1114 ha1114; clear ha1113 a1113
   refine wl_skip ha1114 rfl rfl rfl ?_
   intro a1115 ha1115; clear ha1114 a1114
   refine wl_skip ha1115 rfl rfl rfl ?_
   intro a1116 ha1116; clear ha1115 a1115
   refine wl_skip ha1116 rfl rfl rfl ?_
   intro a1117 ha1117; clear ha1116 a1116
   refine wl_skip ha1117 rfl rfl rfl ?_
   intro a1118 ha1118; clear ha1117 a1117
   refine wl_val ha1118 rfl rfl rfl (op_pick_t ha1118 rfl rfl rfl) ?_
   intro a1119 ha1119; clear ha1118 a1118
   refine wl_val ha1119 rfl rfl rfl (op_move ha1119 rfl rfl) ?_
   intro a1120 ha1120; clear ha1119 a1119
   refine wl_skip ha1120 rfl rfl rfl ?_
   intro a1121 ha1121; clear ha1120 a1120
   refine wl_skip ha1121 rfl rfl rfl ?_
   intro a1122 ha1122; clear ha1121 a1121
   refine wl_skip ha1122 rfl rfl rfl ?_
   intro a1123 ha1123; clear ha1122 a1122
   refine wl_val ha1123 rfl rfl rfl (op_pick_t ha1123 rfl rfl rfl) ?_
   intro a1124 ha1124; clear ha1123 a1123
   refine wpList_nil ?_
   refine then_n ?_
   refine cond_t ha1124 rfl ?_
   refine wp_seq ?_
   clear ho47 ho49 hN51 hb67 ho77 ho79 hN81 hb97 ho170 ho172 hN174 hb190 ho202 ho204 hN206 hb222 ho237 ho239 hN241 hb260 ho276 ho278 hN280 hb296 ho309 ho311 hN313 hb329 ho338 ho351
   refine wp_region_lit ?_
   refine wl_val ha1124 rfl rfl rfl (op_assign ha1124 rfl rfl) ?_
   intro a1125 ha1125; clear ha1124 a1124
   refine wpList_nil ?_
   refine then_n ?_
   refine wp_ret ?_
   refine then_r ?_
   refine ret1 ha1125 rfl rfl ?_
   clear ha1125 a1125
   exact ret_mk hx353 (congrArg Value.bool (by first | rfl | (exact absurd rfl c363) | (simp at c8; done) | omega | omega))


end Go.Proofs.Ytjpldgicibnkcaa
