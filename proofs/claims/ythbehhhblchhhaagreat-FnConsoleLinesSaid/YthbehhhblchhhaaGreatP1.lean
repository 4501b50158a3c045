/- Promises: work and breaches. -/
import Derived.Test.YthbehhhblchhhaaGreatS1
namespace Go.Proofs.YthbehhhblchhhaaGreat
open Go Go.RowKit
set_option maxHeartbeats 16000000

theorem prB_bd {p : Prom} (h : prB p = true) : wordB p.1 = true ∧ (1 ≤ p.2.1 ∧ p.2.1 ≤ 1000) ∧ 1 ≤ p.2.2 ∧ p.2.2 ≤ 2000 := by
  unfold prB at h; simp only [Bool.and_eq_true, decide_eq_true_eq] at h; exact ⟨h.1.1, h.1.2, h.2⟩
/-- Promises whose days and minutes are in their ranges, and not too many of them. -/
def prK (xs : List Prom) : Prop := xs.length ≤ 41 ∧ ∀ p ∈ xs, (1 ≤ p.2.1 ∧ p.2.1 ≤ 1000) ∧ 1 ≤ p.2.2 ∧ p.2.2 ≤ 2000
theorem prsB_at {xs : List Prom} (h : prsB xs = true) {i : Nat} {p : Prom} (hp : xs[i]? = some p) : prB p = true := by
  have hi := (List.getElem?_eq_some_iff.1 hp).1
  unfold prsB at h; simp only [Bool.and_eq_true] at h
  have h1 := upB_get h.2 hi
  rw [prAt_eq hp, Bool.and_eq_true] at h1; exact h1.1
theorem prsB_len {xs : List Prom} (h : prsB xs = true) : xs.length ≤ 40 := by unfold prsB at h; simp only [Bool.and_eq_true, decide_eq_true_eq] at h; exact h.1
theorem prsB_k {xs : List Prom} (h : prsB xs = true) : prK xs := by
  refine ⟨by have := prsB_len h; omega, fun p hp => ?_⟩
  obtain ⟨j, hj⟩ := List.getElem?_of_mem hp
  exact (prB_bd (prsB_at h hj)).2
theorem prK_at {xs : List Prom} (h : prK xs) {i : Nat} {p : Prom} (hp : xs[i]? = some p) : (1 ≤ p.2.1 ∧ p.2.1 ≤ 1000) ∧ 1 ≤ p.2.2 ∧ p.2.2 ≤ 2000 := h.2 p (List.mem_of_getElem? hp)
/-- The work until a day. -/
def wuG (d : Int) : List Prom → Int
  | [] => 0
  | p :: ps => (if p.2.1 ≤ d then p.2.2 else 0) + wuG d ps
theorem wuG_app (d : Int) (p : Prom) : ∀ xs : List Prom, wuG d (xs ++ [p]) = wuG d xs + (if p.2.1 ≤ d then p.2.2 else 0)
  | [] => by simp [wuG]
  | q :: qs => by rw [List.cons_append, wuG, wuG, wuG_app d p qs]; omega
theorem wuG_bd {d : Int} : ∀ {xs : List Prom}, (∀ p ∈ xs, 1 ≤ p.2.2 ∧ p.2.2 ≤ 2000) → 0 ≤ wuG d xs ∧ wuG d xs ≤ 2000 * xs.length
  | [], _ => by simp [wuG]
  | q :: qs, h => by
    have h1 := wuG_bd (d := d) (xs := qs) fun p hp => h p (by simp [hp])
    have h2 := h q (by simp)
    rw [wuG, List.length_cons]; split <;> omega
theorem wuG_in {d : Int} {xs : List Prom} {i : Nat} {x : Prom} (h : xs[i]? = some x) (hd : x.2.1 ≤ d) : wuG d (xs.take (i + 1)) = wuG d (xs.take i) + x.2.2 := by rw [take_snoc h, wuG_app, if_pos hd]
theorem wuG_out {d : Int} {xs : List Prom} {i : Nat} {x : Prom} (h : xs[i]? = some x) (hd : ¬ x.2.1 ≤ d) : wuG d (xs.take (i + 1)) = wuG d (xs.take i) := by rw [take_snoc h, wuG_app, if_neg hd]; omega
theorem wuG_k {xs : List Prom} (h : prK xs) (d : Int) : 0 ≤ wuG d xs ∧ wuG d xs ≤ 82000 := by
  have := wuG_bd (d := d) fun p hp => (h.2 p hp).2
  have := h.1; omega
/-- The first day for which there is too much work, among those told so far. -/
def brT (all : List Prom) (p : Prom) (f : Int) : Int := if 420 * p.2.1 < wuG p.2.1 all then (if f = 0 ∨ p.2.1 < f then p.2.1 else f) else f
def brG (all : List Prom) : List Prom → Int → Int
  | [], f => f
  | p :: ps, f => brG all ps (brT all p f)
def brS (xs : List Prom) : Int := brG xs xs 0
theorem brG_bd {all : List Prom} : ∀ {xs : List Prom} {f : Int}, (∀ p ∈ xs, 1 ≤ p.2.1 ∧ p.2.1 ≤ 1000) → 0 ≤ f ∧ f ≤ 1000 → 0 ≤ brG all xs f ∧ brG all xs f ≤ 1000
  | [], _, _, h => h
  | p :: ps, f, h, hf => by
    rw [brG]
    refine brG_bd (fun q hq => h q (by simp [hq])) ?_
    have := h p (by simp)
    unfold brT; split
    · split <;> omega
    · exact hf
theorem brG_cons {all xs : List Prom} {i : Nat} {x : Prom} {f g : Int} (h : xs[i]? = some x) (hf : brT all x f = g) : brG all (xs.drop i) f = brG all (xs.drop (i + 1)) g := by rw [drop_cons h, brG, hf]

theorem c_impl_workUntil (w0 : World) (v_list : Value) (list : List (Str × Int × Int)) {S_list : Nat → Prop} (day : Int) (h_list : Rds shProm S_list w0 v_list list) (g0 : prK list) :
    Calls Tryz.prog 143 #[v_list, .int .i64 day] w0 (Ret w0 (fun v _ => v = .int .i64 (wuG day list))) := by
 refine enter (N := 24) Tryz.func143 rfl rfl rfl ?_
 intro A H
 have hx0 := Ext.rfl' w0
 have hl_list := h_list.length_le
 have hwk := g0.1
 revert A; refine go ?_; intro A H
 refine wv H (ln H U31 h_list) ?_
 clear H A; refine go ?_; intro A H
 refine loop_inv (X := Nat × Int) (fun ⟨i, m⟩ fr wl => Sl 24 fr [(1, .int .i64 day), (5, .int .i64 m), (8, v_list), (9, .int .i64 ((list.length : Nat) : Int)), (10, .int .i64 ((i : Nat) : Int))] ∧ Ext w0 wl ∧ w0.heap.size ≤ wl.heap.size ∧ (i ≤ list.length) ∧ (m = wuG day (list.take i)) ∧ (0 ≤ m ∧ m ≤ 2000 * i)) (fun ⟨i, m⟩ => list.length - i) (0, (0 : Int)) ?_ ?_
 exact ⟨(sl H), hx0, (by omega), (by omega), (by simp [wuG]), (by omega)⟩
 clear H A
 rintro ⟨i, m⟩ A w6 ⟨H, hx7, hzl9, hi, hA, hm⟩
 have hzhx7 := hx7.size
 revert A; refine go ?_; intro A H
 by_cases c11 : ((i : Nat) : Int) < ((list.length : Nat) : Int)
 rw [decide_eq_true c11] at H
 revert A; refine go ?_; intro A H
 obtain ⟨x12, hx12⟩ := get_ex (xs := list) (j := i) (by omega)
 obtain ⟨p13, hi15, hc16, b19, b20, b21, hs18⟩ := at_shProm h_list hx12
 have hbx12 := prK_at g0 hx12
 refine wv H (ix H U31 ti67 hi15) ?_
 clear H A; intro A H
 refine wv H (ls H U67 ti67 (hc16.ext hx7)) ?_
 clear H A; intro A H
 refine we H (op_alloc' rfl ti67 rfl) ?_
 clear H A; rintro _ w25 ⟨rfl, he26, hb27, hz28⟩ A H
 obtain ⟨hx30, _⟩ := nx hx7 he26
 refine ws H (op_sa H ti67 hb27) ?_
 rintro w31 ⟨hb33, hst32, hz34⟩
 obtain ⟨hx35, _⟩ := nb hx30 hst32
 clear hb27
 revert A; refine go ?_; intro A H
 refine fl 1 H U67 ti2 U2 hb33.cells ?_
 clear H A; refine go ?_; intro A H
 by_cases c40 : x12.2.1 ≤ day
 rw [decide_eq_true c40] at H
 revert A; refine go ?_; intro A H
 refine fl 2 H U67 ti2 U2 hb33.cells ?_
 clear H A; intro A H
 refine wv H ((op_add H rfl rfl rfl).int (IntWalk.i64_in _ (by omega))) ?_
 clear H A; refine go ?_; intro A H
 refine wv H ((op_add H rfl rfl rfl).int (IntWalk.i64_in _ (by omega))) ?_
 clear H A; refine go ?_; intro A H
 refine ⟨((i + 1), (m + x12.2.2)), ?_, ?_⟩
 refine ⟨(sl H), hx35, (by omega), (by omega), (by rw [wuG_in hx12 (by assumption), ← hA]), (by omega)⟩
 show (list.length - ((i + 1)) : Nat) < list.length - i; omega
 rw [decide_eq_false c40] at H
 revert A; refine go ?_; intro A H
 refine wv H ((op_add H rfl rfl rfl).int (IntWalk.i64_in _ (by omega))) ?_
 clear H A; refine go ?_; intro A H
 refine ⟨((i + 1), m), ?_, ?_⟩
 refine ⟨(sl H), hx35, (by omega), (by omega), (by rw [wuG_out hx12 (by assumption)]; exact hA), (by omega)⟩
 show (list.length - ((i + 1)) : Nat) < list.length - i; omega
 rw [decide_eq_false c11] at H
 revert A; refine go ?_; intro A H
 refine ret1 H rfl rfl ?_
 clear H A
 exact ret_mk hx7 (int_eq (by rw [hA, List.take_of_length_le (by omega)]))



theorem c_spec_l23Sum (w0 : World) (v_list : Value) (list : List (Str × Int × Int)) {S_list : Nat → Prop} (day : Int) (h_list : Rds shProm S_list w0 v_list list) (g0 : prK list) :
    Calls Tryz.prog 161 #[v_list, .int .i64 day] w0 (Ret w0 (fun v _ => v = .int .i64 (wuG day list))) := by
 refine enter (N := 28) Tryz.func161 rfl rfl rfl ?_
 intro A H
 have hx0 := Ext.rfl' w0
 have hl_list := h_list.length_le
 have hwk := g0.1
 revert A; refine go ?_; intro A H
 refine loop_inv (X := Nat × Int) (fun ⟨i, m⟩ fr wl => Sl 28 fr [(0, v_list), (1, .int .i64 day), (5, .int .i64 m), (6, .int .i64 ((i : Nat) : Int))] ∧ Ext w0 wl ∧ w0.heap.size ≤ wl.heap.size ∧ (i ≤ list.length) ∧ (m = wuG day (list.take i)) ∧ (0 ≤ m ∧ m ≤ 2000 * i)) (fun ⟨i, m⟩ => list.length - i) (0, (0 : Int)) ?_ ?_
 exact ⟨(sl H), hx0, (by omega), (by omega), (by simp [wuG]), (by omega)⟩
 clear H A
 rintro ⟨i, m⟩ A w4 ⟨H, hx5, hzl7, hi, hA, hm⟩
 have hzhx5 := hx5.size
 revert A; refine go ?_; intro A H
 refine wv H (ln H U31 h_list) ?_
 clear H A; refine go ?_; intro A H
 by_cases c12 : ((i : Nat) : Int) < ((list.length : Nat) : Int)
 rw [decide_eq_true c12] at H
 revert A; refine go ?_; intro A H
 obtain ⟨x15, hx15⟩ := get_ex (xs := list) (j := i) (by omega)
 obtain ⟨p16, hi18, hc19, b22, b23, b24, hs21⟩ := at_shProm h_list hx15
 have hbx15 := prK_at g0 hx15
 refine wv H (ix H U31 ti67 hi18) ?_
 clear H A; intro A H
 refine wv H (fa H U67 ti2) ?_
 clear H A; intro A H
 refine wv H (lf 1 H U2 (hc19.ext hx5)) ?_
 clear H A; refine go ?_; intro A H
 by_cases c30 : x15.2.1 ≤ day
 rw [decide_eq_true c30] at H
 revert A; refine go ?_; intro A H
 refine wv H (ix H U31 ti67 hi18) ?_
 clear H A; intro A H
 refine wv H (fa H U67 ti2) ?_
 clear H A; intro A H
 refine wv H (lf 2 H U2 (hc19.ext hx5)) ?_
 clear H A; intro A H
 refine wv H ((op_add H rfl rfl rfl).int (IntWalk.i64_in _ (by omega))) ?_
 clear H A; refine go ?_; intro A H
 refine wv H ((op_add H rfl rfl rfl).int (IntWalk.i64_in _ (by omega))) ?_
 clear H A; refine go ?_; intro A H
 refine ⟨((i + 1), (m + x15.2.2)), ?_, ?_⟩
 refine ⟨(sl H), hx5, (by omega), (by omega), (by rw [wuG_in hx15 (by assumption), ← hA]), (by omega)⟩
 show (list.length - ((i + 1)) : Nat) < list.length - i; omega
 rw [decide_eq_false c30] at H
 revert A; refine go ?_; intro A H
 refine wv H ((op_add H rfl rfl rfl).int (IntWalk.i64_in _ (by omega))) ?_
 clear H A; refine go ?_; intro A H
 refine ⟨((i + 1), m), ?_, ?_⟩
 refine ⟨(sl H), hx5, (by omega), (by omega), (by rw [wuG_out hx15 (by assumption)]; exact hA), (by omega)⟩
 show (list.length - ((i + 1)) : Nat) < list.length - i; omega
 rw [decide_eq_false c12] at H
 revert A; refine go ?_; intro A H
 refine ret1 H rfl rfl ?_
 clear H A
 exact ret_mk hx5 (int_eq (by rw [hA, List.take_of_length_le (by omega)]))



theorem c_impl_firstBreach (w0 : World) (v_list : Value) (list : List (Str × Int × Int)) {S_list : Nat → Prop} (h_list : Rds shProm S_list w0 v_list list) (g0 : prK list) :
    Calls Tryz.prog 119 #[v_list] w0 (Ret w0 (fun v _ => v = .int .i64 (brS list))) := by
 refine enter (N := 34) Tryz.func119 rfl rfl rfl ?_
 intro A H
 have hx0 := Ext.rfl' w0
 have hl_list := h_list.length_le
 have hwk := g0.1
 revert A; refine go ?_; intro A H
 refine wv H (ln H U31 h_list) ?_
 clear H A; refine go ?_; intro A H
 refine loop_inv (X := Nat × Int) (fun ⟨i, f⟩ fr wl => Sl 34 fr [(0, v_list), (3, .int .i64 f), (6, v_list), (7, .int .i64 ((list.length : Nat) : Int)), (8, .int .i64 ((i : Nat) : Int))] ∧ Ext w0 wl ∧ w0.heap.size ≤ wl.heap.size ∧ (i ≤ list.length) ∧ (brG list (list.drop i) f = brS list) ∧ (0 ≤ f ∧ f ≤ 1000)) (fun ⟨i, f⟩ => list.length - i) (0, (0 : Int)) ?_ ?_
 exact ⟨(sl H), hx0, (by omega), (by omega), (by rfl), (by omega)⟩
 clear H A
 rintro ⟨i, f⟩ A w6 ⟨H, hx7, hzl9, hi, hA, hf⟩
 have hzhx7 := hx7.size
 revert A; refine go ?_; intro A H
 by_cases c11 : ((i : Nat) : Int) < ((list.length : Nat) : Int)
 rw [decide_eq_true c11] at H
 revert A; refine go ?_; intro A H
 obtain ⟨x12, hx12⟩ := get_ex (xs := list) (j := i) (by omega)
 obtain ⟨p13, hi15, hc16, b19, b20, b21, hs18⟩ := at_shProm h_list hx12
 have hbx12 := prK_at g0 hx12
 have hwx12 := wuG_k g0 x12.2.1
 refine wv H (ix H U31 ti67 hi15) ?_
 clear H A; intro A H
 refine wv H (ls H U67 ti67 (hc16.ext hx7)) ?_
 clear H A; intro A H
 refine we H (op_alloc' rfl ti67 rfl) ?_
 clear H A; rintro _ w25 ⟨rfl, he26, hb27, hz28⟩ A H
 obtain ⟨hx30, _⟩ := nx hx7 he26
 refine ws H (op_sa H ti67 hb27) ?_
 rintro w31 ⟨hb33, hst32, hz34⟩
 obtain ⟨hx35, _⟩ := nb hx30 hst32
 clear hb27
 revert A; refine go ?_; intro A H
 refine dre Ext follows_mixed ?_
 intro w36 he37 hs39
 obtain ⟨hx38, _⟩ := nx hx35 he37
 replace hb33 := hb33.ext he37
 refine dw 0 H rfl hs39 (op_move H rfl rfl) ?_
 clear H A; intro A H
 refine dw 1 H rfl hs39 (fa H U67 ti2) ?_
 clear H A; intro A H
 refine dv 2 H rfl hs39 (fun w' hw' => lf 1 H U2 (hb33.ext hw').cells) ?_
 clear H A; intro A H
 refine dw 4 H rfl hs39 (fa H U67 ti2) ?_
 clear H A; intro A H
 refine dv 5 H rfl hs39 (fun w' hw' => lf 1 H U2 (hb33.ext hw').cells) ?_
 clear H A; intro A H
 refine dw 6 H rfl hs39 ((op_mul H rfl rfl rfl).int (IntWalk.i64_in _ (by omega))) ?_
 clear H A; intro A H
 refine dr_one (i := 3) (by kernel_rfl) ?_
 refine pc H cb143 rfl (c_impl_workUntil _ v_list list x12.2.1 (h_list.ext pos_shProm (hx38.trans' hs39)) gd) ?_
 clear H A; rintro v46 w47 he48 rfl A H
 have hs50 := hs39.trans' he48
 obtain ⟨hx51, _⟩ := nx hx38 he48
 refine ⟨hs50, ?_⟩
 revert A; refine dgo [7, 8] hs50 ?_; intro A H
 by_cases c54 : ((420 : Int) * x12.2.1) < (wuG x12.2.1 list : Int)
 rw [decide_eq_true c54] at H
 revert A; refine dgo [9, 10, 11] hs50 ?_; intro A H
 by_cases c58 : f = (0 : Int)
 rw [decide_eq_true c58] at H
 revert A; refine dgo [12, 13, 14, 15, 16, 17] hs50 ?_; intro A H
 refine dr_end (by kernel_rfl) ?_
 replace hb33 := hb33.ext hs50
 revert A; refine go ?_; intro A H
 refine fl 1 H U67 ti2 U2 hb33.cells ?_
 clear H A; refine go ?_; intro A H
 refine wv H ((op_add H rfl rfl rfl).int (IntWalk.i64_in _ (by omega))) ?_
 clear H A; refine go ?_; intro A H
 refine ⟨((i + 1), x12.2.1), ?_, ?_⟩
 refine ⟨(sl H), hx51, (by omega), (by omega), (by rw [← hA]; symm; exact brG_cons hx12 (by unfold brT; (rw [if_pos (by omega), if_pos (by omega)]; done))), (by omega)⟩
 show (list.length - ((i + 1)) : Nat) < list.length - i; omega
 rw [decide_eq_false c58] at H
 refine dw 12 H rfl hs50 (fa H U67 ti2) ?_
 clear H A; intro A H
 refine dv 13 H rfl hs50 (fun w' hw' => lf 1 H U2 (hb33.ext hw').cells) ?_
 clear H A; refine dgo [14, 15, 16, 17] hs50 ?_; intro A H
 refine dr_end (by kernel_rfl) ?_
 replace hb33 := hb33.ext hs50
 refine then_n ?_
 by_cases c76 : x12.2.1 < f
 rw [decide_eq_true c76] at H
 revert A; refine go ?_; intro A H
 refine fl 1 H U67 ti2 U2 hb33.cells ?_
 clear H A; refine go ?_; intro A H
 refine wv H ((op_add H rfl rfl rfl).int (IntWalk.i64_in _ (by omega))) ?_
 clear H A; refine go ?_; intro A H
 refine ⟨((i + 1), x12.2.1), ?_, ?_⟩
 refine ⟨(sl H), hx51, (by omega), (by omega), (by rw [← hA]; symm; exact brG_cons hx12 (by unfold brT; (rw [if_pos (by omega), if_pos (by omega)]; done))), (by omega)⟩
 show (list.length - ((i + 1)) : Nat) < list.length - i; omega
 rw [decide_eq_false c76] at H
 revert A; refine go ?_; intro A H
 refine wv H ((op_add H rfl rfl rfl).int (IntWalk.i64_in _ (by omega))) ?_
 clear H A; refine go ?_; intro A H
 refine ⟨((i + 1), f), ?_, ?_⟩
 refine ⟨(sl H), hx51, (by omega), (by omega), (by rw [← hA]; symm; exact brG_cons hx12 (by unfold brT; (rw [if_pos (by omega), if_neg (by omega)]; done))), (by omega)⟩
 show (list.length - ((i + 1)) : Nat) < list.length - i; omega
 rw [decide_eq_false c54] at H
 revert A; refine dgo [9, 10, 11, 12, 13, 14, 15, 16, 17] hs50 ?_; intro A H
 refine dr_end (by kernel_rfl) ?_
 replace hb33 := hb33.ext hs50
 revert A; refine go ?_; intro A H
 refine wv H ((op_add H rfl rfl rfl).int (IntWalk.i64_in _ (by omega))) ?_
 clear H A; refine go ?_; intro A H
 refine ⟨((i + 1), f), ?_, ?_⟩
 refine ⟨(sl H), hx51, (by omega), (by omega), (by rw [← hA]; symm; exact brG_cons hx12 (by unfold brT; (rw [if_neg (by omega)]; done))), (by omega)⟩
 show (list.length - ((i + 1)) : Nat) < list.length - i; omega
 rw [decide_eq_false c11] at H
 revert A; refine go ?_; intro A H
 refine ret1 H rfl rfl ?_
 clear H A
 exact ret_mk hx7 (int_eq (by rw [drop_nil (by omega), brG] at hA; exact hA))



theorem c_spec_l23Breach (w0 : World) (v_list : Value) (list : List (Str × Int × Int)) {S_list : Nat → Prop} (h_list : Rds shProm S_list w0 v_list list) (g0 : prK list) :
    Calls Tryz.prog 150 #[v_list] w0 (Ret w0 (fun v _ => v = .int .i64 (brS list))) := by
 refine enter (N := 34) Tryz.func150 rfl rfl rfl ?_
 intro A H
 have hx0 := Ext.rfl' w0
 have hl_list := h_list.length_le
 have hwk := g0.1
 revert A; refine go ?_; intro A H
 refine loop_inv (X := Nat × Int) (fun ⟨i, f⟩ fr wl => Sl 34 fr [(0, v_list), (3, .int .i64 f), (4, .int .i64 ((i : Nat) : Int))] ∧ Ext w0 wl ∧ w0.heap.size ≤ wl.heap.size ∧ (i ≤ list.length) ∧ (brG list (list.drop i) f = brS list) ∧ (0 ≤ f ∧ f ≤ 1000)) (fun ⟨i, f⟩ => list.length - i) (0, (0 : Int)) ?_ ?_
 exact ⟨(sl H), hx0, (by omega), (by omega), (by rfl), (by omega)⟩
 clear H A
 rintro ⟨i, f⟩ A w4 ⟨H, hx5, hzl7, hi, hA, hf⟩
 have hzhx5 := hx5.size
 revert A; refine go ?_; intro A H
 refine wv H (ln H U31 h_list) ?_
 clear H A; refine go ?_; intro A H
 by_cases c12 : ((i : Nat) : Int) < ((list.length : Nat) : Int)
 rw [decide_eq_true c12] at H
 revert A; refine go ?_; intro A H
 obtain ⟨x15, hx15⟩ := get_ex (xs := list) (j := i) (by omega)
 obtain ⟨p16, hi18, hc19, b22, b23, b24, hs21⟩ := at_shProm h_list hx15
 have hbx15 := prK_at g0 hx15
 have hwx15 := wuG_k g0 x15.2.1
 refine wv H (ix H U31 ti67 hi18) ?_
 clear H A; intro A H
 refine wv H (fa H U67 ti2) ?_
 clear H A; intro A H
 refine wv H (lf 1 H U2 (hc19.ext hx5)) ?_
 clear H A; refine go ?_; intro A H
 refine wc H cb161 (c_spec_l23Sum _ v_list list x15.2.1 (h_list.ext pos_shProm hx5) gd) ?_
 clear H A; rintro v31 w32 he33 rfl A H
 obtain ⟨hx35, _⟩ := nx hx5 he33
 refine wv H (op_move H rfl rfl) ?_
 clear H A; intro A H
 refine wv H ((op_mul H rfl rfl rfl).int (IntWalk.i64_in _ (by omega))) ?_
 clear H A; refine go ?_; intro A H
 by_cases c40 : ((420 : Int) * x15.2.1) < (wuG x15.2.1 list : Int)
 rw [decide_eq_true c40] at H
 revert A; refine go ?_; intro A H
 by_cases c44 : f = (0 : Int)
 rw [decide_eq_true c44] at H
 revert A; refine go ?_; intro A H
 refine wv H ((op_add H rfl rfl rfl).int (IntWalk.i64_in _ (by omega))) ?_
 clear H A; refine go ?_; intro A H
 refine ⟨((i + 1), x15.2.1), ?_, ?_⟩
 refine ⟨(sl H), hx35, (by omega), (by omega), (by rw [← hA]; symm; exact brG_cons hx15 (by unfold brT; (rw [if_pos (by omega), if_pos (by omega)]; done))), (by omega)⟩
 show (list.length - ((i + 1)) : Nat) < list.length - i; omega
 rw [decide_eq_false c44] at H
 revert A; refine go ?_; intro A H
 by_cases c60 : x15.2.1 < f
 rw [decide_eq_true c60] at H
 revert A; refine go ?_; intro A H
 refine wv H ((op_add H rfl rfl rfl).int (IntWalk.i64_in _ (by omega))) ?_
 clear H A; refine go ?_; intro A H
 refine ⟨((i + 1), x15.2.1), ?_, ?_⟩
 refine ⟨(sl H), hx35, (by omega), (by omega), (by rw [← hA]; symm; exact brG_cons hx15 (by unfold brT; (rw [if_pos (by omega), if_pos (by omega)]; done))), (by omega)⟩
 show (list.length - ((i + 1)) : Nat) < list.length - i; omega
 rw [decide_eq_false c60] at H
 revert A; refine go ?_; intro A H
 refine wv H ((op_add H rfl rfl rfl).int (IntWalk.i64_in _ (by omega))) ?_
 clear H A; refine go ?_; intro A H
 refine ⟨((i + 1), f), ?_, ?_⟩
 refine ⟨(sl H), hx35, (by omega), (by omega), (by rw [← hA]; symm; exact brG_cons hx15 (by unfold brT; (rw [if_pos (by omega), if_neg (by omega)]; done))), (by omega)⟩
 show (list.length - ((i + 1)) : Nat) < list.length - i; omega
 rw [decide_eq_false c40] at H
 revert A; refine go ?_; intro A H
 refine wv H ((op_add H rfl rfl rfl).int (IntWalk.i64_in _ (by omega))) ?_
 clear H A; refine go ?_; intro A H
 refine ⟨((i + 1), f), ?_, ?_⟩
 refine ⟨(sl H), hx35, (by omega), (by omega), (by rw [← hA]; symm; exact brG_cons hx15 (by unfold brT; (rw [if_neg (by omega)]; done))), (by omega)⟩
 show (list.length - ((i + 1)) : Nat) < list.length - i; omega
 rw [decide_eq_false c12] at H
 revert A; refine go ?_; intro A H
 refine ret1 H rfl rfl ?_
 clear H A
 exact ret_mk hx5 (int_eq (by rw [drop_nil (by omega), brG] at hA; exact hA))




end Go.Proofs.YthbehhhblchhhaaGreat
