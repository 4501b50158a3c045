/- Stocks, promises, desks. -/
import Derived.Test.YthbehhhblchhhaaGreatW2
namespace Go.Proofs.YthbehhhblchhhaaGreat
open Go Go.RowKit
set_option maxHeartbeats 16000000

abbrev Bin : Type := Str × Int × Int × Int × Int
abbrev Prom : Type := Str × Int × Int
def binB (b : Bin) : Bool := ((((wordB b.1 && (decide (0 ≤ b.2.1) && decide (b.2.1 ≤ 100000))) && (decide (0 ≤ b.2.2.1) && decide (b.2.2.1 ≤ b.2.1))) && (decide (0 ≤ b.2.2.2.1) && decide (b.2.2.2.1 ≤ 100000))) && (decide (1 ≤ b.2.2.2.2) && decide (b.2.2.2.2 ≤ 100000)))
def stPrev : Option Bin → Bin → Bool
  | none, _ => true
  | some a, b => decide (a.1 < b.1)
def stAt (xs : List Bin) (i : Nat) : Bool := match xs[i]? with
  | none => false
  | some b => binB b && (decide (i = 0) || stPrev xs[i - 1]? b)
/-- Is it a stock? -/
def stB (xs : List Bin) : Bool := decide (xs.length ≤ 20) && upB (stAt xs) xs.length
theorem stAt_eq {xs : List Bin} {i : Nat} {b : Bin} (h : xs[i]? = some b) : stAt xs i = (binB b && (decide (i = 0) || stPrev xs[i - 1]? b)) := by unfold stAt; rw [h]
theorem stAt_ok {xs : List Bin} {i : Nat} {b : Bin} (h : xs[i]? = some b) (h1 : binB b = true) (h2 : i = 0 ∨ ∃ a, xs[i - 1]? = some a ∧ a.1 < b.1) : stAt xs i = true := by
  rw [stAt_eq h, h1]
  rcases h2 with h2 | ⟨a, ha, h3⟩
  · simp [h2]
  · rw [ha]; simp [stPrev, h3]
theorem stAt_no {xs : List Bin} {i : Nat} {b : Bin} (h : xs[i]? = some b) (h1 : binB b = false ∨ (0 < i ∧ ∃ a, xs[i - 1]? = some a ∧ ¬ a.1 < b.1)) : stAt xs i = false := by
  rw [stAt_eq h]
  rcases h1 with h1 | ⟨hi, a, ha, h2⟩
  · rw [h1, Bool.false_and]
  · have e2 : decide (i = 0) = false := by simp; omega
    rw [ha, e2]; simp [stPrev, h2]
theorem stB_no {xs : List Bin} {i : Nat} {b : Bin} (h : xs[i]? = some b) (h1 : stAt xs i = false) : stB xs = false := by unfold stB; rw [upB_bad (List.getElem?_eq_some_iff.1 h).1 h1, Bool.and_false]
theorem stB_big {xs : List Bin} (h : 20 < xs.length) : stB xs = false := by unfold stB; rw [decide_eq_false (by omega), Bool.false_and]
theorem stB_up {xs : List Bin} (h : upB (stAt xs) xs.length = true) : stB xs = decide (xs.length ≤ 20) := by unfold stB; rw [h, Bool.and_true]
def prB (p : Prom) : Bool := (wordB p.1 && (decide (1 ≤ p.2.1) && decide (p.2.1 ≤ 1000))) && (decide (1 ≤ p.2.2) && decide (p.2.2 ≤ 2000))
def pnB (n : Str) (p : Prom) : Bool := decide (p.1 = n)
def prAt (xs : List Prom) (i : Nat) : Bool := match xs[i]? with
  | none => false
  | some p => prB p && decide (fdF (pnB p.1) (xs.take i) < 0)
/-- Are these promises? -/
def prsB (xs : List Prom) : Bool := decide (xs.length ≤ 40) && upB (prAt xs) xs.length
theorem prAt_eq {xs : List Prom} {i : Nat} {p : Prom} (h : xs[i]? = some p) : prAt xs i = (prB p && decide (fdF (pnB p.1) (xs.take i) < 0)) := by unfold prAt; rw [h]
theorem prAt_ok {xs : List Prom} {i : Nat} {p : Prom} (h : xs[i]? = some p) (h1 : prB p = true) (h2 : fdF (pnB p.1) (xs.take i) < 0) : prAt xs i = true := by rw [prAt_eq h, h1, decide_eq_true h2]; rfl
theorem prAt_no {xs : List Prom} {i : Nat} {p : Prom} (h : xs[i]? = some p) (h1 : prB p = false ∨ ¬ fdF (pnB p.1) (xs.take i) < 0) : prAt xs i = false := by
  rw [prAt_eq h]; rcases h1 with h1 | h1
  · rw [h1, Bool.false_and]
  · rw [decide_eq_false h1, Bool.and_false]
theorem prsB_no {xs : List Prom} {i : Nat} {p : Prom} (h : xs[i]? = some p) (h1 : prAt xs i = false) : prsB xs = false := by unfold prsB; rw [upB_bad (List.getElem?_eq_some_iff.1 h).1 h1, Bool.and_false]
theorem prsB_big {xs : List Prom} (h : 40 < xs.length) : prsB xs = false := by unfold prsB; rw [decide_eq_false (by omega), Bool.false_and]
theorem prsB_up {xs : List Prom} (h : upB (prAt xs) xs.length = true) : prsB xs = decide (xs.length ≤ 40) := by unfold prsB; rw [h, Bool.and_true]
theorem fd_here {α : Type} {p : α → Bool} {xs : List α} {i : Nat} {x : α} (hx : xs[i]? = some x) (hp : p x = true) : fdF p xs = (i : Int) ↔ fdF p (xs.take i) < 0 := by
  constructor
  · intro e
    refine fdF_neg.2 fun y hy => ?_
    obtain ⟨j, hj⟩ := List.getElem?_of_mem hy
    rw [List.getElem?_take] at hj
    split at hj
    · exact (fdF_at (p := p) (xs := xs) (by omega)).2 j y (by omega) hj
    · cases hj
  · intro h
    refine fdF_hit hx hp fun j y hj hy => ?_
    refine fdF_neg.1 h y (List.mem_of_getElem? (i := j) ?_)
    rw [List.getElem?_take, if_pos hj]; exact hy
def deskB (d : List Bin × List Prom × List Ent) : Bool := (stB d.1 && prsB d.2.1) && dbB d.2.2

theorem c_spec_IsStock (w0 : World) (v_list : Value) (list : List (Str × Int × Int × Int × Int)) {S_list : Nat → Prop} (h_list : Rds shBin S_list w0 v_list list) :
    Calls Tryz.prog 56 #[v_list] w0 (Ret w0 (fun v _ => v = .bool (stB list))) := by
 refine enter (N := 61) Tryz.func56 rfl rfl rfl ?_
 intro A H
 have hx0 := Ext.rfl' w0
 have hl_list := h_list.length_le
 revert A; refine go ?_; intro A H
 refine loop_inv (X := Nat) (fun i fr wl => Sl 61 fr [(0, v_list), (3, .int .i64 ((i : Nat) : Int))] ∧ Ext w0 wl ∧ w0.heap.size ≤ wl.heap.size ∧ (i ≤ list.length) ∧ (upB (stAt list) i = true)) (fun i => list.length - i) (0) ?_ ?_
 exact ⟨(sl H), hx0, (by omega), (by omega), (by rfl)⟩
 clear H A
 rintro i A w3 ⟨H, hx4, hzl6, hi, hA⟩
 have hzhx4 := hx4.size
 revert A; refine go ?_; intro A H
 refine wv H (ln H U30 h_list) ?_
 clear H A; refine go ?_; intro A H
 by_cases c11 : ((i : Nat) : Int) < ((list.length : Nat) : Int)
 rw [decide_eq_true c11] at H
 revert A; refine go ?_; intro A H
 obtain ⟨x14, hx14⟩ := get_ex (xs := list) (j := i) (by omega)
 obtain ⟨p15, hi17, hc18, b21, b22, b23, b24, b25, hs20⟩ := at_shBin h_list hx14
 refine wv H (ix H U30 ti65 hi17) ?_
 clear H A; intro A H
 refine wv H (ls H U65 ti65 (hc18.ext hx4)) ?_
 clear H A; intro A H
 refine we H (op_alloc' rfl ti65 rfl) ?_
 clear H A; rintro _ w29 ⟨rfl, he30, hb31, hz32⟩ A H
 obtain ⟨hx34, _⟩ := nx hx4 he30
 refine ws H (op_sa H ti65 hb31) ?_
 rintro w35 ⟨hb37, hst36, hz38⟩
 obtain ⟨hx39, _⟩ := nb hx34 hst36
 clear hb31
 revert A; refine go ?_; intro A H
 refine fl 0 H U65 ti9 U9 hb37.cells ?_
 clear H A; intro A H
 refine wc H cb86 (c_spec_IsWord _ x14.1 gd) ?_
 clear H A; rintro v42 w43 he44 rfl A H
 obtain ⟨hx46, _⟩ := nx hx39 he44
 replace hb37 := hb37.ext he44
 revert A; refine go ?_; intro A H
 rcases Bool.eq_false_or_eq_true (wordB x14.1) with c49 | c49
 rw [c49] at H
 refine fl 1 H U65 ti2 U2 hb37.cells ?_
 clear H A; intro A H
 refine wc H cb87 (c_spec_l01In _ x14.2.1 (0 : Int) (100000 : Int) ) ?_
 clear H A; rintro v52 w53 he54 rfl A H
 obtain ⟨hx56, _⟩ := nx hx46 he54
 replace hb37 := hb37.ext he54
 revert A; refine go ?_; intro A H
 rcases Bool.eq_false_or_eq_true (decide ((0 : Int) ≤ x14.2.1) && decide (x14.2.1 ≤ (100000 : Int))) with c60 | c60
 rw [c60] at H
 refine fl 2 H U65 ti2 U2 hb37.cells ?_
 clear H A; intro A H
 refine fl 1 H U65 ti2 U2 hb37.cells ?_
 clear H A; intro A H
 refine wc H cb87 (c_spec_l01In _ x14.2.2.1 (0 : Int) x14.2.1 ) ?_
 clear H A; rintro v65 w66 he67 rfl A H
 obtain ⟨hx69, _⟩ := nx hx56 he67
 replace hb37 := hb37.ext he67
 revert A; refine go ?_; intro A H
 rcases Bool.eq_false_or_eq_true (decide ((0 : Int) ≤ x14.2.2.1) && decide (x14.2.2.1 ≤ x14.2.1)) with c73 | c73
 rw [c73] at H
 refine fl 3 H U65 ti2 U2 hb37.cells ?_
 clear H A; intro A H
 refine wc H cb87 (c_spec_l01In _ x14.2.2.2.1 (0 : Int) (100000 : Int) ) ?_
 clear H A; rintro v76 w77 he78 rfl A H
 obtain ⟨hx80, _⟩ := nx hx69 he78
 replace hb37 := hb37.ext he78
 revert A; refine go ?_; intro A H
 rcases Bool.eq_false_or_eq_true (decide ((0 : Int) ≤ x14.2.2.2.1) && decide (x14.2.2.2.1 ≤ (100000 : Int))) with c84 | c84
 rw [c84] at H
 refine fl 4 H U65 ti2 U2 hb37.cells ?_
 clear H A; intro A H
 refine wc H cb87 (c_spec_l01In _ x14.2.2.2.2 (1 : Int) (100000 : Int) ) ?_
 clear H A; rintro v87 w88 he89 rfl A H
 obtain ⟨hx91, _⟩ := nx hx80 he89
 replace hb37 := hb37.ext he89
 revert A; refine go ?_; intro A H
 rcases Bool.eq_false_or_eq_true (decide ((1 : Int) ≤ x14.2.2.2.2) && decide (x14.2.2.2.2 ≤ (100000 : Int))) with c94 | c94
 rw [c94] at H
 revert A; refine go ?_; intro A H
 refine dre Ext follows_mixed ?_
 intro w95 he96 hs98
 obtain ⟨hx97, _⟩ := nx hx91 he96
 replace hb37 := hb37.ext he96
 revert A; refine dgo [0, 1, 2] hs98 ?_; intro A H
 by_cases c102 : (0 : Int) < ((i : Nat) : Int)
 rw [decide_eq_true c102] at H
 revert A; refine dgo [3, 4] hs98 ?_; intro A H
 refine dw 5 H rfl hs98 ((op_sub H rfl rfl rfl).int (IntWalk.i64_in _ (by omega))) ?_
 clear H A; intro A H
 obtain ⟨x106, hx106⟩ := get_ex (xs := list) (j := (i - 1)) (by omega)
 obtain ⟨p107, hi109, hc110, b113, b114, b115, b116, b117, hs112⟩ := at_shBin h_list hx106
 refine dw 6 H rfl hs98 (ix H U30 ti65 hi109) ?_
 clear H A; intro A H
 refine dw 7 H rfl hs98 (fa H U65 ti9) ?_
 clear H A; intro A H
 refine dv 8 H rfl hs98 (fun w' hw' => lf 0 H U9 (hc110.ext (hx97.trans' hw'))) ?_
 clear H A; intro A H
 refine dw 9 H rfl hs98 (fa H U65 ti9) ?_
 clear H A; intro A H
 refine dv 10 H rfl hs98 (fun w' hw' => lf 0 H U9 (hb37.ext hw').cells) ?_
 clear H A; intro A H
 refine dv 11 H rfl hs98 (fun w' hw' => (op_sgeq H rfl rfl rfl).to (congrArg (fun b => Value.bool (!b)) (bytesLess_lt _ _))) ?_
 clear H A; intro A H
 refine dw 12 H rfl hs98 (op_pick_t H rfl rfl rfl) ?_
 clear H A; intro A H
 refine dr_end (by kernel_rfl) ?_
 replace hb37 := hb37.ext hs98
 refine then_n ?_
 by_cases c125 : x106.1 < x14.1
 rw [decide_eq_true c125] at H
 revert A; refine go ?_; intro A H
 refine wv H ((op_add H rfl rfl rfl).int (IntWalk.i64_in _ (by omega))) ?_
 clear H A; refine go ?_; intro A H
 refine ⟨((i + 1)), ?_, ?_⟩
 refine ⟨(sl H), hx97, (by omega), (by omega), (by exact upB_step hA (stAt_ok hx14 (by simp [binB, c49, c60, c73, c84, c94]) (by right; exact ⟨_, hx106, by assumption⟩)))⟩
 show (list.length - ((i + 1)) : Nat) < list.length - i; omega
 rw [decide_eq_false c125] at H
 revert A; refine go ?_; intro A H
 refine ret1 H rfl rfl ?_
 clear H A
 exact ret_mk hx97 (congrArg Value.bool (by rw [stB_no hx14 (stAt_no hx14 (by right; exact ⟨by omega, _, hx106, by assumption⟩))]))
 rw [decide_eq_false c102] at H
 revert A; refine dgo [3, 4, 5, 6, 7, 8, 9, 10, 11, 12] hs98 ?_; intro A H
 refine dr_end (by kernel_rfl) ?_
 replace hb37 := hb37.ext hs98
 revert A; refine go ?_; intro A H
 refine wv H ((op_add H rfl rfl rfl).int (IntWalk.i64_in _ (by omega))) ?_
 clear H A; refine go ?_; intro A H
 refine ⟨((i + 1)), ?_, ?_⟩
 refine ⟨(sl H), hx97, (by omega), (by omega), (by exact upB_step hA (stAt_ok hx14 (by simp [binB, c49, c60, c73, c84, c94]) (by left; omega)))⟩
 show (list.length - ((i + 1)) : Nat) < list.length - i; omega
 rw [c94] at H
 revert A; refine go ?_; intro A H
 refine ret1 H rfl rfl ?_
 clear H A
 exact ret_mk hx91 (congrArg Value.bool (by rw [stB_no hx14 (stAt_no hx14 (by left; first | (simp [binB, c49, c60, c73, c84, c94]; done) | (simp_all [binB]; done)))]))
 rw [c84] at H
 revert A; refine go ?_; intro A H
 refine ret1 H rfl rfl ?_
 clear H A
 exact ret_mk hx80 (congrArg Value.bool (by rw [stB_no hx14 (stAt_no hx14 (by left; first | (simp [binB, c49, c60, c73, c84]; done) | (simp_all [binB]; done)))]))
 rw [c73] at H
 revert A; refine go ?_; intro A H
 refine ret1 H rfl rfl ?_
 clear H A
 exact ret_mk hx69 (congrArg Value.bool (by rw [stB_no hx14 (stAt_no hx14 (by left; first | (simp [binB, c49, c60, c73]; done) | (simp_all [binB]; done)))]))
 rw [c60] at H
 revert A; refine go ?_; intro A H
 refine ret1 H rfl rfl ?_
 clear H A
 exact ret_mk hx56 (congrArg Value.bool (by rw [stB_no hx14 (stAt_no hx14 (by left; first | (simp [binB, c49, c60]; done) | (simp_all [binB]; done)))]))
 rw [c49] at H
 revert A; refine go ?_; intro A H
 refine ret1 H rfl rfl ?_
 clear H A
 exact ret_mk hx46 (congrArg Value.bool (by rw [stB_no hx14 (stAt_no hx14 (by left; first | (simp [binB, c49]; done) | (simp_all [binB]; done)))]))
 rw [decide_eq_false c11] at H
 revert A; refine go ?_; intro A H
 refine wv H (ln H U30 h_list) ?_
 clear H A; refine go ?_; intro A H
 refine ret1 H rfl rfl ?_
 clear H A
 exact ret_mk hx4 (congrArg Value.bool (by have e : i = list.length := (by omega); rw [e] at hA; rw [stB_up hA]; (rw [Bool.eq_iff_iff]; simp; omega)))



theorem c_impl_IsStock (w0 : World) (v_list : Value) (list : List (Str × Int × Int × Int × Int)) {S_list : Nat → Prop} (h_list : Rds shBin S_list w0 v_list list) :
    Calls Tryz.prog 53 #[v_list] w0 (Ret w0 (fun v _ => v = .bool (stB list))) := by
 refine enter (N := 59) Tryz.func53 rfl rfl rfl ?_
 intro A H
 have hx0 := Ext.rfl' w0
 have hl_list := h_list.length_le
 revert A; refine go ?_; intro A H
 refine wv H (ln H U30 h_list) ?_
 clear H A; refine go ?_; intro A H
 by_cases c5 : (20 : Int) < ((list.length : Nat) : Int)
 rw [decide_eq_true c5] at H
 revert A; refine go ?_; intro A H
 refine ret1 H rfl rfl ?_
 clear H A
 exact ret_mk hx0 (congrArg Value.bool (by rw [stB_big (by omega)]))
 rw [decide_eq_false c5] at H
 revert A; refine go ?_; intro A H
 refine wv H (ln H U30 h_list) ?_
 clear H A; refine go ?_; intro A H
 refine loop_inv (X := Nat) (fun i fr wl => Sl 59 fr [(0, v_list), (8, v_list), (9, .int .i64 ((list.length : Nat) : Int)), (10, .int .i64 ((i : Nat) : Int))] ∧ Ext w0 wl ∧ w0.heap.size ≤ wl.heap.size ∧ (i ≤ list.length) ∧ (upB (stAt list) i = true) ∧ (list.length ≤ 20)) (fun i => list.length - i) (0) ?_ ?_
 exact ⟨(sl H), hx0, (by omega), (by omega), (by rfl), (by omega)⟩
 clear H A
 rintro i A w10 ⟨H, hx11, hzl13, hi, hA, hn⟩
 have hzhx11 := hx11.size
 revert A; refine go ?_; intro A H
 by_cases c15 : ((i : Nat) : Int) < ((list.length : Nat) : Int)
 rw [decide_eq_true c15] at H
 revert A; refine go ?_; intro A H
 obtain ⟨x17, hx17⟩ := get_ex (xs := list) (j := i) (by omega)
 obtain ⟨p18, hi20, hc21, b24, b25, b26, b27, b28, hs23⟩ := at_shBin h_list hx17
 refine wv H (ix H U30 ti65 hi20) ?_
 clear H A; intro A H
 refine wv H (ls H U65 ti65 (hc21.ext hx11)) ?_
 clear H A; intro A H
 refine we H (op_alloc' rfl ti65 rfl) ?_
 clear H A; rintro _ w32 ⟨rfl, he33, hb34, hz35⟩ A H
 obtain ⟨hx37, _⟩ := nx hx11 he33
 refine wv H (op_assign H rfl rfl) ?_
 clear H A; intro A H
 refine ws H (op_sa H ti65 hb34) ?_
 rintro w39 ⟨hb41, hst40, hz42⟩
 obtain ⟨hx43, _⟩ := nb hx37 hst40
 clear hb34
 revert A; refine go ?_; intro A H
 refine fl 0 H U65 ti9 U9 hb41.cells ?_
 clear H A; intro A H
 refine wc H cb80 (c_impl_IsWord _ x17.1 gd) ?_
 clear H A; rintro v46 w47 he48 rfl A H
 obtain ⟨hx50, _⟩ := nx hx43 he48
 replace hb41 := hb41.ext he48
 revert A; refine go ?_; intro A H
 rcases Bool.eq_false_or_eq_true (wordB x17.1) with c53 | c53
 rw [c53] at H
 refine fl 1 H U65 ti2 U2 hb41.cells ?_
 clear H A; intro A H
 refine wc H cb81 (c_impl_within _ x17.2.1 (0 : Int) (100000 : Int) ) ?_
 clear H A; rintro v56 w57 he58 rfl A H
 obtain ⟨hx60, _⟩ := nx hx50 he58
 replace hb41 := hb41.ext he58
 revert A; refine go ?_; intro A H
 rcases Bool.eq_false_or_eq_true (decide ((0 : Int) ≤ x17.2.1) && decide (x17.2.1 ≤ (100000 : Int))) with c64 | c64
 rw [c64] at H
 refine fl 2 H U65 ti2 U2 hb41.cells ?_
 clear H A; intro A H
 refine fl 1 H U65 ti2 U2 hb41.cells ?_
 clear H A; intro A H
 refine wc H cb81 (c_impl_within _ x17.2.2.1 (0 : Int) x17.2.1 ) ?_
 clear H A; rintro v69 w70 he71 rfl A H
 obtain ⟨hx73, _⟩ := nx hx60 he71
 replace hb41 := hb41.ext he71
 revert A; refine go ?_; intro A H
 rcases Bool.eq_false_or_eq_true (decide ((0 : Int) ≤ x17.2.2.1) && decide (x17.2.2.1 ≤ x17.2.1)) with c77 | c77
 rw [c77] at H
 refine fl 3 H U65 ti2 U2 hb41.cells ?_
 clear H A; intro A H
 refine wc H cb81 (c_impl_within _ x17.2.2.2.1 (0 : Int) (100000 : Int) ) ?_
 clear H A; rintro v80 w81 he82 rfl A H
 obtain ⟨hx84, _⟩ := nx hx73 he82
 replace hb41 := hb41.ext he82
 revert A; refine go ?_; intro A H
 rcases Bool.eq_false_or_eq_true (decide ((0 : Int) ≤ x17.2.2.2.1) && decide (x17.2.2.2.1 ≤ (100000 : Int))) with c88 | c88
 rw [c88] at H
 refine fl 4 H U65 ti2 U2 hb41.cells ?_
 clear H A; intro A H
 refine wc H cb81 (c_impl_within _ x17.2.2.2.2 (1 : Int) (100000 : Int) ) ?_
 clear H A; rintro v91 w92 he93 rfl A H
 obtain ⟨hx95, _⟩ := nx hx84 he93
 replace hb41 := hb41.ext he93
 revert A; refine go ?_; intro A H
 rcases Bool.eq_false_or_eq_true (decide ((1 : Int) ≤ x17.2.2.2.2) && decide (x17.2.2.2.2 ≤ (100000 : Int))) with c98 | c98
 rw [c98] at H
 revert A; refine go ?_; intro A H
 refine dre Ext follows_mixed ?_
 intro w99 he100 hs102
 obtain ⟨hx101, _⟩ := nx hx95 he100
 replace hb41 := hb41.ext he100
 revert A; refine dgo [0, 1, 2] hs102 ?_; intro A H
 by_cases c106 : (0 : Int) < ((i : Nat) : Int)
 rw [decide_eq_true c106] at H
 revert A; refine dgo [3, 4] hs102 ?_; intro A H
 refine dw 5 H rfl hs102 ((op_sub H rfl rfl rfl).int (IntWalk.i64_in _ (by omega))) ?_
 clear H A; intro A H
 obtain ⟨x110, hx110⟩ := get_ex (xs := list) (j := (i - 1)) (by omega)
 obtain ⟨p111, hi113, hc114, b117, b118, b119, b120, b121, hs116⟩ := at_shBin h_list hx110
 refine dw 6 H rfl hs102 (ix H U30 ti65 hi113) ?_
 clear H A; intro A H
 refine dw 7 H rfl hs102 (fa H U65 ti9) ?_
 clear H A; intro A H
 refine dv 8 H rfl hs102 (fun w' hw' => lf 0 H U9 (hc114.ext (hx101.trans' hw'))) ?_
 clear H A; intro A H
 refine dw 9 H rfl hs102 (fa H U65 ti9) ?_
 clear H A; intro A H
 refine dv 10 H rfl hs102 (fun w' hw' => lf 0 H U9 (hb41.ext hw').cells) ?_
 clear H A; intro A H
 refine dv 11 H rfl hs102 (fun w' hw' => (op_sgeq H rfl rfl rfl).to (congrArg (fun b => Value.bool (!b)) (bytesLess_lt _ _))) ?_
 clear H A; intro A H
 refine dw 12 H rfl hs102 (op_pick_t H rfl rfl rfl) ?_
 clear H A; intro A H
 refine dr_end (by kernel_rfl) ?_
 replace hb41 := hb41.ext hs102
 refine then_n ?_
 by_cases c129 : x110.1 < x17.1
 rw [decide_eq_true c129] at H
 revert A; refine go ?_; intro A H
 refine wv H ((op_add H rfl rfl rfl).int (IntWalk.i64_in _ (by omega))) ?_
 clear H A; refine go ?_; intro A H
 refine ⟨((i + 1)), ?_, ?_⟩
 refine ⟨(sl H), hx101, (by omega), (by omega), (by exact upB_step hA (stAt_ok hx17 (by simp [binB, c53, c64, c77, c88, c98]) (by right; exact ⟨_, hx110, by assumption⟩))), (by omega)⟩
 show (list.length - ((i + 1)) : Nat) < list.length - i; omega
 rw [decide_eq_false c129] at H
 revert A; refine go ?_; intro A H
 refine ret1 H rfl rfl ?_
 clear H A
 exact ret_mk hx101 (congrArg Value.bool (by rw [stB_no hx17 (stAt_no hx17 (by right; exact ⟨by omega, _, hx110, by assumption⟩))]))
 rw [decide_eq_false c106] at H
 revert A; refine dgo [3, 4, 5, 6, 7, 8, 9, 10, 11, 12] hs102 ?_; intro A H
 refine dr_end (by kernel_rfl) ?_
 replace hb41 := hb41.ext hs102
 revert A; refine go ?_; intro A H
 refine wv H ((op_add H rfl rfl rfl).int (IntWalk.i64_in _ (by omega))) ?_
 clear H A; refine go ?_; intro A H
 refine ⟨((i + 1)), ?_, ?_⟩
 refine ⟨(sl H), hx101, (by omega), (by omega), (by exact upB_step hA (stAt_ok hx17 (by simp [binB, c53, c64, c77, c88, c98]) (by left; omega))), (by omega)⟩
 show (list.length - ((i + 1)) : Nat) < list.length - i; omega
 rw [c98] at H
 revert A; refine go ?_; intro A H
 refine ret1 H rfl rfl ?_
 clear H A
 exact ret_mk hx95 (congrArg Value.bool (by rw [stB_no hx17 (stAt_no hx17 (by left; first | (simp [binB, c53, c64, c77, c88, c98]; done) | (simp_all [binB]; done)))]))
 rw [c88] at H
 revert A; refine go ?_; intro A H
 refine ret1 H rfl rfl ?_
 clear H A
 exact ret_mk hx84 (congrArg Value.bool (by rw [stB_no hx17 (stAt_no hx17 (by left; first | (simp [binB, c53, c64, c77, c88]; done) | (simp_all [binB]; done)))]))
 rw [c77] at H
 revert A; refine go ?_; intro A H
 refine ret1 H rfl rfl ?_
 clear H A
 exact ret_mk hx73 (congrArg Value.bool (by rw [stB_no hx17 (stAt_no hx17 (by left; first | (simp [binB, c53, c64, c77]; done) | (simp_all [binB]; done)))]))
 rw [c64] at H
 revert A; refine go ?_; intro A H
 refine ret1 H rfl rfl ?_
 clear H A
 exact ret_mk hx60 (congrArg Value.bool (by rw [stB_no hx17 (stAt_no hx17 (by left; first | (simp [binB, c53, c64]; done) | (simp_all [binB]; done)))]))
 rw [c53] at H
 revert A; refine go ?_; intro A H
 refine ret1 H rfl rfl ?_
 clear H A
 exact ret_mk hx50 (congrArg Value.bool (by rw [stB_no hx17 (stAt_no hx17 (by left; first | (simp [binB, c53]; done) | (simp_all [binB]; done)))]))
 rw [decide_eq_false c15] at H
 revert A; refine go ?_; intro A H
 refine ret1 H rfl rfl ?_
 clear H A
 exact ret_mk hx11 (congrArg Value.bool (by have e : i = list.length := (by omega); rw [e] at hA; rw [stB_up hA]; (symm; rw [decide_eq_true_eq]; omega)))



theorem c_impl_isDay (w0 : World) (day : Int)  :
    Calls Tryz.prog 82 #[.int .i64 day] w0 (Ret w0 (fun v _ => v = .bool (decide (1 ≤ day) && decide (day ≤ 1000)))) := by
 refine enter (N := 5) Tryz.func82 rfl rfl rfl ?_
 intro A H
 have hx0 := Ext.rfl' w0
 revert A; refine go ?_; intro A H
 refine wc H cb81 (c_impl_within _ day (1 : Int) (1000 : Int) ) ?_
 clear H A; rintro v3 w4 he5 rfl A H
 obtain ⟨hx7, _⟩ := nx hx0 he5
 revert A; refine go ?_; intro A H
 refine ret1 H rfl rfl ?_
 clear H A
 exact ret_mk hx7 (congrArg Value.bool (by rfl))



theorem c_impl_isWork (w0 : World) (minutes : Int)  :
    Calls Tryz.prog 83 #[.int .i64 minutes] w0 (Ret w0 (fun v _ => v = .bool (decide (1 ≤ minutes) && decide (minutes ≤ 2000)))) := by
 refine enter (N := 5) Tryz.func83 rfl rfl rfl ?_
 intro A H
 have hx0 := Ext.rfl' w0
 revert A; refine go ?_; intro A H
 refine wc H cb81 (c_impl_within _ minutes (1 : Int) (2000 : Int) ) ?_
 clear H A; rintro v3 w4 he5 rfl A H
 obtain ⟨hx7, _⟩ := nx hx0 he5
 revert A; refine go ?_; intro A H
 refine ret1 H rfl rfl ?_
 clear H A
 exact ret_mk hx7 (congrArg Value.bool (by rfl))



theorem c_spec_l23Is (w0 : World) (p : Str × Int × Int) (g0 : p.1.length ≤ 9223372036854775807) :
    Calls Tryz.prog 88 #[.agg #[St p.1, .int .i64 p.2.1, .int .i64 p.2.2]] w0 (Ret w0 (fun v _ => v = .bool (prB p))) := by
 refine enter (N := 16) Tryz.func88 rfl rfl rfl ?_
 intro A H
 have hx0 := Ext.rfl' w0
 revert A; refine go ?_; intro A H
 refine we H (op_box' H rfl rfl rfl) ?_
 clear H A; rintro _ w2 ⟨rfl, he3, hb4, hz5⟩ A H
 obtain ⟨hx7, _⟩ := nx hx0 he3
 revert A; refine go ?_; intro A H
 refine fl 0 H U67 ti9 U9 hb4.cells ?_
 clear H A; intro A H
 refine wc H cb86 (c_spec_IsWord _ p.1 gd) ?_
 clear H A; rintro v11 w12 he13 rfl A H
 obtain ⟨hx15, _⟩ := nx hx7 he13
 replace hb4 := hb4.ext he13
 refine wv H (op_move H rfl rfl) ?_
 clear H A; intro A H
 rcases Bool.eq_false_or_eq_true (wordB p.1) with c17 | c17
 rw [c17] at H
 refine fl 1 H U67 ti2 U2 hb4.cells ?_
 clear H A; intro A H
 refine wc H cb87 (c_spec_l01In _ p.2.1 (1 : Int) (1000 : Int) ) ?_
 clear H A; rintro v20 w21 he22 rfl A H
 obtain ⟨hx24, _⟩ := nx hx15 he22
 replace hb4 := hb4.ext he22
 revert A; refine go ?_; intro A H
 rcases Bool.eq_false_or_eq_true (decide ((1 : Int) ≤ p.2.1) && decide (p.2.1 ≤ (1000 : Int))) with c27 | c27
 rw [c27] at H
 refine fl 2 H U67 ti2 U2 hb4.cells ?_
 clear H A; intro A H
 refine wc H cb87 (c_spec_l01In _ p.2.2 (1 : Int) (2000 : Int) ) ?_
 clear H A; rintro v30 w31 he32 rfl A H
 obtain ⟨hx34, _⟩ := nx hx24 he32
 replace hb4 := hb4.ext he32
 revert A; refine go ?_; intro A H
 refine ret1 H rfl rfl ?_
 clear H A
 exact ret_mk hx34 (congrArg Value.bool (by simp [prB, c17, c27]))
 rw [c27] at H
 revert A; refine go ?_; intro A H
 refine ret1 H rfl rfl ?_
 clear H A
 exact ret_mk hx24 (congrArg Value.bool (by simp [prB, c17, c27]))
 rw [c17] at H
 revert A; refine go ?_; intro A H
 refine ret1 H rfl rfl ?_
 clear H A
 exact ret_mk hx15 (congrArg Value.bool (by simp [prB, c17]))



theorem c_spec_l23Find (w0 : World) (v_list : Value) (list : List (Str × Int × Int)) {S_list : Nat → Prop} (name : Str) (h_list : Rds shProm S_list w0 v_list list) :
    Calls Tryz.prog 89 #[v_list, St name] w0 (Ret w0 (fun v _ => v = .int .i64 (fdF (pnB name) list))) := by
 refine enter (N := 20) Tryz.func89 rfl rfl rfl ?_
 intro A H
 have hx0 := Ext.rfl' w0
 have hl_list := h_list.length_le
 revert A; refine go ?_; intro A H
 refine loop_inv (X := Nat) (fun i fr wl => Sl 20 fr [(0, v_list), (1, St name), (5, .int .i64 ((i : Nat) : Int))] ∧ Ext w0 wl ∧ w0.heap.size ≤ wl.heap.size ∧ (i ≤ list.length) ∧ (∀ (j : Nat) (y : Str × Int × Int), j < i → list[j]? = some y → (pnB name) y = false)) (fun i => list.length - i) (0) ?_ ?_
 exact ⟨(sl H), hx0, (by omega), (by omega), (by exact all_zero)⟩
 clear H A
 rintro i A w3 ⟨H, hx4, hzl6, hi, hA⟩
 have hzhx4 := hx4.size
 revert A; refine go ?_; intro A H
 refine wv H (ln H U31 h_list) ?_
 clear H A; refine go ?_; intro A H
 by_cases c11 : ((i : Nat) : Int) < ((list.length : Nat) : Int)
 rw [decide_eq_true c11] at H
 revert A; refine go ?_; intro A H
 obtain ⟨x14, hx14⟩ := get_ex (xs := list) (j := i) (by omega)
 obtain ⟨p15, hi17, hc18, b21, b22, b23, hs20⟩ := at_shProm h_list hx14
 refine wv H (ix H U31 ti67 hi17) ?_
 clear H A; intro A H
 refine wv H (fa H U67 ti9) ?_
 clear H A; intro A H
 refine wv H (lf 0 H U9 (hc18.ext hx4)) ?_
 clear H A; refine go ?_; intro A H
 by_cases c29 : x14.1 = name
 rw [decide_eq_true c29] at H
 revert A; refine go ?_; intro A H
 refine ret1 H rfl rfl ?_
 clear H A
 exact ret_mk hx4 (int_eq (by exact (fdF_hit hx14 (by simp [pnB, c29]) hA).symm))
 rw [decide_eq_false c29] at H
 revert A; refine go ?_; intro A H
 refine wv H ((op_add H rfl rfl rfl).int (IntWalk.i64_in _ (by omega))) ?_
 clear H A; refine go ?_; intro A H
 refine ⟨((i + 1)), ?_, ?_⟩
 refine ⟨(sl H), hx4, (by omega), (by omega), (by exact all_snoc (p := fun y => (pnB name) y = false) hA hx14 (by simp [pnB, c29]))⟩
 show (list.length - ((i + 1)) : Nat) < list.length - i; omega
 rw [decide_eq_false c11] at H
 revert A; refine go ?_; intro A H
 refine ret1 H rfl rfl ?_
 clear H A
 exact ret_mk hx4 (int_eq (by exact (fdF_none fun j y hj hy => hA j y (by omega) hy).symm))



theorem c_spec_ArePromises (w0 : World) (v_list : Value) (list : List (Str × Int × Int)) {S_list : Nat → Prop} (h_list : Rds shProm S_list w0 v_list list) :
    Calls Tryz.prog 57 #[v_list] w0 (Ret w0 (fun v _ => v = .bool (prsB list))) := by
 refine enter (N := 30) Tryz.func57 rfl rfl rfl ?_
 intro A H
 have hx0 := Ext.rfl' w0
 have hl_list := h_list.length_le
 revert A; refine go ?_; intro A H
 refine loop_inv (X := Nat) (fun i fr wl => Sl 30 fr [(0, v_list), (3, .int .i64 ((i : Nat) : Int))] ∧ Ext w0 wl ∧ w0.heap.size ≤ wl.heap.size ∧ (i ≤ list.length) ∧ (upB (prAt list) i = true)) (fun i => list.length - i) (0) ?_ ?_
 exact ⟨(sl H), hx0, (by omega), (by omega), (by rfl)⟩
 clear H A
 rintro i A w3 ⟨H, hx4, hzl6, hi, hA⟩
 have hzhx4 := hx4.size
 revert A; refine go ?_; intro A H
 refine wv H (ln H U31 h_list) ?_
 clear H A; refine go ?_; intro A H
 by_cases c11 : ((i : Nat) : Int) < ((list.length : Nat) : Int)
 rw [decide_eq_true c11] at H
 revert A; refine go ?_; intro A H
 obtain ⟨x14, hx14⟩ := get_ex (xs := list) (j := i) (by omega)
 obtain ⟨p15, hi17, hc18, b21, b22, b23, hs20⟩ := at_shProm h_list hx14
 refine wv H (ix H U31 ti67 hi17) ?_
 clear H A; intro A H
 refine wv H (ls H U67 ti67 (hc18.ext hx4)) ?_
 clear H A; intro A H
 refine wc H cb88 (c_spec_l23Is _ x14 gd) ?_
 clear H A; rintro v26 w27 he28 rfl A H
 obtain ⟨hx30, _⟩ := nx hx4 he28
 revert A; refine go ?_; intro A H
 rcases Bool.eq_false_or_eq_true (prB x14) with c33 | c33
 rw [c33] at H
 revert A; refine go ?_; intro A H
 refine wv H (ix H U31 ti67 hi17) ?_
 clear H A; intro A H
 refine wv H (fa H U67 ti9) ?_
 clear H A; intro A H
 refine wv H (lf 0 H U9 (hc18.ext hx30)) ?_
 clear H A; intro A H
 refine wc H cb89 (c_spec_l23Find _ v_list list x14.1 (h_list.ext pos_shProm hx30)) ?_
 clear H A; rintro v40 w41 he42 rfl A H
 obtain ⟨hx44, _⟩ := nx hx30 he42
 revert A; refine go ?_; intro A H
 by_cases c48 : (fdF (pnB x14.1) list : Int) = ((i : Nat) : Int)
 rw [decide_eq_true c48] at H
 revert A; refine go ?_; intro A H
 refine wv H ((op_add H rfl rfl rfl).int (IntWalk.i64_in _ (by omega))) ?_
 clear H A; refine go ?_; intro A H
 refine ⟨((i + 1)), ?_, ?_⟩
 refine ⟨(sl H), hx44, (by omega), (by omega), (by exact upB_step hA (prAt_ok hx14 (by assumption) ((fd_here hx14 (by simp [pnB])).1 (by assumption))))⟩
 show (list.length - ((i + 1)) : Nat) < list.length - i; omega
 rw [decide_eq_false c48] at H
 revert A; refine go ?_; intro A H
 refine ret1 H rfl rfl ?_
 clear H A
 exact ret_mk hx44 (congrArg Value.bool (by rw [prsB_no hx14 (prAt_no hx14 (by right; exact fun q => absurd ((fd_here hx14 (by simp [pnB])).2 q) (by assumption)))]))
 rw [c33] at H
 revert A; refine go ?_; intro A H
 refine ret1 H rfl rfl ?_
 clear H A
 exact ret_mk hx30 (congrArg Value.bool (by rw [prsB_no hx14 (prAt_no hx14 (by left; assumption))]))
 rw [decide_eq_false c11] at H
 revert A; refine go ?_; intro A H
 refine wv H (ln H U31 h_list) ?_
 clear H A; refine go ?_; intro A H
 refine ret1 H rfl rfl ?_
 clear H A
 exact ret_mk hx4 (congrArg Value.bool (by have e : i = list.length := (by omega); rw [e] at hA; rw [prsB_up hA]; (rw [Bool.eq_iff_iff]; simp; omega)))



theorem c_impl_ArePromises (w0 : World) (v_list : Value) (list : List (Str × Int × Int)) {S_list : Nat → Prop} (h_list : Rds shProm S_list w0 v_list list) :
    Calls Tryz.prog 54 #[v_list] w0 (Ret w0 (fun v _ => v = .bool (prsB list))) := by
 refine enter (N := 48) Tryz.func54 rfl rfl rfl ?_
 intro A H
 have hx0 := Ext.rfl' w0
 have hl_list := h_list.length_le
 revert A; refine go ?_; intro A H
 refine wv H (ln H U31 h_list) ?_
 clear H A; refine go ?_; intro A H
 by_cases c5 : (40 : Int) < ((list.length : Nat) : Int)
 rw [decide_eq_true c5] at H
 revert A; refine go ?_; intro A H
 refine ret1 H rfl rfl ?_
 clear H A
 exact ret_mk hx0 (congrArg Value.bool (by rw [prsB_big (by omega)]))
 rw [decide_eq_false c5] at H
 revert A; refine go ?_; intro A H
 refine wv H (ln H U31 h_list) ?_
 clear H A; refine go ?_; intro A H
 refine loop_inv (X := Nat) (fun i fr wl => Sl 48 fr [(0, v_list), (10, v_list), (11, .int .i64 ((list.length : Nat) : Int)), (12, .int .i64 ((i : Nat) : Int))] ∧ Ext w0 wl ∧ w0.heap.size ≤ wl.heap.size ∧ (i ≤ list.length) ∧ (upB (prAt list) i = true) ∧ (list.length ≤ 40)) (fun i => list.length - i) (0) ?_ ?_
 exact ⟨(sl H), hx0, (by omega), (by omega), (by rfl), (by omega)⟩
 clear H A
 rintro i A w10 ⟨H, hx11, hzl13, hi, hA, hn⟩
 have hzhx11 := hx11.size
 revert A; refine go ?_; intro A H
 by_cases c15 : ((i : Nat) : Int) < ((list.length : Nat) : Int)
 rw [decide_eq_true c15] at H
 revert A; refine go ?_; intro A H
 obtain ⟨x17, hx17⟩ := get_ex (xs := list) (j := i) (by omega)
 obtain ⟨p18, hi20, hc21, b24, b25, b26, hs23⟩ := at_shProm h_list hx17
 refine wv H (ix H U31 ti67 hi20) ?_
 clear H A; intro A H
 refine wv H (ls H U67 ti67 (hc21.ext hx11)) ?_
 clear H A; intro A H
 refine we H (op_alloc' rfl ti67 rfl) ?_
 clear H A; rintro _ w30 ⟨rfl, he31, hb32, hz33⟩ A H
 obtain ⟨hx35, _⟩ := nx hx11 he31
 refine wv H (op_assign H rfl rfl) ?_
 clear H A; intro A H
 refine ws H (op_sa H ti67 hb32) ?_
 rintro w37 ⟨hb39, hst38, hz40⟩
 obtain ⟨hx41, _⟩ := nb hx35 hst38
 clear hb32
 revert A; refine go ?_; intro A H
 refine fl 0 H U67 ti9 U9 hb39.cells ?_
 clear H A; intro A H
 refine wc H cb80 (c_impl_IsWord _ x17.1 gd) ?_
 clear H A; rintro v44 w45 he46 rfl A H
 obtain ⟨hx48, _⟩ := nx hx41 he46
 replace hb39 := hb39.ext he46
 revert A; refine go ?_; intro A H
 rcases Bool.eq_false_or_eq_true (wordB x17.1) with c51 | c51
 rw [c51] at H
 refine fl 1 H U67 ti2 U2 hb39.cells ?_
 clear H A; intro A H
 refine wc H cb82 (c_impl_isDay _ x17.2.1 ) ?_
 clear H A; rintro v54 w55 he56 rfl A H
 obtain ⟨hx58, _⟩ := nx hx48 he56
 replace hb39 := hb39.ext he56
 revert A; refine go ?_; intro A H
 rcases Bool.eq_false_or_eq_true (decide (1 ≤ x17.2.1) && decide (x17.2.1 ≤ 1000)) with c62 | c62
 rw [c62] at H
 refine fl 2 H U67 ti2 U2 hb39.cells ?_
 clear H A; intro A H
 refine wc H cb83 (c_impl_isWork _ x17.2.2 ) ?_
 clear H A; rintro v65 w66 he67 rfl A H
 obtain ⟨hx69, _⟩ := nx hx58 he67
 replace hb39 := hb39.ext he67
 revert A; refine go ?_; intro A H
 rcases Bool.eq_false_or_eq_true (decide (1 ≤ x17.2.2) && decide (x17.2.2 ≤ 2000)) with c72 | c72
 rw [c72] at H
 revert A; refine go ?_; intro A H
 obtain ⟨u75, hu76, hr77⟩ := Rds.part h_list U31 ti67 none (some (.int .i64 (i : Nat))) 0 i (.inl ⟨rfl, rfl⟩) (.inr ⟨.i64, rfl⟩) (by omega) (by omega)
 replace hr77 := hr77.cast (ys := list.take i) (by simp)
 refine wv H (op_slice_t (by omega) H rfl rfl rfl hu76) ?_
 clear H A; intro A H
 refine wv H (ln H U31 hr77) ?_
 clear H A; refine go ?_; intro A H
 refine loop_inv (X := Nat) (fun k fr wl => Sl 48 fr [(0, v_list), (4, .pointer (some (⟨w10.heap.size, 0, none⟩ : Addr))), (10, v_list), (11, .int .i64 ((list.length : Nat) : Int)), (12, .int .i64 ((i : Nat) : Int)), (35, u75), (36, .int .i64 (((list.take i).length : Nat) : Int)), (37, .int .i64 ((k : Nat) : Int))] ∧ Ext w0 wl ∧ Box wl w10.heap.size 67 [St x17.1, .int .i64 x17.2.1, .int .i64 x17.2.2] ∧ w66.heap.size ≤ wl.heap.size ∧ (k ≤ (list.take i).length) ∧ (∀ (j : Nat) (y : Prom), j < k → (list.take i)[j]? = some y → y.1 ≠ x17.1)) (fun k => (list.take i).length - k) (0) ?_ ?_
 exact ⟨(sl H), hx69, hb39, (by omega), (by omega), (by exact all_zero)⟩
 clear H A
 rintro k A w81 ⟨H, hx82, hf83, hzl85, hk, hK⟩
 have hzhx82 := hx82.size
 have htl : (list.take i).length = i := by rw [List.length_take]; omega
 revert A; refine go ?_; intro A H
 by_cases c87 : ((k : Nat) : Int) < (((list.take i).length : Nat) : Int)
 rw [decide_eq_true c87] at H
 revert A; refine go ?_; intro A H
 obtain ⟨x88, hx88⟩ := get_ex (xs := list.take i) (j := k) (by omega)
 obtain ⟨p89, hi91, hc92, b95, b96, b97, hs94⟩ := at_shProm hr77 hx88
 refine wv H (ix H U31 ti67 hi91) ?_
 clear H A; intro A H
 refine wv H (ls H U67 ti67 (hc92.ext hx82)) ?_
 clear H A; intro A H
 refine we H (op_alloc' rfl ti67 rfl) ?_
 clear H A; rintro _ w101 ⟨rfl, he102, hb103, hz104⟩ A H
 obtain ⟨hx106, _⟩ := nx hx82 he102
 replace hf83 := hf83.ext he102
 refine ws H (op_sa H ti67 hb103) ?_
 rintro w107 ⟨hb109, hst108, hz110⟩
 obtain ⟨hx111, _⟩ := nb hx106 hst108
 replace hf83 := bb hf83 hst108
 clear hb103
 revert A; refine go ?_; intro A H
 refine fl 0 H U67 ti9 U9 hb109.cells ?_
 clear H A; intro A H
 refine fl 0 H U67 ti9 U9 hf83.cells ?_
 clear H A; refine go ?_; intro A H
 by_cases c117 : x88.1 = x17.1
 rw [decide_eq_true c117] at H
 revert A; refine go ?_; intro A H
 refine ret1 H rfl rfl ?_
 clear H A
 exact ret_mk hx111 (congrArg Value.bool (by rw [prsB_no hx17 (prAt_no hx17 (.inr fun q => by have h9 := fdF_neg.1 q _ (List.mem_of_getElem? hx88); simp [pnB, c117] at h9))]))
 rw [decide_eq_false c117] at H
 revert A; refine go ?_; intro A H
 refine wv H ((op_add H rfl rfl rfl).int (IntWalk.i64_in _ (by omega))) ?_
 clear H A; refine go ?_; intro A H
 refine ⟨((k + 1)), ?_, ?_⟩
 refine ⟨(sl H), hx111, hf83, (by omega), (by omega), (by exact all_snoc (p := fun y => y.1 ≠ x17.1) hK hx88 (by assumption))⟩
 show ((list.take i).length - ((k + 1)) : Nat) < (list.take i).length - k; omega
 rw [decide_eq_false c87] at H
 revert A; refine go ?_; intro A H
 refine wv H ((op_add H rfl rfl rfl).int (IntWalk.i64_in _ (by omega))) ?_
 clear H A; refine go ?_; intro A H
 refine ⟨((i + 1)), ?_, ?_⟩
 refine ⟨(sl H), hx82, (by omega), (by omega), (by exact upB_step hA (prAt_ok hx17 (by simp [prB, c51, c62, c72]) (fdF_neg.2 fun y hy => by have h9 := all_mem hK (by omega) y hy; simp [pnB, h9]))), (by omega)⟩
 show (list.length - ((i + 1)) : Nat) < list.length - i; omega
 rw [c72] at H
 revert A; refine go ?_; intro A H
 refine ret1 H rfl rfl ?_
 clear H A
 exact ret_mk hx69 (congrArg Value.bool (by rw [prsB_no hx17 (prAt_no hx17 (by left; first | (simp [prB, c51, c62, c72]; done) | (simp_all [prB]; done)))]))
 rw [c62] at H
 revert A; refine go ?_; intro A H
 refine ret1 H rfl rfl ?_
 clear H A
 exact ret_mk hx58 (congrArg Value.bool (by rw [prsB_no hx17 (prAt_no hx17 (by left; first | (simp [prB, c51, c62]; done) | (simp_all [prB]; done)))]))
 rw [c51] at H
 revert A; refine go ?_; intro A H
 refine ret1 H rfl rfl ?_
 clear H A
 exact ret_mk hx48 (congrArg Value.bool (by rw [prsB_no hx17 (prAt_no hx17 (by left; first | (simp [prB, c51]; done) | (simp_all [prB]; done)))]))
 rw [decide_eq_false c15] at H
 revert A; refine go ?_; intro A H
 refine ret1 H rfl rfl ?_
 clear H A
 exact ret_mk hx11 (congrArg Value.bool (by have e : i = list.length := (by omega); rw [e] at hA; rw [prsB_up hA]; (symm; rw [decide_eq_true_eq]; omega)))



theorem c_impl_IsDesk (w0 : World) (v_d0 : Value) (v_d1 : Value) (v_d2 : Value) (d : List (Str × Int × Int × Int × Int) × List (Str × Int × Int) × List (Int × Int × Str × Int)) {S_d0 : Nat → Prop} {S_d1 : Nat → Prop} {S_d2 : Nat → Prop} (h_d0 : Rds shBin S_d0 w0 v_d0 d.1) (h_d1 : Rds shProm S_d1 w0 v_d1 d.2.1) (h_d2 : Rds shEnt S_d2 w0 v_d2 d.2.2) (_g0 : d.1.length ≤ 1048576) (_g1 : d.2.1.length ≤ 1048576) (g2 : d.2.2.length ≤ 1048576) :
    Calls Tryz.prog 25 #[.agg #[v_d0, v_d1, v_d2]] w0 (Ret w0 (fun v _ => v = .bool (deskB d))) := by
 refine enter (N := 16) Tryz.func25 rfl rfl rfl ?_
 intro A H
 have hx0 := Ext.rfl' w0
 have hl_d0 := h_d0.length_le
 have hl_d1 := h_d1.length_le
 have hl_d2 := h_d2.length_le
 revert A; refine go ?_; intro A H
 refine we H (op_box' H rfl rfl rfl) ?_
 clear H A; rintro _ w2 ⟨rfl, he3, hb4, hz5⟩ A H
 obtain ⟨hx7, _⟩ := nx hx0 he3
 revert A; refine go ?_; intro A H
 refine fl 0 H U34 ti30 U30 hb4.cells ?_
 clear H A; intro A H
 refine wc H cb53 (c_impl_IsStock _ v_d0 d.1 (h_d0.ext pos_shBin hx7)) ?_
 clear H A; rintro v11 w12 he13 rfl A H
 obtain ⟨hx15, _⟩ := nx hx7 he13
 replace hb4 := hb4.ext he13
 refine wv H (op_move H rfl rfl) ?_
 clear H A; intro A H
 rcases Bool.eq_false_or_eq_true (stB d.1) with c17 | c17
 rw [c17] at H
 refine fl 1 H U34 ti31 U31 hb4.cells ?_
 clear H A; intro A H
 refine wc H cb54 (c_impl_ArePromises _ v_d1 d.2.1 (h_d1.ext pos_shProm hx15)) ?_
 clear H A; rintro v20 w21 he22 rfl A H
 obtain ⟨hx24, _⟩ := nx hx15 he22
 replace hb4 := hb4.ext he22
 revert A; refine go ?_; intro A H
 rcases Bool.eq_false_or_eq_true (prsB d.2.1) with c27 | c27
 rw [c27] at H
 refine fl 2 H U34 ti32 U32 hb4.cells ?_
 clear H A; intro A H
 refine wc H cb55 (c_impl_IsDayBook _ v_d2 d.2.2 (h_d2.ext pos_shEnt hx24) gd) ?_
 clear H A; rintro v30 w31 he32 rfl A H
 obtain ⟨hx34, _⟩ := nx hx24 he32
 replace hb4 := hb4.ext he32
 revert A; refine go ?_; intro A H
 refine ret1 H rfl rfl ?_
 clear H A
 exact ret_mk hx34 (congrArg Value.bool (by simp [deskB, c17, c27]))
 rw [c27] at H
 revert A; refine go ?_; intro A H
 refine ret1 H rfl rfl ?_
 clear H A
 exact ret_mk hx24 (congrArg Value.bool (by simp [deskB, c17, c27]))
 rw [c17] at H
 revert A; refine go ?_; intro A H
 refine ret1 H rfl rfl ?_
 clear H A
 exact ret_mk hx15 (congrArg Value.bool (by simp [deskB, c17]))



theorem c_spec_IsDesk (w0 : World) (v_d0 : Value) (v_d1 : Value) (v_d2 : Value) (d : List (Str × Int × Int × Int × Int) × List (Str × Int × Int) × List (Int × Int × Str × Int)) {S_d0 : Nat → Prop} {S_d1 : Nat → Prop} {S_d2 : Nat → Prop} (h_d0 : Rds shBin S_d0 w0 v_d0 d.1) (h_d1 : Rds shProm S_d1 w0 v_d1 d.2.1) (h_d2 : Rds shEnt S_d2 w0 v_d2 d.2.2) (_g0 : d.1.length ≤ 1048576) (_g1 : d.2.1.length ≤ 1048576) (g2 : d.2.2.length ≤ 1048576) :
    Calls Tryz.prog 26 #[.agg #[v_d0, v_d1, v_d2]] w0 (Ret w0 (fun v _ => v = .bool (deskB d))) := by
 refine enter (N := 16) Tryz.func26 rfl rfl rfl ?_
 intro A H
 have hx0 := Ext.rfl' w0
 have hl_d0 := h_d0.length_le
 have hl_d1 := h_d1.length_le
 have hl_d2 := h_d2.length_le
 revert A; refine go ?_; intro A H
 refine we H (op_box' H rfl rfl rfl) ?_
 clear H A; rintro _ w2 ⟨rfl, he3, hb4, hz5⟩ A H
 obtain ⟨hx7, _⟩ := nx hx0 he3
 revert A; refine go ?_; intro A H
 refine fl 0 H U34 ti30 U30 hb4.cells ?_
 clear H A; intro A H
 refine wc H cb56 (c_spec_IsStock _ v_d0 d.1 (h_d0.ext pos_shBin hx7)) ?_
 clear H A; rintro v11 w12 he13 rfl A H
 obtain ⟨hx15, _⟩ := nx hx7 he13
 replace hb4 := hb4.ext he13
 refine wv H (op_move H rfl rfl) ?_
 clear H A; intro A H
 rcases Bool.eq_false_or_eq_true (stB d.1) with c17 | c17
 rw [c17] at H
 refine fl 1 H U34 ti31 U31 hb4.cells ?_
 clear H A; intro A H
 refine wc H cb57 (c_spec_ArePromises _ v_d1 d.2.1 (h_d1.ext pos_shProm hx15)) ?_
 clear H A; rintro v20 w21 he22 rfl A H
 obtain ⟨hx24, _⟩ := nx hx15 he22
 replace hb4 := hb4.ext he22
 revert A; refine go ?_; intro A H
 rcases Bool.eq_false_or_eq_true (prsB d.2.1) with c27 | c27
 rw [c27] at H
 refine fl 2 H U34 ti32 U32 hb4.cells ?_
 clear H A; intro A H
 refine wc H cb58 (c_spec_IsDayBook _ v_d2 d.2.2 (h_d2.ext pos_shEnt hx24) gd) ?_
 clear H A; rintro v30 w31 he32 rfl A H
 obtain ⟨hx34, _⟩ := nx hx24 he32
 replace hb4 := hb4.ext he32
 revert A; refine go ?_; intro A H
 refine ret1 H rfl rfl ?_
 clear H A
 exact ret_mk hx34 (congrArg Value.bool (by simp [deskB, c17, c27]))
 rw [c27] at H
 revert A; refine go ?_; intro A H
 refine ret1 H rfl rfl ?_
 clear H A
 exact ret_mk hx24 (congrArg Value.bool (by simp [deskB, c17, c27]))
 rw [c17] at H
 revert A; refine go ?_; intro A H
 refine ret1 H rfl rfl ?_
 clear H A
 exact ret_mk hx15 (congrArg Value.bool (by simp [deskB, c17]))




end Go.Proofs.YthbehhhblchhhaaGreat
