/- Is it a table? -/
import Derived.Test.YtjpldgicibnkcaaW1
namespace Go.Proofs.Ytjpldgicibnkcaa
open Go Go.RowKit

theorem fdF_none {α : Type} {p : α → Bool} {xs : List α} (h : ∀ j y, j < xs.length → xs[j]? = some y → p y = false) : fdF p xs = -1 := by
  have h1 : fdF p xs < 0 := fdF_neg.2 fun x hx => by
    obtain ⟨j, hj⟩ := List.getElem?_of_mem hx
    exact h j x (List.getElem?_eq_some_iff.1 hj).1 hj
  have := fdF_bd p xs; omega
theorem all_snoc {α : Type} {xs : List α} {p : α → Prop} {i : Nat} {x : α} (h : ∀ j y, j < i → xs[j]? = some y → p y) (hx : xs[i]? = some x) (hp : p x) : ∀ j y, j < i + 1 → xs[j]? = some y → p y := by
  intro j y hj hy
  rcases Nat.lt_or_ge j i with q | q
  · exact h j y q hy
  · have e : j = i := by omega
    subst e; rw [hx] at hy; cases hy; exact hp
theorem all_mem {α : Type} {xs : List α} {p : α → Prop} {i : Nat} (h : ∀ j y, j < i → xs[j]? = some y → p y) (hi : xs.length ≤ i) : ∀ x ∈ xs, p x := by
  intro x hx
  obtain ⟨j, hj⟩ := List.getElem?_of_mem hx
  exact h j x (by have := (List.getElem?_eq_some_iff.1 hj).1; omega) hj
theorem all_zero {α : Type} {xs : List α} {p : α → Prop} : ∀ j y, j < 0 → xs[j]? = some y → p y := fun j y hj => absurd hj (by omega)
abbrev Tab : Type := List Str × List (List Int)

def valB (n : Int) : Bool := decide (-1000000000000 ≤ n) && decide (n ≤ 1000000000000)
def eqB (h x : Str) : Bool := decide (x = h)
def hdAt (hs : List Str) (i : Nat) : Bool := match hs[i]? with
  | none => false
  | some h => wordB h && decide (fdF (eqB h) (hs.take i) < 0)
def rwB (n : Nat) (r : List Int) : Bool := decide (r.length = n) && r.all valB
def rwAt (n : Nat) (rs : List (List Int)) (i : Nat) : Bool := match rs[i]? with
  | none => false
  | some r => rwB n r
/-- Is it a table? -/
def tabB (t : Tab) : Bool := ((decide (1 ≤ t.1.length) && decide (t.1.length ≤ 6)) && decide (t.2.length ≤ 20)) && (upB (hdAt t.1) t.1.length && upB (rwAt t.1.length t.2) t.2.length)
theorem hdAt_eq {hs : List Str} {i : Nat} {h : Str} (e : hs[i]? = some h) : hdAt hs i = (wordB h && decide (fdF (eqB h) (hs.take i) < 0)) := by unfold hdAt; rw [e]
theorem hdAt_ok {hs : List Str} {i : Nat} {h : Str} (e : hs[i]? = some h) (h1 : wordB h = true) (h2 : fdF (eqB h) (hs.take i) < 0) : hdAt hs i = true := by rw [hdAt_eq e, h1, decide_eq_true h2]; rfl
theorem hdAt_no {hs : List Str} {i : Nat} {h : Str} (e : hs[i]? = some h) (h1 : wordB h = false ∨ ¬ fdF (eqB h) (hs.take i) < 0) : hdAt hs i = false := by
  rw [hdAt_eq e]; rcases h1 with h1 | h1 <;> simp [h1]
theorem rwAt_eq {n : Nat} {rs : List (List Int)} {i : Nat} {r : List Int} (e : rs[i]? = some r) : rwAt n rs i = rwB n r := by unfold rwAt; rw [e]
theorem rwB_ok {n : Nat} {r : List Int} (h1 : r.length = n) (h2 : r.all valB = true) : rwB n r = true := by unfold rwB; rw [decide_eq_true h1, h2]; rfl
theorem rwB_no {n : Nat} {r : List Int} (h : ¬ r.length = n ∨ r.all valB = false) : rwB n r = false := by unfold rwB; rcases h with h | h <;> simp [h]
theorem tab_h {t : Tab} {i : Nat} {h : Str} (e : t.1[i]? = some h) (h1 : hdAt t.1 i = false) : tabB t = false := by unfold tabB; rw [upB_bad (List.getElem?_eq_some_iff.1 e).1 h1, Bool.false_and, Bool.and_false]
theorem tab_r {t : Tab} {i : Nat} {r : List Int} (e : t.2[i]? = some r) (h1 : rwB t.1.length r = false) : tabB t = false := by unfold tabB; rw [upB_bad (n := t.2.length) (List.getElem?_eq_some_iff.1 e).1 ((rwAt_eq e).trans h1), Bool.and_false, Bool.and_false]
theorem tab_n {t : Tab} (h : t.1.length < 1 ∨ 6 < t.1.length ∨ 20 < t.2.length) : tabB t = false := by
  unfold tabB
  have : ((decide (1 ≤ t.1.length) && decide (t.1.length ≤ 6)) && decide (t.2.length ≤ 20)) = false := by rw [Bool.eq_false_iff]; simp; omega
  rw [this, Bool.false_and]
theorem tab_y {t : Tab} (h1 : upB (hdAt t.1) t.1.length = true) (h2 : upB (rwAt t.1.length t.2) t.2.length = true) : tabB t = ((decide (1 ≤ t.1.length) && decide (t.1.length ≤ 6)) && decide (t.2.length ≤ 20)) := by unfold tabB; rw [h1, h2]; simp
theorem tab_bd {t : Tab} (h : tabB t = true) : 1 ≤ t.1.length ∧ t.1.length ≤ 6 ∧ t.2.length ≤ 20 := by unfold tabB at h; simp only [Bool.and_eq_true, decide_eq_true_eq] at h; exact ⟨h.1.1.1, h.1.1.2, h.1.2⟩
theorem val_bd {n : Int} (h : valB n = true) : -1000000000000 ≤ n ∧ n ≤ 1000000000000 := by unfold valB at h; simpa using h
theorem tab_rows {t : Tab} (h : tabB t = true) : ∀ r ∈ t.2, r.length = t.1.length ∧ ∀ n ∈ r, -1000000000000 ≤ n ∧ n ≤ 1000000000000 := by
  intro r hr
  obtain ⟨i, hi⟩ := List.getElem?_of_mem hr
  unfold tabB at h; simp only [Bool.and_eq_true] at h
  have h3 := upB_get h.2.2 (List.getElem?_eq_some_iff.1 hi).1
  rw [rwAt_eq hi] at h3
  unfold rwB at h3
  simp only [Bool.and_eq_true, decide_eq_true_eq, List.all_eq_true] at h3
  exact ⟨h3.1, fun n hn => val_bd (h3.2 n hn)⟩
theorem tab_heads {t : Tab} (h : tabB t = true) : ∀ s ∈ t.1, wordB s = true := by
  intro s hs
  obtain ⟨i, hi⟩ := List.getElem?_of_mem hs
  unfold tabB at h; simp only [Bool.and_eq_true] at h
  have h3 := upB_get h.2.1 (List.getElem?_eq_some_iff.1 hi).1
  rw [hdAt_eq hi, Bool.and_eq_true] at h3; exact h3.1
def colB (t : Tab) (c : Int) : Bool := decide (0 ≤ c) && decide (c ≤ (t.1.length : Nat) - 1)
theorem col_bd {t : Tab} {c : Int} (h : colB t c = true) : 0 ≤ c ∧ c < (t.1.length : Nat) := by unfold colB at h; simp only [Bool.and_eq_true, decide_eq_true_eq] at h; omega
def cdT (t : Tab) (c : Int) : Int := if tabB t then if colB t c then 0 else 2 else 1
theorem cdT_ok {t : Tab} {c : Int} (h : cdT t c = 0) : tabB t = true ∧ colB t c = true := by
  unfold cdT at h
  split at h
  · split at h
    · exact ⟨‹_›, ‹_›⟩
    · cases h
  · cases h
theorem cdT_0 {t : Tab} {c : Int} (h : tabB t = true) (h' : colB t c = true) : cdT t c = 0 := by unfold cdT; rw [if_pos h, if_pos h']
theorem cdT_1 {t : Tab} {c : Int} (h : tabB t = false) : cdT t c = 1 := by unfold cdT; rw [if_neg (by simp [h])]
theorem cdT_2 {t : Tab} {c : Int} (h : tabB t = true) (h' : colB t c = false) : cdT t c = 2 := by unfold cdT; rw [if_pos h, if_neg (by simp [h'])]
theorem cd0 (t : Tab) : cdT t 0 = if tabB t then 0 else 1 := by
  unfold cdT
  by_cases h : tabB t = true
  · have := tab_bd h
    rw [if_pos h, if_pos h, if_pos (by unfold colB; simp; omega)]
  · rw [if_neg h, if_neg h]
def rowC (c : Int) (r : List Int) : Int := (r[c.toNat]?).getD 0
theorem rowC_eq {c : Int} {r : List Int} {n : Int} (h : r[c.toNat]? = some n) : rowC c r = n := by unfold rowC; rw [h]; rfl

theorem c_impl_isValue (w0 : World) (n : Int)  :
  Calls Try.prog 77 #[.int .i64 n] w0 (Ret w0 (fun v _ => v = .bool (valB n))) := by
 refine enter (N := 5) Try.func77 rfl rfl rfl ?_
 intro a0 ha0
 have hx0 := Ext.rfl' w0
 refine wp_seq ?_
 refine wp_region_lit ?_
 refine wl_val ha0 rfl rfl rfl (op_assign ha0 rfl rfl) ?_
 intro a1 ha1; clear ha0 a0
 refine wpList_nil ?_
 refine then_n ?_
 refine wp_seq ?_
 refine wp_region_lit ?_
 refine wl_val ha1 rfl rfl rfl (op_move ha1 rfl rfl) ?_
 intro a2 ha2; clear ha1 a1
 refine wl_callR ha2 rfl rfl rfl (op_call ha2 rfl cb78 rfl) (c_impl_within _ n (-1000000000000 : Int) (1000000000000 : Int) ) ?_
 rintro v3 w4 he5 rfl a6 ha6; clear ha2 a2
 have hx7 := hx0.trans' he5
 have hzhx7 := he5.size
 refine wl_val ha6 rfl rfl rfl (op_assign ha6 rfl rfl) ?_
 intro a8 ha8; clear ha6 a6
 refine wpList_nil ?_
 refine then_n ?_
 refine wp_ret ?_
 refine ret1 ha8 rfl rfl ?_
 clear ha8 a8
 exact ret_mk hx7 (congrArg Value.bool (by rfl))

theorem c_spec_l01Is (w0 : World) (n : Int)  :
  Calls Try.prog 61 #[.int .i64 n] w0 (Ret w0 (fun v _ => v = .bool (valB n))) := by
 refine enter (N := 5) Try.func61 rfl rfl rfl ?_
 intro a0 ha0
 have hx0 := Ext.rfl' w0
 refine wp_seq ?_
 refine wp_region_lit ?_
 refine wl_val ha0 rfl rfl rfl (op_assign ha0 rfl rfl) ?_
 intro a1 ha1; clear ha0 a0
 refine wpList_nil ?_
 refine then_n ?_
 refine wp_seq ?_
 refine wp_region_lit ?_
 refine wl_val ha1 rfl rfl rfl (op_move ha1 rfl rfl) ?_
 intro a2 ha2; clear ha1 a1
 refine wl_callR ha2 rfl rfl rfl (op_call ha2 rfl cb62 rfl) (c_spec_l01In _ n (-1000000000000 : Int) (1000000000000 : Int) ) ?_
 rintro v3 w4 he5 rfl a6 ha6; clear ha2 a2
 have hx7 := hx0.trans' he5
 have hzhx7 := he5.size
 refine wl_val ha6 rfl rfl rfl (op_assign ha6 rfl rfl) ?_
 intro a8 ha8; clear ha6 a6
 refine wpList_nil ?_
 refine then_n ?_
 refine wp_ret ?_
 refine ret1 ha8 rfl rfl ?_
 clear ha8 a8
 exact ret_mk hx7 (congrArg Value.bool (by rfl))

theorem c_impl_areValues (w0 : World) (v_list : Value) (list : List Int) {S_list : Nat → Prop} (h_list : Rds shI64 S_list w0 v_list list) :
  Calls Try.prog 67 #[v_list] w0 (Ret w0 (fun v _ => v = .bool (list.all valB))) := by
 refine enter (N := 15) Try.func67 rfl rfl rfl ?_
 intro a0 ha0
 have hx0 := Ext.rfl' w0
 have hl_list := h_list.length_le
 refine wp_seq ?_
 refine wp_region_lit ?_
 refine wl_val ha0 rfl rfl rfl (op_assign ha0 rfl rfl) ?_
 intro a1 ha1; clear ha0 a0
 refine wpList_nil ?_
 refine then_n ?_
 refine wp_seq ?_
 refine wp_seq ?_
 refine wp_region_lit ?_
 refine wl_val ha1 rfl rfl rfl (op_move ha1 rfl rfl) ?_
 intro a2 ha2; clear ha1 a1
 refine wl_val ha2 rfl rfl rfl (op_len_sl ha2 rfl Try.underlying41 rfl h_list) ?_
 intro a3 ha3; clear ha2 a2
 refine wl_val ha3 rfl rfl rfl (op_move ha3 rfl rfl) ?_
 intro a4 ha4; clear ha3 a3
 refine wpList_nil ?_
 refine then_n ?_
 refine wp_block ?_
 refine loop_inv (X := Nat) (fun (i : Nat) fr wl => Sl 15 fr [(5, v_list), (6, .int .i64 ((list.length : Nat) : Int)), (7, .int .i64 ((i : Nat) : Int))] ∧ Ext w0 wl ∧ w0.heap.size ≤ wl.heap.size ∧ (i ≤ list.length) ∧ ((list.drop i).all valB = list.all valB)) (fun (i : Nat) => list.length - i) (0) ?_ ?_
 ·
  exact ⟨(Sl.cons_ ha4 rfl rfl (Sl.cons_ ha4 rfl rfl (Sl.cons_ ha4 rfl (int_eq (by omega)) (Sl.nil_ ha4)))), hx0, (by omega), (by omega), (by rfl)⟩
 ·
  clear ha4 a4
  rintro i a7 w5 ⟨ha7, hx6, hzl8, hi, hF⟩
  have hzhx6 := hx6.size
  refine wp_seq ?_
  refine wp_region_lit ?_
  refine wl_val ha7 rfl rfl rfl (op_lss ha7 rfl rfl rfl) ?_
  intro a9 ha9; clear ha7 a7
  refine wpList_nil ?_
  refine then_n ?_
  refine wp_seq ?_
  by_cases c10 : ((i : Nat) : Int) < ((list.length : Nat) : Int)
  ·
   rw [decide_eq_true c10] at ha9
   refine cond_t ha9 rfl ?_
   refine wp_skip ?_
   refine then_n ?_
   refine wp_seq ?_
   refine wp_block ?_
   refine wp_seq ?_
   refine wp_region_lit ?_
   obtain ⟨x11, hx11⟩ := get_ex (xs := list) (j := i) (by omega)
   obtain ⟨p12, c13, hi14, hc15, hr16, hs17⟩ := Rds.at_ h_list hx11
   obtain ⟨rfl, b18⟩ := inv_shI64 hr16
   refine wl_val ha9 rfl rfl rfl (op_indexAddr ha9 rfl Try.underlying41 ti2 rfl rfl (by omega) hi14) ?_
   intro a19 ha19; clear ha9 a9
   refine wl_val ha19 rfl rfl rfl (op_loadH ha19 rfl Try.underlying2 rfl rfl (hc15.ext hx6) rfl) ?_
   intro a20 ha20; clear ha19 a19
   refine wl_val ha20 rfl rfl rfl (op_assign ha20 rfl rfl) ?_
   intro a21 ha21; clear ha20 a20
   refine wpList_nil ?_
   refine then_n ?_
   refine wp_seq ?_
   refine wp_region_lit ?_
   refine wl_val ha21 rfl rfl rfl (op_move ha21 rfl rfl) ?_
   intro a22 ha22; clear ha21 a21
   refine wl_callR ha22 rfl rfl rfl (op_call ha22 rfl cb77 rfl) (c_impl_isValue _ x11 ) ?_
   rintro v23 w24 he25 rfl a26 ha26; clear ha22 a22
   have hx27 := hx6.trans' he25
   have hzhx27 := he25.size
   refine wl_val ha26 rfl rfl rfl (op_not ha26 rfl rfl) ?_
   intro a28 ha28; clear ha26 a26
   refine wpList_nil ?_
   refine then_n ?_
   rcases Bool.eq_false_or_eq_true (valB x11) with c29 | c29
   ·
    rw [c29] at ha28
    refine cond_f ha28 rfl ?_
    refine wp_skip ?_
    refine block_n ?_
    refine then_n ?_
    refine wp_region_lit ?_
    refine wl_val ha28 rfl rfl rfl ((op_add ha28 rfl rfl rfl).int (IntWalk.i64_in _ (by omega))) ?_
    intro a30 ha30; clear ha28 a28
    refine wl_val ha30 rfl rfl rfl (op_move ha30 rfl rfl) ?_
    intro a31 ha31; clear ha30 a30
    refine wpList_nil ?_
    refine round_end (x := i) ((i + 1)) ?_ ?_
    ·
     refine ⟨(Sl.cons_ ha31 rfl rfl (Sl.cons_ ha31 rfl rfl (Sl.cons_ ha31 rfl (int_eq (by omega)) (Sl.nil_ ha31)))), hx27, (by omega), (by omega), (by rw [drop_cons hx11, List.all_cons, c29, Bool.true_and] at hF; exact hF)⟩
    ·show (list.length - ((i + 1)) : Nat) < list.length - i; omega
   ·
    rw [c29] at ha28
    refine cond_t ha28 rfl ?_
    refine wp_seq ?_
    refine wp_region_lit ?_
    refine wl_val ha28 rfl rfl rfl (op_assign ha28 rfl rfl) ?_
    intro a32 ha32; clear ha28 a28
    refine wpList_nil ?_
    refine then_n ?_
    refine wp_ret ?_
    refine block_r ?_
    refine then_r ?_
    refine then_r ?_
    refine block_r ?_
    refine then_r ?_
    refine ret1 ha32 rfl rfl ?_
    clear ha32 a32
    rw [drop_cons hx11, List.all_cons, c29, Bool.false_and] at hF
    exact ret_mk hx27 (congrArg Value.bool (by exact hF))
  ·
   rw [decide_eq_false c10] at ha9
   refine cond_f ha9 rfl ?_
   refine wp_exit ?_
   refine then_e ?_
   refine then_e ?_
   refine block_hit ?_
   refine then_n ?_
   refine wp_seq ?_
   refine wp_region_lit ?_
   refine wl_val ha9 rfl rfl rfl (op_assign ha9 rfl rfl) ?_
   intro a33 ha33; clear ha9 a9
   refine wpList_nil ?_
   refine then_n ?_
   refine wp_ret ?_
   refine ret1 ha33 rfl rfl ?_
   clear ha33 a33
   rw [drop_nil (by omega), List.all_nil] at hF
   exact ret_mk hx6 (congrArg Value.bool (by exact hF))

theorem c_impl_headAt (w0 : World) (v_heads : Value) (heads : List Str) {S_heads : Nat → Prop} (head : Str) (h_heads : Rds shStr S_heads w0 v_heads heads) :
  Calls Try.prog 66 #[v_heads, St head] w0 (Ret w0 (fun v _ => v = .int .i64 (fdF (eqB head) heads))) := by
 refine enter (N := 19) Try.func66 rfl rfl rfl ?_
 intro a0 ha0
 have hx0 := Ext.rfl' w0
 have hl_heads := h_heads.length_le
 refine wp_seq ?_
 refine wp_region_lit ?_
 refine wl_val ha0 rfl rfl rfl (op_assign ha0 rfl rfl) ?_
 intro a1 ha1; clear ha0 a0
 refine wpList_nil ?_
 refine then_n ?_
 refine wp_seq ?_
 refine wp_seq ?_
 refine wp_region_lit ?_
 refine wl_val ha1 rfl rfl rfl (op_move ha1 rfl rfl) ?_
 intro a2 ha2; clear ha1 a1
 refine wl_val ha2 rfl rfl rfl (op_len_sl ha2 rfl Try.underlying22 rfl h_heads) ?_
 intro a3 ha3; clear ha2 a2
 refine wl_val ha3 rfl rfl rfl (op_move ha3 rfl rfl) ?_
 intro a4 ha4; clear ha3 a3
 refine wpList_nil ?_
 refine then_n ?_
 refine wp_block ?_
 refine loop_inv (X := Nat) (fun (i : Nat) fr wl => Sl 19 fr [(1, St head), (7, v_heads), (8, .int .i64 ((heads.length : Nat) : Int)), (9, .int .i64 ((i : Nat) : Int))] ∧ Ext w0 wl ∧ w0.heap.size ≤ wl.heap.size ∧ (i ≤ heads.length) ∧ (∀ (j : Nat) (y : Str), j < i → heads[j]? = some y → (eqB head) y = false)) (fun (i : Nat) => heads.length - i) (0) ?_ ?_
 ·
  exact ⟨(Sl.cons_ ha4 rfl rfl (Sl.cons_ ha4 rfl rfl (Sl.cons_ ha4 rfl rfl (Sl.cons_ ha4 rfl (int_eq (by omega)) (Sl.nil_ ha4))))), hx0, (by omega), (by omega), (by exact all_zero)⟩
 ·
  clear ha4 a4
  rintro i a7 w5 ⟨ha7, hx6, hzl8, hi, hA⟩
  have hzhx6 := hx6.size
  refine wp_seq ?_
  refine wp_region_lit ?_
  refine wl_val ha7 rfl rfl rfl (op_lss ha7 rfl rfl rfl) ?_
  intro a9 ha9; clear ha7 a7
  refine wpList_nil ?_
  refine then_n ?_
  refine wp_seq ?_
  by_cases c10 : ((i : Nat) : Int) < ((heads.length : Nat) : Int)
  ·
   rw [decide_eq_true c10] at ha9
   refine cond_t ha9 rfl ?_
   refine wp_skip ?_
   refine then_n ?_
   refine wp_seq ?_
   refine wp_block ?_
   refine wp_seq ?_
   refine wp_region_lit ?_
   refine wl_val ha9 rfl rfl rfl (op_move ha9 rfl rfl) ?_
   intro a11 ha11; clear ha9 a9
   obtain ⟨x12, hx12⟩ := get_ex (xs := heads) (j := i) (by omega)
   obtain ⟨p13, c14, hi15, hc16, hr17, hs18⟩ := Rds.at_ h_heads hx12
   obtain ⟨rfl, b19⟩ := inv_shStr hr17
   refine wl_val ha11 rfl rfl rfl (op_indexAddr ha11 rfl Try.underlying22 ti9 rfl rfl (by omega) hi15) ?_
   intro a20 ha20; clear ha11 a11
   refine wl_val ha20 rfl rfl rfl (op_loadH ha20 rfl Try.underlying9 rfl rfl (hc16.ext hx6) rfl) ?_
   intro a21 ha21; clear ha20 a20
   refine wl_val ha21 rfl rfl rfl (op_assign ha21 rfl rfl) ?_
   intro a22 ha22; clear ha21 a21
   refine wl_val ha22 rfl rfl rfl (op_assign ha22 rfl rfl) ?_
   intro a23 ha23; clear ha22 a22
   refine wpList_nil ?_
   refine then_n ?_
   refine wp_seq ?_
   refine wp_region_lit ?_
   refine wl_val ha23 rfl rfl rfl (op_move ha23 rfl rfl) ?_
   intro a24 ha24; clear ha23 a23
   refine wl_val ha24 rfl rfl rfl (op_move ha24 rfl rfl) ?_
   intro a25 ha25; clear ha24 a24
   refine wl_val ha25 rfl rfl rfl (op_seql ha25 rfl rfl rfl) ?_
   intro a26 ha26; clear ha25 a25
   refine wpList_nil ?_
   refine then_n ?_
   by_cases c27 : x12 = head
   ·
    rw [decide_eq_true c27] at ha26
    refine cond_t ha26 rfl ?_
    refine wp_seq ?_
    refine wp_region_lit ?_
    refine wl_val ha26 rfl rfl rfl (op_move ha26 rfl rfl) ?_
    intro a28 ha28; clear ha26 a26
    refine wl_val ha28 rfl rfl rfl (op_assign ha28 rfl rfl) ?_
    intro a29 ha29; clear ha28 a28
    refine wpList_nil ?_
    refine then_n ?_
    refine wp_ret ?_
    refine block_r ?_
    refine then_r ?_
    refine then_r ?_
    refine block_r ?_
    refine then_r ?_
    refine ret1 ha29 rfl rfl ?_
    clear ha29 a29
    exact ret_mk hx6 (int_eq (by exact (fdF_hit hx12 (by simp [eqB, c10, c27]) hA).symm))
   ·
    rw [decide_eq_false c27] at ha26
    refine cond_f ha26 rfl ?_
    refine wp_skip ?_
    refine block_n ?_
    refine then_n ?_
    refine wp_region_lit ?_
    refine wl_val ha26 rfl rfl rfl ((op_add ha26 rfl rfl rfl).int (IntWalk.i64_in _ (by omega))) ?_
    intro a30 ha30; clear ha26 a26
    refine wl_val ha30 rfl rfl rfl (op_move ha30 rfl rfl) ?_
    intro a31 ha31; clear ha30 a30
    refine wpList_nil ?_
    refine round_end (x := i) ((i + 1)) ?_ ?_
    ·
     refine ⟨(Sl.cons_ ha31 rfl rfl (Sl.cons_ ha31 rfl rfl (Sl.cons_ ha31 rfl rfl (Sl.cons_ ha31 rfl (int_eq (by omega)) (Sl.nil_ ha31))))), hx6, (by omega), (by omega), (by exact all_snoc (p := fun y => (eqB head) y = false) hA hx12 (by simp [eqB, c10, c27]))⟩
    ·show (heads.length - ((i + 1)) : Nat) < heads.length - i; omega
  ·
   rw [decide_eq_false c10] at ha9
   refine cond_f ha9 rfl ?_
   refine wp_exit ?_
   refine then_e ?_
   refine then_e ?_
   refine block_hit ?_
   refine then_n ?_
   refine wp_seq ?_
   refine wp_region_lit ?_
   refine wl_val ha9 rfl rfl rfl (op_assign ha9 rfl rfl) ?_
   intro a32 ha32; clear ha9 a9
   refine wpList_nil ?_
   refine then_n ?_
   refine wp_ret ?_
   refine ret1 ha32 rfl rfl ?_
   clear ha32 a32
   exact ret_mk hx6 (int_eq (by exact (fdF_none fun j y hj hy => hA j y (by omega) hy).symm))

theorem c_impl_IsTable (w0 : World) (v_t0 : Value) (v_t1 : Value) (t : List Str × List (List Int)) {S_t0 : Nat → Prop} {S_t1 : Nat → Prop} (h_t0 : Rds shStr S_t0 w0 v_t0 t.1) (h_t1 : Rds shRow S_t1 w0 v_t1 t.2) :
  Calls Try.prog 19 #[.agg #[v_t0, v_t1]] w0 (Ret w0 (fun v _ => v = .bool (tabB t))) := by
 refine enter (N := 63) Try.func19 rfl rfl rfl ?_
 intro a0 ha0
 have hx0 := Ext.rfl' w0
 have hl_t0 := h_t0.length_le
 have hl_t1 := h_t1.length_le
 refine wp_seq ?_
 refine wp_region_lit ?_
 refine wl_eff ha0 rfl rfl rfl (op_box' ha0 rfl rfl rfl) ?_
 rintro _ w2 ⟨rfl, he3, hb4, hz5⟩ a6 ha6; clear ha0 a0
 have hx7 := hx0.trans' he3
 have hzhx7 := he3.size
 refine wl_val ha6 rfl rfl rfl (op_assign ha6 rfl rfl) ?_
 intro a8 ha8; clear ha6 a6
 refine wpList_nil ?_
 refine then_n ?_
 refine wp_seq ?_
 refine wp_seq ?_
 refine wp_region_lit ?_
 refine wl_val ha8 rfl rfl rfl (op_fieldAddr (sz := 0) ha8 rfl Try.underlying28 rfl rfl ti22 rfl) ?_
 intro a9 ha9; clear ha8 a8
 refine wl_val ha9 rfl rfl rfl (op_loadF (off := 0) ha9 rfl Try.underlying22 rfl rfl hb4.cells rfl) ?_
 intro a10 ha10; clear ha9 a9
 refine wl_val ha10 rfl rfl rfl (op_len_sl ha10 rfl Try.underlying22 rfl h_t0) ?_
 intro a11 ha11; clear ha10 a10
 refine wl_val ha11 rfl rfl rfl (op_lss ha11 rfl rfl rfl) ?_
 intro a12 ha12; clear ha11 a11
 refine wl_val ha12 rfl rfl rfl (op_move ha12 rfl rfl) ?_
 intro a13 ha13; clear ha12 a12
 by_cases c14 : ((t.1.length : Nat) : Int) < (1 : Int)
 ·
  rw [decide_eq_true c14] at ha13
  refine wl_skip ha13 rfl rfl rfl ?_
  intro a15 ha15; clear ha13 a13
  refine wl_skip ha15 rfl rfl rfl ?_
  intro a16 ha16; clear ha15 a15
  refine wl_skip ha16 rfl rfl rfl ?_
  intro a17 ha17; clear ha16 a16
  refine wl_skip ha17 rfl rfl rfl ?_
  intro a18 ha18; clear ha17 a17
  refine wl_val ha18 rfl rfl rfl (op_pick_t ha18 rfl rfl rfl) ?_
  intro a19 ha19; clear ha18 a18
  refine wl_val ha19 rfl rfl rfl (op_move ha19 rfl rfl) ?_
  intro a20 ha20; clear ha19 a19
  refine wl_skip ha20 rfl rfl rfl ?_
  intro a21 ha21; clear ha20 a20
  refine wl_skip ha21 rfl rfl rfl ?_
  intro a22 ha22; clear ha21 a21
  refine wl_skip ha22 rfl rfl rfl ?_
  intro a23 ha23; clear ha22 a22
  refine wl_skip ha23 rfl rfl rfl ?_
  intro a24 ha24; clear ha23 a23
  refine wl_val ha24 rfl rfl rfl (op_pick_t ha24 rfl rfl rfl) ?_
  intro a25 ha25; clear ha24 a24
  refine wpList_nil ?_
  refine then_n ?_
  refine cond_t ha25 rfl ?_
  refine wp_seq ?_
  refine wp_region_lit ?_
  refine wl_val ha25 rfl rfl rfl (op_assign ha25 rfl rfl) ?_
  intro a26 ha26; clear ha25 a25
  refine wpList_nil ?_
  refine then_n ?_
  refine wp_ret ?_
  refine then_r ?_
  refine ret1 ha26 rfl rfl ?_
  clear ha26 a26
  exact ret_mk hx7 (congrArg Value.bool (by rw [tab_n (by omega)]))
 ·
  rw [decide_eq_false c14] at ha13
  refine wl_val ha13 rfl rfl rfl (op_fieldAddr (sz := 0) ha13 rfl Try.underlying28 rfl rfl ti22 rfl) ?_
  intro a27 ha27; clear ha13 a13
  refine wl_val ha27 rfl rfl rfl (op_loadF (off := 0) ha27 rfl Try.underlying22 rfl rfl hb4.cells rfl) ?_
  intro a28 ha28; clear ha27 a27
  refine wl_val ha28 rfl rfl rfl (op_len_sl ha28 rfl Try.underlying22 rfl h_t0) ?_
  intro a29 ha29; clear ha28 a28
  refine wl_val ha29 rfl rfl rfl (op_gtr ha29 rfl rfl rfl) ?_
  intro a30 ha30; clear ha29 a29
  refine wl_val ha30 rfl rfl rfl (op_pick_f ha30 rfl rfl rfl) ?_
  intro a31 ha31; clear ha30 a30
  refine wl_val ha31 rfl rfl rfl (op_move ha31 rfl rfl) ?_
  intro a32 ha32; clear ha31 a31
  by_cases c33 : (6 : Int) < ((t.1.length : Nat) : Int)
  ·
   rw [decide_eq_true c33] at ha32
   refine wl_skip ha32 rfl rfl rfl ?_
   intro a34 ha34; clear ha32 a32
   refine wl_skip ha34 rfl rfl rfl ?_
   intro a35 ha35; clear ha34 a34
   refine wl_skip ha35 rfl rfl rfl ?_
   intro a36 ha36; clear ha35 a35
   refine wl_skip ha36 rfl rfl rfl ?_
   intro a37 ha37; clear ha36 a36
   refine wl_val ha37 rfl rfl rfl (op_pick_t ha37 rfl rfl rfl) ?_
   intro a38 ha38; clear ha37 a37
   refine wpList_nil ?_
   refine then_n ?_
   refine cond_t ha38 rfl ?_
   refine wp_seq ?_
   refine wp_region_lit ?_
   refine wl_val ha38 rfl rfl rfl (op_assign ha38 rfl rfl) ?_
   intro a39 ha39; clear ha38 a38
   refine wpList_nil ?_
   refine then_n ?_
   refine wp_ret ?_
   refine then_r ?_
   refine ret1 ha39 rfl rfl ?_
   clear ha39 a39
   exact ret_mk hx7 (congrArg Value.bool (by rw [tab_n (by omega)]))
  ·
   rw [decide_eq_false c33] at ha32
   refine wl_val ha32 rfl rfl rfl (op_fieldAddr (sz := 0) ha32 rfl Try.underlying28 rfl rfl ti23 rfl) ?_
   intro a40 ha40; clear ha32 a32
   refine wl_val ha40 rfl rfl rfl (op_loadF (off := 1) ha40 rfl Try.underlying23 rfl rfl hb4.cells rfl) ?_
   intro a41 ha41; clear ha40 a40
   refine wl_val ha41 rfl rfl rfl (op_len_sl ha41 rfl Try.underlying23 rfl h_t1) ?_
   intro a42 ha42; clear ha41 a41
   refine wl_val ha42 rfl rfl rfl (op_gtr ha42 rfl rfl rfl) ?_
   intro a43 ha43; clear ha42 a42
   refine wl_val ha43 rfl rfl rfl (op_pick_f ha43 rfl rfl rfl) ?_
   intro a44 ha44; clear ha43 a43
   refine wpList_nil ?_
   refine then_n ?_
   by_cases c45 : (20 : Int) < ((t.2.length : Nat) : Int)
   ·
    rw [decide_eq_true c45] at ha44
    refine cond_t ha44 rfl ?_
    refine wp_seq ?_
    refine wp_region_lit ?_
    refine wl_val ha44 rfl rfl rfl (op_assign ha44 rfl rfl) ?_
    intro a46 ha46; clear ha44 a44
    refine wpList_nil ?_
    refine then_n ?_
    refine wp_ret ?_
    refine then_r ?_
    refine ret1 ha46 rfl rfl ?_
    clear ha46 a46
    exact ret_mk hx7 (congrArg Value.bool (by rw [tab_n (by omega)]))
   ·
    rw [decide_eq_false c45] at ha44
    refine cond_f ha44 rfl ?_
    refine wp_skip ?_
    refine then_n ?_
    refine wp_seq ?_
    refine wp_seq ?_
    refine wp_region_lit ?_
    refine wl_val ha44 rfl rfl rfl (op_fieldAddr (sz := 0) ha44 rfl Try.underlying28 rfl rfl ti22 rfl) ?_
    intro a47 ha47; clear ha44 a44
    refine wl_val ha47 rfl rfl rfl (op_loadF (off := 0) ha47 rfl Try.underlying22 rfl rfl hb4.cells rfl) ?_
    intro a48 ha48; clear ha47 a47
    refine wl_val ha48 rfl rfl rfl (op_len_sl ha48 rfl Try.underlying22 rfl h_t0) ?_
    intro a49 ha49; clear ha48 a48
    refine wl_val ha49 rfl rfl rfl (op_move ha49 rfl rfl) ?_
    intro a50 ha50; clear ha49 a49
    refine wpList_nil ?_
    refine then_n ?_
    refine wp_block ?_
    refine loop_inv (X := Nat) (fun (i : Nat) fr wl => Sl 63 fr [(1, .pointer (some (⟨w0.heap.size, 0, none⟩ : Addr))), (24, v_t0), (25, .int .i64 ((t.1.length : Nat) : Int)), (26, .int .i64 ((i : Nat) : Int))] ∧ Ext w0 wl ∧ Box wl w0.heap.size 28 [v_t0, v_t1] ∧ w2.heap.size ≤ wl.heap.size ∧ (i ≤ t.1.length) ∧ (upB (hdAt t.1) i = true)) (fun (i : Nat) => t.1.length - i) (0) ?_ ?_
    ·
     exact ⟨(Sl.cons_ ha50 rfl rfl (Sl.cons_ ha50 rfl rfl (Sl.cons_ ha50 rfl rfl (Sl.cons_ ha50 rfl (int_eq (by omega)) (Sl.nil_ ha50))))), hx7, hb4, (by omega), (by omega), (by rfl)⟩
    ·
     clear ha50 a50
     rintro i a54 w51 ⟨ha54, hx52, hf53, hzl55, hi, hA⟩
     have hzhx52 := hx52.size
     refine wp_seq ?_
     refine wp_region_lit ?_
     refine wl_val ha54 rfl rfl rfl (op_lss ha54 rfl rfl rfl) ?_
     intro a56 ha56; clear ha54 a54
     refine wpList_nil ?_
     refine then_n ?_
     refine wp_seq ?_
     by_cases c57 : ((i : Nat) : Int) < ((t.1.length : Nat) : Int)
     ·
      rw [decide_eq_true c57] at ha56
      refine cond_t ha56 rfl ?_
      refine wp_skip ?_
      refine then_n ?_
      refine wp_seq ?_
      refine wp_block ?_
      refine wp_seq ?_
      refine wp_region_lit ?_
      refine wl_val ha56 rfl rfl rfl (op_move ha56 rfl rfl) ?_
      intro a58 ha58; clear ha56 a56
      obtain ⟨x59, hx59⟩ := get_ex (xs := t.1) (j := i) (by omega)
      obtain ⟨p60, c61, hi62, hc63, hr64, hs65⟩ := Rds.at_ h_t0 hx59
      obtain ⟨rfl, b66⟩ := inv_shStr hr64
      refine wl_val ha58 rfl rfl rfl (op_indexAddr ha58 rfl Try.underlying22 ti9 rfl rfl (by omega) hi62) ?_
      intro a67 ha67; clear ha58 a58
      refine wl_val ha67 rfl rfl rfl (op_loadH ha67 rfl Try.underlying9 rfl rfl (hc63.ext hx52) rfl) ?_
      intro a68 ha68; clear ha67 a67
      refine wl_val ha68 rfl rfl rfl (op_assign ha68 rfl rfl) ?_
      intro a69 ha69; clear ha68 a68
      refine wl_val ha69 rfl rfl rfl (op_assign ha69 rfl rfl) ?_
      intro a70 ha70; clear ha69 a69
      refine wpList_nil ?_
      refine then_n ?_
      refine wp_seq ?_
      refine wp_region_lit ?_
      refine wl_val ha70 rfl rfl rfl (op_move ha70 rfl rfl) ?_
      intro a71 ha71; clear ha70 a70
      refine wl_callR ha71 rfl rfl rfl (op_call ha71 rfl cb65 rfl) (c_impl_IsWord _ x59 (by first | assumption | omega | (simp; omega) | (simp [mkN_length]; omega))) ?_
      rintro v72 w73 he74 rfl a75 ha75; clear ha71 a71
      have hx76 := hx52.trans' he74
      have hzhx76 := he74.size
      replace hf53 := hf53.ext he74
      refine wl_val ha75 rfl rfl rfl (op_not ha75 rfl rfl) ?_
      intro a77 ha77; clear ha75 a75
      refine wl_val ha77 rfl rfl rfl (op_move ha77 rfl rfl) ?_
      intro a78 ha78; clear ha77 a77
      rcases Bool.eq_false_or_eq_true (wordB x59) with c79 | c79
      ·
       rw [c79] at ha78
       refine wl_val ha78 rfl rfl rfl (op_fieldAddr (sz := 0) ha78 rfl Try.underlying28 rfl rfl ti22 rfl) ?_
       intro a80 ha80; clear ha78 a78
       refine wl_val ha80 rfl rfl rfl (op_loadF (off := 0) ha80 rfl Try.underlying22 rfl rfl hf53.cells rfl) ?_
       intro a81 ha81; clear ha80 a80
       refine wl_val ha81 rfl rfl rfl (op_move ha81 rfl rfl) ?_
       intro a82 ha82; clear ha81 a81
       obtain ⟨u83, hu84, hr85⟩ := Rds.part h_t0 Try.underlying22 ti9 none (some (.int .i64 (i : Nat))) 0 i (.inl ⟨rfl, rfl⟩) (.inr ⟨.i64, rfl⟩) (by omega) (by omega)
       replace hr85 := hr85.cast (ys := t.1.take i) (by first | rw [List.take_length] | simp)
       refine wl_val ha82 rfl rfl rfl (op_slice_t (by omega) ha82 rfl rfl rfl hu84) ?_
       intro a86 ha86; clear ha82 a82
       refine wl_val ha86 rfl rfl rfl (op_move ha86 rfl rfl) ?_
       intro a87 ha87; clear ha86 a86
       refine wl_callR ha87 rfl rfl rfl (op_call ha87 rfl cb66 rfl) (c_impl_headAt _ u83 (t.1.take i) x59 (hr85.ext pos_shStr hx76)) ?_
       rintro v88 w89 he90 rfl a91 ha91; clear ha87 a87
       have hx92 := hx76.trans' he90
       have hzhx92 := he90.size
       replace hf53 := hf53.ext he90
       refine wl_val ha91 rfl rfl rfl (op_geq ha91 rfl rfl rfl) ?_
       intro a93 ha93; clear ha91 a91
       refine wl_val ha93 rfl rfl rfl (op_pick_f ha93 rfl rfl rfl) ?_
       intro a94 ha94; clear ha93 a93
       refine wpList_nil ?_
       refine then_n ?_
       by_cases c95 : (0 : Int) ≤ (fdF (eqB x59) (t.1.take i) : Int)
       ·
        rw [decide_eq_true c95] at ha94
        refine cond_t ha94 rfl ?_
        refine wp_seq ?_
        refine wp_region_lit ?_
        refine wl_val ha94 rfl rfl rfl (op_assign ha94 rfl rfl) ?_
        intro a96 ha96; clear ha94 a94
        refine wpList_nil ?_
        refine then_n ?_
        refine wp_ret ?_
        refine block_r ?_
        refine then_r ?_
        refine then_r ?_
        refine block_r ?_
        refine then_r ?_
        refine ret1 ha96 rfl rfl ?_
        clear ha96 a96
        exact ret_mk hx92 (congrArg Value.bool (by rw [tab_h hx59 (hdAt_no hx59 (by first | (left; assumption) | (right; omega)))]))
       ·
        rw [decide_eq_false c95] at ha94
        refine cond_f ha94 rfl ?_
        refine wp_skip ?_
        refine block_n ?_
        refine then_n ?_
        refine wp_region_lit ?_
        refine wl_val ha94 rfl rfl rfl ((op_add ha94 rfl rfl rfl).int (IntWalk.i64_in _ (by omega))) ?_
        intro a97 ha97; clear ha94 a94
        refine wl_val ha97 rfl rfl rfl (op_move ha97 rfl rfl) ?_
        intro a98 ha98; clear ha97 a97
        refine wpList_nil ?_
        refine round_end (x := i) ((i + 1)) ?_ ?_
        ·
         refine ⟨(Sl.cons_ ha98 rfl rfl (Sl.cons_ ha98 rfl rfl (Sl.cons_ ha98 rfl rfl (Sl.cons_ ha98 rfl (int_eq (by omega)) (Sl.nil_ ha98))))), hx92, hf53, (by omega), (by omega), (by exact upB_step hA (hdAt_ok hx59 (by assumption) (by omega)))⟩
        ·show (t.1.length - ((i + 1)) : Nat) < t.1.length - i; omega
      ·
       rw [c79] at ha78
       refine wl_skip ha78 rfl rfl rfl ?_
       intro a99 ha99; clear ha78 a78
       refine wl_skip ha99 rfl rfl rfl ?_
       intro a100 ha100; clear ha99 a99
       refine wl_skip ha100 rfl rfl rfl ?_
       intro a101 ha101; clear ha100 a100
       refine wl_skip ha101 rfl rfl rfl ?_
       intro a102 ha102; clear ha101 a101
       refine wl_skip ha102 rfl rfl rfl ?_
       intro a103 ha103; clear ha102 a102
       refine wl_skip ha103 rfl rfl rfl ?_
       intro a104 ha104; clear ha103 a103
       refine wl_skip ha104 rfl rfl rfl ?_
       intro a105 ha105; clear ha104 a104
       refine wl_val ha105 rfl rfl rfl (op_pick_t ha105 rfl rfl rfl) ?_
       intro a106 ha106; clear ha105 a105
       refine wpList_nil ?_
       refine then_n ?_
       refine cond_t ha106 rfl ?_
       refine wp_seq ?_
       refine wp_region_lit ?_
       refine wl_val ha106 rfl rfl rfl (op_assign ha106 rfl rfl) ?_
       intro a107 ha107; clear ha106 a106
       refine wpList_nil ?_
       refine then_n ?_
       refine wp_ret ?_
       refine block_r ?_
       refine then_r ?_
       refine then_r ?_
       refine block_r ?_
       refine then_r ?_
       refine ret1 ha107 rfl rfl ?_
       clear ha107 a107
       exact ret_mk hx76 (congrArg Value.bool (by rw [tab_h hx59 (hdAt_no hx59 (by first | (left; assumption) | (right; omega)))]))
     ·
      rw [decide_eq_false c57] at ha56
      refine cond_f ha56 rfl ?_
      refine wp_exit ?_
      refine then_e ?_
      refine then_e ?_
      refine block_hit ?_
      refine then_n ?_
      refine wp_seq ?_
      refine wp_seq ?_
      refine wp_region_lit ?_
      refine wl_val ha56 rfl rfl rfl (op_fieldAddr (sz := 0) ha56 rfl Try.underlying28 rfl rfl ti23 rfl) ?_
      intro a108 ha108; clear ha56 a56
      refine wl_val ha108 rfl rfl rfl (op_loadF (off := 1) ha108 rfl Try.underlying23 rfl rfl hf53.cells rfl) ?_
      intro a109 ha109; clear ha108 a108
      refine wl_val ha109 rfl rfl rfl (op_len_sl ha109 rfl Try.underlying23 rfl h_t1) ?_
      intro a110 ha110; clear ha109 a109
      refine wl_val ha110 rfl rfl rfl (op_move ha110 rfl rfl) ?_
      intro a111 ha111; clear ha110 a110
      refine wpList_nil ?_
      refine then_n ?_
      refine wp_block ?_
      refine loop_inv (X := Nat) (fun (k : Nat) fr wl => Sl 63 fr [(1, .pointer (some (⟨w0.heap.size, 0, none⟩ : Addr))), (45, v_t1), (46, .int .i64 ((t.2.length : Nat) : Int)), (47, .int .i64 ((k : Nat) : Int))] ∧ Ext w0 wl ∧ Box wl w0.heap.size 28 [v_t0, v_t1] ∧ w51.heap.size ≤ wl.heap.size ∧ (k ≤ t.2.length) ∧ (upB (rwAt t.1.length t.2) k = true) ∧ (upB (hdAt t.1) t.1.length = true)) (fun (k : Nat) => t.2.length - k) (0) ?_ ?_
      ·
       exact ⟨(Sl.cons_ ha111 rfl rfl (Sl.cons_ ha111 rfl rfl (Sl.cons_ ha111 rfl rfl (Sl.cons_ ha111 rfl (int_eq (by omega)) (Sl.nil_ ha111))))), hx52, hf53, (by omega), (by omega), (by rfl), (by have e : i = t.1.length := (by omega); rw [e] at hA; exact hA)⟩
      ·
       clear ha111 a111
       rintro k a115 w112 ⟨ha115, hx113, hf114, hzl116, hk, hR, hH⟩
       have hzhx113 := hx113.size
       refine wp_seq ?_
       refine wp_region_lit ?_
       refine wl_val ha115 rfl rfl rfl (op_lss ha115 rfl rfl rfl) ?_
       intro a117 ha117; clear ha115 a115
       refine wpList_nil ?_
       refine then_n ?_
       refine wp_seq ?_
       by_cases c118 : ((k : Nat) : Int) < ((t.2.length : Nat) : Int)
       ·
        rw [decide_eq_true c118] at ha117
        refine cond_t ha117 rfl ?_
        refine wp_skip ?_
        refine then_n ?_
        refine wp_seq ?_
        refine wp_block ?_
        refine wp_seq ?_
        refine wp_region_lit ?_
        obtain ⟨x119, hx119⟩ := get_ex (xs := t.2) (j := k) (by omega)
        obtain ⟨p120, c121, hi122, hc123, hr124, hs125⟩ := Rds.at_ h_t1 hx119
        obtain ⟨v126, rfl, b127⟩ := inv_shRow hr124
        have hlb127 := b127.length_le
        refine wl_val ha117 rfl rfl rfl (op_indexAddr ha117 rfl Try.underlying23 ti41 rfl rfl (by omega) hi122) ?_
        intro a128 ha128; clear ha117 a117
        refine wl_val ha128 rfl rfl rfl (op_loadH ha128 rfl Try.underlying41 rfl rfl (hc123.ext hx113) rfl) ?_
        intro a129 ha129; clear ha128 a128
        refine wl_val ha129 rfl rfl rfl (op_assign ha129 rfl rfl) ?_
        intro a130 ha130; clear ha129 a129
        refine wpList_nil ?_
        refine then_n ?_
        refine wp_seq ?_
        refine wp_region_lit ?_
        refine wl_val ha130 rfl rfl rfl (op_move ha130 rfl rfl) ?_
        intro a131 ha131; clear ha130 a130
        refine wl_val ha131 rfl rfl rfl (op_len_sl ha131 rfl Try.underlying41 rfl b127) ?_
        intro a132 ha132; clear ha131 a131
        refine wl_val ha132 rfl rfl rfl (op_fieldAddr (sz := 0) ha132 rfl Try.underlying28 rfl rfl ti22 rfl) ?_
        intro a133 ha133; clear ha132 a132
        refine wl_val ha133 rfl rfl rfl (op_loadF (off := 0) ha133 rfl Try.underlying22 rfl rfl hf114.cells rfl) ?_
        intro a134 ha134; clear ha133 a133
        refine wl_val ha134 rfl rfl rfl (op_len_sl ha134 rfl Try.underlying22 rfl h_t0) ?_
        intro a135 ha135; clear ha134 a134
        refine wl_val ha135 rfl rfl rfl ((op_neq ha135 rfl rfl rfl).to (congrArg Value.bool decide_not)) ?_
        intro a136 ha136; clear ha135 a135
        refine wl_val ha136 rfl rfl rfl (op_move ha136 rfl rfl) ?_
        intro a137 ha137; clear ha136 a136
        by_cases c138 : ((x119.length : Nat) : Int) = ((t.1.length : Nat) : Int)
        ·
         rw [decide_eq_true c138] at ha137
         refine wl_val ha137 rfl rfl rfl (op_move ha137 rfl rfl) ?_
         intro a139 ha139; clear ha137 a137
         refine wl_callR ha139 rfl rfl rfl (op_call ha139 rfl cb67 rfl) (c_impl_areValues _ v126 x119 (b127.ext pos_shI64 hx113)) ?_
         rintro v140 w141 he142 rfl a143 ha143; clear ha139 a139
         have hx144 := hx113.trans' he142
         have hzhx144 := he142.size
         replace hf114 := hf114.ext he142
         refine wl_val ha143 rfl rfl rfl (op_not ha143 rfl rfl) ?_
         intro a145 ha145; clear ha143 a143
         refine wl_val ha145 rfl rfl rfl (op_pick_f ha145 rfl rfl rfl) ?_
         intro a146 ha146; clear ha145 a145
         refine wpList_nil ?_
         refine then_n ?_
         rcases Bool.eq_false_or_eq_true (x119.all valB) with c147 | c147
         ·
          rw [c147] at ha146
          refine cond_f ha146 rfl ?_
          refine wp_skip ?_
          refine block_n ?_
          refine then_n ?_
          refine wp_region_lit ?_
          refine wl_val ha146 rfl rfl rfl ((op_add ha146 rfl rfl rfl).int (IntWalk.i64_in _ (by omega))) ?_
          intro a148 ha148; clear ha146 a146
          refine wl_val ha148 rfl rfl rfl (op_move ha148 rfl rfl) ?_
          intro a149 ha149; clear ha148 a148
          refine wpList_nil ?_
          refine round_end (x := k) ((k + 1)) ?_ ?_
          ·
           refine ⟨(Sl.cons_ ha149 rfl rfl (Sl.cons_ ha149 rfl rfl (Sl.cons_ ha149 rfl rfl (Sl.cons_ ha149 rfl (int_eq (by omega)) (Sl.nil_ ha149))))), hx144, hf114, (by omega), (by omega), (by exact upB_step hR ((rwAt_eq hx119).trans (rwB_ok (by omega) (by assumption)))), (by exact hH)⟩
          ·show (t.2.length - ((k + 1)) : Nat) < t.2.length - k; omega
         ·
          rw [c147] at ha146
          refine cond_t ha146 rfl ?_
          refine wp_seq ?_
          refine wp_region_lit ?_
          refine wl_val ha146 rfl rfl rfl (op_assign ha146 rfl rfl) ?_
          intro a150 ha150; clear ha146 a146
          refine wpList_nil ?_
          refine then_n ?_
          refine wp_ret ?_
          refine block_r ?_
          refine then_r ?_
          refine then_r ?_
          refine block_r ?_
          refine then_r ?_
          refine ret1 ha150 rfl rfl ?_
          clear ha150 a150
          exact ret_mk hx144 (congrArg Value.bool (by rw [tab_r hx119 (rwB_no (by first | (left; omega) | (right; assumption)))]))
        ·
         rw [decide_eq_false c138] at ha137
         refine wl_skip ha137 rfl rfl rfl ?_
         intro a151 ha151; clear ha137 a137
         refine wl_skip ha151 rfl rfl rfl ?_
         intro a152 ha152; clear ha151 a151
         refine wl_skip ha152 rfl rfl rfl ?_
         intro a153 ha153; clear ha152 a152
         refine wl_val ha153 rfl rfl rfl (op_pick_t ha153 rfl rfl rfl) ?_
         intro a154 ha154; clear ha153 a153
         refine wpList_nil ?_
         refine then_n ?_
         refine cond_t ha154 rfl ?_
         refine wp_seq ?_
         refine wp_region_lit ?_
         refine wl_val ha154 rfl rfl rfl (op_assign ha154 rfl rfl) ?_
         intro a155 ha155; clear ha154 a154
         refine wpList_nil ?_
         refine then_n ?_
         refine wp_ret ?_
         refine block_r ?_
         refine then_r ?_
         refine then_r ?_
         refine block_r ?_
         refine then_r ?_
         refine ret1 ha155 rfl rfl ?_
         clear ha155 a155
         exact ret_mk hx113 (congrArg Value.bool (by rw [tab_r hx119 (rwB_no (by first | (left; omega) | (right; assumption)))]))
       ·
        rw [decide_eq_false c118] at ha117
        refine cond_f ha117 rfl ?_
        refine wp_exit ?_
        refine then_e ?_
        refine then_e ?_
        refine block_hit ?_
        refine then_n ?_
        refine wp_seq ?_
        refine wp_region_lit ?_
        refine wl_val ha117 rfl rfl rfl (op_assign ha117 rfl rfl) ?_
        intro a156 ha156; clear ha117 a117
        refine wpList_nil ?_
        refine then_n ?_
        refine wp_ret ?_
        refine ret1 ha156 rfl rfl ?_
        clear ha156 a156
        exact ret_mk hx113 (congrArg Value.bool (by have e : k = t.2.length := (by omega); rw [e] at hR; rw [tab_y hH hR]; symm; simp only [Bool.and_eq_true, decide_eq_true_eq]; omega))

theorem c_spec_IsTable (w0 : World) (v_t0 : Value) (v_t1 : Value) (t : List Str × List (List Int)) {S_t0 : Nat → Prop} {S_t1 : Nat → Prop} (h_t0 : Rds shStr S_t0 w0 v_t0 t.1) (h_t1 : Rds shRow S_t1 w0 v_t1 t.2) :
  Calls Try.prog 17 #[.agg #[v_t0, v_t1]] w0 (Ret w0 (fun v _ => v = .bool (tabB t))) := by
 refine enter (N := 84) Try.func17 rfl rfl rfl ?_
 intro a0 ha0
 have hx0 := Ext.rfl' w0
 have hl_t0 := h_t0.length_le
 have hl_t1 := h_t1.length_le
 refine wp_seq ?_
 refine wp_region_lit ?_
 refine wl_eff ha0 rfl rfl rfl (op_box' ha0 rfl rfl rfl) ?_
 rintro _ w2 ⟨rfl, he3, hb4, hz5⟩ a6 ha6; clear ha0 a0
 have hx7 := hx0.trans' he3
 have hzhx7 := he3.size
 refine wl_val ha6 rfl rfl rfl (op_assign ha6 rfl rfl) ?_
 intro a8 ha8; clear ha6 a6
 refine wpList_nil ?_
 refine then_n ?_
 refine wp_seq ?_
 refine wp_seq ?_
 refine wp_region_lit ?_
 refine wl_val ha8 rfl rfl rfl (op_assign ha8 rfl rfl) ?_
 intro a9 ha9; clear ha8 a8
 refine wpList_nil ?_
 refine then_n ?_
 refine wp_block ?_
 refine loop_inv (X := Nat) (fun (i : Nat) fr wl => Sl 84 fr [(1, .pointer (some (⟨w0.heap.size, 0, none⟩ : Addr))), (3, .int .i64 ((i : Nat) : Int))] ∧ Ext w0 wl ∧ Box wl w0.heap.size 28 [v_t0, v_t1] ∧ w2.heap.size ≤ wl.heap.size ∧ (i ≤ t.1.length) ∧ (upB (hdAt t.1) i = true)) (fun (i : Nat) => t.1.length - i) (0) ?_ ?_
 ·
  exact ⟨(Sl.cons_ ha9 rfl rfl (Sl.cons_ ha9 rfl (int_eq (by omega)) (Sl.nil_ ha9))), hx7, hb4, (by omega), (by omega), (by rfl)⟩
 ·
  clear ha9 a9
  rintro i a13 w10 ⟨ha13, hx11, hf12, hzl14, hi, hA⟩
  have hzhx11 := hx11.size
  refine wp_seq ?_
  refine wp_seq ?_
  refine wp_region_lit ?_
  refine wl_val ha13 rfl rfl rfl (op_move ha13 rfl rfl) ?_
  intro a15 ha15; clear ha13 a13
  refine wl_val ha15 rfl rfl rfl (op_fieldAddr (sz := 0) ha15 rfl Try.underlying28 rfl rfl ti22 rfl) ?_
  intro a16 ha16; clear ha15 a15
  refine wl_val ha16 rfl rfl rfl (op_loadF (off := 0) ha16 rfl Try.underlying22 rfl rfl hf12.cells rfl) ?_
  intro a17 ha17; clear ha16 a16
  refine wl_val ha17 rfl rfl rfl (op_len_sl ha17 rfl Try.underlying22 rfl h_t0) ?_
  intro a18 ha18; clear ha17 a17
  refine wl_val ha18 rfl rfl rfl (op_lss ha18 rfl rfl rfl) ?_
  intro a19 ha19; clear ha18 a18
  refine wpList_nil ?_
  refine then_n ?_
  by_cases c20 : ((i : Nat) : Int) < ((t.1.length : Nat) : Int)
  ·
   rw [decide_eq_true c20] at ha19
   refine cond_t ha19 rfl ?_
   refine wp_skip ?_
   refine then_n ?_
   refine wp_seq ?_
   refine wp_block ?_
   refine wp_seq ?_
   refine wp_seq ?_
   refine wp_region_lit ?_
   refine wl_val ha19 rfl rfl rfl (op_fieldAddr (sz := 0) ha19 rfl Try.underlying28 rfl rfl ti22 rfl) ?_
   intro a21 ha21; clear ha19 a19
   refine wl_val ha21 rfl rfl rfl (op_loadF (off := 0) ha21 rfl Try.underlying22 rfl rfl hf12.cells rfl) ?_
   intro a22 ha22; clear ha21 a21
   refine wl_val ha22 rfl rfl rfl (op_move ha22 rfl rfl) ?_
   intro a23 ha23; clear ha22 a22
   obtain ⟨x24, hx24⟩ := get_ex (xs := t.1) (j := i) (by omega)
   obtain ⟨p25, c26, hi27, hc28, hr29, hs30⟩ := Rds.at_ h_t0 hx24
   obtain ⟨rfl, b31⟩ := inv_shStr hr29
   refine wl_val ha23 rfl rfl rfl (op_indexAddr ha23 rfl Try.underlying22 ti9 rfl rfl (by omega) hi27) ?_
   intro a32 ha32; clear ha23 a23
   refine wl_val ha32 rfl rfl rfl (op_loadH ha32 rfl Try.underlying9 rfl rfl (hc28.ext hx11) rfl) ?_
   intro a33 ha33; clear ha32 a32
   refine wl_callR ha33 rfl rfl rfl (op_call ha33 rfl cb60 rfl) (c_spec_IsWord _ x24 (by first | assumption | omega | (simp; omega) | (simp [mkN_length]; omega))) ?_
   rintro v34 w35 he36 rfl a37 ha37; clear ha33 a33
   have hx38 := hx11.trans' he36
   have hzhx38 := he36.size
   replace hf12 := hf12.ext he36
   refine wl_val ha37 rfl rfl rfl (op_not ha37 rfl rfl) ?_
   intro a39 ha39; clear ha37 a37
   refine wpList_nil ?_
   refine then_n ?_
   rcases Bool.eq_false_or_eq_true (wordB x24) with c40 | c40
   ·
    rw [c40] at ha39
    refine cond_f ha39 rfl ?_
    refine wp_skip ?_
    refine then_n ?_
    refine wp_seq ?_
    refine wp_region_lit ?_
    refine wl_val ha39 rfl rfl rfl (op_assign ha39 rfl rfl) ?_
    intro a41 ha41; clear ha39 a39
    refine wpList_nil ?_
    refine then_n ?_
    refine wp_block ?_
    refine loop_inv (X := Nat) (fun (k : Nat) fr wl => Sl 84 fr [(1, .pointer (some (⟨w0.heap.size, 0, none⟩ : Addr))), (3, .int .i64 ((i : Nat) : Int)), (4, .int .i64 ((k : Nat) : Int))] ∧ Ext w0 wl ∧ Box wl w0.heap.size 28 [v_t0, v_t1] ∧ w35.heap.size ≤ wl.heap.size ∧ (k ≤ i) ∧ (∀ (j : Nat) (y : Str), j < k → t.1[j]? = some y → y ≠ x24)) (fun (k : Nat) => i - k) (0) ?_ ?_
    ·
     exact ⟨(Sl.cons_ ha41 rfl rfl (Sl.cons_ ha41 rfl rfl (Sl.cons_ ha41 rfl (int_eq (by omega)) (Sl.nil_ ha41)))), hx38, hf12, (by omega), (by omega), (by exact all_zero)⟩
    ·
     clear ha41 a41
     rintro k a45 w42 ⟨ha45, hx43, hf44, hzl46, hk, hK⟩
     have hzhx43 := hx43.size
     refine wp_seq ?_
     refine wp_seq ?_
     refine wp_region_lit ?_
     refine wl_val ha45 rfl rfl rfl (op_move ha45 rfl rfl) ?_
     intro a47 ha47; clear ha45 a45
     refine wl_val ha47 rfl rfl rfl (op_move ha47 rfl rfl) ?_
     intro a48 ha48; clear ha47 a47
     refine wl_val ha48 rfl rfl rfl (op_lss ha48 rfl rfl rfl) ?_
     intro a49 ha49; clear ha48 a48
     refine wpList_nil ?_
     refine then_n ?_
     by_cases c50 : ((k : Nat) : Int) < ((i : Nat) : Int)
     ·
      rw [decide_eq_true c50] at ha49
      refine cond_t ha49 rfl ?_
      refine wp_skip ?_
      refine then_n ?_
      refine wp_seq ?_
      refine wp_block ?_
      refine wp_seq ?_
      refine dr_enter Ext follows_mixed ?_
      intro w51 he52
      have hx53 := hx43.trans' he52
      have hzhx53 := he52.size
      replace hf44 := hf44.ext he52
      have hs54 : Ext w51 w51 := Ext.rfl' _
      refine dr_val (i := 0) ha49 rfl (by kernel_rfl) (by kernel_rfl) (by kernel_rfl) rfl rfl rfl hs54 (fun w' hw' => op_fieldAddr (sz := 0) ha49 rfl Try.underlying28 rfl rfl ti22 rfl) ?_
      intro a55 ha55; clear ha49 a49
      refine dr_val (i := 1) ha55 rfl (by kernel_rfl) (by kernel_rfl) (by kernel_rfl) rfl rfl rfl hs54 (fun w' hw' => op_loadF (off := 0) ha55 rfl Try.underlying22 rfl rfl (hf44.ext hw').cells rfl) ?_
      intro a56 ha56; clear ha55 a55
      refine dr_val (i := 2) ha56 rfl (by kernel_rfl) (by kernel_rfl) (by kernel_rfl) rfl rfl rfl hs54 (fun w' hw' => op_move ha56 rfl rfl) ?_
      intro a57 ha57; clear ha56 a56
      obtain ⟨x58, hx58⟩ := get_ex (xs := t.1) (j := k) (by omega)
      obtain ⟨p59, c60, hi61, hc62, hr63, hs64⟩ := Rds.at_ h_t0 hx58
      obtain ⟨rfl, b65⟩ := inv_shStr hr63
      refine dr_val (i := 3) ha57 rfl (by kernel_rfl) (by kernel_rfl) (by kernel_rfl) rfl rfl rfl hs54 (fun w' hw' => op_indexAddr ha57 rfl Try.underlying22 ti9 rfl rfl (by omega) hi61) ?_
      intro a66 ha66; clear ha57 a57
      refine dr_val (i := 4) ha66 rfl (by kernel_rfl) (by kernel_rfl) (by kernel_rfl) rfl rfl rfl hs54 (fun w' hw' => op_loadH ha66 rfl Try.underlying9 rfl rfl (hc62.ext (hx53.trans' hw')) rfl) ?_
      intro a67 ha67; clear ha66 a66
      refine dr_val (i := 5) ha67 rfl (by kernel_rfl) (by kernel_rfl) (by kernel_rfl) rfl rfl rfl hs54 (fun w' hw' => op_fieldAddr (sz := 0) ha67 rfl Try.underlying28 rfl rfl ti22 rfl) ?_
      intro a68 ha68; clear ha67 a67
      refine dr_val (i := 6) ha68 rfl (by kernel_rfl) (by kernel_rfl) (by kernel_rfl) rfl rfl rfl hs54 (fun w' hw' => op_loadF (off := 0) ha68 rfl Try.underlying22 rfl rfl (hf44.ext hw').cells rfl) ?_
      intro a69 ha69; clear ha68 a68
      refine dr_val (i := 7) ha69 rfl (by kernel_rfl) (by kernel_rfl) (by kernel_rfl) rfl rfl rfl hs54 (fun w' hw' => op_move ha69 rfl rfl) ?_
      intro a70 ha70; clear ha69 a69
      refine dr_val (i := 8) ha70 rfl (by kernel_rfl) (by kernel_rfl) (by kernel_rfl) rfl rfl rfl hs54 (fun w' hw' => op_indexAddr ha70 rfl Try.underlying22 ti9 rfl rfl (by omega) hi27) ?_
      intro a71 ha71; clear ha70 a70
      refine dr_val (i := 9) ha71 rfl (by kernel_rfl) (by kernel_rfl) (by kernel_rfl) rfl rfl rfl hs54 (fun w' hw' => op_loadH ha71 rfl Try.underlying9 rfl rfl (hc28.ext (hx53.trans' hw')) rfl) ?_
      intro a72 ha72; clear ha71 a71
      refine dr_val (i := 10) ha72 rfl (by kernel_rfl) (by kernel_rfl) (by kernel_rfl) rfl rfl rfl hs54 (fun w' hw' => op_seql ha72 rfl rfl rfl) ?_
      intro a73 ha73; clear ha72 a72
      refine dr_end (by kernel_rfl) ?_
      replace hf44 := hf44.ext hs54
      refine then_n ?_
      by_cases c74 : x58 = x24
      ·
       rw [decide_eq_true c74] at ha73
       refine cond_t ha73 rfl ?_
       refine wp_seq ?_
       refine wp_region_lit ?_
       refine wl_val ha73 rfl rfl rfl (op_assign ha73 rfl rfl) ?_
       intro a75 ha75; clear ha73 a73
       refine wpList_nil ?_
       refine then_n ?_
       refine wp_ret ?_
       refine block_r ?_
       refine then_r ?_
       refine then_r ?_
       refine block_r ?_
       refine block_r ?_
       refine then_r ?_
       refine then_r ?_
       refine block_r ?_
       refine then_r ?_
       refine ret1 ha75 rfl rfl ?_
       clear ha75 a75
       refine ret_mk hx53 (congrArg Value.bool (by rw [tab_h hx24 (hdAt_no hx24 (by right; intro hq; have h5 := fdF_neg.1 hq _ (List.mem_of_getElem? (i := k) (by rw [List.getElem?_take, if_pos (by omega)]; exact hx58)); simp [eqB, c74] at h5))]))
      ·
       rw [decide_eq_false c74] at ha73
       refine cond_f ha73 rfl ?_
       refine wp_skip ?_
       refine block_n ?_
       refine then_n ?_
       refine wp_region_lit ?_
       refine wl_val ha73 rfl rfl rfl (op_move ha73 rfl rfl) ?_
       intro a76 ha76; clear ha73 a73
       refine wl_val ha76 rfl rfl rfl ((op_add ha76 rfl rfl rfl).int (IntWalk.i64_in _ (by omega))) ?_
       intro a77 ha77; clear ha76 a76
       refine wl_val ha77 rfl rfl rfl (op_assign ha77 rfl rfl) ?_
       intro a78 ha78; clear ha77 a77
       refine wpList_nil ?_
       refine round_end (x := k) ((k + 1)) ?_ ?_
       ·
        refine ⟨(Sl.cons_ ha78 rfl rfl (Sl.cons_ ha78 rfl rfl (Sl.cons_ ha78 rfl (int_eq (by omega)) (Sl.nil_ ha78)))), hx53, hf44, (by omega), (by omega), (by exact all_snoc (p := fun y => y ≠ x24) hK hx58 (by assumption))⟩
       ·show (i - ((k + 1)) : Nat) < i - k; omega
     ·
      rw [decide_eq_false c50] at ha49
      refine cond_f ha49 rfl ?_
      refine wp_exit ?_
      refine then_e ?_
      refine then_e ?_
      refine block_hit ?_
      refine block_n ?_
      refine then_n ?_
      refine wp_region_lit ?_
      refine wl_val ha49 rfl rfl rfl (op_move ha49 rfl rfl) ?_
      intro a79 ha79; clear ha49 a49
      refine wl_val ha79 rfl rfl rfl ((op_add ha79 rfl rfl rfl).int (IntWalk.i64_in _ (by omega))) ?_
      intro a80 ha80; clear ha79 a79
      refine wl_val ha80 rfl rfl rfl (op_assign ha80 rfl rfl) ?_
      intro a81 ha81; clear ha80 a80
      refine wpList_nil ?_
      refine round_end (x := i) ((i + 1)) ?_ ?_
      ·
       refine ⟨(Sl.cons_ ha81 rfl rfl (Sl.cons_ ha81 rfl (int_eq (by omega)) (Sl.nil_ ha81))), hx43, hf44, (by omega), (by omega), (by exact upB_step hA (hdAt_ok hx24 (by assumption) (fdF_neg.2 fun y hy => by obtain ⟨j, hj⟩ := List.getElem?_of_mem hy; rw [List.getElem?_take] at hj; split at hj; (have h5 := hK j y (by omega) hj; simp [eqB, h5]); cases hj)))⟩
      ·show (t.1.length - ((i + 1)) : Nat) < t.1.length - i; omega
   ·
    rw [c40] at ha39
    refine cond_t ha39 rfl ?_
    refine wp_seq ?_
    refine wp_region_lit ?_
    refine wl_val ha39 rfl rfl rfl (op_assign ha39 rfl rfl) ?_
    intro a82 ha82; clear ha39 a39
    refine wpList_nil ?_
    refine then_n ?_
    refine wp_ret ?_
    refine then_r ?_
    refine block_r ?_
    refine then_r ?_
    refine then_r ?_
    refine block_r ?_
    refine then_r ?_
    refine ret1 ha82 rfl rfl ?_
    clear ha82 a82
    exact ret_mk hx38 (congrArg Value.bool (by rw [tab_h hx24 (hdAt_no hx24 (by left; assumption))]))
  ·
   rw [decide_eq_false c20] at ha19
   refine cond_f ha19 rfl ?_
   refine wp_exit ?_
   refine then_e ?_
   refine then_e ?_
   refine block_hit ?_
   refine then_n ?_
   refine wp_seq ?_
   refine wp_seq ?_
   refine wp_region_lit ?_
   refine wl_val ha19 rfl rfl rfl (op_assign ha19 rfl rfl) ?_
   intro a83 ha83; clear ha19 a19
   refine wpList_nil ?_
   refine then_n ?_
   refine wp_block ?_
   refine loop_inv (X := Nat) (fun (k : Nat) fr wl => Sl 84 fr [(1, .pointer (some (⟨w0.heap.size, 0, none⟩ : Addr))), (5, .int .i64 ((k : Nat) : Int))] ∧ Ext w0 wl ∧ Box wl w0.heap.size 28 [v_t0, v_t1] ∧ w10.heap.size ≤ wl.heap.size ∧ (k ≤ t.2.length) ∧ (upB (rwAt t.1.length t.2) k = true) ∧ (upB (hdAt t.1) t.1.length = true)) (fun (k : Nat) => t.2.length - k) (0) ?_ ?_
   ·
    exact ⟨(Sl.cons_ ha83 rfl rfl (Sl.cons_ ha83 rfl (int_eq (by omega)) (Sl.nil_ ha83))), hx11, hf12, (by omega), (by omega), (by rfl), (by have e : i = t.1.length := (by omega); rw [e] at hA; exact hA)⟩
   ·
    clear ha83 a83
    rintro k a87 w84 ⟨ha87, hx85, hf86, hzl88, hk, hR, hH⟩
    have hzhx85 := hx85.size
    refine wp_seq ?_
    refine wp_seq ?_
    refine wp_region_lit ?_
    refine wl_val ha87 rfl rfl rfl (op_move ha87 rfl rfl) ?_
    intro a89 ha89; clear ha87 a87
    refine wl_val ha89 rfl rfl rfl (op_fieldAddr (sz := 0) ha89 rfl Try.underlying28 rfl rfl ti23 rfl) ?_
    intro a90 ha90; clear ha89 a89
    refine wl_val ha90 rfl rfl rfl (op_loadF (off := 1) ha90 rfl Try.underlying23 rfl rfl hf86.cells rfl) ?_
    intro a91 ha91; clear ha90 a90
    refine wl_val ha91 rfl rfl rfl (op_len_sl ha91 rfl Try.underlying23 rfl h_t1) ?_
    intro a92 ha92; clear ha91 a91
    refine wl_val ha92 rfl rfl rfl (op_lss ha92 rfl rfl rfl) ?_
    intro a93 ha93; clear ha92 a92
    refine wpList_nil ?_
    refine then_n ?_
    by_cases c94 : ((k : Nat) : Int) < ((t.2.length : Nat) : Int)
    ·
     rw [decide_eq_true c94] at ha93
     refine cond_t ha93 rfl ?_
     refine wp_skip ?_
     refine then_n ?_
     refine wp_seq ?_
     refine wp_block ?_
     refine wp_seq ?_
     refine wp_seq ?_
     refine wp_region_lit ?_
     refine wl_val ha93 rfl rfl rfl (op_assign ha93 rfl rfl) ?_
     intro a95 ha95; clear ha93 a93
     refine wpList_nil ?_
     refine then_n ?_
     refine wp_block ?_
     obtain ⟨x96, hx96⟩ := get_ex (xs := t.2) (j := k) (by omega)
     obtain ⟨p97, c98, hi99, hc100, hr101, hs102⟩ := Rds.at_ h_t1 hx96
     obtain ⟨v103, rfl, b104⟩ := inv_shRow hr101
     have hlb104 := b104.length_le
     refine loop_inv (X := Nat) (fun (q : Nat) fr wl => Sl 84 fr [(1, .pointer (some (⟨w0.heap.size, 0, none⟩ : Addr))), (5, .int .i64 ((k : Nat) : Int)), (6, .int .i64 ((q : Nat) : Int))] ∧ Ext w0 wl ∧ Box wl w0.heap.size 28 [v_t0, v_t1] ∧ w84.heap.size ≤ wl.heap.size ∧ (q ≤ x96.length) ∧ ((x96.drop q).all valB = x96.all valB)) (fun (q : Nat) => x96.length - q) (0) ?_ ?_
     ·
      exact ⟨(Sl.cons_ ha95 rfl rfl (Sl.cons_ ha95 rfl rfl (Sl.cons_ ha95 rfl (int_eq (by omega)) (Sl.nil_ ha95)))), hx85, hf86, (by omega), (by omega), (by rfl)⟩
     ·
      clear ha95 a95
      rintro q a108 w105 ⟨ha108, hx106, hf107, hzl109, hq, hV⟩
      have hzhx106 := hx106.size
      refine wp_seq ?_
      refine wp_seq ?_
      refine wp_region_lit ?_
      refine wl_val ha108 rfl rfl rfl (op_move ha108 rfl rfl) ?_
      intro a110 ha110; clear ha108 a108
      refine wl_val ha110 rfl rfl rfl (op_fieldAddr (sz := 0) ha110 rfl Try.underlying28 rfl rfl ti23 rfl) ?_
      intro a111 ha111; clear ha110 a110
      refine wl_val ha111 rfl rfl rfl (op_loadF (off := 1) ha111 rfl Try.underlying23 rfl rfl hf107.cells rfl) ?_
      intro a112 ha112; clear ha111 a111
      refine wl_val ha112 rfl rfl rfl (op_move ha112 rfl rfl) ?_
      intro a113 ha113; clear ha112 a112
      refine wl_val ha113 rfl rfl rfl (op_indexAddr ha113 rfl Try.underlying23 ti41 rfl rfl (by omega) hi99) ?_
      intro a114 ha114; clear ha113 a113
      refine wl_val ha114 rfl rfl rfl (op_loadH ha114 rfl Try.underlying41 rfl rfl (hc100.ext hx106) rfl) ?_
      intro a115 ha115; clear ha114 a114
      refine wl_val ha115 rfl rfl rfl (op_len_sl ha115 rfl Try.underlying41 rfl b104) ?_
      intro a116 ha116; clear ha115 a115
      refine wl_val ha116 rfl rfl rfl (op_lss ha116 rfl rfl rfl) ?_
      intro a117 ha117; clear ha116 a116
      refine wpList_nil ?_
      refine then_n ?_
      by_cases c118 : ((q : Nat) : Int) < ((x96.length : Nat) : Int)
      ·
       rw [decide_eq_true c118] at ha117
       refine cond_t ha117 rfl ?_
       refine wp_skip ?_
       refine then_n ?_
       refine wp_seq ?_
       refine wp_block ?_
       refine wp_seq ?_
       refine wp_region_lit ?_
       refine wl_val ha117 rfl rfl rfl (op_fieldAddr (sz := 0) ha117 rfl Try.underlying28 rfl rfl ti23 rfl) ?_
       intro a119 ha119; clear ha117 a117
       refine wl_val ha119 rfl rfl rfl (op_loadF (off := 1) ha119 rfl Try.underlying23 rfl rfl hf107.cells rfl) ?_
       intro a120 ha120; clear ha119 a119
       refine wl_val ha120 rfl rfl rfl (op_move ha120 rfl rfl) ?_
       intro a121 ha121; clear ha120 a120
       refine wl_val ha121 rfl rfl rfl (op_indexAddr ha121 rfl Try.underlying23 ti41 rfl rfl (by omega) hi99) ?_
       intro a122 ha122; clear ha121 a121
       refine wl_val ha122 rfl rfl rfl (op_loadH ha122 rfl Try.underlying41 rfl rfl (hc100.ext hx106) rfl) ?_
       intro a123 ha123; clear ha122 a122
       refine wl_val ha123 rfl rfl rfl (op_move ha123 rfl rfl) ?_
       intro a124 ha124; clear ha123 a123
       obtain ⟨x125, hx125⟩ := get_ex (xs := x96) (j := q) (by omega)
       obtain ⟨p126, c127, hi128, hc129, hr130, hs131⟩ := Rds.at_ b104 hx125
       obtain ⟨rfl, b132⟩ := inv_shI64 hr130
       refine wl_val ha124 rfl rfl rfl (op_indexAddr ha124 rfl Try.underlying41 ti2 rfl rfl (by omega) hi128) ?_
       intro a133 ha133; clear ha124 a124
       refine wl_val ha133 rfl rfl rfl (op_loadH ha133 rfl Try.underlying2 rfl rfl (hc129.ext hx106) rfl) ?_
       intro a134 ha134; clear ha133 a133
       refine wl_callR ha134 rfl rfl rfl (op_call ha134 rfl cb61 rfl) (c_spec_l01Is _ x125 ) ?_
       rintro v135 w136 he137 rfl a138 ha138; clear ha134 a134
       have hx139 := hx106.trans' he137
       have hzhx139 := he137.size
       replace hf107 := hf107.ext he137
       refine wl_val ha138 rfl rfl rfl (op_not ha138 rfl rfl) ?_
       intro a140 ha140; clear ha138 a138
       refine wpList_nil ?_
       refine then_n ?_
       rcases Bool.eq_false_or_eq_true (valB x125) with c141 | c141
       ·
        rw [c141] at ha140
        refine cond_f ha140 rfl ?_
        refine wp_skip ?_
        refine block_n ?_
        refine then_n ?_
        refine wp_region_lit ?_
        refine wl_val ha140 rfl rfl rfl (op_move ha140 rfl rfl) ?_
        intro a142 ha142; clear ha140 a140
        refine wl_val ha142 rfl rfl rfl ((op_add ha142 rfl rfl rfl).int (IntWalk.i64_in _ (by omega))) ?_
        intro a143 ha143; clear ha142 a142
        refine wl_val ha143 rfl rfl rfl (op_assign ha143 rfl rfl) ?_
        intro a144 ha144; clear ha143 a143
        refine wpList_nil ?_
        refine round_end (x := q) ((q + 1)) ?_ ?_
        ·
         refine ⟨(Sl.cons_ ha144 rfl rfl (Sl.cons_ ha144 rfl rfl (Sl.cons_ ha144 rfl (int_eq (by omega)) (Sl.nil_ ha144)))), hx139, hf107, (by omega), (by omega), (by rw [drop_cons hx125, List.all_cons, c141, Bool.true_and] at hV; exact hV)⟩
        ·show (x96.length - ((q + 1)) : Nat) < x96.length - q; omega
       ·
        rw [c141] at ha140
        refine cond_t ha140 rfl ?_
        refine wp_seq ?_
        refine wp_region_lit ?_
        refine wl_val ha140 rfl rfl rfl (op_assign ha140 rfl rfl) ?_
        intro a145 ha145; clear ha140 a140
        refine wpList_nil ?_
        refine then_n ?_
        refine wp_ret ?_
        refine block_r ?_
        refine then_r ?_
        refine then_r ?_
        refine block_r ?_
        refine then_r ?_
        refine block_r ?_
        refine then_r ?_
        refine then_r ?_
        refine block_r ?_
        refine then_r ?_
        refine ret1 ha145 rfl rfl ?_
        clear ha145 a145
        exact ret_mk hx139 (congrArg Value.bool (by rw [tab_r hx96 (rwB_no (by right; rw [drop_cons hx125, List.all_cons, c141, Bool.false_and] at hV; exact hV.symm))]))
      ·
       rw [decide_eq_false c118] at ha117
       refine cond_f ha117 rfl ?_
       refine wp_exit ?_
       refine then_e ?_
       refine then_e ?_
       refine block_hit ?_
       refine then_n ?_
       refine wp_seq ?_
       refine dr_enter Ext follows_mixed ?_
       intro w146 he147
       have hx148 := hx106.trans' he147
       have hzhx148 := he147.size
       replace hf107 := hf107.ext he147
       have hs149 : Ext w146 w146 := Ext.rfl' _
       refine dr_val (i := 0) ha117 rfl (by kernel_rfl) (by kernel_rfl) (by kernel_rfl) rfl rfl rfl hs149 (fun w' hw' => op_fieldAddr (sz := 0) ha117 rfl Try.underlying28 rfl rfl ti23 rfl) ?_
       intro a150 ha150; clear ha117 a117
       refine dr_val (i := 1) ha150 rfl (by kernel_rfl) (by kernel_rfl) (by kernel_rfl) rfl rfl rfl hs149 (fun w' hw' => op_loadF (off := 1) ha150 rfl Try.underlying23 rfl rfl (hf107.ext hw').cells rfl) ?_
       intro a151 ha151; clear ha150 a150
       refine dr_val (i := 2) ha151 rfl (by kernel_rfl) (by kernel_rfl) (by kernel_rfl) rfl rfl rfl hs149 (fun w' hw' => op_move ha151 rfl rfl) ?_
       intro a152 ha152; clear ha151 a151
       refine dr_val (i := 3) ha152 rfl (by kernel_rfl) (by kernel_rfl) (by kernel_rfl) rfl rfl rfl hs149 (fun w' hw' => op_indexAddr ha152 rfl Try.underlying23 ti41 rfl rfl (by omega) hi99) ?_
       intro a153 ha153; clear ha152 a152
       refine dr_val (i := 4) ha153 rfl (by kernel_rfl) (by kernel_rfl) (by kernel_rfl) rfl rfl rfl hs149 (fun w' hw' => op_loadH ha153 rfl Try.underlying41 rfl rfl (hc100.ext (hx148.trans' hw')) rfl) ?_
       intro a154 ha154; clear ha153 a153
       refine dr_val (i := 5) ha154 rfl (by kernel_rfl) (by kernel_rfl) (by kernel_rfl) rfl rfl rfl hs149 (fun w' hw' => op_len_sl ha154 rfl Try.underlying41 rfl b104) ?_
       intro a155 ha155; clear ha154 a154
       refine dr_val (i := 6) ha155 rfl (by kernel_rfl) (by kernel_rfl) (by kernel_rfl) rfl rfl rfl hs149 (fun w' hw' => op_fieldAddr (sz := 0) ha155 rfl Try.underlying28 rfl rfl ti22 rfl) ?_
       intro a156 ha156; clear ha155 a155
       refine dr_val (i := 7) ha156 rfl (by kernel_rfl) (by kernel_rfl) (by kernel_rfl) rfl rfl rfl hs149 (fun w' hw' => op_loadF (off := 0) ha156 rfl Try.underlying22 rfl rfl (hf107.ext hw').cells rfl) ?_
       intro a157 ha157; clear ha156 a156
       refine dr_val (i := 8) ha157 rfl (by kernel_rfl) (by kernel_rfl) (by kernel_rfl) rfl rfl rfl hs149 (fun w' hw' => op_len_sl ha157 rfl Try.underlying22 rfl h_t0) ?_
       intro a158 ha158; clear ha157 a157
       refine dr_val (i := 9) ha158 rfl (by kernel_rfl) (by kernel_rfl) (by kernel_rfl) rfl rfl rfl hs149 (fun w' hw' => (op_neq ha158 rfl rfl rfl).to (congrArg Value.bool decide_not)) ?_
       intro a159 ha159; clear ha158 a158
       refine dr_end (by kernel_rfl) ?_
       replace hf107 := hf107.ext hs149
       refine then_n ?_
       by_cases c160 : ((x96.length : Nat) : Int) = ((t.1.length : Nat) : Int)
       ·
        rw [decide_eq_true c160] at ha159
        refine cond_f ha159 rfl ?_
        refine wp_skip ?_
        refine block_n ?_
        refine then_n ?_
        refine wp_region_lit ?_
        refine wl_val ha159 rfl rfl rfl (op_move ha159 rfl rfl) ?_
        intro a161 ha161; clear ha159 a159
        refine wl_val ha161 rfl rfl rfl ((op_add ha161 rfl rfl rfl).int (IntWalk.i64_in _ (by omega))) ?_
        intro a162 ha162; clear ha161 a161
        refine wl_val ha162 rfl rfl rfl (op_assign ha162 rfl rfl) ?_
        intro a163 ha163; clear ha162 a162
        refine wpList_nil ?_
        refine round_end (x := k) ((k + 1)) ?_ ?_
        ·
         refine ⟨(Sl.cons_ ha163 rfl rfl (Sl.cons_ ha163 rfl (int_eq (by omega)) (Sl.nil_ ha163))), hx148, hf107, (by omega), (by omega), (by rw [drop_nil (by omega), List.all_nil] at hV; exact upB_step hR ((rwAt_eq hx96).trans (rwB_ok (by omega) hV.symm))), (by exact hH)⟩
        ·show (t.2.length - ((k + 1)) : Nat) < t.2.length - k; omega
       ·
        rw [decide_eq_false c160] at ha159
        refine cond_t ha159 rfl ?_
        refine wp_seq ?_
        refine wp_region_lit ?_
        refine wl_val ha159 rfl rfl rfl (op_assign ha159 rfl rfl) ?_
        intro a164 ha164; clear ha159 a159
        refine wpList_nil ?_
        refine then_n ?_
        refine wp_ret ?_
        refine block_r ?_
        refine then_r ?_
        refine then_r ?_
        refine block_r ?_
        refine then_r ?_
        refine ret1 ha164 rfl rfl ?_
        clear ha164 a164
        exact ret_mk hx148 (congrArg Value.bool (by rw [tab_r hx96 (rwB_no (by left; omega))]))
    ·
     rw [decide_eq_false c94] at ha93
     refine cond_f ha93 rfl ?_
     refine wp_exit ?_
     refine then_e ?_
     refine then_e ?_
     refine block_hit ?_
     refine then_n ?_
     refine wp_seq ?_
     refine wp_region_lit ?_
     refine wl_val ha93 rfl rfl rfl (op_fieldAddr (sz := 0) ha93 rfl Try.underlying28 rfl rfl ti22 rfl) ?_
     intro a165 ha165; clear ha93 a93
     refine wl_val ha165 rfl rfl rfl (op_loadF (off := 0) ha165 rfl Try.underlying22 rfl rfl hf86.cells rfl) ?_
     intro a166 ha166; clear ha165 a165
     refine wl_val ha166 rfl rfl rfl (op_len_sl ha166 rfl Try.underlying22 rfl h_t0) ?_
     intro a167 ha167; clear ha166 a166
     refine wl_callR ha167 rfl rfl rfl (op_call ha167 rfl cb62 rfl) (c_spec_l01In _ ((t.1.length : Nat) : Int) (1 : Int) (6 : Int) ) ?_
     rintro v168 w169 he170 rfl a171 ha171; clear ha167 a167
     have hx172 := hx85.trans' he170
     have hzhx172 := he170.size
     replace hf86 := hf86.ext he170
     refine wl_val ha171 rfl rfl rfl (op_move ha171 rfl rfl) ?_
     intro a173 ha173; clear ha171 a171
     rcases Bool.eq_false_or_eq_true (decide ((1 : Int) ≤ ((t.1.length : Nat) : Int)) && decide (((t.1.length : Nat) : Int) ≤ (6 : Int))) with c174 | c174
     ·
      rw [c174] at ha173
      refine wl_val ha173 rfl rfl rfl (op_fieldAddr (sz := 0) ha173 rfl Try.underlying28 rfl rfl ti23 rfl) ?_
      intro a175 ha175; clear ha173 a173
      refine wl_val ha175 rfl rfl rfl (op_loadF (off := 1) ha175 rfl Try.underlying23 rfl rfl hf86.cells rfl) ?_
      intro a176 ha176; clear ha175 a175
      refine wl_val ha176 rfl rfl rfl (op_len_sl ha176 rfl Try.underlying23 rfl h_t1) ?_
      intro a177 ha177; clear ha176 a176
      refine wl_val ha177 rfl rfl rfl (op_leq ha177 rfl rfl rfl) ?_
      intro a178 ha178; clear ha177 a177
      refine wl_val ha178 rfl rfl rfl (op_pick_t ha178 rfl rfl rfl) ?_
      intro a179 ha179; clear ha178 a178
      refine wl_val ha179 rfl rfl rfl (op_assign ha179 rfl rfl) ?_
      intro a180 ha180; clear ha179 a179
      refine wpList_nil ?_
      refine then_n ?_
      refine wp_ret ?_
      refine ret1 ha180 rfl rfl ?_
      clear ha180 a180
      exact ret_mk hx172 (congrArg Value.bool (by have e : k = t.2.length := (by omega); rw [e] at hR; rw [tab_y hH hR, Bool.eq_iff_iff]; simp only [Bool.and_eq_true, Bool.and_eq_false_iff, decide_eq_true_eq, decide_eq_false_iff_not, Bool.false_eq_true, true_iff, false_iff] at c174 ⊢; omega))
     ·
      rw [c174] at ha173
      refine wl_skip ha173 rfl rfl rfl ?_
      intro a181 ha181; clear ha173 a173
      refine wl_skip ha181 rfl rfl rfl ?_
      intro a182 ha182; clear ha181 a181
      refine wl_skip ha182 rfl rfl rfl ?_
      intro a183 ha183; clear ha182 a182
      refine wl_skip ha183 rfl rfl rfl ?_
      intro a184 ha184; clear ha183 a183
      refine wl_val ha184 rfl rfl rfl (op_pick_f ha184 rfl rfl rfl) ?_
      intro a185 ha185; clear ha184 a184
      refine wl_val ha185 rfl rfl rfl (op_assign ha185 rfl rfl) ?_
      intro a186 ha186; clear ha185 a185
      refine wpList_nil ?_
      refine then_n ?_
      refine wp_ret ?_
      refine ret1 ha186 rfl rfl ?_
      clear ha186 a186
      exact ret_mk hx172 (congrArg Value.bool (by have e : k = t.2.length := (by omega); rw [e] at hR; rw [tab_y hH hR, Bool.eq_iff_iff]; simp only [Bool.and_eq_true, Bool.and_eq_false_iff, decide_eq_true_eq, decide_eq_false_iff_not, Bool.false_eq_true, true_iff, false_iff] at c174 ⊢; omega))

theorem c_impl_isColumn (w0 : World) (v_t0 : Value) (v_t1 : Value) (t : List Str × List (List Int)) {S_t0 : Nat → Prop} {S_t1 : Nat → Prop} (column : Int) (h_t0 : Rds shStr S_t0 w0 v_t0 t.1) (h_t1 : Rds shRow S_t1 w0 v_t1 t.2) :
  Calls Try.prog 70 #[.agg #[v_t0, v_t1], .int .i64 column] w0 (Ret w0 (fun v _ => v = .bool (colB t column))) := by
 refine enter (N := 11) Try.func70 rfl rfl rfl ?_
 intro a0 ha0
 have hx0 := Ext.rfl' w0
 have hl_t0 := h_t0.length_le
 have hl_t1 := h_t1.length_le
 refine wp_seq ?_
 refine wp_region_lit ?_
 refine wl_eff ha0 rfl rfl rfl (op_box' ha0 rfl rfl rfl) ?_
 rintro _ w2 ⟨rfl, he3, hb4, hz5⟩ a6 ha6; clear ha0 a0
 have hx7 := hx0.trans' he3
 have hzhx7 := he3.size
 refine wl_val ha6 rfl rfl rfl (op_assign ha6 rfl rfl) ?_
 intro a8 ha8; clear ha6 a6
 refine wpList_nil ?_
 refine then_n ?_
 refine wp_seq ?_
 refine wp_region_lit ?_
 refine wl_val ha8 rfl rfl rfl (op_move ha8 rfl rfl) ?_
 intro a9 ha9; clear ha8 a8
 refine wl_val ha9 rfl rfl rfl (op_fieldAddr (sz := 0) ha9 rfl Try.underlying28 rfl rfl ti22 rfl) ?_
 intro a10 ha10; clear ha9 a9
 refine wl_val ha10 rfl rfl rfl (op_loadF (off := 0) ha10 rfl Try.underlying22 rfl rfl hb4.cells rfl) ?_
 intro a11 ha11; clear ha10 a10
 refine wl_val ha11 rfl rfl rfl (op_len_sl ha11 rfl Try.underlying22 rfl h_t0) ?_
 intro a12 ha12; clear ha11 a11
 refine wl_val ha12 rfl rfl rfl ((op_sub ha12 rfl rfl rfl).int (IntWalk.i64_in _ (by omega))) ?_
 intro a13 ha13; clear ha12 a12
 refine wl_callR ha13 rfl rfl rfl (op_call ha13 rfl cb78 rfl) (c_impl_within _ column (0 : Int) (((t.1.length : Nat) : Int) - (1 : Int)) ) ?_
 rintro v14 w15 he16 rfl a17 ha17; clear ha13 a13
 have hx18 := hx7.trans' he16
 have hzhx18 := he16.size
 replace hb4 := hb4.ext he16
 refine wl_val ha17 rfl rfl rfl (op_assign ha17 rfl rfl) ?_
 intro a19 ha19; clear ha17 a17
 refine wpList_nil ?_
 refine then_n ?_
 refine wp_ret ?_
 refine ret1 ha19 rfl rfl ?_
 clear ha19 a19
 exact ret_mk hx18 (congrArg Value.bool (by rfl))

theorem c_spec_l31Code (w0 : World) (v_t0 : Value) (v_t1 : Value) (t : List Str × List (List Int)) {S_t0 : Nat → Prop} {S_t1 : Nat → Prop} (column : Int) (h_t0 : Rds shStr S_t0 w0 v_t0 t.1) (h_t1 : Rds shRow S_t1 w0 v_t1 t.2) :
  Calls Try.prog 69 #[.agg #[v_t0, v_t1], .int .i64 column] w0 (Ret w0 (fun v _ => v = .int .i64 (cdT t column))) := by
 refine enter (N := 15) Try.func69 rfl rfl rfl ?_
 intro a0 ha0
 have hx0 := Ext.rfl' w0
 have hl_t0 := h_t0.length_le
 have hl_t1 := h_t1.length_le
 refine wp_seq ?_
 refine wp_region_lit ?_
 refine wl_eff ha0 rfl rfl rfl (op_box' ha0 rfl rfl rfl) ?_
 rintro _ w2 ⟨rfl, he3, hb4, hz5⟩ a6 ha6; clear ha0 a0
 have hx7 := hx0.trans' he3
 have hzhx7 := he3.size
 refine wl_val ha6 rfl rfl rfl (op_assign ha6 rfl rfl) ?_
 intro a8 ha8; clear ha6 a6
 refine wpList_nil ?_
 refine then_n ?_
 refine wp_seq ?_
 refine wp_seq ?_
 refine wp_region_lit ?_
 refine wl_val ha8 rfl rfl rfl (op_loadS ha8 rfl Try.underlying28 ti28 rfl rfl hb4.cells) ?_
 intro a9 ha9; clear ha8 a8
 refine wl_callR ha9 rfl rfl rfl (op_call ha9 rfl cb17 rfl) (c_spec_IsTable _ v_t0 v_t1 t (h_t0.ext pos_shStr hx7) (h_t1.ext pos_shRow hx7)) ?_
 rintro v10 w11 he12 rfl a13 ha13; clear ha9 a9
 have hx14 := hx7.trans' he12
 have hzhx14 := he12.size
 replace hb4 := hb4.ext he12
 refine wl_val ha13 rfl rfl rfl (op_not ha13 rfl rfl) ?_
 intro a15 ha15; clear ha13 a13
 refine wpList_nil ?_
 refine then_n ?_
 rcases Bool.eq_false_or_eq_true (tabB t) with c16 | c16
 ·
  rw [c16] at ha15
  have htbc16 := tab_bd c16
  have htrc16 := tab_rows c16
  refine cond_f ha15 rfl ?_
  refine wp_skip ?_
  refine then_n ?_
  refine wp_seq ?_
  refine wp_seq ?_
  refine wp_region_lit ?_
  refine wl_val ha15 rfl rfl rfl (op_move ha15 rfl rfl) ?_
  intro a17 ha17; clear ha15 a15
  refine wl_val ha17 rfl rfl rfl (op_fieldAddr (sz := 0) ha17 rfl Try.underlying28 rfl rfl ti22 rfl) ?_
  intro a18 ha18; clear ha17 a17
  refine wl_val ha18 rfl rfl rfl (op_loadF (off := 0) ha18 rfl Try.underlying22 rfl rfl hb4.cells rfl) ?_
  intro a19 ha19; clear ha18 a18
  refine wl_val ha19 rfl rfl rfl (op_len_sl ha19 rfl Try.underlying22 rfl h_t0) ?_
  intro a20 ha20; clear ha19 a19
  refine wl_val ha20 rfl rfl rfl ((op_sub ha20 rfl rfl rfl).int (IntWalk.i64_in _ (by omega))) ?_
  intro a21 ha21; clear ha20 a20
  refine wl_callR ha21 rfl rfl rfl (op_call ha21 rfl cb62 rfl) (c_spec_l01In _ column (0 : Int) (((t.1.length : Nat) : Int) - (1 : Int)) ) ?_
  rintro v22 w23 he24 rfl a25 ha25; clear ha21 a21
  have hx26 := hx14.trans' he24
  have hzhx26 := he24.size
  replace hb4 := hb4.ext he24
  refine wl_val ha25 rfl rfl rfl (op_not ha25 rfl rfl) ?_
  intro a27 ha27; clear ha25 a25
  refine wpList_nil ?_
  refine then_n ?_
  rcases Bool.eq_false_or_eq_true (decide ((0 : Int) ≤ column) && decide (column ≤ (((t.1.length : Nat) : Int) - (1 : Int)))) with c28 | c28
  ·
   rw [c28] at ha27
   refine cond_f ha27 rfl ?_
   refine wp_skip ?_
   refine then_n ?_
   refine wp_seq ?_
   refine wp_region_lit ?_
   refine wl_val ha27 rfl rfl rfl (op_assign ha27 rfl rfl) ?_
   intro a29 ha29; clear ha27 a27
   refine wpList_nil ?_
   refine then_n ?_
   refine wp_ret ?_
   refine ret1 ha29 rfl rfl ?_
   clear ha29 a29
   exact ret_mk hx26 (int_eq (by exact (cdT_0 c16 c28).symm))
  ·
   rw [c28] at ha27
   refine cond_t ha27 rfl ?_
   refine wp_seq ?_
   refine wp_region_lit ?_
   refine wl_val ha27 rfl rfl rfl (op_assign ha27 rfl rfl) ?_
   intro a30 ha30; clear ha27 a27
   refine wpList_nil ?_
   refine then_n ?_
   refine wp_ret ?_
   refine then_r ?_
   refine ret1 ha30 rfl rfl ?_
   clear ha30 a30
   exact ret_mk hx26 (int_eq (by exact (cdT_2 c16 c28).symm))
 ·
  rw [c16] at ha15
  refine cond_t ha15 rfl ?_
  refine wp_seq ?_
  refine wp_region_lit ?_
  refine wl_val ha15 rfl rfl rfl (op_assign ha15 rfl rfl) ?_
  intro a31 ha31; clear ha15 a15
  refine wpList_nil ?_
  refine then_n ?_
  refine wp_ret ?_
  refine then_r ?_
  refine ret1 ha31 rfl rfl ?_
  clear ha31 a31
  exact ret_mk hx14 (int_eq (by exact (cdT_1 c16).symm))

theorem c_impl_SumColumn (w0 : World) (v_t0 : Value) (v_t1 : Value) (t : List Str × List (List Int)) {S_t0 : Nat → Prop} {S_t1 : Nat → Prop} (column : Int) (h_t0 : Rds shStr S_t0 w0 v_t0 t.1) (h_t1 : Rds shRow S_t1 w0 v_t1 t.2) :
  Calls Try.prog 22 #[.agg #[v_t0, v_t1], .int .i64 column] w0 (Ret w0 (fun v _ => v = .tuple #[.int .i64 (if cdT t column = 0 then sumI (rowC column) t.2 else 0), .int .i64 (cdT t column)])) := by
 refine enter (N := 31) Try.func22 rfl rfl rfl ?_
 intro a0 ha0
 have hx0 := Ext.rfl' w0
 have hl_t0 := h_t0.length_le
 have hl_t1 := h_t1.length_le
 refine wp_seq ?_
 refine wp_region_lit ?_
 refine wl_eff ha0 rfl rfl rfl (op_box' ha0 rfl rfl rfl) ?_
 rintro _ w2 ⟨rfl, he3, hb4, hz5⟩ a6 ha6; clear ha0 a0
 have hx7 := hx0.trans' he3
 have hzhx7 := he3.size
 refine wl_val ha6 rfl rfl rfl (op_assign ha6 rfl rfl) ?_
 intro a8 ha8; clear ha6 a6
 refine wl_val ha8 rfl rfl rfl (op_assign ha8 rfl rfl) ?_
 intro a9 ha9; clear ha8 a8
 refine wpList_nil ?_
 refine then_n ?_
 refine wp_seq ?_
 refine wp_seq ?_
 refine wp_region_lit ?_
 refine wl_val ha9 rfl rfl rfl (op_loadS ha9 rfl Try.underlying28 ti28 rfl rfl hb4.cells) ?_
 intro a10 ha10; clear ha9 a9
 refine wl_callR ha10 rfl rfl rfl (op_call ha10 rfl cb19 rfl) (c_impl_IsTable _ v_t0 v_t1 t (h_t0.ext pos_shStr hx7) (h_t1.ext pos_shRow hx7)) ?_
 rintro v11 w12 he13 rfl a14 ha14; clear ha10 a10
 have hx15 := hx7.trans' he13
 have hzhx15 := he13.size
 replace hb4 := hb4.ext he13
 refine wl_val ha14 rfl rfl rfl (op_not ha14 rfl rfl) ?_
 intro a16 ha16; clear ha14 a14
 refine wpList_nil ?_
 refine then_n ?_
 rcases Bool.eq_false_or_eq_true (tabB t) with c17 | c17
 ·
  rw [c17] at ha16
  have htbc17 := tab_bd c17
  have htrc17 := tab_rows c17
  refine cond_f ha16 rfl ?_
  refine wp_skip ?_
  refine then_n ?_
  refine wp_seq ?_
  refine wp_seq ?_
  refine wp_region_lit ?_
  refine wl_val ha16 rfl rfl rfl (op_loadS ha16 rfl Try.underlying28 ti28 rfl rfl hb4.cells) ?_
  intro a18 ha18; clear ha16 a16
  refine wl_val ha18 rfl rfl rfl (op_move ha18 rfl rfl) ?_
  intro a19 ha19; clear ha18 a18
  refine wl_callR ha19 rfl rfl rfl (op_call ha19 rfl cb70 rfl) (c_impl_isColumn _ v_t0 v_t1 t column (h_t0.ext pos_shStr hx15) (h_t1.ext pos_shRow hx15)) ?_
  rintro v20 w21 he22 rfl a23 ha23; clear ha19 a19
  have hx24 := hx15.trans' he22
  have hzhx24 := he22.size
  replace hb4 := hb4.ext he22
  refine wl_val ha23 rfl rfl rfl (op_not ha23 rfl rfl) ?_
  intro a25 ha25; clear ha23 a23
  refine wpList_nil ?_
  refine then_n ?_
  rcases Bool.eq_false_or_eq_true (colB t column) with c26 | c26
  ·
   rw [c26] at ha25
   have hcbc26 := col_bd c26
   refine cond_f ha25 rfl ?_
   refine wp_skip ?_
   refine then_n ?_
   refine wp_seq ?_
   refine wp_region_lit ?_
   refine wl_val ha25 rfl rfl rfl (op_assign ha25 rfl rfl) ?_
   intro a27 ha27; clear ha25 a25
   refine wpList_nil ?_
   refine then_n ?_
   refine wp_seq ?_
   refine wp_seq ?_
   refine wp_region_lit ?_
   refine wl_val ha27 rfl rfl rfl (op_fieldAddr (sz := 0) ha27 rfl Try.underlying28 rfl rfl ti23 rfl) ?_
   intro a28 ha28; clear ha27 a27
   refine wl_val ha28 rfl rfl rfl (op_loadF (off := 1) ha28 rfl Try.underlying23 rfl rfl hb4.cells rfl) ?_
   intro a29 ha29; clear ha28 a28
   refine wl_val ha29 rfl rfl rfl (op_len_sl ha29 rfl Try.underlying23 rfl h_t1) ?_
   intro a30 ha30; clear ha29 a29
   refine wl_val ha30 rfl rfl rfl (op_move ha30 rfl rfl) ?_
   intro a31 ha31; clear ha30 a30
   refine wpList_nil ?_
   refine then_n ?_
   refine wp_block ?_
   refine loop_inv (X := Nat × Int) (fun (⟨i, q⟩ : Nat × Int) fr wl => Sl 31 fr [(1, .int .i64 column), (6, .int .i64 q), (17, v_t1), (18, .int .i64 ((t.2.length : Nat) : Int)), (19, .int .i64 ((i : Nat) : Int))] ∧ Ext w0 wl ∧ w21.heap.size ≤ wl.heap.size ∧ (i ≤ t.2.length) ∧ (-1000000000000 * (i : Int) ≤ q) ∧ (q ≤ 1000000000000 * (i : Int)) ∧ (q + sumI (rowC column) (t.2.drop i) = sumI (rowC column) t.2)) (fun (⟨i, q⟩ : Nat × Int) => t.2.length - i) (0, (0 : Int)) ?_ ?_
   ·
    exact ⟨(Sl.cons_ ha31 rfl rfl (Sl.cons_ ha31 rfl (int_eq (by omega)) (Sl.cons_ ha31 rfl rfl (Sl.cons_ ha31 rfl rfl (Sl.cons_ ha31 rfl (int_eq (by omega)) (Sl.nil_ ha31)))))), hx24, (by omega), (by omega), (by omega), (by omega), (by simp)⟩
   ·
    clear ha31 a31
    rintro ⟨i, q⟩ a34 w32 ⟨ha34, hx33, hzl35, hi, hq0, hq1, hF⟩
    have hzhx33 := hx33.size
    refine wp_seq ?_
    refine wp_region_lit ?_
    refine wl_val ha34 rfl rfl rfl (op_lss ha34 rfl rfl rfl) ?_
    intro a36 ha36; clear ha34 a34
    refine wpList_nil ?_
    refine then_n ?_
    refine wp_seq ?_
    by_cases c37 : ((i : Nat) : Int) < ((t.2.length : Nat) : Int)
    ·
     rw [decide_eq_true c37] at ha36
     refine cond_t ha36 rfl ?_
     refine wp_skip ?_
     refine then_n ?_
     refine wp_seq ?_
     refine wp_block ?_
     refine wp_seq ?_
     refine wp_region_lit ?_
     obtain ⟨x38, hx38⟩ := get_ex (xs := t.2) (j := i) (by omega)
     obtain ⟨p39, c40, hi41, hc42, hr43, hs44⟩ := Rds.at_ h_t1 hx38
     obtain ⟨v45, rfl, b46⟩ := inv_shRow hr43
     have hlb46 := b46.length_le
     have hrbx38 := htrc17 _ (List.mem_of_getElem? hx38)
     refine wl_val ha36 rfl rfl rfl (op_indexAddr ha36 rfl Try.underlying23 ti41 rfl rfl (by omega) hi41) ?_
     intro a47 ha47; clear ha36 a36
     refine wl_val ha47 rfl rfl rfl (op_loadH ha47 rfl Try.underlying41 rfl rfl (hc42.ext hx33) rfl) ?_
     intro a48 ha48; clear ha47 a47
     refine wl_val ha48 rfl rfl rfl (op_assign ha48 rfl rfl) ?_
     intro a49 ha49; clear ha48 a48
     refine wpList_nil ?_
     refine then_n ?_
     refine wp_region_lit ?_
     refine wl_val ha49 rfl rfl rfl (op_move ha49 rfl rfl) ?_
     intro a50 ha50; clear ha49 a49
     refine wl_val ha50 rfl rfl rfl (op_move ha50 rfl rfl) ?_
     intro a51 ha51; clear ha50 a50
     refine wl_val ha51 rfl rfl rfl (op_move ha51 rfl rfl) ?_
     intro a52 ha52; clear ha51 a51
     obtain ⟨x53, hx53⟩ := get_ex (xs := x38) (j := column.toNat) (by omega)
     obtain ⟨p54, c55, hi56, hc57, hr58, hs59⟩ := Rds.at_ b46 hx53
     obtain ⟨rfl, b60⟩ := inv_shI64 hr58
     have hvbx53 := hrbx38.2 _ (List.mem_of_getElem? hx53)
     refine wl_val ha52 rfl rfl rfl (op_indexAddr ha52 rfl Try.underlying41 ti2 rfl rfl (by omega) hi56) ?_
     intro a61 ha61; clear ha52 a52
     refine wl_val ha61 rfl rfl rfl (op_loadH ha61 rfl Try.underlying2 rfl rfl (hc57.ext hx33) rfl) ?_
     intro a62 ha62; clear ha61 a61
     refine wl_val ha62 rfl rfl rfl ((op_add ha62 rfl rfl rfl).int (IntWalk.i64_in _ (by omega))) ?_
     intro a63 ha63; clear ha62 a62
     refine wl_val ha63 rfl rfl rfl (op_assign ha63 rfl rfl) ?_
     intro a64 ha64; clear ha63 a63
     refine wpList_nil ?_
     refine block_n ?_
     refine then_n ?_
     refine wp_region_lit ?_
     refine wl_val ha64 rfl rfl rfl ((op_add ha64 rfl rfl rfl).int (IntWalk.i64_in _ (by omega))) ?_
     intro a65 ha65; clear ha64 a64
     refine wl_val ha65 rfl rfl rfl (op_move ha65 rfl rfl) ?_
     intro a66 ha66; clear ha65 a65
     refine wpList_nil ?_
     refine round_end (x := (i, q)) ((i + 1), (q + x53)) ?_ ?_
     ·
      refine ⟨(Sl.cons_ ha66 rfl rfl (Sl.cons_ ha66 rfl (int_eq (by omega)) (Sl.cons_ ha66 rfl rfl (Sl.cons_ ha66 rfl rfl (Sl.cons_ ha66 rfl (int_eq (by omega)) (Sl.nil_ ha66)))))), hx33, (by omega), (by omega), (by omega), (by omega), (by rw [drop_cons hx38, sumI, rowC_eq hx53] at hF; omega)⟩
     ·show (t.2.length - ((i + 1)) : Nat) < t.2.length - i; omega
    ·
     rw [decide_eq_false c37] at ha36
     refine cond_f ha36 rfl ?_
     refine wp_exit ?_
     refine then_e ?_
     refine then_e ?_
     refine block_hit ?_
     refine then_n ?_
     refine wp_seq ?_
     refine wp_region_lit ?_
     refine wl_val ha36 rfl rfl rfl (op_move ha36 rfl rfl) ?_
     intro a67 ha67; clear ha36 a36
     refine wl_val ha67 rfl rfl rfl (op_assign ha67 rfl rfl) ?_
     intro a68 ha68; clear ha67 a67
     refine wl_val ha68 rfl rfl rfl (op_assign ha68 rfl rfl) ?_
     intro a69 ha69; clear ha68 a68
     refine wpList_nil ?_
     refine then_n ?_
     refine wp_ret ?_
     refine ret2 ha69 rfl rfl rfl ?_
     clear ha69 a69
     have hr := (cdT_0 c17 c26)
     exact ret_mk hx33 (tup2_eq (int_eq (by rw [drop_nil (by omega)] at hF; simp only [sumI] at hF; rw [if_pos hr]; omega)) (int_eq (by first | exact hr.symm | rfl | omega)))
  ·
   rw [c26] at ha25
   refine cond_t ha25 rfl ?_
   refine wp_seq ?_
   refine wp_region_lit ?_
   refine wl_val ha25 rfl rfl rfl (op_assign ha25 rfl rfl) ?_
   intro a70 ha70; clear ha25 a25
   refine wl_val ha70 rfl rfl rfl (op_assign ha70 rfl rfl) ?_
   intro a71 ha71; clear ha70 a70
   refine wpList_nil ?_
   refine then_n ?_
   refine wp_ret ?_
   refine then_r ?_
   refine ret2 ha71 rfl rfl rfl ?_
   clear ha71 a71
   have hr := (cdT_2 c17 c26)
   exact ret_mk hx24 (tup2_eq (int_eq (by rw [if_neg (by rw [hr]; decide)])) (int_eq (by first | exact hr.symm | rfl | omega)))
 ·
  rw [c17] at ha16
  refine cond_t ha16 rfl ?_
  refine wp_seq ?_
  refine wp_region_lit ?_
  refine wl_val ha16 rfl rfl rfl (op_assign ha16 rfl rfl) ?_
  intro a72 ha72; clear ha16 a16
  refine wl_val ha72 rfl rfl rfl (op_assign ha72 rfl rfl) ?_
  intro a73 ha73; clear ha72 a72
  refine wpList_nil ?_
  refine then_n ?_
  refine wp_ret ?_
  refine then_r ?_
  refine ret2 ha73 rfl rfl rfl ?_
  clear ha73 a73
  have hr := (cdT_1 (c := column) c17)
  exact ret_mk hx15 (tup2_eq (int_eq (by rw [if_neg (by rw [hr]; decide)])) (int_eq (by first | exact hr.symm | rfl | omega)))

theorem c_spec_SumColumn (w0 : World) (v_t0 : Value) (v_t1 : Value) (t : List Str × List (List Int)) {S_t0 : Nat → Prop} {S_t1 : Nat → Prop} (column : Int) (h_t0 : Rds shStr S_t0 w0 v_t0 t.1) (h_t1 : Rds shRow S_t1 w0 v_t1 t.2) :
  Calls Try.prog 21 #[.agg #[v_t0, v_t1], .int .i64 column] w0 (Ret w0 (fun v _ => v = .tuple #[.int .i64 (if cdT t column = 0 then sumI (rowC column) t.2 else 0), .int .i64 (cdT t column)])) := by
 refine enter (N := 33) Try.func21 rfl rfl rfl ?_
 intro a0 ha0
 have hx0 := Ext.rfl' w0
 have hl_t0 := h_t0.length_le
 have hl_t1 := h_t1.length_le
 refine wp_seq ?_
 refine wp_region_lit ?_
 refine wl_eff ha0 rfl rfl rfl (op_box' ha0 rfl rfl rfl) ?_
 rintro _ w2 ⟨rfl, he3, hb4, hz5⟩ a6 ha6; clear ha0 a0
 have hx7 := hx0.trans' he3
 have hzhx7 := he3.size
 refine wl_val ha6 rfl rfl rfl (op_assign ha6 rfl rfl) ?_
 intro a8 ha8; clear ha6 a6
 refine wl_val ha8 rfl rfl rfl (op_assign ha8 rfl rfl) ?_
 intro a9 ha9; clear ha8 a8
 refine wpList_nil ?_
 refine then_n ?_
 refine wp_seq ?_
 refine wp_region_lit ?_
 refine wl_val ha9 rfl rfl rfl (op_loadS ha9 rfl Try.underlying28 ti28 rfl rfl hb4.cells) ?_
 intro a10 ha10; clear ha9 a9
 refine wl_val ha10 rfl rfl rfl (op_move ha10 rfl rfl) ?_
 intro a11 ha11; clear ha10 a10
 refine wl_callR ha11 rfl rfl rfl (op_call ha11 rfl cb69 rfl) (c_spec_l31Code _ v_t0 v_t1 t column (h_t0.ext pos_shStr hx7) (h_t1.ext pos_shRow hx7)) ?_
 rintro v12 w13 he14 rfl a15 ha15; clear ha11 a11
 have hx16 := hx7.trans' he14
 have hzhx16 := he14.size
 replace hb4 := hb4.ext he14
 refine wl_val ha15 rfl rfl rfl (op_assign ha15 rfl rfl) ?_
 intro a17 ha17; clear ha15 a15
 refine wpList_nil ?_
 refine then_n ?_
 refine wp_seq ?_
 refine wp_seq ?_
 refine wp_region_lit ?_
 refine wl_val ha17 rfl rfl rfl (op_move ha17 rfl rfl) ?_
 intro a18 ha18; clear ha17 a17
 refine wl_val ha18 rfl rfl rfl ((op_neq ha18 rfl rfl rfl).to (congrArg Value.bool decide_not)) ?_
 intro a19 ha19; clear ha18 a18
 refine wpList_nil ?_
 refine then_n ?_
 by_cases c20 : (cdT t column : Int) = (0 : Int)
 ·
  rw [decide_eq_true c20] at ha19
  obtain ⟨hk1c20, hk2c20⟩ := cdT_ok c20
  have htbc20 := tab_bd hk1c20
  have htrc20 := tab_rows hk1c20
  have hcbc20 := col_bd hk2c20
  refine cond_f ha19 rfl ?_
  refine wp_skip ?_
  refine then_n ?_
  refine wp_seq ?_
  refine wp_region_lit ?_
  refine wl_val ha19 rfl rfl rfl (op_assign ha19 rfl rfl) ?_
  intro a21 ha21; clear ha19 a19
  refine wpList_nil ?_
  refine then_n ?_
  refine wp_seq ?_
  refine wp_seq ?_
  refine wp_region_lit ?_
  refine wl_val ha21 rfl rfl rfl (op_assign ha21 rfl rfl) ?_
  intro a22 ha22; clear ha21 a21
  refine wpList_nil ?_
  refine then_n ?_
  refine wp_block ?_
  refine loop_inv (X := Nat × Int) (fun (⟨i, q⟩ : Nat × Int) fr wl => Sl 33 fr [(1, .int .i64 column), (2, .pointer (some (⟨w0.heap.size, 0, none⟩ : Addr))), (7, .int .i64 q), (8, .int .i64 ((i : Nat) : Int))] ∧ Ext w0 wl ∧ Box wl w0.heap.size 28 [v_t0, v_t1] ∧ w13.heap.size ≤ wl.heap.size ∧ (i ≤ t.2.length) ∧ (-1000000000000 * (i : Int) ≤ q) ∧ (q ≤ 1000000000000 * (i : Int)) ∧ (q + sumI (rowC column) (t.2.drop i) = sumI (rowC column) t.2)) (fun (⟨i, q⟩ : Nat × Int) => t.2.length - i) (0, (0 : Int)) ?_ ?_
  ·
   exact ⟨(Sl.cons_ ha22 rfl rfl (Sl.cons_ ha22 rfl rfl (Sl.cons_ ha22 rfl (int_eq (by omega)) (Sl.cons_ ha22 rfl (int_eq (by omega)) (Sl.nil_ ha22))))), hx16, hb4, (by omega), (by omega), (by omega), (by omega), (by simp)⟩
  ·
   clear ha22 a22
   rintro ⟨i, q⟩ a26 w23 ⟨ha26, hx24, hf25, hzl27, hi, hq0, hq1, hF⟩
   have hzhx24 := hx24.size
   refine wp_seq ?_
   refine wp_seq ?_
   refine wp_region_lit ?_
   refine wl_val ha26 rfl rfl rfl (op_move ha26 rfl rfl) ?_
   intro a28 ha28; clear ha26 a26
   refine wl_val ha28 rfl rfl rfl (op_fieldAddr (sz := 0) ha28 rfl Try.underlying28 rfl rfl ti23 rfl) ?_
   intro a29 ha29; clear ha28 a28
   refine wl_val ha29 rfl rfl rfl (op_loadF (off := 1) ha29 rfl Try.underlying23 rfl rfl hf25.cells rfl) ?_
   intro a30 ha30; clear ha29 a29
   refine wl_val ha30 rfl rfl rfl (op_len_sl ha30 rfl Try.underlying23 rfl h_t1) ?_
   intro a31 ha31; clear ha30 a30
   refine wl_val ha31 rfl rfl rfl (op_lss ha31 rfl rfl rfl) ?_
   intro a32 ha32; clear ha31 a31
   refine wpList_nil ?_
   refine then_n ?_
   by_cases c33 : ((i : Nat) : Int) < ((t.2.length : Nat) : Int)
   ·
    rw [decide_eq_true c33] at ha32
    refine cond_t ha32 rfl ?_
    refine wp_skip ?_
    refine then_n ?_
    refine wp_seq ?_
    refine wp_block ?_
    refine wp_region_lit ?_
    refine wl_val ha32 rfl rfl rfl (op_move ha32 rfl rfl) ?_
    intro a34 ha34; clear ha32 a32
    refine wl_val ha34 rfl rfl rfl (op_fieldAddr (sz := 0) ha34 rfl Try.underlying28 rfl rfl ti23 rfl) ?_
    intro a35 ha35; clear ha34 a34
    refine wl_val ha35 rfl rfl rfl (op_loadF (off := 1) ha35 rfl Try.underlying23 rfl rfl hf25.cells rfl) ?_
    intro a36 ha36; clear ha35 a35
    refine wl_val ha36 rfl rfl rfl (op_move ha36 rfl rfl) ?_
    intro a37 ha37; clear ha36 a36
    obtain ⟨x38, hx38⟩ := get_ex (xs := t.2) (j := i) (by omega)
    obtain ⟨p39, c40, hi41, hc42, hr43, hs44⟩ := Rds.at_ h_t1 hx38
    obtain ⟨v45, rfl, b46⟩ := inv_shRow hr43
    have hlb46 := b46.length_le
    have hrbx38 := htrc20 _ (List.mem_of_getElem? hx38)
    refine wl_val ha37 rfl rfl rfl (op_indexAddr ha37 rfl Try.underlying23 ti41 rfl rfl (by omega) hi41) ?_
    intro a47 ha47; clear ha37 a37
    refine wl_val ha47 rfl rfl rfl (op_loadH ha47 rfl Try.underlying41 rfl rfl (hc42.ext hx24) rfl) ?_
    intro a48 ha48; clear ha47 a47
    refine wl_val ha48 rfl rfl rfl (op_move ha48 rfl rfl) ?_
    intro a49 ha49; clear ha48 a48
    obtain ⟨x50, hx50⟩ := get_ex (xs := x38) (j := column.toNat) (by omega)
    obtain ⟨p51, c52, hi53, hc54, hr55, hs56⟩ := Rds.at_ b46 hx50
    obtain ⟨rfl, b57⟩ := inv_shI64 hr55
    have hvbx50 := hrbx38.2 _ (List.mem_of_getElem? hx50)
    refine wl_val ha49 rfl rfl rfl (op_indexAddr ha49 rfl Try.underlying41 ti2 rfl rfl (by omega) hi53) ?_
    intro a58 ha58; clear ha49 a49
    refine wl_val ha58 rfl rfl rfl (op_loadH ha58 rfl Try.underlying2 rfl rfl (hc54.ext hx24) rfl) ?_
    intro a59 ha59; clear ha58 a58
    refine wl_val ha59 rfl rfl rfl ((op_add ha59 rfl rfl rfl).int (IntWalk.i64_in _ (by omega))) ?_
    intro a60 ha60; clear ha59 a59
    refine wl_val ha60 rfl rfl rfl (op_assign ha60 rfl rfl) ?_
    intro a61 ha61; clear ha60 a60
    refine wpList_nil ?_
    refine block_n ?_
    refine then_n ?_
    refine wp_region_lit ?_
    refine wl_val ha61 rfl rfl rfl (op_move ha61 rfl rfl) ?_
    intro a62 ha62; clear ha61 a61
    refine wl_val ha62 rfl rfl rfl ((op_add ha62 rfl rfl rfl).int (IntWalk.i64_in _ (by omega))) ?_
    intro a63 ha63; clear ha62 a62
    refine wl_val ha63 rfl rfl rfl (op_assign ha63 rfl rfl) ?_
    intro a64 ha64; clear ha63 a63
    refine wpList_nil ?_
    refine round_end (x := (i, q)) ((i + 1), (q + x50)) ?_ ?_
    ·
     refine ⟨(Sl.cons_ ha64 rfl rfl (Sl.cons_ ha64 rfl rfl (Sl.cons_ ha64 rfl (int_eq (by omega)) (Sl.cons_ ha64 rfl (int_eq (by omega)) (Sl.nil_ ha64))))), hx24, hf25, (by omega), (by omega), (by omega), (by omega), (by rw [drop_cons hx38, sumI, rowC_eq hx50] at hF; omega)⟩
    ·show (t.2.length - ((i + 1)) : Nat) < t.2.length - i; omega
   ·
    rw [decide_eq_false c33] at ha32
    refine cond_f ha32 rfl ?_
    refine wp_exit ?_
    refine then_e ?_
    refine then_e ?_
    refine block_hit ?_
    refine then_n ?_
    refine wp_seq ?_
    refine wp_region_lit ?_
    refine wl_val ha32 rfl rfl rfl (op_move ha32 rfl rfl) ?_
    intro a65 ha65; clear ha32 a32
    refine wl_val ha65 rfl rfl rfl (op_assign ha65 rfl rfl) ?_
    intro a66 ha66; clear ha65 a65
    refine wl_val ha66 rfl rfl rfl (op_assign ha66 rfl rfl) ?_
    intro a67 ha67; clear ha66 a66
    refine wpList_nil ?_
    refine then_n ?_
    refine wp_ret ?_
    refine ret2 ha67 rfl rfl rfl ?_
    clear ha67 a67
    have hr := c20
    exact ret_mk hx24 (tup2_eq (int_eq (by rw [drop_nil (by omega)] at hF; simp only [sumI] at hF; rw [if_pos hr]; omega)) (int_eq (by first | exact hr.symm | rfl | omega)))
 ·
  rw [decide_eq_false c20] at ha19
  refine cond_t ha19 rfl ?_
  refine wp_seq ?_
  refine wp_region_lit ?_
  refine wl_val ha19 rfl rfl rfl (op_move ha19 rfl rfl) ?_
  intro a68 ha68; clear ha19 a19
  refine wl_val ha68 rfl rfl rfl (op_assign ha68 rfl rfl) ?_
  intro a69 ha69; clear ha68 a68
  refine wl_val ha69 rfl rfl rfl (op_assign ha69 rfl rfl) ?_
  intro a70 ha70; clear ha69 a69
  refine wpList_nil ?_
  refine then_n ?_
  refine wp_ret ?_
  refine then_r ?_
  refine ret2 ha70 rfl rfl rfl ?_
  clear ha70 a70
  have hr := c20
  exact ret_mk hx16 (tup2_eq (int_eq (by rw [if_neg hr])) (int_eq (by first | exact hr.symm | rfl | omega)))


end Go.Proofs.Ytjpldgicibnkcaa
