/- The helpers of the property laws. -/
import Derived.Test.YtllpdkidaldkiaaW1
namespace Go.Proofs.Ytllpdkidaldkiaa
open Go Go.RowKit

theorem set_take {α : Type} {acc xs : List α} {i : Nat} {x : α} (h : acc.take i = xs.take i) (hl : acc.length = xs.length) (hx : xs[i]? = some x) : (acc.set i x).take (i + 1) = xs.take (i + 1) := by
  have hi : i < xs.length := (List.getElem?_eq_some_iff.1 hx).1
  rw [take_snoc hx, ← h]
  have : (acc.set i x)[i]? = some x := by rw [List.getElem?_set_self (by omega)]
  rw [take_snoc this, List.take_set_of_le (Nat.le_refl _)]
/-- Do two lists agree place by place? -/
def eqL {α : Type} [DecidableEq α] (xs ys : List α) : Bool := decide (xs = ys)
theorem eqL_nil {α : Type} [DecidableEq α] : eqL ([] : List α) [] = true := by simp [eqL]
theorem eqL_self {α : Type} [DecidableEq α] (xs : List α) : eqL xs xs = true := by simp [eqL]
theorem eqL_len {α : Type} [DecidableEq α] {xs ys : List α} (h : ¬ xs.length = ys.length) : eqL xs ys = false := by
  unfold eqL; rw [decide_eq_false]; intro e; exact h (by rw [e])
theorem eqL_step {α : Type} [DecidableEq α] {xs ys : List α} {i : Nat} {x y : α} (hx : xs[i]? = some x) (hy : ys[i]? = some y) : eqL (xs.drop i) (ys.drop i) = (decide (x = y) && eqL (xs.drop (i + 1)) (ys.drop (i + 1))) := by
  unfold eqL; rw [drop_cons hx, drop_cons hy, Bool.eq_iff_iff]; simp
/-- How much is left of a size behind a piece of that cost; -1: too little. -/
def szR (n : Int) (k : Nat) : Int := if n - k < 0 then -1 else n - k
theorem szR_ok {n : Int} {k : Nat} (h : ¬ szR n k < 0) : (k : Int) ≤ n ∧ szR n k = n - k := by unfold szR at *; split at h <;> simp_all <;> omega
theorem szR_no {n : Int} {k : Nat} (h : szR n k < 0) : n < (k : Int) := by unfold szR at h; split at h <;> omega
theorem szR_add {n : Int} {k m : Nat} (h : ¬ szR n k < 0) : szR n (k + m) = szR (szR n k) m := by
  obtain ⟨h1, h2⟩ := szR_ok h
  rw [h2]; unfold szR; split <;> split <;> omega
theorem szR_neg {n : Int} {k m : Nat} (h : szR n k < 0) : szR n (k + m) = -1 := by
  have := szR_no h; unfold szR; rw [if_pos (by omega)]
theorem szR_le {n : Int} {k : Nat} (h : 0 ≤ n) : szR n k ≤ n := by unfold szR; split <;> omega
theorem szR_zero {n : Int} (h : 0 ≤ n) : szR n 0 = n := by unfold szR; rw [if_neg (by omega)]; omega
theorem szR_if {n : Int} {k : Nat} (h : n < (k : Int)) : szR n k = -1 := by unfold szR; rw [if_pos (by omega)]
theorem szR_nif {n : Int} {k : Nat} (h : (k : Int) ≤ n) : szR n k = n - k := by unfold szR; rw [if_neg (by omega)]
/-- What the elements cost, and a list of them. -/
def sumC {α : Type} (c : α → Nat) : List α → Nat
  | [] => 0
  | x :: xs => c x + sumC c xs
def costL {α : Type} (c : α → Nat) (xs : List α) : Nat := xs.length + sumC c xs
theorem costL_len {α : Type} (c : α → Nat) (xs : List α) : xs.length ≤ costL c xs := by unfold costL; omega
theorem sumC_mem {α : Type} (c : α → Nat) : ∀ (xs : List α) (x : α), x ∈ xs → c x ≤ sumC c xs
  | [], x, h => by simp at h
  | y :: ys, x, h => by
    rcases List.mem_cons.1 h with e | e
    · subst e; simp only [sumC]; omega
    · have := sumC_mem c ys x e; simp only [sumC]; omega
theorem cost_mem {α : Type} {c : α → Nat} {xs : List α} {x : α} (h : x ∈ xs) : c x ≤ costL c xs := by have := sumC_mem c xs x h; unfold costL; omega
theorem hset_self {α : Type} {xs : List α} {i : Nat} {x y : α} (h : (xs.set i x)[i]? = some y) (hi : i < xs.length) : y = x := by
  rw [List.getElem?_set_self hi] at h; exact (Option.some.inj h).symm

theorem heldG_val {α : Type} {ok : α → Int → Bool} {st : Int} : ∀ {xs : List α} {k : Int}, 0 ≤ st → 0 ≤ k → heldG ok st xs k < 0 ∨ heldG ok st xs k = k + st * (xs.length : Nat)
  | [], k, _, _ => .inr (by simp [heldG])
  | x :: xs, k, h, h' => by
    rw [heldG]; split
    · rcases heldG_val (ok := ok) (xs := xs) (k := k + st) h (by omega) with q | q
      · exact .inl q
      · right; rw [q, List.length_cons, Int.natCast_add, Int.mul_add]; simp; omega
    · exact .inl (by omega)
theorem setN_take {X : Type} {zs : List (X × Value)} {a : List X} {i : Nat} {x : X} {u : Value} (h : (zs.take i).map (·.1) = a.take i) (hl : zs.length = a.length) (hx : a[i]? = some x) : ((zs.set i (x, u)).take (i + 1)).map (·.1) = a.take (i + 1) := by
  have hi : i < a.length := (List.getElem?_eq_some_iff.1 hx).1
  have : (zs.set i (x, u))[i]? = some (x, u) := by rw [List.getElem?_set_self (by omega)]
  rw [take_snoc this, List.take_set_of_le (Nat.le_refl _), List.map_append, h, take_snoc hx]
  rfl
theorem map_take_all {X : Type} {zs : List (X × Value)} {a : List X} {i : Nat} (h : (zs.take i).map (·.1) = a.take i) (hl : zs.length = a.length) (hi : a.length ≤ i) : zs.map (·.1) = a := by
  rw [List.take_of_length_le (by omega), List.take_of_length_le (by omega)] at h; exact h
theorem abs_get {X : Type} {zs : List (X × Value)} {T : List X} {i : Nat} {z : X × Value} (h : zs.map (·.1) = T) (hz : zs[i]? = some z) : T[i]? = some z.1 := by rw [← h, List.getElem?_map, hz]; rfl
theorem abs_len {X : Type} {zs : List (X × Value)} {T : List X} (h : zs.map (·.1) = T) : zs.length = T.length := by rw [← h, List.length_map]
theorem map_set_abs {X : Type} {zs : List (X × Value)} {i : Nat} {q : X × Value} : (zs.set i q).map (·.1) = (zs.map (·.1)).set i q.1 := by rw [List.map_set]
theorem mark_step {X : Type} {zs a : List (X × Value)} {i : Nat} {q : X × Value} {M L : List X} {m : X} (hd : (zs.drop i).map (·.1) = (a.map (·.1)).drop i) (hi : i < zs.length) (hF : (zs.take i).map (·.1) ++ m :: M = L) (hq : q.1 = m) :
    ((zs.set i q).drop (i + 1)).map (·.1) = (a.map (·.1)).drop (i + 1) ∧ ((zs.set i q).take (i + 1)).map (·.1) ++ M = L := by
  constructor
  · rw [List.drop_set_of_lt (by omega), ← List.drop_drop (i := 1) (j := i), ← List.drop_drop (i := 1) (j := i), List.map_drop, hd]
  · have : (zs.set i q)[i]? = some q := by rw [List.getElem?_set_self hi]
    rw [take_snoc this, List.take_set_of_le (Nat.le_refl _), List.map_append, ← hF, ← hq, List.append_assoc]; rfl
theorem mark_at {X : Type} {zs a : List (X × Value)} {i : Nat} {z : X × Value} (hd : (zs.drop i).map (·.1) = (a.map (·.1)).drop i) (hz : zs[i]? = some z) : (a.map (·.1))[i]? = some z.1 := by
  have h1 : ((zs.drop i).map (·.1))[0]? = some z.1 := by rw [List.getElem?_map, List.getElem?_drop, Nat.add_zero, hz]; rfl
  rw [hd, List.getElem?_drop, Nat.add_zero] at h1; exact h1

theorem c_laws_big (w0 : World) (v_code : Value) (code : List UInt8) {S_code : Nat → Prop} (h_code : Rds shU8 S_code w0 v_code code) :
  Calls Try.prog 24 #[v_code] w0 (Ret w0 (fun v _ => v = .bool (decide (4096 < code.length)))) := by
 refine enter (N := 6) Try.func24 rfl rfl rfl ?_
 intro a0 ha0
 have hx0 := Ext.rfl' w0
 have hl_code := h_code.length_le
 refine wp_seq ?_
 refine wp_region_lit ?_
 refine wl_val ha0 rfl rfl rfl (op_assign ha0 rfl rfl) ?_
 intro a1 ha1; clear ha0 a0
 refine wpList_nil ?_
 refine then_n ?_
 refine wp_seq ?_
 refine wp_region_lit ?_
 refine wl_val ha1 rfl rfl rfl (op_move ha1 rfl rfl) ?_
 intro a2 ha2; clear ha1 a1
 refine wl_val ha2 rfl rfl rfl (op_len_sl ha2 rfl Try.underlying39 rfl h_code) ?_
 intro a3 ha3; clear ha2 a2
 refine wl_val ha3 rfl rfl rfl (op_gtr ha3 rfl rfl rfl) ?_
 intro a4 ha4; clear ha3 a3
 refine wl_val ha4 rfl rfl rfl (op_assign ha4 rfl rfl) ?_
 intro a5 ha5; clear ha4 a4
 refine wpList_nil ?_
 refine then_n ?_
 refine wp_ret ?_
 refine ret1 ha5 rfl rfl ?_
 clear ha5 a5
 exact ret_mk hx0 (congrArg Value.bool (by simp; omega))

theorem c_laws_likeInts (w0 : World) (v_a : Value) (a : List Int) {S_a : Nat → Prop} (v_b : Value) (b : List Int) {S_b : Nat → Prop} (h_a : Rds shI64 S_a w0 v_a a) (h_b : Rds shI64 S_b w0 v_b b) :
  Calls Try.prog 37 #[v_a, v_b] w0 (Ret w0 (fun v _ => v = .bool (eqL a b))) := by
 refine enter (N := 26) Try.func37 rfl rfl rfl ?_
 intro a0 ha0
 have hx0 := Ext.rfl' w0
 have hl_a := h_a.length_le
 have hl_b := h_b.length_le
 refine wp_seq ?_
 refine wp_region_lit ?_
 refine wl_val ha0 rfl rfl rfl (op_assign ha0 rfl rfl) ?_
 intro a1 ha1; clear ha0 a0
 refine wpList_nil ?_
 refine then_n ?_
 refine wp_seq ?_
 refine wp_seq ?_
 refine wp_region_lit ?_
 refine wl_val ha1 rfl rfl rfl (op_move ha1 rfl rfl) ?_
 intro a2 ha2; clear ha1 a1
 refine wl_val ha2 rfl rfl rfl (op_len_sl ha2 rfl Try.underlying46 rfl h_a) ?_
 intro a3 ha3; clear ha2 a2
 refine wl_val ha3 rfl rfl rfl (op_move ha3 rfl rfl) ?_
 intro a4 ha4; clear ha3 a3
 refine wl_val ha4 rfl rfl rfl (op_len_sl ha4 rfl Try.underlying46 rfl h_b) ?_
 intro a5 ha5; clear ha4 a4
 refine wl_val ha5 rfl rfl rfl ((op_neq ha5 rfl rfl rfl).to (congrArg Value.bool decide_not)) ?_
 intro a6 ha6; clear ha5 a5
 refine wpList_nil ?_
 refine then_n ?_
 by_cases c7 : ((a.length : Nat) : Int) = ((b.length : Nat) : Int)
 ·
  rw [decide_eq_true c7] at ha6
  refine cond_f ha6 rfl ?_
  refine wp_skip ?_
  refine then_n ?_
  refine wp_seq ?_
  refine wp_seq ?_
  refine wp_region_lit ?_
  refine wl_val ha6 rfl rfl rfl (op_assign ha6 rfl rfl) ?_
  intro a8 ha8; clear ha6 a6
  refine wpList_nil ?_
  refine then_n ?_
  refine wp_block ?_
  refine loop_inv (X := Nat) (fun (i : Nat) fr wl => Sl 26 fr [(0, v_a), (1, v_b), (5, .int .i64 ((i : Nat) : Int))] ∧ Ext w0 wl ∧ w0.heap.size ≤ wl.heap.size ∧ (i ≤ a.length) ∧ (a.length = b.length) ∧ (eqL (a.drop i) (b.drop i) = eqL a b)) (fun (i : Nat) => a.length - i) (0) ?_ ?_
  ·
   exact ⟨(Sl.cons_ ha8 rfl rfl (Sl.cons_ ha8 rfl rfl (Sl.cons_ ha8 rfl (int_eq (by omega)) (Sl.nil_ ha8)))), hx0, (by omega), (by omega), (by omega), (by simp)⟩
  ·
   clear ha8 a8
   rintro i a11 w9 ⟨ha11, hx10, hzl12, hi, hl, hF⟩
   have hzhx10 := hx10.size
   refine wp_seq ?_
   refine wp_seq ?_
   refine wp_region_lit ?_
   refine wl_val ha11 rfl rfl rfl (op_move ha11 rfl rfl) ?_
   intro a13 ha13; clear ha11 a11
   refine wl_val ha13 rfl rfl rfl (op_move ha13 rfl rfl) ?_
   intro a14 ha14; clear ha13 a13
   refine wl_val ha14 rfl rfl rfl (op_len_sl ha14 rfl Try.underlying46 rfl h_a) ?_
   intro a15 ha15; clear ha14 a14
   refine wl_val ha15 rfl rfl rfl (op_lss ha15 rfl rfl rfl) ?_
   intro a16 ha16; clear ha15 a15
   refine wpList_nil ?_
   refine then_n ?_
   by_cases c17 : ((i : Nat) : Int) < ((a.length : Nat) : Int)
   ·
    rw [decide_eq_true c17] at ha16
    refine cond_t ha16 rfl ?_
    refine wp_skip ?_
    refine then_n ?_
    refine wp_seq ?_
    refine wp_block ?_
    refine wp_seq ?_
    refine dr_enter Ext follows_mixed ?_
    intro w18 he19
    have hx20 := hx10.trans' he19
    have hzhx20 := he19.size
    have hs21 : Ext w18 w18 := Ext.rfl' _
    refine dr_val (i := 0) ha16 rfl (by kernel_rfl) (by kernel_rfl) (by kernel_rfl) rfl rfl rfl hs21 (fun w' hw' => op_move ha16 rfl rfl) ?_
    intro a22 ha22; clear ha16 a16
    refine dr_val (i := 1) ha22 rfl (by kernel_rfl) (by kernel_rfl) (by kernel_rfl) rfl rfl rfl hs21 (fun w' hw' => op_move ha22 rfl rfl) ?_
    intro a23 ha23; clear ha22 a22
    obtain ⟨x24, hx24⟩ := get_ex (xs := a) (j := i) (by omega)
    obtain ⟨p25, c26, hi27, hc28, hr29, hs30⟩ := Rds.at_ h_a hx24
    obtain ⟨rfl, b31⟩ := inv_shI64 hr29
    refine dr_val (i := 2) ha23 rfl (by kernel_rfl) (by kernel_rfl) (by kernel_rfl) rfl rfl rfl hs21 (fun w' hw' => op_indexAddr ha23 rfl Try.underlying46 ti2 rfl rfl (by omega) hi27) ?_
    intro a32 ha32; clear ha23 a23
    refine dr_val (i := 3) ha32 rfl (by kernel_rfl) (by kernel_rfl) (by kernel_rfl) rfl rfl rfl hs21 (fun w' hw' => op_loadH ha32 rfl Try.underlying2 rfl rfl (hc28.ext (hx20.trans' hw')) rfl) ?_
    intro a33 ha33; clear ha32 a32
    refine dr_val (i := 4) ha33 rfl (by kernel_rfl) (by kernel_rfl) (by kernel_rfl) rfl rfl rfl hs21 (fun w' hw' => op_move ha33 rfl rfl) ?_
    intro a34 ha34; clear ha33 a33
    refine dr_val (i := 5) ha34 rfl (by kernel_rfl) (by kernel_rfl) (by kernel_rfl) rfl rfl rfl hs21 (fun w' hw' => op_move ha34 rfl rfl) ?_
    intro a35 ha35; clear ha34 a34
    obtain ⟨x36, hx36⟩ := get_ex (xs := b) (j := i) (by omega)
    obtain ⟨p37, c38, hi39, hc40, hr41, hs42⟩ := Rds.at_ h_b hx36
    obtain ⟨rfl, b43⟩ := inv_shI64 hr41
    refine dr_val (i := 6) ha35 rfl (by kernel_rfl) (by kernel_rfl) (by kernel_rfl) rfl rfl rfl hs21 (fun w' hw' => op_indexAddr ha35 rfl Try.underlying46 ti2 rfl rfl (by omega) hi39) ?_
    intro a44 ha44; clear ha35 a35
    refine dr_val (i := 7) ha44 rfl (by kernel_rfl) (by kernel_rfl) (by kernel_rfl) rfl rfl rfl hs21 (fun w' hw' => op_loadH ha44 rfl Try.underlying2 rfl rfl (hc40.ext (hx20.trans' hw')) rfl) ?_
    intro a45 ha45; clear ha44 a44
    refine dr_val (i := 8) ha45 rfl (by kernel_rfl) (by kernel_rfl) (by kernel_rfl) rfl rfl rfl hs21 (fun w' hw' => (op_neq ha45 rfl rfl rfl).to (congrArg Value.bool decide_not)) ?_
    intro a46 ha46; clear ha45 a45
    refine dr_end (by kernel_rfl) ?_
    refine then_n ?_
    by_cases c47 : x24 = x36
    ·
     rw [decide_eq_true c47] at ha46
     refine cond_f ha46 rfl ?_
     refine wp_skip ?_
     refine block_n ?_
     refine then_n ?_
     refine wp_region_lit ?_
     refine wl_val ha46 rfl rfl rfl (op_move ha46 rfl rfl) ?_
     intro a48 ha48; clear ha46 a46
     refine wl_val ha48 rfl rfl rfl ((op_add ha48 rfl rfl rfl).int (IntWalk.i64_in _ (by omega))) ?_
     intro a49 ha49; clear ha48 a48
     refine wl_val ha49 rfl rfl rfl (op_assign ha49 rfl rfl) ?_
     intro a50 ha50; clear ha49 a49
     refine wpList_nil ?_
     refine round_end (x := i) ((i + 1)) ?_ ?_
     ·
      refine ⟨(Sl.cons_ ha50 rfl rfl (Sl.cons_ ha50 rfl rfl (Sl.cons_ ha50 rfl (int_eq (by omega)) (Sl.nil_ ha50)))), hx20, (by omega), (by omega), (by exact hl), (by rw [eqL_step hx24 hx36] at hF; simpa [c7, c17, c47] using hF)⟩
     ·show (a.length - ((i + 1)) : Nat) < a.length - i; omega
    ·
     rw [decide_eq_false c47] at ha46
     refine cond_t ha46 rfl ?_
     refine wp_seq ?_
     refine wp_region_lit ?_
     refine wl_val ha46 rfl rfl rfl (op_assign ha46 rfl rfl) ?_
     intro a51 ha51; clear ha46 a46
     refine wpList_nil ?_
     refine then_n ?_
     refine wp_ret ?_
     refine block_r ?_
     refine then_r ?_
     refine then_r ?_
     refine block_r ?_
     refine then_r ?_
     refine ret1 ha51 rfl rfl ?_
     clear ha51 a51
     rw [eqL_step hx24 hx36] at hF
     exact ret_mk hx20 (congrArg Value.bool (by first | (simp [← hF, c7, c17, c47]; done) | (rw [← hF]; simp_all [eqL]; done)))
   ·
    rw [decide_eq_false c17] at ha16
    refine cond_f ha16 rfl ?_
    refine wp_exit ?_
    refine then_e ?_
    refine then_e ?_
    refine block_hit ?_
    refine then_n ?_
    refine wp_seq ?_
    refine wp_region_lit ?_
    refine wl_val ha16 rfl rfl rfl (op_assign ha16 rfl rfl) ?_
    intro a52 ha52; clear ha16 a16
    refine wpList_nil ?_
    refine then_n ?_
    refine wp_ret ?_
    refine ret1 ha52 rfl rfl ?_
    clear ha52 a52
    rw [drop_nil (by omega), drop_nil (by omega), eqL_nil] at hF
    exact ret_mk hx10 (congrArg Value.bool (by first | (simp [← hF, c7, c17]; done) | (rw [← hF]; simp_all [eqL]; done)))
 ·
  rw [decide_eq_false c7] at ha6
  refine cond_t ha6 rfl ?_
  refine wp_seq ?_
  refine wp_region_lit ?_
  refine wl_val ha6 rfl rfl rfl (op_assign ha6 rfl rfl) ?_
  intro a53 ha53; clear ha6 a6
  refine wpList_nil ?_
  refine then_n ?_
  refine wp_ret ?_
  refine then_r ?_
  refine ret1 ha53 rfl rfl ?_
  clear ha53 a53
  
  exact ret_mk hx0 (congrArg Value.bool (by rw [eqL_len (by omega)]))

theorem c_laws_likeTexts (w0 : World) (v_a : Value) (a : List Str) {S_a : Nat → Prop} (v_b : Value) (b : List Str) {S_b : Nat → Prop} (h_a : Rds shStr S_a w0 v_a a) (h_b : Rds shStr S_b w0 v_b b) :
  Calls Try.prog 47 #[v_a, v_b] w0 (Ret w0 (fun v _ => v = .bool (eqL a b))) := by
 refine enter (N := 26) Try.func47 rfl rfl rfl ?_
 intro a0 ha0
 have hx0 := Ext.rfl' w0
 have hl_a := h_a.length_le
 have hl_b := h_b.length_le
 refine wp_seq ?_
 refine wp_region_lit ?_
 refine wl_val ha0 rfl rfl rfl (op_assign ha0 rfl rfl) ?_
 intro a1 ha1; clear ha0 a0
 refine wpList_nil ?_
 refine then_n ?_
 refine wp_seq ?_
 refine wp_seq ?_
 refine wp_region_lit ?_
 refine wl_val ha1 rfl rfl rfl (op_move ha1 rfl rfl) ?_
 intro a2 ha2; clear ha1 a1
 refine wl_val ha2 rfl rfl rfl (op_len_sl ha2 rfl Try.underlying24 rfl h_a) ?_
 intro a3 ha3; clear ha2 a2
 refine wl_val ha3 rfl rfl rfl (op_move ha3 rfl rfl) ?_
 intro a4 ha4; clear ha3 a3
 refine wl_val ha4 rfl rfl rfl (op_len_sl ha4 rfl Try.underlying24 rfl h_b) ?_
 intro a5 ha5; clear ha4 a4
 refine wl_val ha5 rfl rfl rfl ((op_neq ha5 rfl rfl rfl).to (congrArg Value.bool decide_not)) ?_
 intro a6 ha6; clear ha5 a5
 refine wpList_nil ?_
 refine then_n ?_
 by_cases c7 : ((a.length : Nat) : Int) = ((b.length : Nat) : Int)
 ·
  rw [decide_eq_true c7] at ha6
  refine cond_f ha6 rfl ?_
  refine wp_skip ?_
  refine then_n ?_
  refine wp_seq ?_
  refine wp_seq ?_
  refine wp_region_lit ?_
  refine wl_val ha6 rfl rfl rfl (op_assign ha6 rfl rfl) ?_
  intro a8 ha8; clear ha6 a6
  refine wpList_nil ?_
  refine then_n ?_
  refine wp_block ?_
  refine loop_inv (X := Nat) (fun (i : Nat) fr wl => Sl 26 fr [(0, v_a), (1, v_b), (5, .int .i64 ((i : Nat) : Int))] ∧ Ext w0 wl ∧ w0.heap.size ≤ wl.heap.size ∧ (i ≤ a.length) ∧ (a.length = b.length) ∧ (eqL (a.drop i) (b.drop i) = eqL a b)) (fun (i : Nat) => a.length - i) (0) ?_ ?_
  ·
   exact ⟨(Sl.cons_ ha8 rfl rfl (Sl.cons_ ha8 rfl rfl (Sl.cons_ ha8 rfl (int_eq (by omega)) (Sl.nil_ ha8)))), hx0, (by omega), (by omega), (by omega), (by simp)⟩
  ·
   clear ha8 a8
   rintro i a11 w9 ⟨ha11, hx10, hzl12, hi, hl, hF⟩
   have hzhx10 := hx10.size
   refine wp_seq ?_
   refine wp_seq ?_
   refine wp_region_lit ?_
   refine wl_val ha11 rfl rfl rfl (op_move ha11 rfl rfl) ?_
   intro a13 ha13; clear ha11 a11
   refine wl_val ha13 rfl rfl rfl (op_move ha13 rfl rfl) ?_
   intro a14 ha14; clear ha13 a13
   refine wl_val ha14 rfl rfl rfl (op_len_sl ha14 rfl Try.underlying24 rfl h_a) ?_
   intro a15 ha15; clear ha14 a14
   refine wl_val ha15 rfl rfl rfl (op_lss ha15 rfl rfl rfl) ?_
   intro a16 ha16; clear ha15 a15
   refine wpList_nil ?_
   refine then_n ?_
   by_cases c17 : ((i : Nat) : Int) < ((a.length : Nat) : Int)
   ·
    rw [decide_eq_true c17] at ha16
    refine cond_t ha16 rfl ?_
    refine wp_skip ?_
    refine then_n ?_
    refine wp_seq ?_
    refine wp_block ?_
    refine wp_seq ?_
    refine dr_enter Ext follows_mixed ?_
    intro w18 he19
    have hx20 := hx10.trans' he19
    have hzhx20 := he19.size
    have hs21 : Ext w18 w18 := Ext.rfl' _
    refine dr_val (i := 0) ha16 rfl (by kernel_rfl) (by kernel_rfl) (by kernel_rfl) rfl rfl rfl hs21 (fun w' hw' => op_move ha16 rfl rfl) ?_
    intro a22 ha22; clear ha16 a16
    refine dr_val (i := 1) ha22 rfl (by kernel_rfl) (by kernel_rfl) (by kernel_rfl) rfl rfl rfl hs21 (fun w' hw' => op_move ha22 rfl rfl) ?_
    intro a23 ha23; clear ha22 a22
    obtain ⟨x24, hx24⟩ := get_ex (xs := a) (j := i) (by omega)
    obtain ⟨p25, c26, hi27, hc28, hr29, hs30⟩ := Rds.at_ h_a hx24
    obtain ⟨rfl, b31⟩ := inv_shStr hr29
    refine dr_val (i := 2) ha23 rfl (by kernel_rfl) (by kernel_rfl) (by kernel_rfl) rfl rfl rfl hs21 (fun w' hw' => op_indexAddr ha23 rfl Try.underlying24 ti9 rfl rfl (by omega) hi27) ?_
    intro a32 ha32; clear ha23 a23
    refine dr_val (i := 3) ha32 rfl (by kernel_rfl) (by kernel_rfl) (by kernel_rfl) rfl rfl rfl hs21 (fun w' hw' => op_loadH ha32 rfl Try.underlying9 rfl rfl (hc28.ext (hx20.trans' hw')) rfl) ?_
    intro a33 ha33; clear ha32 a32
    refine dr_val (i := 4) ha33 rfl (by kernel_rfl) (by kernel_rfl) (by kernel_rfl) rfl rfl rfl hs21 (fun w' hw' => op_move ha33 rfl rfl) ?_
    intro a34 ha34; clear ha33 a33
    refine dr_val (i := 5) ha34 rfl (by kernel_rfl) (by kernel_rfl) (by kernel_rfl) rfl rfl rfl hs21 (fun w' hw' => op_move ha34 rfl rfl) ?_
    intro a35 ha35; clear ha34 a34
    obtain ⟨x36, hx36⟩ := get_ex (xs := b) (j := i) (by omega)
    obtain ⟨p37, c38, hi39, hc40, hr41, hs42⟩ := Rds.at_ h_b hx36
    obtain ⟨rfl, b43⟩ := inv_shStr hr41
    refine dr_val (i := 6) ha35 rfl (by kernel_rfl) (by kernel_rfl) (by kernel_rfl) rfl rfl rfl hs21 (fun w' hw' => op_indexAddr ha35 rfl Try.underlying24 ti9 rfl rfl (by omega) hi39) ?_
    intro a44 ha44; clear ha35 a35
    refine dr_val (i := 7) ha44 rfl (by kernel_rfl) (by kernel_rfl) (by kernel_rfl) rfl rfl rfl hs21 (fun w' hw' => op_loadH ha44 rfl Try.underlying9 rfl rfl (hc40.ext (hx20.trans' hw')) rfl) ?_
    intro a45 ha45; clear ha44 a44
    refine dr_val (i := 8) ha45 rfl (by kernel_rfl) (by kernel_rfl) (by kernel_rfl) rfl rfl rfl hs21 (fun w' hw' => (op_sneq ha45 rfl rfl rfl).to (congrArg Value.bool decide_not)) ?_
    intro a46 ha46; clear ha45 a45
    refine dr_end (by kernel_rfl) ?_
    refine then_n ?_
    by_cases c47 : x24 = x36
    ·
     rw [decide_eq_true c47] at ha46
     refine cond_f ha46 rfl ?_
     refine wp_skip ?_
     refine block_n ?_
     refine then_n ?_
     refine wp_region_lit ?_
     refine wl_val ha46 rfl rfl rfl (op_move ha46 rfl rfl) ?_
     intro a48 ha48; clear ha46 a46
     refine wl_val ha48 rfl rfl rfl ((op_add ha48 rfl rfl rfl).int (IntWalk.i64_in _ (by omega))) ?_
     intro a49 ha49; clear ha48 a48
     refine wl_val ha49 rfl rfl rfl (op_assign ha49 rfl rfl) ?_
     intro a50 ha50; clear ha49 a49
     refine wpList_nil ?_
     refine round_end (x := i) ((i + 1)) ?_ ?_
     ·
      refine ⟨(Sl.cons_ ha50 rfl rfl (Sl.cons_ ha50 rfl rfl (Sl.cons_ ha50 rfl (int_eq (by omega)) (Sl.nil_ ha50)))), hx20, (by omega), (by omega), (by exact hl), (by rw [eqL_step hx24 hx36] at hF; simpa [c7, c17, c47] using hF)⟩
     ·show (a.length - ((i + 1)) : Nat) < a.length - i; omega
    ·
     rw [decide_eq_false c47] at ha46
     refine cond_t ha46 rfl ?_
     refine wp_seq ?_
     refine wp_region_lit ?_
     refine wl_val ha46 rfl rfl rfl (op_assign ha46 rfl rfl) ?_
     intro a51 ha51; clear ha46 a46
     refine wpList_nil ?_
     refine then_n ?_
     refine wp_ret ?_
     refine block_r ?_
     refine then_r ?_
     refine then_r ?_
     refine block_r ?_
     refine then_r ?_
     refine ret1 ha51 rfl rfl ?_
     clear ha51 a51
     rw [eqL_step hx24 hx36] at hF
     exact ret_mk hx20 (congrArg Value.bool (by first | (simp [← hF, c7, c17, c47]; done) | (rw [← hF]; simp_all [eqL]; done)))
   ·
    rw [decide_eq_false c17] at ha16
    refine cond_f ha16 rfl ?_
    refine wp_exit ?_
    refine then_e ?_
    refine then_e ?_
    refine block_hit ?_
    refine then_n ?_
    refine wp_seq ?_
    refine wp_region_lit ?_
    refine wl_val ha16 rfl rfl rfl (op_assign ha16 rfl rfl) ?_
    intro a52 ha52; clear ha16 a16
    refine wpList_nil ?_
    refine then_n ?_
    refine wp_ret ?_
    refine ret1 ha52 rfl rfl ?_
    clear ha52 a52
    rw [drop_nil (by omega), drop_nil (by omega), eqL_nil] at hF
    exact ret_mk hx10 (congrArg Value.bool (by first | (simp [← hF, c7, c17]; done) | (rw [← hF]; simp_all [eqL]; done)))
 ·
  rw [decide_eq_false c7] at ha6
  refine cond_t ha6 rfl ?_
  refine wp_seq ?_
  refine wp_region_lit ?_
  refine wl_val ha6 rfl rfl rfl (op_assign ha6 rfl rfl) ?_
  intro a53 ha53; clear ha6 a6
  refine wpList_nil ?_
  refine then_n ?_
  refine wp_ret ?_
  refine then_r ?_
  refine ret1 ha53 rfl rfl ?_
  clear ha53 a53
  
  exact ret_mk hx0 (congrArg Value.bool (by rw [eqL_len (by omega)]))

theorem c_laws_likeLines (w0 : World) (v_a : Value) (a : List (Str × Int)) {S_a : Nat → Prop} (v_b : Value) (b : List (Str × Int)) {S_b : Nat → Prop} (h_a : Rds shLine S_a w0 v_a a) (h_b : Rds shLine S_b w0 v_b b) :
  Calls Try.prog 39 #[v_a, v_b] w0 (Ret w0 (fun v _ => v = .bool (eqL a b))) := by
 refine enter (N := 26) Try.func39 rfl rfl rfl ?_
 intro a0 ha0
 have hx0 := Ext.rfl' w0
 have hl_a := h_a.length_le
 have hl_b := h_b.length_le
 refine wp_seq ?_
 refine wp_region_lit ?_
 refine wl_val ha0 rfl rfl rfl (op_assign ha0 rfl rfl) ?_
 intro a1 ha1; clear ha0 a0
 refine wpList_nil ?_
 refine then_n ?_
 refine wp_seq ?_
 refine wp_seq ?_
 refine wp_region_lit ?_
 refine wl_val ha1 rfl rfl rfl (op_move ha1 rfl rfl) ?_
 intro a2 ha2; clear ha1 a1
 refine wl_val ha2 rfl rfl rfl (op_len_sl ha2 rfl Try.underlying34 rfl h_a) ?_
 intro a3 ha3; clear ha2 a2
 refine wl_val ha3 rfl rfl rfl (op_move ha3 rfl rfl) ?_
 intro a4 ha4; clear ha3 a3
 refine wl_val ha4 rfl rfl rfl (op_len_sl ha4 rfl Try.underlying34 rfl h_b) ?_
 intro a5 ha5; clear ha4 a4
 refine wl_val ha5 rfl rfl rfl ((op_neq ha5 rfl rfl rfl).to (congrArg Value.bool decide_not)) ?_
 intro a6 ha6; clear ha5 a5
 refine wpList_nil ?_
 refine then_n ?_
 by_cases c7 : ((a.length : Nat) : Int) = ((b.length : Nat) : Int)
 ·
  rw [decide_eq_true c7] at ha6
  refine cond_f ha6 rfl ?_
  refine wp_skip ?_
  refine then_n ?_
  refine wp_seq ?_
  refine wp_seq ?_
  refine wp_region_lit ?_
  refine wl_val ha6 rfl rfl rfl (op_assign ha6 rfl rfl) ?_
  intro a8 ha8; clear ha6 a6
  refine wpList_nil ?_
  refine then_n ?_
  refine wp_block ?_
  refine loop_inv (X := Nat) (fun (i : Nat) fr wl => Sl 26 fr [(0, v_a), (1, v_b), (5, .int .i64 ((i : Nat) : Int))] ∧ Ext w0 wl ∧ w0.heap.size ≤ wl.heap.size ∧ (i ≤ a.length) ∧ (a.length = b.length) ∧ (eqL (a.drop i) (b.drop i) = eqL a b)) (fun (i : Nat) => a.length - i) (0) ?_ ?_
  ·
   exact ⟨(Sl.cons_ ha8 rfl rfl (Sl.cons_ ha8 rfl rfl (Sl.cons_ ha8 rfl (int_eq (by omega)) (Sl.nil_ ha8)))), hx0, (by omega), (by omega), (by omega), (by simp)⟩
  ·
   clear ha8 a8
   rintro i a11 w9 ⟨ha11, hx10, hzl12, hi, hl, hF⟩
   have hzhx10 := hx10.size
   refine wp_seq ?_
   refine wp_seq ?_
   refine wp_region_lit ?_
   refine wl_val ha11 rfl rfl rfl (op_move ha11 rfl rfl) ?_
   intro a13 ha13; clear ha11 a11
   refine wl_val ha13 rfl rfl rfl (op_move ha13 rfl rfl) ?_
   intro a14 ha14; clear ha13 a13
   refine wl_val ha14 rfl rfl rfl (op_len_sl ha14 rfl Try.underlying34 rfl h_a) ?_
   intro a15 ha15; clear ha14 a14
   refine wl_val ha15 rfl rfl rfl (op_lss ha15 rfl rfl rfl) ?_
   intro a16 ha16; clear ha15 a15
   refine wpList_nil ?_
   refine then_n ?_
   by_cases c17 : ((i : Nat) : Int) < ((a.length : Nat) : Int)
   ·
    rw [decide_eq_true c17] at ha16
    refine cond_t ha16 rfl ?_
    refine wp_skip ?_
    refine then_n ?_
    refine wp_seq ?_
    refine wp_block ?_
    refine wp_seq ?_
    refine dr_enter Ext follows_mixed ?_
    intro w18 he19
    have hx20 := hx10.trans' he19
    have hzhx20 := he19.size
    have hs21 : Ext w18 w18 := Ext.rfl' _
    refine dr_val (i := 0) ha16 rfl (by kernel_rfl) (by kernel_rfl) (by kernel_rfl) rfl rfl rfl hs21 (fun w' hw' => op_move ha16 rfl rfl) ?_
    intro a22 ha22; clear ha16 a16
    refine dr_val (i := 1) ha22 rfl (by kernel_rfl) (by kernel_rfl) (by kernel_rfl) rfl rfl rfl hs21 (fun w' hw' => op_move ha22 rfl rfl) ?_
    intro a23 ha23; clear ha22 a22
    obtain ⟨x24, hx24⟩ := get_ex (xs := a) (j := i) (by omega)
    obtain ⟨p25, c26, hi27, hc28, hr29, hs30⟩ := Rds.at_ h_a hx24
    obtain ⟨rfl, b31, b32⟩ := inv_shLine hr29
    refine dr_val (i := 2) ha23 rfl (by kernel_rfl) (by kernel_rfl) (by kernel_rfl) rfl rfl rfl hs21 (fun w' hw' => op_indexAddr ha23 rfl Try.underlying34 ti83 rfl rfl (by omega) hi27) ?_
    intro a33 ha33; clear ha23 a23
    refine dr_val (i := 3) ha33 rfl (by kernel_rfl) (by kernel_rfl) (by kernel_rfl) rfl rfl rfl hs21 (fun w' hw' => op_loadS ha33 rfl Try.underlying83 ti83 rfl rfl (hc28.ext (hx20.trans' hw'))) ?_
    intro a34 ha34; clear ha33 a33
    refine dr_val (i := 4) ha34 rfl (by kernel_rfl) (by kernel_rfl) (by kernel_rfl) rfl rfl rfl hs21 (fun w' hw' => op_move ha34 rfl rfl) ?_
    intro a35 ha35; clear ha34 a34
    refine dr_val (i := 5) ha35 rfl (by kernel_rfl) (by kernel_rfl) (by kernel_rfl) rfl rfl rfl hs21 (fun w' hw' => op_move ha35 rfl rfl) ?_
    intro a36 ha36; clear ha35 a35
    obtain ⟨x37, hx37⟩ := get_ex (xs := b) (j := i) (by omega)
    obtain ⟨p38, c39, hi40, hc41, hr42, hs43⟩ := Rds.at_ h_b hx37
    obtain ⟨rfl, b44, b45⟩ := inv_shLine hr42
    refine dr_val (i := 6) ha36 rfl (by kernel_rfl) (by kernel_rfl) (by kernel_rfl) rfl rfl rfl hs21 (fun w' hw' => op_indexAddr ha36 rfl Try.underlying34 ti83 rfl rfl (by omega) hi40) ?_
    intro a46 ha46; clear ha36 a36
    refine dr_val (i := 7) ha46 rfl (by kernel_rfl) (by kernel_rfl) (by kernel_rfl) rfl rfl rfl hs21 (fun w' hw' => op_loadS ha46 rfl Try.underlying83 ti83 rfl rfl (hc41.ext (hx20.trans' hw'))) ?_
    intro a47 ha47; clear ha46 a46
    refine dr_val (i := 8) ha47 rfl (by kernel_rfl) (by kernel_rfl) (by kernel_rfl) rfl rfl rfl hs21 (fun w' hw' => (op_aneq ha47 rfl eg83 (aeq83 _ x24 x37) rfl rfl)) ?_
    intro a48 ha48; clear ha47 a47
    refine dr_end (by kernel_rfl) ?_
    refine then_n ?_
    by_cases c49 : x24 = x37
    ·
     rw [decide_eq_true c49] at ha48
     refine cond_f ha48 rfl ?_
     refine wp_skip ?_
     refine block_n ?_
     refine then_n ?_
     refine wp_region_lit ?_
     refine wl_val ha48 rfl rfl rfl (op_move ha48 rfl rfl) ?_
     intro a50 ha50; clear ha48 a48
     refine wl_val ha50 rfl rfl rfl ((op_add ha50 rfl rfl rfl).int (IntWalk.i64_in _ (by omega))) ?_
     intro a51 ha51; clear ha50 a50
     refine wl_val ha51 rfl rfl rfl (op_assign ha51 rfl rfl) ?_
     intro a52 ha52; clear ha51 a51
     refine wpList_nil ?_
     refine round_end (x := i) ((i + 1)) ?_ ?_
     ·
      refine ⟨(Sl.cons_ ha52 rfl rfl (Sl.cons_ ha52 rfl rfl (Sl.cons_ ha52 rfl (int_eq (by omega)) (Sl.nil_ ha52)))), hx20, (by omega), (by omega), (by exact hl), (by rw [eqL_step hx24 hx37] at hF; simpa [c7, c17, c49] using hF)⟩
     ·show (a.length - ((i + 1)) : Nat) < a.length - i; omega
    ·
     rw [decide_eq_false c49] at ha48
     refine cond_t ha48 rfl ?_
     refine wp_seq ?_
     refine wp_region_lit ?_
     refine wl_val ha48 rfl rfl rfl (op_assign ha48 rfl rfl) ?_
     intro a53 ha53; clear ha48 a48
     refine wpList_nil ?_
     refine then_n ?_
     refine wp_ret ?_
     refine block_r ?_
     refine then_r ?_
     refine then_r ?_
     refine block_r ?_
     refine then_r ?_
     refine ret1 ha53 rfl rfl ?_
     clear ha53 a53
     rw [eqL_step hx24 hx37] at hF
     exact ret_mk hx20 (congrArg Value.bool (by first | (simp [← hF, c7, c17, c49]; done) | (rw [← hF]; simp_all [eqL]; done)))
   ·
    rw [decide_eq_false c17] at ha16
    refine cond_f ha16 rfl ?_
    refine wp_exit ?_
    refine then_e ?_
    refine then_e ?_
    refine block_hit ?_
    refine then_n ?_
    refine wp_seq ?_
    refine wp_region_lit ?_
    refine wl_val ha16 rfl rfl rfl (op_assign ha16 rfl rfl) ?_
    intro a54 ha54; clear ha16 a16
    refine wpList_nil ?_
    refine then_n ?_
    refine wp_ret ?_
    refine ret1 ha54 rfl rfl ?_
    clear ha54 a54
    rw [drop_nil (by omega), drop_nil (by omega), eqL_nil] at hF
    exact ret_mk hx10 (congrArg Value.bool (by first | (simp [← hF, c7, c17]; done) | (rw [← hF]; simp_all [eqL]; done)))
 ·
  rw [decide_eq_false c7] at ha6
  refine cond_t ha6 rfl ?_
  refine wp_seq ?_
  refine wp_region_lit ?_
  refine wl_val ha6 rfl rfl rfl (op_assign ha6 rfl rfl) ?_
  intro a55 ha55; clear ha6 a6
  refine wpList_nil ?_
  refine then_n ?_
  refine wp_ret ?_
  refine then_r ?_
  refine ret1 ha55 rfl rfl ?_
  clear ha55 a55
  
  exact ret_mk hx0 (congrArg Value.bool (by rw [eqL_len (by omega)]))

theorem c_laws_likeVersions (w0 : World) (v_a : Value) (a : List (Int × List (Str × Int))) {S_a : Nat → Prop} (v_b : Value) (b : List (Int × List (Str × Int))) {S_b : Nat → Prop} (h_a : Rds shVer S_a w0 v_a a) (h_b : Rds shVer S_b w0 v_b b) :
  Calls Try.prog 36 #[v_a, v_b] w0 (Ret w0 (fun v _ => v = .bool (eqL a b))) := by
 refine enter (N := 42) Try.func36 rfl rfl rfl ?_
 intro a0 ha0
 have hx0 := Ext.rfl' w0
 have hl_a := h_a.length_le
 have hl_b := h_b.length_le
 refine wp_seq ?_
 refine wp_region_lit ?_
 refine wl_val ha0 rfl rfl rfl (op_assign ha0 rfl rfl) ?_
 intro a1 ha1; clear ha0 a0
 refine wpList_nil ?_
 refine then_n ?_
 refine wp_seq ?_
 refine wp_seq ?_
 refine wp_region_lit ?_
 refine wl_val ha1 rfl rfl rfl (op_move ha1 rfl rfl) ?_
 intro a2 ha2; clear ha1 a1
 refine wl_val ha2 rfl rfl rfl (op_len_sl ha2 rfl Try.underlying27 rfl h_a) ?_
 intro a3 ha3; clear ha2 a2
 refine wl_val ha3 rfl rfl rfl (op_move ha3 rfl rfl) ?_
 intro a4 ha4; clear ha3 a3
 refine wl_val ha4 rfl rfl rfl (op_len_sl ha4 rfl Try.underlying27 rfl h_b) ?_
 intro a5 ha5; clear ha4 a4
 refine wl_val ha5 rfl rfl rfl ((op_neq ha5 rfl rfl rfl).to (congrArg Value.bool decide_not)) ?_
 intro a6 ha6; clear ha5 a5
 refine wpList_nil ?_
 refine then_n ?_
 by_cases c7 : ((a.length : Nat) : Int) = ((b.length : Nat) : Int)
 ·
  rw [decide_eq_true c7] at ha6
  refine cond_f ha6 rfl ?_
  refine wp_skip ?_
  refine then_n ?_
  refine wp_seq ?_
  refine wp_seq ?_
  refine wp_region_lit ?_
  refine wl_val ha6 rfl rfl rfl (op_assign ha6 rfl rfl) ?_
  intro a8 ha8; clear ha6 a6
  refine wpList_nil ?_
  refine then_n ?_
  refine wp_block ?_
  refine loop_inv (X := Nat) (fun (i : Nat) fr wl => Sl 42 fr [(0, v_a), (1, v_b), (5, .int .i64 ((i : Nat) : Int))] ∧ Ext w0 wl ∧ w0.heap.size ≤ wl.heap.size ∧ (i ≤ a.length) ∧ (a.length = b.length) ∧ (eqL (a.drop i) (b.drop i) = eqL a b)) (fun (i : Nat) => a.length - i) (0) ?_ ?_
  ·
   exact ⟨(Sl.cons_ ha8 rfl rfl (Sl.cons_ ha8 rfl rfl (Sl.cons_ ha8 rfl (int_eq (by omega)) (Sl.nil_ ha8)))), hx0, (by omega), (by omega), (by omega), (by simp)⟩
  ·
   clear ha8 a8
   rintro i a11 w9 ⟨ha11, hx10, hzl12, hi, hl, hF⟩
   have hzhx10 := hx10.size
   refine wp_seq ?_
   refine wp_seq ?_
   refine wp_region_lit ?_
   refine wl_val ha11 rfl rfl rfl (op_move ha11 rfl rfl) ?_
   intro a13 ha13; clear ha11 a11
   refine wl_val ha13 rfl rfl rfl (op_move ha13 rfl rfl) ?_
   intro a14 ha14; clear ha13 a13
   refine wl_val ha14 rfl rfl rfl (op_len_sl ha14 rfl Try.underlying27 rfl h_a) ?_
   intro a15 ha15; clear ha14 a14
   refine wl_val ha15 rfl rfl rfl (op_lss ha15 rfl rfl rfl) ?_
   intro a16 ha16; clear ha15 a15
   refine wpList_nil ?_
   refine then_n ?_
   by_cases c17 : ((i : Nat) : Int) < ((a.length : Nat) : Int)
   ·
    rw [decide_eq_true c17] at ha16
    refine cond_t ha16 rfl ?_
    refine wp_skip ?_
    refine then_n ?_
    refine wp_seq ?_
    refine wp_block ?_
    refine wp_seq ?_
    refine dr_enter Ext follows_mixed ?_
    intro w18 he19
    have hx20 := hx10.trans' he19
    have hzhx20 := he19.size
    have hs21 : Ext w18 w18 := Ext.rfl' _
    refine dr_val (i := 0) ha16 rfl (by kernel_rfl) (by kernel_rfl) (by kernel_rfl) rfl rfl rfl hs21 (fun w' hw' => op_move ha16 rfl rfl) ?_
    intro a22 ha22; clear ha16 a16
    refine dr_val (i := 1) ha22 rfl (by kernel_rfl) (by kernel_rfl) (by kernel_rfl) rfl rfl rfl hs21 (fun w' hw' => op_move ha22 rfl rfl) ?_
    intro a23 ha23; clear ha22 a22
    obtain ⟨x24, hx24⟩ := get_ex (xs := a) (j := i) (by omega)
    obtain ⟨p25, c26, hi27, hc28, hr29, hs30⟩ := Rds.at_ h_a hx24
    obtain ⟨v31, rfl, b32, b33⟩ := inv_shVer hr29
    have hlb33 := b33.length_le
    refine dr_val (i := 2) ha23 rfl (by kernel_rfl) (by kernel_rfl) (by kernel_rfl) rfl rfl rfl hs21 (fun w' hw' => op_indexAddr ha23 rfl Try.underlying27 ti56 rfl rfl (by omega) hi27) ?_
    intro a34 ha34; clear ha23 a23
    refine dr_val (i := 3) ha34 rfl (by kernel_rfl) (by kernel_rfl) (by kernel_rfl) rfl rfl rfl hs21 (fun w' hw' => op_fieldAddr (sz := 0) ha34 rfl Try.underlying56 rfl rfl ti2 rfl) ?_
    intro a35 ha35; clear ha34 a34
    refine dr_val (i := 4) ha35 rfl (by kernel_rfl) (by kernel_rfl) (by kernel_rfl) rfl rfl rfl hs21 (fun w' hw' => op_loadF (off := 0) ha35 rfl Try.underlying2 rfl rfl (hc28.ext (hx20.trans' hw')) rfl) ?_
    intro a36 ha36; clear ha35 a35
    refine dr_val (i := 5) ha36 rfl (by kernel_rfl) (by kernel_rfl) (by kernel_rfl) rfl rfl rfl hs21 (fun w' hw' => op_move ha36 rfl rfl) ?_
    intro a37 ha37; clear ha36 a36
    refine dr_val (i := 6) ha37 rfl (by kernel_rfl) (by kernel_rfl) (by kernel_rfl) rfl rfl rfl hs21 (fun w' hw' => op_move ha37 rfl rfl) ?_
    intro a38 ha38; clear ha37 a37
    obtain ⟨x39, hx39⟩ := get_ex (xs := b) (j := i) (by omega)
    obtain ⟨p40, c41, hi42, hc43, hr44, hs45⟩ := Rds.at_ h_b hx39
    obtain ⟨v46, rfl, b47, b48⟩ := inv_shVer hr44
    have hlb48 := b48.length_le
    refine dr_val (i := 7) ha38 rfl (by kernel_rfl) (by kernel_rfl) (by kernel_rfl) rfl rfl rfl hs21 (fun w' hw' => op_indexAddr ha38 rfl Try.underlying27 ti56 rfl rfl (by omega) hi42) ?_
    intro a49 ha49; clear ha38 a38
    refine dr_val (i := 8) ha49 rfl (by kernel_rfl) (by kernel_rfl) (by kernel_rfl) rfl rfl rfl hs21 (fun w' hw' => op_fieldAddr (sz := 0) ha49 rfl Try.underlying56 rfl rfl ti2 rfl) ?_
    intro a50 ha50; clear ha49 a49
    refine dr_val (i := 9) ha50 rfl (by kernel_rfl) (by kernel_rfl) (by kernel_rfl) rfl rfl rfl hs21 (fun w' hw' => op_loadF (off := 0) ha50 rfl Try.underlying2 rfl rfl (hc43.ext (hx20.trans' hw')) rfl) ?_
    intro a51 ha51; clear ha50 a50
    refine dr_val (i := 10) ha51 rfl (by kernel_rfl) (by kernel_rfl) (by kernel_rfl) rfl rfl rfl hs21 (fun w' hw' => (op_neq ha51 rfl rfl rfl).to (congrArg Value.bool decide_not)) ?_
    intro a52 ha52; clear ha51 a51
    refine dr_val (i := 11) ha52 rfl (by kernel_rfl) (by kernel_rfl) (by kernel_rfl) rfl rfl rfl hs21 (fun w' hw' => op_move ha52 rfl rfl) ?_
    intro a53 ha53; clear ha52 a52
    by_cases c54 : x24.1 = x39.1
    ·
     rw [decide_eq_true c54] at ha53
     refine dr_val (i := 12) ha53 rfl (by kernel_rfl) (by kernel_rfl) (by kernel_rfl) rfl rfl rfl hs21 (fun w' hw' => op_move ha53 rfl rfl) ?_
     intro a55 ha55; clear ha53 a53
     refine dr_val (i := 13) ha55 rfl (by kernel_rfl) (by kernel_rfl) (by kernel_rfl) rfl rfl rfl hs21 (fun w' hw' => op_move ha55 rfl rfl) ?_
     intro a56 ha56; clear ha55 a55
     refine dr_val (i := 14) ha56 rfl (by kernel_rfl) (by kernel_rfl) (by kernel_rfl) rfl rfl rfl hs21 (fun w' hw' => op_indexAddr ha56 rfl Try.underlying27 ti56 rfl rfl (by omega) hi27) ?_
     intro a57 ha57; clear ha56 a56
     refine dr_val (i := 15) ha57 rfl (by kernel_rfl) (by kernel_rfl) (by kernel_rfl) rfl rfl rfl hs21 (fun w' hw' => op_fieldAddr (sz := 0) ha57 rfl Try.underlying56 rfl rfl ti34 rfl) ?_
     intro a58 ha58; clear ha57 a57
     refine dr_val (i := 16) ha58 rfl (by kernel_rfl) (by kernel_rfl) (by kernel_rfl) rfl rfl rfl hs21 (fun w' hw' => op_loadF (off := 1) ha58 rfl Try.underlying34 rfl rfl (hc28.ext (hx20.trans' hw')) rfl) ?_
     intro a59 ha59; clear ha58 a58
     refine dr_val (i := 17) ha59 rfl (by kernel_rfl) (by kernel_rfl) (by kernel_rfl) rfl rfl rfl hs21 (fun w' hw' => op_move ha59 rfl rfl) ?_
     intro a60 ha60; clear ha59 a59
     refine dr_val (i := 18) ha60 rfl (by kernel_rfl) (by kernel_rfl) (by kernel_rfl) rfl rfl rfl hs21 (fun w' hw' => op_move ha60 rfl rfl) ?_
     intro a61 ha61; clear ha60 a60
     refine dr_val (i := 19) ha61 rfl (by kernel_rfl) (by kernel_rfl) (by kernel_rfl) rfl rfl rfl hs21 (fun w' hw' => op_indexAddr ha61 rfl Try.underlying27 ti56 rfl rfl (by omega) hi42) ?_
     intro a62 ha62; clear ha61 a61
     refine dr_val (i := 20) ha62 rfl (by kernel_rfl) (by kernel_rfl) (by kernel_rfl) rfl rfl rfl hs21 (fun w' hw' => op_fieldAddr (sz := 0) ha62 rfl Try.underlying56 rfl rfl ti34 rfl) ?_
     intro a63 ha63; clear ha62 a62
     refine dr_val (i := 21) ha63 rfl (by kernel_rfl) (by kernel_rfl) (by kernel_rfl) rfl rfl rfl hs21 (fun w' hw' => op_loadF (off := 1) ha63 rfl Try.underlying34 rfl rfl (hc43.ext (hx20.trans' hw')) rfl) ?_
     intro a64 ha64; clear ha63 a63
     refine dr_one (i := 22) (by kernel_rfl) ?_
     refine po_callR ha64 rfl rfl rfl rfl (op_call ha64 rfl cb39 rfl) (c_laws_likeLines _ v31 x24.2 v46 x39.2 (b33.ext pos_shLine (hx20.trans' hs21)) (b48.ext pos_shLine (hx20.trans' hs21))) ?_
     rintro v65 w66 he67 rfl a68 ha68; clear ha64 a64
     have hs69 := hs21.trans' he67
     have hx70 := hx20.trans' he67
     have hzhx70 := he67.size
     refine ⟨hs69, ?_⟩
     refine dr_val (i := 23) ha68 rfl (by kernel_rfl) (by kernel_rfl) (by kernel_rfl) rfl rfl rfl hs69 (fun w' hw' => op_not ha68 rfl rfl) ?_
     intro a71 ha71; clear ha68 a68
     refine dr_val (i := 24) ha71 rfl (by kernel_rfl) (by kernel_rfl) (by kernel_rfl) rfl rfl rfl hs69 (fun w' hw' => op_pick_f ha71 rfl rfl rfl) ?_
     intro a72 ha72; clear ha71 a71
     refine dr_end (by kernel_rfl) ?_
     refine then_n ?_
     rcases Bool.eq_false_or_eq_true (eqL x24.2 x39.2) with c73 | c73
     ·
      rw [c73] at ha72
      refine cond_f ha72 rfl ?_
      refine wp_skip ?_
      refine block_n ?_
      refine then_n ?_
      refine wp_region_lit ?_
      refine wl_val ha72 rfl rfl rfl (op_move ha72 rfl rfl) ?_
      intro a74 ha74; clear ha72 a72
      refine wl_val ha74 rfl rfl rfl ((op_add ha74 rfl rfl rfl).int (IntWalk.i64_in _ (by omega))) ?_
      intro a75 ha75; clear ha74 a74
      refine wl_val ha75 rfl rfl rfl (op_assign ha75 rfl rfl) ?_
      intro a76 ha76; clear ha75 a75
      refine wpList_nil ?_
      refine round_end (x := i) ((i + 1)) ?_ ?_
      ·
       refine ⟨(Sl.cons_ ha76 rfl rfl (Sl.cons_ ha76 rfl rfl (Sl.cons_ ha76 rfl (int_eq (by omega)) (Sl.nil_ ha76)))), hx70, (by omega), (by omega), (by exact hl), (by rw [eqL_step hx24 hx39] at hF; simp_all [eqL, Prod.ext_iff])⟩
      ·show (a.length - ((i + 1)) : Nat) < a.length - i; omega
     ·
      rw [c73] at ha72
      refine cond_t ha72 rfl ?_
      refine wp_seq ?_
      refine wp_region_lit ?_
      refine wl_val ha72 rfl rfl rfl (op_assign ha72 rfl rfl) ?_
      intro a77 ha77; clear ha72 a72
      refine wpList_nil ?_
      refine then_n ?_
      refine wp_ret ?_
      refine block_r ?_
      refine then_r ?_
      refine then_r ?_
      refine block_r ?_
      refine then_r ?_
      refine ret1 ha77 rfl rfl ?_
      clear ha77 a77
      rw [eqL_step hx24 hx39] at hF
      exact ret_mk hx70 (congrArg Value.bool (by first | (simp [← hF, c7, c17, c54, c73]; done) | (rw [← hF]; simp_all [eqL, Prod.ext_iff]; done)))
    ·
     rw [decide_eq_false c54] at ha53
     refine dr_skip (i := 12) ha53 rfl (by kernel_rfl) (by kernel_rfl) (by kernel_rfl) rfl rfl rfl hs21 ?_
     intro a78 ha78; clear ha53 a53
     refine dr_skip (i := 13) ha78 rfl (by kernel_rfl) (by kernel_rfl) (by kernel_rfl) rfl rfl rfl hs21 ?_
     intro a79 ha79; clear ha78 a78
     refine dr_skip (i := 14) ha79 rfl (by kernel_rfl) (by kernel_rfl) (by kernel_rfl) rfl rfl rfl hs21 ?_
     intro a80 ha80; clear ha79 a79
     refine dr_skip (i := 15) ha80 rfl (by kernel_rfl) (by kernel_rfl) (by kernel_rfl) rfl rfl rfl hs21 ?_
     intro a81 ha81; clear ha80 a80
     refine dr_skip (i := 16) ha81 rfl (by kernel_rfl) (by kernel_rfl) (by kernel_rfl) rfl rfl rfl hs21 ?_
     intro a82 ha82; clear ha81 a81
     refine dr_skip (i := 17) ha82 rfl (by kernel_rfl) (by kernel_rfl) (by kernel_rfl) rfl rfl rfl hs21 ?_
     intro a83 ha83; clear ha82 a82
     refine dr_skip (i := 18) ha83 rfl (by kernel_rfl) (by kernel_rfl) (by kernel_rfl) rfl rfl rfl hs21 ?_
     intro a84 ha84; clear ha83 a83
     refine dr_skip (i := 19) ha84 rfl (by kernel_rfl) (by kernel_rfl) (by kernel_rfl) rfl rfl rfl hs21 ?_
     intro a85 ha85; clear ha84 a84
     refine dr_skip (i := 20) ha85 rfl (by kernel_rfl) (by kernel_rfl) (by kernel_rfl) rfl rfl rfl hs21 ?_
     intro a86 ha86; clear ha85 a85
     refine dr_skip (i := 21) ha86 rfl (by kernel_rfl) (by kernel_rfl) (by kernel_rfl) rfl rfl rfl hs21 ?_
     intro a87 ha87; clear ha86 a86
     refine dr_skip (i := 22) ha87 rfl (by kernel_rfl) (by kernel_rfl) (by kernel_rfl) rfl rfl rfl hs21 ?_
     intro a88 ha88; clear ha87 a87
     refine dr_skip (i := 23) ha88 rfl (by kernel_rfl) (by kernel_rfl) (by kernel_rfl) rfl rfl rfl hs21 ?_
     intro a89 ha89; clear ha88 a88
     refine dr_val (i := 24) ha89 rfl (by kernel_rfl) (by kernel_rfl) (by kernel_rfl) rfl rfl rfl hs21 (fun w' hw' => op_pick_t ha89 rfl rfl rfl) ?_
     intro a90 ha90; clear ha89 a89
     refine dr_end (by kernel_rfl) ?_
     refine then_n ?_
     refine cond_t ha90 rfl ?_
     refine wp_seq ?_
     refine wp_region_lit ?_
     refine wl_val ha90 rfl rfl rfl (op_assign ha90 rfl rfl) ?_
     intro a91 ha91; clear ha90 a90
     refine wpList_nil ?_
     refine then_n ?_
     refine wp_ret ?_
     refine block_r ?_
     refine then_r ?_
     refine then_r ?_
     refine block_r ?_
     refine then_r ?_
     refine ret1 ha91 rfl rfl ?_
     clear ha91 a91
     rw [eqL_step hx24 hx39] at hF
     exact ret_mk hx20 (congrArg Value.bool (by first | (simp [← hF, c7, c17, c54]; done) | (rw [← hF]; simp_all [eqL, Prod.ext_iff]; done)))
   ·
    rw [decide_eq_false c17] at ha16
    refine cond_f ha16 rfl ?_
    refine wp_exit ?_
    refine then_e ?_
    refine then_e ?_
    refine block_hit ?_
    refine then_n ?_
    refine wp_seq ?_
    refine wp_region_lit ?_
    refine wl_val ha16 rfl rfl rfl (op_assign ha16 rfl rfl) ?_
    intro a92 ha92; clear ha16 a16
    refine wpList_nil ?_
    refine then_n ?_
    refine wp_ret ?_
    refine ret1 ha92 rfl rfl ?_
    clear ha92 a92
    rw [drop_nil (by omega), drop_nil (by omega), eqL_nil] at hF
    exact ret_mk hx10 (congrArg Value.bool (by first | (simp [← hF, c7, c17]; done) | (rw [← hF]; simp_all [eqL, Prod.ext_iff]; done)))
 ·
  rw [decide_eq_false c7] at ha6
  refine cond_t ha6 rfl ?_
  refine wp_seq ?_
  refine wp_region_lit ?_
  refine wl_val ha6 rfl rfl rfl (op_assign ha6 rfl rfl) ?_
  intro a93 ha93; clear ha6 a6
  refine wpList_nil ?_
  refine then_n ?_
  refine wp_ret ?_
  refine then_r ?_
  refine ret1 ha93 rfl rfl ?_
  clear ha93 a93
  
  exact ret_mk hx0 (congrArg Value.bool (by rw [eqL_len (by omega)]))

theorem c_laws_hasText (w0 : World) (v_list : Value) (list : List Str) {S_list : Nat → Prop} (s : Str) (h_list : Rds shStr S_list w0 v_list list) :
  Calls Try.prog 48 #[v_list, St s] w0 (Ret w0 (fun v _ => v = .bool (decide (s ∈ list)))) := by
 refine enter (N := 18) Try.func48 rfl rfl rfl ?_
 intro a0 ha0
 have hx0 := Ext.rfl' w0
 have hl_list := h_list.length_le
 refine wp_seq ?_
 refine wp_region_lit ?_
 refine wl_val ha0 rfl rfl rfl (op_assign ha0 rfl rfl) ?_
 intro a1 ha1; clear ha0 a0
 refine wpList_nil ?_
 refine then_n ?_
 refine wp_seq ?_
 refine wp_seq ?_
 refine wp_region_lit ?_
 refine wl_val ha1 rfl rfl rfl (op_assign ha1 rfl rfl) ?_
 intro a2 ha2; clear ha1 a1
 refine wpList_nil ?_
 refine then_n ?_
 refine wp_block ?_
 refine loop_inv (X := Nat) (fun (i : Nat) fr wl => Sl 18 fr [(0, v_list), (1, St s), (5, .int .i64 ((i : Nat) : Int))] ∧ Ext w0 wl ∧ w0.heap.size ≤ wl.heap.size ∧ (i ≤ list.length) ∧ ((s ∈ list.drop i) = (s ∈ list))) (fun (i : Nat) => list.length - i) (0) ?_ ?_
 ·
  exact ⟨(Sl.cons_ ha2 rfl rfl (Sl.cons_ ha2 rfl rfl (Sl.cons_ ha2 rfl (int_eq (by omega)) (Sl.nil_ ha2)))), hx0, (by omega), (by omega), (by simp)⟩
 ·
  clear ha2 a2
  rintro i a5 w3 ⟨ha5, hx4, hzl6, hi, hF⟩
  have hzhx4 := hx4.size
  refine wp_seq ?_
  refine wp_seq ?_
  refine wp_region_lit ?_
  refine wl_val ha5 rfl rfl rfl (op_move ha5 rfl rfl) ?_
  intro a7 ha7; clear ha5 a5
  refine wl_val ha7 rfl rfl rfl (op_move ha7 rfl rfl) ?_
  intro a8 ha8; clear ha7 a7
  refine wl_val ha8 rfl rfl rfl (op_len_sl ha8 rfl Try.underlying24 rfl h_list) ?_
  intro a9 ha9; clear ha8 a8
  refine wl_val ha9 rfl rfl rfl (op_lss ha9 rfl rfl rfl) ?_
  intro a10 ha10; clear ha9 a9
  refine wpList_nil ?_
  refine then_n ?_
  by_cases c11 : ((i : Nat) : Int) < ((list.length : Nat) : Int)
  ·
   rw [decide_eq_true c11] at ha10
   refine cond_t ha10 rfl ?_
   refine wp_skip ?_
   refine then_n ?_
   refine wp_seq ?_
   refine wp_block ?_
   refine wp_seq ?_
   refine wp_region_lit ?_
   refine wl_val ha10 rfl rfl rfl (op_move ha10 rfl rfl) ?_
   intro a12 ha12; clear ha10 a10
   refine wl_val ha12 rfl rfl rfl (op_move ha12 rfl rfl) ?_
   intro a13 ha13; clear ha12 a12
   obtain ⟨x14, hx14⟩ := get_ex (xs := list) (j := i) (by omega)
   obtain ⟨p15, c16, hi17, hc18, hr19, hs20⟩ := Rds.at_ h_list hx14
   obtain ⟨rfl, b21⟩ := inv_shStr hr19
   refine wl_val ha13 rfl rfl rfl (op_indexAddr ha13 rfl Try.underlying24 ti9 rfl rfl (by omega) hi17) ?_
   intro a22 ha22; clear ha13 a13
   refine wl_val ha22 rfl rfl rfl (op_loadH ha22 rfl Try.underlying9 rfl rfl (hc18.ext hx4) rfl) ?_
   intro a23 ha23; clear ha22 a22
   refine wl_val ha23 rfl rfl rfl (op_move ha23 rfl rfl) ?_
   intro a24 ha24; clear ha23 a23
   refine wl_val ha24 rfl rfl rfl (op_seql ha24 rfl rfl rfl) ?_
   intro a25 ha25; clear ha24 a24
   refine wpList_nil ?_
   refine then_n ?_
   by_cases c26 : x14 = s
   ·
    rw [decide_eq_true c26] at ha25
    refine cond_t ha25 rfl ?_
    refine wp_seq ?_
    refine wp_region_lit ?_
    refine wl_val ha25 rfl rfl rfl (op_assign ha25 rfl rfl) ?_
    intro a27 ha27; clear ha25 a25
    refine wpList_nil ?_
    refine then_n ?_
    refine wp_ret ?_
    refine block_r ?_
    refine then_r ?_
    refine then_r ?_
    refine block_r ?_
    refine then_r ?_
    refine ret1 ha27 rfl rfl ?_
    clear ha27 a27
    exact ret_mk hx4 (congrArg Value.bool (by have h9 := List.mem_of_getElem? hx14; simp_all))
   ·
    rw [decide_eq_false c26] at ha25
    refine cond_f ha25 rfl ?_
    refine wp_skip ?_
    refine block_n ?_
    refine then_n ?_
    refine wp_region_lit ?_
    refine wl_val ha25 rfl rfl rfl (op_move ha25 rfl rfl) ?_
    intro a28 ha28; clear ha25 a25
    refine wl_val ha28 rfl rfl rfl ((op_add ha28 rfl rfl rfl).int (IntWalk.i64_in _ (by omega))) ?_
    intro a29 ha29; clear ha28 a28
    refine wl_val ha29 rfl rfl rfl (op_assign ha29 rfl rfl) ?_
    intro a30 ha30; clear ha29 a29
    refine wpList_nil ?_
    refine round_end (x := i) ((i + 1)) ?_ ?_
    ·
     refine ⟨(Sl.cons_ ha30 rfl rfl (Sl.cons_ ha30 rfl rfl (Sl.cons_ ha30 rfl (int_eq (by omega)) (Sl.nil_ ha30)))), hx4, (by omega), (by omega), (by rw [drop_cons hx14, List.mem_cons] at hF; rw [← hF]; apply propext; constructor; (intro q; exact .inr q); (rintro (q | q); (exact absurd q.symm (by assumption)); (exact q)))⟩
    ·show (list.length - ((i + 1)) : Nat) < list.length - i; omega
  ·
   rw [decide_eq_false c11] at ha10
   refine cond_f ha10 rfl ?_
   refine wp_exit ?_
   refine then_e ?_
   refine then_e ?_
   refine block_hit ?_
   refine then_n ?_
   refine wp_seq ?_
   refine wp_region_lit ?_
   refine wl_val ha10 rfl rfl rfl (op_assign ha10 rfl rfl) ?_
   intro a31 ha31; clear ha10 a10
   refine wpList_nil ?_
   refine then_n ?_
   refine wp_ret ?_
   refine ret1 ha31 rfl rfl ?_
   clear ha31 a31
   exact ret_mk hx4 (congrArg Value.bool (by rw [drop_nil (by omega)] at hF; simp at hF; simp [hF]))

theorem c_laws_hasInt (w0 : World) (v_list : Value) (list : List Int) {S_list : Nat → Prop} (x : Int) (h_list : Rds shI64 S_list w0 v_list list) :
  Calls Try.prog 40 #[v_list, .int .i64 x] w0 (Ret w0 (fun v _ => v = .bool (decide (x ∈ list)))) := by
 refine enter (N := 18) Try.func40 rfl rfl rfl ?_
 intro a0 ha0
 have hx0 := Ext.rfl' w0
 have hl_list := h_list.length_le
 refine wp_seq ?_
 refine wp_region_lit ?_
 refine wl_val ha0 rfl rfl rfl (op_assign ha0 rfl rfl) ?_
 intro a1 ha1; clear ha0 a0
 refine wpList_nil ?_
 refine then_n ?_
 refine wp_seq ?_
 refine wp_seq ?_
 refine wp_region_lit ?_
 refine wl_val ha1 rfl rfl rfl (op_assign ha1 rfl rfl) ?_
 intro a2 ha2; clear ha1 a1
 refine wpList_nil ?_
 refine then_n ?_
 refine wp_block ?_
 refine loop_inv (X := Nat) (fun (i : Nat) fr wl => Sl 18 fr [(0, v_list), (1, .int .i64 x), (5, .int .i64 ((i : Nat) : Int))] ∧ Ext w0 wl ∧ w0.heap.size ≤ wl.heap.size ∧ (i ≤ list.length) ∧ ((x ∈ list.drop i) = (x ∈ list))) (fun (i : Nat) => list.length - i) (0) ?_ ?_
 ·
  exact ⟨(Sl.cons_ ha2 rfl rfl (Sl.cons_ ha2 rfl rfl (Sl.cons_ ha2 rfl (int_eq (by omega)) (Sl.nil_ ha2)))), hx0, (by omega), (by omega), (by simp)⟩
 ·
  clear ha2 a2
  rintro i a5 w3 ⟨ha5, hx4, hzl6, hi, hF⟩
  have hzhx4 := hx4.size
  refine wp_seq ?_
  refine wp_seq ?_
  refine wp_region_lit ?_
  refine wl_val ha5 rfl rfl rfl (op_move ha5 rfl rfl) ?_
  intro a7 ha7; clear ha5 a5
  refine wl_val ha7 rfl rfl rfl (op_move ha7 rfl rfl) ?_
  intro a8 ha8; clear ha7 a7
  refine wl_val ha8 rfl rfl rfl (op_len_sl ha8 rfl Try.underlying46 rfl h_list) ?_
  intro a9 ha9; clear ha8 a8
  refine wl_val ha9 rfl rfl rfl (op_lss ha9 rfl rfl rfl) ?_
  intro a10 ha10; clear ha9 a9
  refine wpList_nil ?_
  refine then_n ?_
  by_cases c11 : ((i : Nat) : Int) < ((list.length : Nat) : Int)
  ·
   rw [decide_eq_true c11] at ha10
   refine cond_t ha10 rfl ?_
   refine wp_skip ?_
   refine then_n ?_
   refine wp_seq ?_
   refine wp_block ?_
   refine wp_seq ?_
   refine wp_region_lit ?_
   refine wl_val ha10 rfl rfl rfl (op_move ha10 rfl rfl) ?_
   intro a12 ha12; clear ha10 a10
   refine wl_val ha12 rfl rfl rfl (op_move ha12 rfl rfl) ?_
   intro a13 ha13; clear ha12 a12
   obtain ⟨x14, hx14⟩ := get_ex (xs := list) (j := i) (by omega)
   obtain ⟨p15, c16, hi17, hc18, hr19, hs20⟩ := Rds.at_ h_list hx14
   obtain ⟨rfl, b21⟩ := inv_shI64 hr19
   refine wl_val ha13 rfl rfl rfl (op_indexAddr ha13 rfl Try.underlying46 ti2 rfl rfl (by omega) hi17) ?_
   intro a22 ha22; clear ha13 a13
   refine wl_val ha22 rfl rfl rfl (op_loadH ha22 rfl Try.underlying2 rfl rfl (hc18.ext hx4) rfl) ?_
   intro a23 ha23; clear ha22 a22
   refine wl_val ha23 rfl rfl rfl (op_move ha23 rfl rfl) ?_
   intro a24 ha24; clear ha23 a23
   refine wl_val ha24 rfl rfl rfl (op_eql ha24 rfl rfl rfl) ?_
   intro a25 ha25; clear ha24 a24
   refine wpList_nil ?_
   refine then_n ?_
   by_cases c26 : x14 = x
   ·
    rw [decide_eq_true c26] at ha25
    refine cond_t ha25 rfl ?_
    refine wp_seq ?_
    refine wp_region_lit ?_
    refine wl_val ha25 rfl rfl rfl (op_assign ha25 rfl rfl) ?_
    intro a27 ha27; clear ha25 a25
    refine wpList_nil ?_
    refine then_n ?_
    refine wp_ret ?_
    refine block_r ?_
    refine then_r ?_
    refine then_r ?_
    refine block_r ?_
    refine then_r ?_
    refine ret1 ha27 rfl rfl ?_
    clear ha27 a27
    exact ret_mk hx4 (congrArg Value.bool (by have h9 := List.mem_of_getElem? hx14; simp_all))
   ·
    rw [decide_eq_false c26] at ha25
    refine cond_f ha25 rfl ?_
    refine wp_skip ?_
    refine block_n ?_
    refine then_n ?_
    refine wp_region_lit ?_
    refine wl_val ha25 rfl rfl rfl (op_move ha25 rfl rfl) ?_
    intro a28 ha28; clear ha25 a25
    refine wl_val ha28 rfl rfl rfl ((op_add ha28 rfl rfl rfl).int (IntWalk.i64_in _ (by omega))) ?_
    intro a29 ha29; clear ha28 a28
    refine wl_val ha29 rfl rfl rfl (op_assign ha29 rfl rfl) ?_
    intro a30 ha30; clear ha29 a29
    refine wpList_nil ?_
    refine round_end (x := i) ((i + 1)) ?_ ?_
    ·
     refine ⟨(Sl.cons_ ha30 rfl rfl (Sl.cons_ ha30 rfl rfl (Sl.cons_ ha30 rfl (int_eq (by omega)) (Sl.nil_ ha30)))), hx4, (by omega), (by omega), (by rw [drop_cons hx14, List.mem_cons] at hF; rw [← hF]; apply propext; constructor; (intro q; exact .inr q); (rintro (q | q); (exact absurd q.symm (by assumption)); (exact q)))⟩
    ·show (list.length - ((i + 1)) : Nat) < list.length - i; omega
  ·
   rw [decide_eq_false c11] at ha10
   refine cond_f ha10 rfl ?_
   refine wp_exit ?_
   refine then_e ?_
   refine then_e ?_
   refine block_hit ?_
   refine then_n ?_
   refine wp_seq ?_
   refine wp_region_lit ?_
   refine wl_val ha10 rfl rfl rfl (op_assign ha10 rfl rfl) ?_
   intro a31 ha31; clear ha10 a10
   refine wpList_nil ?_
   refine then_n ?_
   refine wp_ret ?_
   refine ret1 ha31 rfl rfl ?_
   clear ha31 a31
   exact ret_mk hx4 (congrArg Value.bool (by rw [drop_nil (by omega)] at hF; simp at hF; simp [hF]))


end Go.Proofs.Ytllpdkidaldkiaa
