/- Promises: free minutes, the earliest day, one more. -/
import Derived.Test.YthbehhhblchhhaaGreatP1
namespace Go.Proofs.YthbehhhblchhhaaGreat
open Go Go.RowKit
set_option maxHeartbeats 16000000

def frG (d : Int) (all : List Prom) : List Prom → Int → Int
  | [], f => f
  | p :: ps, f => frG d all ps (if d < p.2.1 then min f (420 * p.2.1 - wuG p.2.1 all) else f)
/-- The minutes that are free until a day. -/
def frS (xs : List Prom) (d : Int) : Int := frG d xs xs (420 * d - wuG d xs)
theorem frG_cons {d : Int} {all xs : List Prom} {i : Nat} {x : Prom} {f g : Int} (h : xs[i]? = some x) (hf : (if d < x.2.1 then min f (420 * x.2.1 - wuG x.2.1 all) else f) = g) : frG d all (xs.drop i) f = frG d all (xs.drop (i + 1)) g := by rw [drop_cons h, frG, hf]
theorem frG_low {d m : Int} {all : List Prom} : ∀ {xs : List Prom} {f : Int}, m ≤ f → (∀ p ∈ xs, d < p.2.1 → m ≤ 420 * p.2.1 - wuG p.2.1 all) → m ≤ frG d all xs f
  | [], _, h, _ => h
  | p :: ps, f, h, h2 => by
    rw [frG]
    refine frG_low ?_ fun q hq => h2 q (by simp [hq])
    have := h2 p (by simp)
    split <;> omega
theorem frS_top {xs : List Prom} (h : prK xs) : 338000 ≤ frS xs 1000 := by
  have := wuG_k h 1000
  refine frG_low (by omega) fun p hp hd => ?_
  have := (h.2 p hp).1; omega
/-- The first day, from a day on, until which so many minutes are free. -/
def edG (xs : List Prom) (m : Int) : Nat → Int → Int
  | 0, d => d
  | n + 1, d => if frS xs d < m then edG xs m n (d + 1) else d
def edS (xs : List Prom) (m : Int) : Int := edG xs m 1000 1
def cdP (xs : List Prom) (b : Bool) : Int := if prsB xs = true then (if b = true then (if 0 < brS xs then 5 else 0) else 2) else 1
theorem cdP_0 {xs : List Prom} {b : Bool} (h : cdP xs b = 0) : prsB xs = true ∧ b = true ∧ ¬ 0 < brS xs := by
  unfold cdP at h
  split at h
  · split at h
    · split at h
      · omega
      · exact ⟨‹_›, ‹_›, ‹_›⟩
    · omega
  · omega
def edC (xs : List Prom) (m : Int) : Int := cdP xs (decide (1 ≤ m) && decide (m ≤ 2000))
theorem edG_step {xs : List Prom} {m d : Int} (h : frS xs d < m) (hd : d ≤ 1000) : edG xs m (1001 - d).toNat d = edG xs m (1001 - (d + 1)).toNat (d + 1) := by
  rw [show (1001 - d).toNat = (1001 - (d + 1)).toNat + 1 by omega, edG, if_pos h]
theorem edG_stop {xs : List Prom} {m d : Int} {n : Nat} (h : ¬ frS xs d < m) : edG xs m n d = d := by
  cases n with
  | zero => rfl
  | succ n => rw [edG, if_neg h]
theorem ed_lt {xs : List Prom} {m d : Int} (hk : prK xs) (h : frS xs d < m) (hm : m ≤ 2000) (hd : d ≤ 1000) : d < 1000 := by
  rcases Int.lt_or_le d 1000 with q | q
  · exact q
  · have e : d = 1000 := by omega
    subst e; have := frS_top hk; omega
def mkPC (xs : List Prom) (p : Prom) : Int := if prsB xs = true then (if xs.length = 40 then 3 else if prsB (xs ++ [p]) = true then (if 0 < brS (xs ++ [p]) then 5 else 0) else 5) else 1
def mkPL (xs : List Prom) (p : Prom) : List Prom := if mkPC xs p = 0 then xs ++ [p] else []

theorem c_impl_freeUntil (w0 : World) (v_list : Value) (list : List (Str × Int × Int)) {S_list : Nat → Prop} (day : Int) (h_list : Rds shProm S_list w0 v_list list) (g0 : prK list) (g1 : 1 ≤ day ∧ day ≤ 1000) :
    Calls Tryz.prog 120 #[v_list, .int .i64 day] w0 (Ret w0 (fun v _ => v = .int .i64 (frS list day))) := by
 refine enter (N := 36) Tryz.func120 rfl rfl rfl ?_
 intro A H
 have hx0 := Ext.rfl' w0
 have hl_list := h_list.length_le
 have hwk := g0.1
 have hwd := wuG_k g0 day
 revert A; refine go ?_; intro A H
 refine wv H ((op_mul H rfl rfl rfl).int (IntWalk.i64_in _ (by omega))) ?_
 clear H A; refine go ?_; intro A H
 refine wc H cb143 (c_impl_workUntil _ v_list list day (h_list.ext pos_shProm hx0) gd) ?_
 clear H A; rintro v6 w7 he8 rfl A H
 obtain ⟨hx10, _⟩ := nx hx0 he8
 refine wv H ((op_sub H rfl rfl rfl).int (IntWalk.i64_in _ (by omega))) ?_
 clear H A; refine go ?_; intro A H
 refine wv H (ln H U31 h_list) ?_
 clear H A; refine go ?_; intro A H
 refine loop_inv (X := Nat × Int) (fun ⟨i, f⟩ fr wl => Sl 36 fr [(0, v_list), (1, .int .i64 day), (5, .int .i64 f), (14, v_list), (15, .int .i64 ((list.length : Nat) : Int)), (16, .int .i64 ((i : Nat) : Int))] ∧ Ext w0 wl ∧ w7.heap.size ≤ wl.heap.size ∧ (i ≤ list.length) ∧ (frG day list (list.drop i) f = frS list day) ∧ (-1000000 ≤ f ∧ f ≤ 420 * day - wuG day list)) (fun ⟨i, f⟩ => list.length - i) (0, (((420 : Int) * day) - (wuG day list : Int))) ?_ ?_
 exact ⟨(sl H), hx10, (by omega), (by omega), (by rfl), (by omega)⟩
 clear H A
 rintro ⟨i, f⟩ A w16 ⟨H, hx17, hzl19, hi, hA, hf⟩
 have hzhx17 := hx17.size
 revert A; refine go ?_; intro A H
 by_cases c21 : ((i : Nat) : Int) < ((list.length : Nat) : Int)
 rw [decide_eq_true c21] at H
 revert A; refine go ?_; intro A H
 obtain ⟨x22, hx22⟩ := get_ex (xs := list) (j := i) (by omega)
 obtain ⟨p23, hi25, hc26, b29, b30, b31, hs28⟩ := at_shProm h_list hx22
 have hbx22 := prK_at g0 hx22
 have hwx22 := wuG_k g0 x22.2.1
 refine wv H (ix H U31 ti67 hi25) ?_
 clear H A; intro A H
 refine wv H (ls H U67 ti67 (hc26.ext hx17)) ?_
 clear H A; intro A H
 refine we H (op_alloc' rfl ti67 rfl) ?_
 clear H A; rintro _ w35 ⟨rfl, he36, hb37, hz38⟩ A H
 obtain ⟨hx40, _⟩ := nx hx17 he36
 refine ws H (op_sa H ti67 hb37) ?_
 rintro w41 ⟨hb43, hst42, hz44⟩
 obtain ⟨hx45, _⟩ := nb hx40 hst42
 clear hb37
 revert A; refine go ?_; intro A H
 refine fl 1 H U67 ti2 U2 hb43.cells ?_
 clear H A; refine go ?_; intro A H
 by_cases c50 : day ≤ x22.2.1
 rw [decide_eq_true c50] at H
 refine cond_t H rfl ?_
 refine dre Ext follows_mixed ?_
 intro w51 he52 hs54
 obtain ⟨hx53, _⟩ := nx hx45 he52
 replace hb43 := hb43.ext he52
 refine dw 0 H rfl hs54 (op_move H rfl rfl) ?_
 clear H A; intro A H
 refine dw 1 H rfl hs54 (fa H U67 ti2) ?_
 clear H A; intro A H
 refine dv 2 H rfl hs54 (fun w' hw' => lf 1 H U2 (hb43.ext hw').cells) ?_
 clear H A; intro A H
 refine dw 3 H rfl hs54 ((op_mul H rfl rfl rfl).int (IntWalk.i64_in _ (by omega))) ?_
 clear H A; intro A H
 refine dw 4 H rfl hs54 (op_move H rfl rfl) ?_
 clear H A; intro A H
 refine dw 5 H rfl hs54 (fa H U67 ti2) ?_
 clear H A; intro A H
 refine dv 6 H rfl hs54 (fun w' hw' => lf 1 H U2 (hb43.ext hw').cells) ?_
 clear H A; intro A H
 refine dr_one (i := 7) (by kernel_rfl) ?_
 refine pc H cb143 rfl (c_impl_workUntil _ v_list list x22.2.1 (h_list.ext pos_shProm (hx53.trans' hs54)) gd) ?_
 clear H A; rintro v62 w63 he64 rfl A H
 have hs66 := hs54.trans' he64
 obtain ⟨hx67, _⟩ := nx hx53 he64
 refine ⟨hs66, ?_⟩
 refine dw 8 H rfl hs66 ((op_sub H rfl rfl rfl).int (IntWalk.i64_in _ (by omega))) ?_
 clear H A; intro A H
 refine dw 9 H rfl hs66 (op_min H rfl rfl rfl) ?_
 clear H A; intro A H
 refine dw 10 H rfl hs66 (op_assign H rfl rfl) ?_
 clear H A; intro A H
 refine dr_end (by kernel_rfl) ?_
 replace hb43 := hb43.ext hs66
 revert A; refine go ?_; intro A H
 refine wv H ((op_add H rfl rfl rfl).int (IntWalk.i64_in _ (by omega))) ?_
 clear H A; refine go ?_; intro A H
 refine ⟨((i + 1), (min f (((420 : Int) * x22.2.1) - (wuG x22.2.1 list : Int)))), ?_, ?_⟩
 refine ⟨(sl H), hx67, (by omega), (by omega), (by rw [← hA]; symm; rcases Int.lt_or_le day x22.2.1 with h9 | h9; exact frG_cons hx22 (by rw [if_pos h9]); exact frG_cons hx22 (by have e9 : x22.2.1 = day := (by omega); rw [if_neg (by omega), e9]; omega)), (by omega)⟩
 show (list.length - ((i + 1)) : Nat) < list.length - i; omega
 rw [decide_eq_false c50] at H
 revert A; refine go ?_; intro A H
 refine wv H ((op_add H rfl rfl rfl).int (IntWalk.i64_in _ (by omega))) ?_
 clear H A; refine go ?_; intro A H
 refine ⟨((i + 1), f), ?_, ?_⟩
 refine ⟨(sl H), hx45, (by omega), (by omega), (by rw [← hA]; symm; exact frG_cons hx22 (by rw [if_neg (by omega)])), (by omega)⟩
 show (list.length - ((i + 1)) : Nat) < list.length - i; omega
 rw [decide_eq_false c21] at H
 revert A; refine go ?_; intro A H
 refine ret1 H rfl rfl ?_
 clear H A
 exact ret_mk hx17 (int_eq (by rw [drop_nil (by omega), frG] at hA; exact hA))



theorem c_spec_l23Free (w0 : World) (v_list : Value) (list : List (Str × Int × Int)) {S_list : Nat → Prop} (day : Int) (h_list : Rds shProm S_list w0 v_list list) (g0 : prK list) (g1 : 1 ≤ day ∧ day ≤ 1000) :
    Calls Tryz.prog 156 #[v_list, .int .i64 day] w0 (Ret w0 (fun v _ => v = .int .i64 (frS list day))) := by
 refine enter (N := 43) Tryz.func156 rfl rfl rfl ?_
 intro A H
 have hx0 := Ext.rfl' w0
 have hl_list := h_list.length_le
 have hwk := g0.1
 have hwd := wuG_k g0 day
 revert A; refine go ?_; intro A H
 refine wv H ((op_mul H rfl rfl rfl).int (IntWalk.i64_in _ (by omega))) ?_
 clear H A; refine go ?_; intro A H
 refine wc H cb161 (c_spec_l23Sum _ v_list list day (h_list.ext pos_shProm hx0) gd) ?_
 clear H A; rintro v6 w7 he8 rfl A H
 obtain ⟨hx10, _⟩ := nx hx0 he8
 refine wv H ((op_sub H rfl rfl rfl).int (IntWalk.i64_in _ (by omega))) ?_
 clear H A; refine go ?_; intro A H
 refine loop_inv (X := Nat × Int) (fun ⟨i, f⟩ fr wl => Sl 43 fr [(0, v_list), (1, .int .i64 day), (5, .int .i64 f), (6, .int .i64 ((i : Nat) : Int))] ∧ Ext w0 wl ∧ w7.heap.size ≤ wl.heap.size ∧ (i ≤ list.length) ∧ (frG day list (list.drop i) f = frS list day) ∧ (-1000000 ≤ f ∧ f ≤ 420 * day - wuG day list)) (fun ⟨i, f⟩ => list.length - i) (0, (((420 : Int) * day) - (wuG day list : Int))) ?_ ?_
 exact ⟨(sl H), hx10, (by omega), (by omega), (by rfl), (by omega)⟩
 clear H A
 rintro ⟨i, f⟩ A w14 ⟨H, hx15, hzl17, hi, hA, hf⟩
 have hzhx15 := hx15.size
 revert A; refine go ?_; intro A H
 refine wv H (ln H U31 h_list) ?_
 clear H A; refine go ?_; intro A H
 by_cases c22 : ((i : Nat) : Int) < ((list.length : Nat) : Int)
 rw [decide_eq_true c22] at H
 revert A; refine go ?_; intro A H
 obtain ⟨x25, hx25⟩ := get_ex (xs := list) (j := i) (by omega)
 obtain ⟨p26, hi28, hc29, b32, b33, b34, hs31⟩ := at_shProm h_list hx25
 have hbx25 := prK_at g0 hx25
 have hwx25 := wuG_k g0 x25.2.1
 refine wv H (ix H U31 ti67 hi28) ?_
 clear H A; intro A H
 refine wv H (fa H U67 ti2) ?_
 clear H A; intro A H
 refine wv H (lf 1 H U2 (hc29.ext hx15)) ?_
 clear H A; refine go ?_; intro A H
 by_cases c40 : day < x25.2.1
 rw [decide_eq_true c40] at H
 refine cond_t H rfl ?_
 refine dre Ext follows_mixed ?_
 intro w41 he42 hs44
 obtain ⟨hx43, _⟩ := nx hx15 he42
 revert A; refine dgo [0, 1, 2] hs44 ?_; intro A H
 refine dw 3 H rfl hs44 (ix H U31 ti67 hi28) ?_
 clear H A; intro A H
 refine dw 4 H rfl hs44 (fa H U67 ti2) ?_
 clear H A; intro A H
 refine dv 5 H rfl hs44 (fun w' hw' => lf 1 H U2 (hc29.ext (hx43.trans' hw'))) ?_
 clear H A; intro A H
 refine dw 6 H rfl hs44 ((op_mul H rfl rfl rfl).int (IntWalk.i64_in _ (by omega))) ?_
 clear H A; refine dgo [7, 8, 9] hs44 ?_; intro A H
 refine dw 10 H rfl hs44 (ix H U31 ti67 hi28) ?_
 clear H A; intro A H
 refine dw 11 H rfl hs44 (fa H U67 ti2) ?_
 clear H A; intro A H
 refine dv 12 H rfl hs44 (fun w' hw' => lf 1 H U2 (hc29.ext (hx43.trans' hw'))) ?_
 clear H A; intro A H
 refine dr_one (i := 13) (by kernel_rfl) ?_
 refine pc H cb161 rfl (c_spec_l23Sum _ v_list list x25.2.1 (h_list.ext pos_shProm (hx43.trans' hs44)) gd) ?_
 clear H A; rintro v58 w59 he60 rfl A H
 have hs62 := hs44.trans' he60
 obtain ⟨hx63, _⟩ := nx hx43 he60
 refine ⟨hs62, ?_⟩
 refine dw 14 H rfl hs62 ((op_sub H rfl rfl rfl).int (IntWalk.i64_in _ (by omega))) ?_
 clear H A; intro A H
 refine dw 15 H rfl hs62 (op_min H rfl rfl rfl) ?_
 clear H A; intro A H
 refine dw 16 H rfl hs62 (op_assign H rfl rfl) ?_
 clear H A; intro A H
 refine dr_end (by kernel_rfl) ?_
 revert A; refine go ?_; intro A H
 refine wv H ((op_add H rfl rfl rfl).int (IntWalk.i64_in _ (by omega))) ?_
 clear H A; refine go ?_; intro A H
 refine ⟨((i + 1), (min f (((420 : Int) * x25.2.1) - (wuG x25.2.1 list : Int)))), ?_, ?_⟩
 refine ⟨(sl H), hx63, (by omega), (by omega), (by rw [← hA]; symm; exact frG_cons hx25 (by rw [if_pos (by omega)])), (by omega)⟩
 show (list.length - ((i + 1)) : Nat) < list.length - i; omega
 rw [decide_eq_false c40] at H
 revert A; refine go ?_; intro A H
 refine wv H ((op_add H rfl rfl rfl).int (IntWalk.i64_in _ (by omega))) ?_
 clear H A; refine go ?_; intro A H
 refine ⟨((i + 1), f), ?_, ?_⟩
 refine ⟨(sl H), hx15, (by omega), (by omega), (by rw [← hA]; symm; exact frG_cons hx25 (by rw [if_neg (by omega)])), (by omega)⟩
 show (list.length - ((i + 1)) : Nat) < list.length - i; omega
 rw [decide_eq_false c22] at H
 revert A; refine go ?_; intro A H
 refine ret1 H rfl rfl ?_
 clear H A
 exact ret_mk hx15 (int_eq (by rw [drop_nil (by omega), frG] at hA; exact hA))



theorem c_spec_l23Code (w0 : World) (v_list : Value) (list : List (Str × Int × Int)) {S_list : Nat → Prop} (inn : Bool) (h_list : Rds shProm S_list w0 v_list list) :
    Calls Tryz.prog 155 #[v_list, .bool (inn)] w0 (Ret w0 (fun v _ => v = .int .i64 (cdP list inn))) := by
 refine enter (N := 16) Tryz.func155 rfl rfl rfl ?_
 intro A H
 have hx0 := Ext.rfl' w0
 have hl_list := h_list.length_le
 revert A; refine go ?_; intro A H
 refine wc H cb57 (c_spec_ArePromises _ v_list list (h_list.ext pos_shProm hx0)) ?_
 clear H A; rintro v3 w4 he5 rfl A H
 obtain ⟨hx7, _⟩ := nx hx0 he5
 revert A; refine go ?_; intro A H
 rcases Bool.eq_false_or_eq_true (prsB list) with c10 | c10
 rw [c10] at H
 have hlenc10 := prsB_len c10
 have hkc10 := prsB_k c10
 have hbrc10 := brG_bd (all := list) (xs := list) (f := 0) (fun p hp => (hkc10.2 p hp).1) (by omega)
 revert A; refine go ?_; intro A H
 rcases Bool.eq_false_or_eq_true (inn) with c14 | c14
 rw [c14] at H
 revert A; refine go ?_; intro A H
 refine wc H cb150 (c_spec_l23Breach _ v_list list (h_list.ext pos_shProm hx7) (by assumption)) ?_
 clear H A; rintro v16 w17 he18 rfl A H
 obtain ⟨hx20, _⟩ := nx hx7 he18
 revert A; refine go ?_; intro A H
 by_cases c23 : (0 : Int) < (brS list : Int)
 rw [decide_eq_true c23] at H
 revert A; refine go ?_; intro A H
 refine ret1 H rfl rfl ?_
 clear H A
 exact ret_mk hx20 (int_eq (by unfold cdP; rw [if_pos c10, if_pos c14, if_pos c23]))
 rw [decide_eq_false c23] at H
 revert A; refine go ?_; intro A H
 refine ret1 H rfl rfl ?_
 clear H A
 exact ret_mk hx20 (int_eq (by unfold cdP; rw [if_pos c10, if_pos c14, if_neg c23]))
 rw [c14] at H
 revert A; refine go ?_; intro A H
 refine ret1 H rfl rfl ?_
 clear H A
 exact ret_mk hx7 (int_eq (by unfold cdP; rw [if_pos c10, if_neg (by rw [c14]; decide)]))
 rw [c10] at H
 revert A; refine go ?_; intro A H
 refine ret1 H rfl rfl ?_
 clear H A
 exact ret_mk hx7 (int_eq (by unfold cdP; rw [if_neg (by rw [c10]; decide)]))



theorem c_impl_EarliestDay (w0 : World) (v_list : Value) (list : List (Str × Int × Int)) {S_list : Nat → Prop} (minutes : Int) (h_list : Rds shProm S_list w0 v_list list) :
    Calls Tryz.prog 102 #[v_list, .int .i64 minutes] w0 (Ret w0 (fun v _ => v = .tuple #[.int .i64 (if edC list minutes = 0 then edS list minutes else 0), .int .i64 (edC list minutes)])) := by
 refine enter (N := 24) Tryz.func102 rfl rfl rfl ?_
 intro A H
 have hx0 := Ext.rfl' w0
 have hl_list := h_list.length_le
 revert A; refine go ?_; intro A H
 refine wc H cb54 (c_impl_ArePromises _ v_list list (h_list.ext pos_shProm hx0)) ?_
 clear H A; rintro v4 w5 he6 rfl A H
 obtain ⟨hx8, _⟩ := nx hx0 he6
 revert A; refine go ?_; intro A H
 rcases Bool.eq_false_or_eq_true (prsB list) with c10 | c10
 rw [c10] at H
 have hlenc10 := prsB_len c10
 have hkc10 := prsB_k c10
 have hbrc10 := brG_bd (all := list) (xs := list) (f := 0) (fun p hp => (hkc10.2 p hp).1) (by omega)
 revert A; refine go ?_; intro A H
 refine wc H cb83 (c_impl_isWork _ minutes ) ?_
 clear H A; rintro v12 w13 he14 rfl A H
 obtain ⟨hx16, _⟩ := nx hx8 he14
 revert A; refine go ?_; intro A H
 rcases Bool.eq_false_or_eq_true (decide (1 ≤ minutes) && decide (minutes ≤ 2000)) with c18 | c18
 rw [c18] at H
 have hmc18 : 1 ≤ minutes ∧ minutes ≤ 2000 := by simpa using c18
 revert A; refine go ?_; intro A H
 refine wc H cb119 (c_impl_firstBreach _ v_list list (h_list.ext pos_shProm hx16) (by assumption)) ?_
 clear H A; rintro v20 w21 he22 rfl A H
 obtain ⟨hx24, _⟩ := nx hx16 he22
 revert A; refine go ?_; intro A H
 by_cases c26 : (0 : Int) < (brS list : Int)
 rw [decide_eq_true c26] at H
 revert A; refine go ?_; intro A H
 refine ret2 H rfl rfl rfl ?_
 clear H A
 exact ret_mk hx24 (tup2_eq (int_eq (by rw [if_neg (by rw [show edC list minutes = _ from (by unfold edC cdP; rw [if_pos c10, if_pos c18, if_pos c26])]; decide)])) (int_eq (by symm; unfold edC cdP; rw [if_pos c10, if_pos c18, if_pos c26])))
 rw [decide_eq_false c26] at H
 revert A; refine go ?_; intro A H
 refine loop_inv (X := Int) (fun d fr wl => Sl 24 fr [(0, v_list), (1, .int .i64 minutes), (6, .int .i64 d)] ∧ Ext w0 wl ∧ w21.heap.size ≤ wl.heap.size ∧ (1 ≤ d ∧ d ≤ 1000) ∧ (edG list minutes (1001 - d).toNat d = edS list minutes) ∧ (prK list) ∧ (minutes ≤ 2000)) (fun d => (1001 - d).toNat) ((1 : Int)) ?_ ?_
 exact ⟨(sl H), hx24, (by omega), (by omega), (by rfl), (by assumption), (by omega)⟩
 clear H A
 rintro d A w30 ⟨H, hx31, hzl33, hd, hA, hpk, hmm⟩
 have hzhx31 := hx31.size
 revert A; refine go ?_; intro A H
 refine wc H cb120 (c_impl_freeUntil _ v_list list d (h_list.ext pos_shProm hx31) (by assumption) (by assumption)) ?_
 clear H A; rintro v36 w37 he38 rfl A H
 obtain ⟨hx40, _⟩ := nx hx31 he38
 revert A; refine go ?_; intro A H
 by_cases c43 : (frS list d : Int) < minutes
 rw [decide_eq_true c43] at H
 revert A; refine go ?_; intro A H
 refine wv H ((op_add H rfl rfl rfl).int (IntWalk.i64_in _ (by omega))) ?_
 clear H A; refine go ?_; intro A H
 refine ⟨((d + (1 : Int))), ?_, ?_⟩
 refine ⟨(sl H), hx40, (by omega), (by have h9 := ed_lt hpk (by assumption) hmm hd.2; omega), (by rw [← edG_step (by assumption) hd.2]; exact hA), (by exact hpk), (by exact hmm)⟩
 show ((1001 - ((d + (1 : Int)))).toNat : Nat) < (1001 - d).toNat; omega
 rw [decide_eq_false c43] at H
 revert A; refine go ?_; intro A H
 refine ret2 H rfl rfl rfl ?_
 clear H A
 exact ret_mk hx40 (tup2_eq (int_eq (by rw [if_pos (show edC list minutes = 0 from (by unfold edC cdP; rw [if_pos c10, if_pos c18, if_neg c26])), ← hA]; exact (edG_stop (by assumption)).symm)) (int_eq (by exact (show edC list minutes = 0 from (by unfold edC cdP; rw [if_pos c10, if_pos c18, if_neg c26])).symm)))
 rw [c18] at H
 revert A; refine go ?_; intro A H
 refine ret2 H rfl rfl rfl ?_
 clear H A
 exact ret_mk hx16 (tup2_eq (int_eq (by rw [if_neg (by rw [show edC list minutes = _ from (by unfold edC cdP; rw [if_pos c10, if_neg (by rw [c18]; decide)])]; decide)])) (int_eq (by symm; unfold edC cdP; rw [if_pos c10, if_neg (by rw [c18]; decide)])))
 rw [c10] at H
 revert A; refine go ?_; intro A H
 refine ret2 H rfl rfl rfl ?_
 clear H A
 exact ret_mk hx8 (tup2_eq (int_eq (by rw [if_neg (by rw [show edC list minutes = _ from (by unfold edC cdP; rw [if_neg (by rw [c10]; decide)])]; decide)])) (int_eq (by symm; unfold edC cdP; rw [if_neg (by rw [c10]; decide)])))



theorem c_spec_EarliestDay (w0 : World) (v_list : Value) (list : List (Str × Int × Int)) {S_list : Nat → Prop} (minutes : Int) (h_list : Rds shProm S_list w0 v_list list) :
    Calls Tryz.prog 136 #[v_list, .int .i64 minutes] w0 (Ret w0 (fun v _ => v = .tuple #[.int .i64 (if edC list minutes = 0 then edS list minutes else 0), .int .i64 (edC list minutes)])) := by
 refine enter (N := 23) Tryz.func136 rfl rfl rfl ?_
 intro A H
 have hx0 := Ext.rfl' w0
 have hl_list := h_list.length_le
 revert A; refine go ?_; intro A H
 refine wc H cb87 (c_spec_l01In _ minutes (1 : Int) (2000 : Int) ) ?_
 clear H A; rintro v5 w6 he7 rfl A H
 obtain ⟨hx9, _⟩ := nx hx0 he7
 refine wc H cb155 (c_spec_l23Code _ v_list list (decide ((1 : Int) ≤ minutes) && decide (minutes ≤ (2000 : Int))) (h_list.ext pos_shProm hx9)) ?_
 clear H A; rintro v10 w11 he12 rfl A H
 obtain ⟨hx14, _⟩ := nx hx9 he12
 revert A; refine go ?_; intro A H
 by_cases c18 : (cdP list (decide ((1 : Int) ≤ minutes) && decide (minutes ≤ (2000 : Int))) : Int) = (0 : Int)
 rw [decide_eq_true c18] at H
 obtain ⟨h1c18, h2c18, h3c18⟩ := cdP_0 c18
 have hlenc18 := prsB_len h1c18
 have hkc18 := prsB_k h1c18
 have hmc18 : 1 ≤ minutes ∧ minutes ≤ 2000 := by simpa using h2c18
 revert A; refine go ?_; intro A H
 refine loop_inv (X := Int) (fun d fr wl => Sl 23 fr [(0, v_list), (1, .int .i64 minutes), (7, .int .i64 d)] ∧ Ext w0 wl ∧ w11.heap.size ≤ wl.heap.size ∧ (1 ≤ d ∧ d ≤ 1000) ∧ (edG list minutes (1001 - d).toNat d = edS list minutes) ∧ (prK list) ∧ (minutes ≤ 2000)) (fun d => (1001 - d).toNat) ((1 : Int)) ?_ ?_
 exact ⟨(sl H), hx14, (by omega), (by omega), (by rfl), (by assumption), (by omega)⟩
 clear H A
 rintro d A w20 ⟨H, hx21, hzl23, hd, hA, hpk, hmm⟩
 have hzhx21 := hx21.size
 revert A; refine go ?_; intro A H
 refine wc H cb156 (c_spec_l23Free _ v_list list d (h_list.ext pos_shProm hx21) (by assumption) (by assumption)) ?_
 clear H A; rintro v26 w27 he28 rfl A H
 obtain ⟨hx30, _⟩ := nx hx21 he28
 revert A; refine go ?_; intro A H
 by_cases c33 : (frS list d : Int) < minutes
 rw [decide_eq_true c33] at H
 revert A; refine go ?_; intro A H
 refine wv H ((op_add H rfl rfl rfl).int (IntWalk.i64_in _ (by omega))) ?_
 clear H A; refine go ?_; intro A H
 refine ⟨((d + (1 : Int))), ?_, ?_⟩
 refine ⟨(sl H), hx30, (by omega), (by have h9 := ed_lt hpk (by assumption) hmm hd.2; omega), (by rw [← edG_step (by assumption) hd.2]; exact hA), (by exact hpk), (by exact hmm)⟩
 show ((1001 - ((d + (1 : Int)))).toNat : Nat) < (1001 - d).toNat; omega
 rw [decide_eq_false c33] at H
 revert A; refine go ?_; intro A H
 refine ret2 H rfl rfl rfl ?_
 clear H A
 exact ret_mk hx30 (tup2_eq (int_eq (by rw [if_pos (show edC list minutes = 0 from c18), ← hA]; exact (edG_stop (by assumption)).symm)) (int_eq (by exact (show edC list minutes = 0 from c18).symm)))
 rw [decide_eq_false c18] at H
 revert A; refine go ?_; intro A H
 refine ret2 H rfl rfl rfl ?_
 clear H A
 exact ret_mk hx14 (tup2_eq (int_eq (by exact (if_neg c18).symm)) (int_eq (by rfl)))



theorem c_impl_MakePromise (w0 : World) (v_list : Value) (list : List (Str × Int × Int)) {S_list : Nat → Prop} (p : Str × Int × Int) (h_list : Rds shProm S_list w0 v_list list) (g0 : p.1.length ≤ 9223372036854775807) (g1 : -9223372036854775808 ≤ p.2.1 ∧ p.2.1 ≤ 9223372036854775807) (g2 : -9223372036854775808 ≤ p.2.2 ∧ p.2.2 ≤ 9223372036854775807) :
    Calls Tryz.prog 101 #[v_list, .agg #[St p.1, .int .i64 p.2.1, .int .i64 p.2.2]] w0 (Ret w0 (fun v w1 => ∃ r0, v = .tuple #[r0, .int .i64 (mkPC list p)] ∧ Own shProm 67 w0.heap.size w0.heap.size w1.heap.size w1 r0 (mkPL list p))) := by
 refine enter (N := 28) Tryz.func101 rfl rfl rfl ?_
 intro A H
 have hx0 := Ext.rfl' w0
 have hl_list := h_list.length_le
 revert A; refine go ?_; intro A H
 refine we H (op_box' H rfl rfl rfl) ?_
 clear H A; rintro _ w2 ⟨rfl, he3, hb4, hz5⟩ A H
 obtain ⟨hx7, _⟩ := nx hx0 he3
 revert A; refine go ?_; intro A H
 refine wc H cb54 (c_impl_ArePromises _ v_list list (h_list.ext pos_shProm hx7)) ?_
 clear H A; rintro v11 w12 he13 rfl A H
 obtain ⟨hx15, _⟩ := nx hx7 he13
 replace hb4 := hb4.ext he13
 revert A; refine go ?_; intro A H
 rcases Bool.eq_false_or_eq_true (prsB list) with c17 | c17
 rw [c17] at H
 have hlenc17 := prsB_len c17
 have hkc17 := prsB_k c17
 have hbrc17 := brG_bd (all := list) (xs := list) (f := 0) (fun p hp => (hkc17.2 p hp).1) (by omega)
 revert A; refine go ?_; intro A H
 refine wv H (ln H U31 h_list) ?_
 clear H A; refine go ?_; intro A H
 by_cases c21 : ((list.length : Nat) : Int) = (40 : Int)
 rw [decide_eq_true c21] at H
 revert A; refine go ?_; intro A H
 refine ret2 H rfl rfl rfl ?_
 clear H A
 refine ret_mk hx15 ⟨.slice none 0 0, (tup2_eq rfl (int_eq (by symm; unfold mkPC; rw [if_pos c17, if_pos (by omega)]))), ?_⟩
 refine Own.nil_ _ _ _ _ _ _ ?_
 unfold mkPL; rw [if_neg (by unfold mkPC; rw [if_pos c17, if_pos (by omega)]; decide)]
 rw [decide_eq_false c21] at H
 revert A; refine go ?_; intro A H
 refine dre Ext follows_mixed ?_
 intro w24 he25 hs27
 obtain ⟨hx26, _⟩ := nx hx15 he25
 replace hb4 := hb4.ext he25
 refine dw 1 H rfl hs27 (op_move H rfl rfl) ?_
 clear H A; intro A H
 refine dv 3 H rfl hs27 (fun w' hw' => ls H U67 ti67 (hb4.ext hw').cells) ?_
 clear H A; intro A H
 refine dr_two (i := 0) (j := 4) (by kernel_rfl) ?_ ?_
 refine pe H rfl (op_b0 H pos_shProm U31 ti67) ?_
 clear H A; rintro v30 w31 ⟨ho32, he33, hob34⟩ A H
 have hs36 := hs27.trans' he33
 obtain ⟨hx37, _⟩ := nx hx26 he33
 refine ⟨hs36, ?_⟩
 refine dr_two (i := 2) (j := 4) (by kernel_rfl) ?_ ?_
 refine pe H rfl (op_ap (ts := #[]) H U31 ti67 pos_shProm ho32 (h_list.ext pos_shProm (hx26.trans' hs36)) flat_shProm) ?_
 clear H A; rintro v38 w39 ⟨ho40, hst41, hob42⟩ A H
 replace ho40 := ho40.cast (List.nil_append _)
 have hs44 := hs36.stp hst41 (by intro q hq; have hq0 := ho32.lt q hq; omega)
 obtain ⟨hx45, _⟩ := no hx37 ho32 hst41
 have hsp46 : ∀ q, Value.ownBlock v38 = some q → q ≠ w0.heap.size := by intro q hq; have hq0 := hb4.lt; rcases hob42 with h | h; (rw [h] at hq; first | (have hq1 := ho32.lt q hq; omega)); (rw [h] at hq; cases hq; omega)
 refine ⟨hs44, ?_⟩
 refine dr_one (i := 4) (by kernel_rfl) ?_
 refine pe H rfl (op_b1 (mk_shProm p (by assumption) (by assumption) (by assumption)) H pos_shProm U31 ti67) ?_
 clear H A; rintro v47 w48 ⟨ho49, he50, hob51⟩ A H
 have hs53 := hs44.trans' he50
 obtain ⟨hx54, _⟩ := nx hx45 he50
 replace ho40 := ho40.ext he50
 refine ⟨hs53, ?_⟩
 refine dr_one (i := 5) (by kernel_rfl) ?_
 refine pe H rfl (op_ap (ts := #[]) H U31 ti67 pos_shProm ho40 (ho49.rds pos_shProm) flat_shProm) ?_
 clear H A; rintro v55 w56 ⟨ho57, hst58, hob59⟩ A H
 have hs61 := hs53.stp hst58 (by intro q hq; have hq0 := ho40.lt q hq; omega)
 obtain ⟨hx62, _⟩ := no hx54 ho40 hst58
 replace ho49 := ho49.stp hst58 (by intro q hq; have hq0 := ho40.lt q hq; omega)
 have hsp63 : ∀ q, Value.ownBlock v55 = some q → q ≠ w0.heap.size := by intro q hq; have hq0 := hb4.lt; rcases hob59 with h | h; (rw [h] at hq; (have hq1 := ho40.lt q hq; omega)); (rw [h] at hq; cases hq; omega)
 have hsp64 : ∀ q, Value.ownBlock v55 = some q → Value.ownBlock v47 ≠ some q := by intro q hq hb; have hq0 := ho49.lt q hb; rcases hob59 with h | h; (rw [h] at hq; first | (have hq1 := ho40.lt q hq; omega)); (rw [h] at hq; cases hq; omega)
 refine ⟨hs61, ?_⟩
 refine dw 6 H rfl hs61 (op_assign H rfl rfl) ?_
 clear H A; intro A H
 refine dr_end (by kernel_rfl) ?_
 replace hb4 := hb4.ext hs61
 revert A; refine go ?_; intro A H
 refine wc H cb54 (c_impl_ArePromises _ v55 ((list ++ [p])) (ho57.rds pos_shProm)) ?_
 clear H A; rintro v67 w68 he69 rfl A H
 obtain ⟨hx71, _⟩ := nx hx62 he69
 replace hb4 := hb4.ext he69
 replace ho49 := ho49.ext he69
 replace ho57 := ho57.ext he69
 revert A; refine go ?_; intro A H
 rcases Bool.eq_false_or_eq_true (prsB ((list ++ [p]))) with c74 | c74
 rw [c74] at H
 have hkc74 := prsB_k c74
 refine wv H (op_move H rfl rfl) ?_
 clear H A; intro A H
 refine wc H cb119 (c_impl_firstBreach _ v55 ((list ++ [p])) (ho57.rds pos_shProm) (by assumption)) ?_
 clear H A; rintro v76 w77 he78 rfl A H
 obtain ⟨hx80, _⟩ := nx hx71 he78
 replace hb4 := hb4.ext he78
 replace ho49 := ho49.ext he78
 replace ho57 := ho57.ext he78
 revert A; refine go ?_; intro A H
 by_cases c83 : (0 : Int) < (brS ((list ++ [p])) : Int)
 rw [decide_eq_true c83] at H
 revert A; refine go ?_; intro A H
 refine ret2 H rfl rfl rfl ?_
 clear H A
 refine ret_mk hx80 ⟨.slice none 0 0, (tup2_eq rfl (int_eq (by symm; unfold mkPC; rw [if_pos c17, if_neg (by omega), if_pos c74, if_pos c83]))), ?_⟩
 refine Own.nil_ _ _ _ _ _ _ ?_
 unfold mkPL; rw [if_neg (by unfold mkPC; rw [if_pos c17, if_neg (by omega), if_pos c74, if_pos c83]; decide)]
 rw [decide_eq_false c83] at H
 revert A; refine go ?_; intro A H
 refine ret2 H rfl rfl rfl ?_
 clear H A
 refine ret_mk hx80 ⟨v55, (tup2_eq rfl (int_eq (by symm; unfold mkPC; rw [if_pos c17, if_neg (by omega), if_pos c74, if_neg c83]))), ?_⟩
 refine (fi ho57).cast ?_
 unfold mkPL; rw [if_pos (by unfold mkPC; rw [if_pos c17, if_neg (by omega), if_pos c74, if_neg c83])]
 rw [c74] at H
 revert A; refine go ?_; intro A H
 refine ret2 H rfl rfl rfl ?_
 clear H A
 refine ret_mk hx71 ⟨.slice none 0 0, (tup2_eq rfl (int_eq (by symm; unfold mkPC; rw [if_pos c17, if_neg (by omega), if_neg (by rw [c74]; decide)]))), ?_⟩
 refine Own.nil_ _ _ _ _ _ _ ?_
 unfold mkPL; rw [if_neg (by unfold mkPC; rw [if_pos c17, if_neg (by omega), if_neg (by rw [c74]; decide)]; decide)]
 refine pe H rfl (op_b1 (mk_shProm p (by assumption) (by assumption) (by assumption)) H pos_shProm U31 ti67) ?_
 clear H A; rintro v95 w96 ⟨ho97, he98, hob99⟩ A H
 have hs101 := hs36.trans' he98
 obtain ⟨hx102, _⟩ := nx hx37 he98
 replace ho32 := ho32.ext he98
 refine ⟨hs101, ?_⟩
 refine dr_one (i := 2) (by kernel_rfl) ?_
 refine pe H rfl (op_ap (ts := #[]) H U31 ti67 pos_shProm ho32 (h_list.ext pos_shProm (hx26.trans' hs101)) flat_shProm) ?_
 clear H A; rintro v103 w104 ⟨ho105, hst106, hob107⟩ A H
 replace ho105 := ho105.cast (List.nil_append _)
 have hs109 := hs101.stp hst106 (by intro q hq; have hq0 := ho32.lt q hq; omega)
 obtain ⟨hx110, _⟩ := no hx102 ho32 hst106
 replace ho97 := ho97.stp hst106 (by intro q hq; have hq0 := ho32.lt q hq; omega)
 have hsp111 : ∀ q, Value.ownBlock v103 = some q → q ≠ w0.heap.size := by intro q hq; have hq0 := hb4.lt; rcases hob107 with h | h; (rw [h] at hq; first | (have hq1 := ho32.lt q hq; omega)); (rw [h] at hq; cases hq; omega)
 have hsp112 : ∀ q, Value.ownBlock v103 = some q → Value.ownBlock v95 ≠ some q := by intro q hq hb; have hq0 := ho97.lt q hb; rcases hob107 with h | h; (rw [h] at hq; first | (have hq1 := ho32.lt q hq; omega)); (rw [h] at hq; cases hq; omega)
 refine ⟨hs109, ?_⟩
 refine dr_one (i := 5) (by kernel_rfl) ?_
 refine pe H rfl (op_ap (ts := #[]) H U31 ti67 pos_shProm ho105 (ho97.rds pos_shProm) flat_shProm) ?_
 clear H A; rintro v113 w114 ⟨ho115, hst116, hob117⟩ A H
 have hs119 := hs109.stp hst116 (by intro q hq; have hq0 := ho105.lt q hq; omega)
 obtain ⟨hx120, _⟩ := no hx110 ho105 hst116
 replace ho97 := ho97.stpF flat_shProm hst116 (fun q hq => hsp112 q hq)
 have hsp121 : ∀ q, Value.ownBlock v113 = some q → q ≠ w0.heap.size := by intro q hq; have hq0 := hb4.lt; rcases hob117 with h | h; (rw [h] at hq; (have hq1 := ho105.lt q hq; omega)); (rw [h] at hq; cases hq; omega)
 have hsp122 : ∀ q, Value.ownBlock v113 = some q → Value.ownBlock v95 ≠ some q := by intro q hq hb; have hq0 := ho97.lt q hb; rcases hob117 with h | h; (rw [h] at hq; exact hsp112 q hq hb); (rw [h] at hq; cases hq; omega)
 refine ⟨hs119, ?_⟩
 refine dw 6 H rfl hs119 (op_assign H rfl rfl) ?_
 clear H A; intro A H
 refine dr_end (by kernel_rfl) ?_
 replace hb4 := hb4.ext hs119
 revert A; refine go ?_; intro A H
 refine wc H cb54 (c_impl_ArePromises _ v113 ((list ++ [p])) (ho115.rds pos_shProm)) ?_
 clear H A; rintro v125 w126 he127 rfl A H
 obtain ⟨hx129, _⟩ := nx hx120 he127
 replace hb4 := hb4.ext he127
 replace ho97 := ho97.ext he127
 replace ho115 := ho115.ext he127
 revert A; refine go ?_; intro A H
 rcases Bool.eq_false_or_eq_true (prsB ((list ++ [p]))) with c132 | c132
 rw [c132] at H
 have hkc132 := prsB_k c132
 refine wv H (op_move H rfl rfl) ?_
 clear H A; intro A H
 refine wc H cb119 (c_impl_firstBreach _ v113 ((list ++ [p])) (ho115.rds pos_shProm) (by assumption)) ?_
 clear H A; rintro v134 w135 he136 rfl A H
 obtain ⟨hx138, _⟩ := nx hx129 he136
 replace hb4 := hb4.ext he136
 replace ho97 := ho97.ext he136
 replace ho115 := ho115.ext he136
 revert A; refine go ?_; intro A H
 by_cases c141 : (0 : Int) < (brS ((list ++ [p])) : Int)
 rw [decide_eq_true c141] at H
 revert A; refine go ?_; intro A H
 refine ret2 H rfl rfl rfl ?_
 clear H A
 refine ret_mk hx138 ⟨.slice none 0 0, (tup2_eq rfl (int_eq (by symm; unfold mkPC; rw [if_pos c17, if_neg (by omega), if_pos c132, if_pos c141]))), ?_⟩
 refine Own.nil_ _ _ _ _ _ _ ?_
 unfold mkPL; rw [if_neg (by unfold mkPC; rw [if_pos c17, if_neg (by omega), if_pos c132, if_pos c141]; decide)]
 rw [decide_eq_false c141] at H
 revert A; refine go ?_; intro A H
 refine ret2 H rfl rfl rfl ?_
 clear H A
 refine ret_mk hx138 ⟨v113, (tup2_eq rfl (int_eq (by symm; unfold mkPC; rw [if_pos c17, if_neg (by omega), if_pos c132, if_neg c141]))), ?_⟩
 refine (fi ho115).cast ?_
 unfold mkPL; rw [if_pos (by unfold mkPC; rw [if_pos c17, if_neg (by omega), if_pos c132, if_neg c141])]
 rw [c132] at H
 revert A; refine go ?_; intro A H
 refine ret2 H rfl rfl rfl ?_
 clear H A
 refine ret_mk hx129 ⟨.slice none 0 0, (tup2_eq rfl (int_eq (by symm; unfold mkPC; rw [if_pos c17, if_neg (by omega), if_neg (by rw [c132]; decide)]))), ?_⟩
 refine Own.nil_ _ _ _ _ _ _ ?_
 unfold mkPL; rw [if_neg (by unfold mkPC; rw [if_pos c17, if_neg (by omega), if_neg (by rw [c132]; decide)]; decide)]
 refine pe H rfl (op_b1 (mk_shProm p (by assumption) (by assumption) (by assumption)) H pos_shProm U31 ti67) ?_
 clear H A; rintro v153 w154 ⟨ho155, he156, hob157⟩ A H
 have hs159 := hs27.trans' he156
 obtain ⟨hx160, _⟩ := nx hx26 he156
 refine ⟨hs159, ?_⟩
 refine dr_one (i := 0) (by kernel_rfl) ?_
 refine pe H rfl (op_b0 H pos_shProm U31 ti67) ?_
 clear H A; rintro v161 w162 ⟨ho163, he164, hob165⟩ A H
 have hs167 := hs159.trans' he164
 obtain ⟨hx168, _⟩ := nx hx160 he164
 replace ho155 := ho155.ext he164
 refine ⟨hs167, ?_⟩
 refine dr_one (i := 2) (by kernel_rfl) ?_
 refine pe H rfl (op_ap (ts := #[]) H U31 ti67 pos_shProm ho163 (h_list.ext pos_shProm (hx26.trans' hs167)) flat_shProm) ?_
 clear H A; rintro v169 w170 ⟨ho171, hst172, hob173⟩ A H
 replace ho171 := ho171.cast (List.nil_append _)
 have hs175 := hs167.stp hst172 (by intro q hq; have hq0 := ho163.lt q hq; omega)
 obtain ⟨hx176, _⟩ := no hx168 ho163 hst172
 replace ho155 := ho155.stp hst172 (by intro q hq; have hq0 := ho163.lt q hq; omega)
 have hsp177 : ∀ q, Value.ownBlock v169 = some q → q ≠ w0.heap.size := by intro q hq; have hq0 := hb4.lt; rcases hob173 with h | h; (rw [h] at hq; first | (have hq1 := ho163.lt q hq; omega)); (rw [h] at hq; cases hq; omega)
 have hsp178 : ∀ q, Value.ownBlock v169 = some q → Value.ownBlock v153 ≠ some q := by intro q hq hb; have hq0 := ho155.lt q hb; rcases hob173 with h | h; (rw [h] at hq; first | (have hq1 := ho163.lt q hq; omega)); (rw [h] at hq; cases hq; omega)
 refine ⟨hs175, ?_⟩
 refine dr_one (i := 5) (by kernel_rfl) ?_
 refine pe H rfl (op_ap (ts := #[]) H U31 ti67 pos_shProm ho171 (ho155.rds pos_shProm) flat_shProm) ?_
 clear H A; rintro v179 w180 ⟨ho181, hst182, hob183⟩ A H
 have hs185 := hs175.stp hst182 (by intro q hq; have hq0 := ho171.lt q hq; omega)
 obtain ⟨hx186, _⟩ := no hx176 ho171 hst182
 replace ho155 := ho155.stp hst182 (by intro q hq; have hq0 := ho171.lt q hq; omega)
 have hsp187 : ∀ q, Value.ownBlock v179 = some q → q ≠ w0.heap.size := by intro q hq; have hq0 := hb4.lt; rcases hob183 with h | h; (rw [h] at hq; (have hq1 := ho171.lt q hq; omega)); (rw [h] at hq; cases hq; omega)
 have hsp188 : ∀ q, Value.ownBlock v179 = some q → Value.ownBlock v153 ≠ some q := by intro q hq hb; have hq0 := ho155.lt q hb; rcases hob183 with h | h; (rw [h] at hq; (have hq1 := ho171.lt q hq; omega)); (rw [h] at hq; cases hq; omega)
 refine ⟨hs185, ?_⟩
 refine dw 6 H rfl hs185 (op_assign H rfl rfl) ?_
 clear H A; intro A H
 refine dr_end (by kernel_rfl) ?_
 replace hb4 := hb4.ext hs185
 revert A; refine go ?_; intro A H
 refine wc H cb54 (c_impl_ArePromises _ v179 ((list ++ [p])) (ho181.rds pos_shProm)) ?_
 clear H A; rintro v191 w192 he193 rfl A H
 obtain ⟨hx195, _⟩ := nx hx186 he193
 replace hb4 := hb4.ext he193
 replace ho155 := ho155.ext he193
 replace ho181 := ho181.ext he193
 revert A; refine go ?_; intro A H
 rcases Bool.eq_false_or_eq_true (prsB ((list ++ [p]))) with c198 | c198
 rw [c198] at H
 have hkc198 := prsB_k c198
 refine wv H (op_move H rfl rfl) ?_
 clear H A; intro A H
 refine wc H cb119 (c_impl_firstBreach _ v179 ((list ++ [p])) (ho181.rds pos_shProm) (by assumption)) ?_
 clear H A; rintro v200 w201 he202 rfl A H
 obtain ⟨hx204, _⟩ := nx hx195 he202
 replace hb4 := hb4.ext he202
 replace ho155 := ho155.ext he202
 replace ho181 := ho181.ext he202
 revert A; refine go ?_; intro A H
 by_cases c207 : (0 : Int) < (brS ((list ++ [p])) : Int)
 rw [decide_eq_true c207] at H
 revert A; refine go ?_; intro A H
 refine ret2 H rfl rfl rfl ?_
 clear H A
 refine ret_mk hx204 ⟨.slice none 0 0, (tup2_eq rfl (int_eq (by symm; unfold mkPC; rw [if_pos c17, if_neg (by omega), if_pos c198, if_pos c207]))), ?_⟩
 refine Own.nil_ _ _ _ _ _ _ ?_
 unfold mkPL; rw [if_neg (by unfold mkPC; rw [if_pos c17, if_neg (by omega), if_pos c198, if_pos c207]; decide)]
 rw [decide_eq_false c207] at H
 revert A; refine go ?_; intro A H
 refine ret2 H rfl rfl rfl ?_
 clear H A
 refine ret_mk hx204 ⟨v179, (tup2_eq rfl (int_eq (by symm; unfold mkPC; rw [if_pos c17, if_neg (by omega), if_pos c198, if_neg c207]))), ?_⟩
 refine (fi ho181).cast ?_
 unfold mkPL; rw [if_pos (by unfold mkPC; rw [if_pos c17, if_neg (by omega), if_pos c198, if_neg c207])]
 rw [c198] at H
 revert A; refine go ?_; intro A H
 refine ret2 H rfl rfl rfl ?_
 clear H A
 refine ret_mk hx195 ⟨.slice none 0 0, (tup2_eq rfl (int_eq (by symm; unfold mkPC; rw [if_pos c17, if_neg (by omega), if_neg (by rw [c198]; decide)]))), ?_⟩
 refine Own.nil_ _ _ _ _ _ _ ?_
 unfold mkPL; rw [if_neg (by unfold mkPC; rw [if_pos c17, if_neg (by omega), if_neg (by rw [c198]; decide)]; decide)]
 rw [c17] at H
 revert A; refine go ?_; intro A H
 refine ret2 H rfl rfl rfl ?_
 clear H A
 refine ret_mk hx15 ⟨.slice none 0 0, (tup2_eq rfl (int_eq (by symm; unfold mkPC; rw [if_neg (by rw [c17]; decide)]))), ?_⟩
 refine Own.nil_ _ _ _ _ _ _ ?_
 unfold mkPL; rw [if_neg (by unfold mkPC; rw [if_neg (by rw [c17]; decide)]; decide)]



theorem c_spec_MakePromise (w0 : World) (v_list : Value) (list : List (Str × Int × Int)) {S_list : Nat → Prop} (p : Str × Int × Int) (h_list : Rds shProm S_list w0 v_list list) (g0 : p.1.length ≤ 9223372036854775807) (g1 : -9223372036854775808 ≤ p.2.1 ∧ p.2.1 ≤ 9223372036854775807) (g2 : -9223372036854775808 ≤ p.2.2 ∧ p.2.2 ≤ 9223372036854775807) :
    Calls Tryz.prog 132 #[v_list, .agg #[St p.1, .int .i64 p.2.1, .int .i64 p.2.2]] w0 (Ret w0 (fun v w1 => ∃ r0, v = .tuple #[r0, .int .i64 (mkPC list p)] ∧ Own shProm 67 w0.heap.size w0.heap.size w1.heap.size w1 r0 (mkPL list p))) := by
 refine enter (N := 28) Tryz.func132 rfl rfl rfl ?_
 intro A H
 have hx0 := Ext.rfl' w0
 have hl_list := h_list.length_le
 revert A; refine go ?_; intro A H
 refine we H (op_box' H rfl rfl rfl) ?_
 clear H A; rintro _ w2 ⟨rfl, he3, hb4, hz5⟩ A H
 obtain ⟨hx7, _⟩ := nx hx0 he3
 revert A; refine go ?_; intro A H
 refine wc H cb57 (c_spec_ArePromises _ v_list list (h_list.ext pos_shProm hx7)) ?_
 clear H A; rintro v11 w12 he13 rfl A H
 obtain ⟨hx15, _⟩ := nx hx7 he13
 replace hb4 := hb4.ext he13
 revert A; refine go ?_; intro A H
 rcases Bool.eq_false_or_eq_true (prsB list) with c17 | c17
 rw [c17] at H
 have hlenc17 := prsB_len c17
 have hkc17 := prsB_k c17
 have hbrc17 := brG_bd (all := list) (xs := list) (f := 0) (fun p hp => (hkc17.2 p hp).1) (by omega)
 revert A; refine go ?_; intro A H
 refine wv H (ln H U31 h_list) ?_
 clear H A; refine go ?_; intro A H
 by_cases c21 : ((list.length : Nat) : Int) = (40 : Int)
 rw [decide_eq_true c21] at H
 revert A; refine go ?_; intro A H
 refine ret2 H rfl rfl rfl ?_
 clear H A
 refine ret_mk hx15 ⟨.slice none 0 0, (tup2_eq rfl (int_eq (by symm; unfold mkPC; rw [if_pos c17, if_pos (by omega)]))), ?_⟩
 refine Own.nil_ _ _ _ _ _ _ ?_
 unfold mkPL; rw [if_neg (by unfold mkPC; rw [if_pos c17, if_pos (by omega)]; decide)]
 rw [decide_eq_false c21] at H
 revert A; refine go ?_; intro A H
 refine dre Ext follows_mixed ?_
 intro w24 he25 hs27
 obtain ⟨hx26, _⟩ := nx hx15 he25
 replace hb4 := hb4.ext he25
 refine dw 1 H rfl hs27 (op_move H rfl rfl) ?_
 clear H A; intro A H
 refine dv 3 H rfl hs27 (fun w' hw' => ls H U67 ti67 (hb4.ext hw').cells) ?_
 clear H A; intro A H
 refine dr_two (i := 0) (j := 4) (by kernel_rfl) ?_ ?_
 refine pe H rfl (op_b0 H pos_shProm U31 ti67) ?_
 clear H A; rintro v30 w31 ⟨ho32, he33, hob34⟩ A H
 have hs36 := hs27.trans' he33
 obtain ⟨hx37, _⟩ := nx hx26 he33
 refine ⟨hs36, ?_⟩
 refine dr_two (i := 2) (j := 4) (by kernel_rfl) ?_ ?_
 refine pe H rfl (op_ap (ts := #[]) H U31 ti67 pos_shProm ho32 (h_list.ext pos_shProm (hx26.trans' hs36)) flat_shProm) ?_
 clear H A; rintro v38 w39 ⟨ho40, hst41, hob42⟩ A H
 replace ho40 := ho40.cast (List.nil_append _)
 have hs44 := hs36.stp hst41 (by intro q hq; have hq0 := ho32.lt q hq; omega)
 obtain ⟨hx45, _⟩ := no hx37 ho32 hst41
 have hsp46 : ∀ q, Value.ownBlock v38 = some q → q ≠ w0.heap.size := by intro q hq; have hq0 := hb4.lt; rcases hob42 with h | h; (rw [h] at hq; first | (have hq1 := ho32.lt q hq; omega)); (rw [h] at hq; cases hq; omega)
 refine ⟨hs44, ?_⟩
 refine dr_one (i := 4) (by kernel_rfl) ?_
 refine pe H rfl (op_b1 (mk_shProm p (by assumption) (by assumption) (by assumption)) H pos_shProm U31 ti67) ?_
 clear H A; rintro v47 w48 ⟨ho49, he50, hob51⟩ A H
 have hs53 := hs44.trans' he50
 obtain ⟨hx54, _⟩ := nx hx45 he50
 replace ho40 := ho40.ext he50
 refine ⟨hs53, ?_⟩
 refine dr_one (i := 5) (by kernel_rfl) ?_
 refine pe H rfl (op_ap (ts := #[]) H U31 ti67 pos_shProm ho40 (ho49.rds pos_shProm) flat_shProm) ?_
 clear H A; rintro v55 w56 ⟨ho57, hst58, hob59⟩ A H
 have hs61 := hs53.stp hst58 (by intro q hq; have hq0 := ho40.lt q hq; omega)
 obtain ⟨hx62, _⟩ := no hx54 ho40 hst58
 replace ho49 := ho49.stp hst58 (by intro q hq; have hq0 := ho40.lt q hq; omega)
 have hsp63 : ∀ q, Value.ownBlock v55 = some q → q ≠ w0.heap.size := by intro q hq; have hq0 := hb4.lt; rcases hob59 with h | h; (rw [h] at hq; (have hq1 := ho40.lt q hq; omega)); (rw [h] at hq; cases hq; omega)
 have hsp64 : ∀ q, Value.ownBlock v55 = some q → Value.ownBlock v47 ≠ some q := by intro q hq hb; have hq0 := ho49.lt q hb; rcases hob59 with h | h; (rw [h] at hq; first | (have hq1 := ho40.lt q hq; omega)); (rw [h] at hq; cases hq; omega)
 refine ⟨hs61, ?_⟩
 refine dw 6 H rfl hs61 (op_assign H rfl rfl) ?_
 clear H A; intro A H
 refine dr_end (by kernel_rfl) ?_
 replace hb4 := hb4.ext hs61
 revert A; refine go ?_; intro A H
 refine wc H cb57 (c_spec_ArePromises _ v55 ((list ++ [p])) (ho57.rds pos_shProm)) ?_
 clear H A; rintro v67 w68 he69 rfl A H
 obtain ⟨hx71, _⟩ := nx hx62 he69
 replace hb4 := hb4.ext he69
 replace ho49 := ho49.ext he69
 replace ho57 := ho57.ext he69
 revert A; refine go ?_; intro A H
 rcases Bool.eq_false_or_eq_true (prsB ((list ++ [p]))) with c74 | c74
 rw [c74] at H
 have hkc74 := prsB_k c74
 refine wv H (op_move H rfl rfl) ?_
 clear H A; intro A H
 refine wc H cb150 (c_spec_l23Breach _ v55 ((list ++ [p])) (ho57.rds pos_shProm) (by assumption)) ?_
 clear H A; rintro v76 w77 he78 rfl A H
 obtain ⟨hx80, _⟩ := nx hx71 he78
 replace hb4 := hb4.ext he78
 replace ho49 := ho49.ext he78
 replace ho57 := ho57.ext he78
 revert A; refine go ?_; intro A H
 by_cases c83 : (0 : Int) < (brS ((list ++ [p])) : Int)
 rw [decide_eq_true c83] at H
 revert A; refine go ?_; intro A H
 refine ret2 H rfl rfl rfl ?_
 clear H A
 refine ret_mk hx80 ⟨.slice none 0 0, (tup2_eq rfl (int_eq (by symm; unfold mkPC; rw [if_pos c17, if_neg (by omega), if_pos c74, if_pos c83]))), ?_⟩
 refine Own.nil_ _ _ _ _ _ _ ?_
 unfold mkPL; rw [if_neg (by unfold mkPC; rw [if_pos c17, if_neg (by omega), if_pos c74, if_pos c83]; decide)]
 rw [decide_eq_false c83] at H
 revert A; refine go ?_; intro A H
 refine ret2 H rfl rfl rfl ?_
 clear H A
 refine ret_mk hx80 ⟨v55, (tup2_eq rfl (int_eq (by symm; unfold mkPC; rw [if_pos c17, if_neg (by omega), if_pos c74, if_neg c83]))), ?_⟩
 refine (fi ho57).cast ?_
 unfold mkPL; rw [if_pos (by unfold mkPC; rw [if_pos c17, if_neg (by omega), if_pos c74, if_neg c83])]
 rw [c74] at H
 revert A; refine go ?_; intro A H
 refine ret2 H rfl rfl rfl ?_
 clear H A
 refine ret_mk hx71 ⟨.slice none 0 0, (tup2_eq rfl (int_eq (by symm; unfold mkPC; rw [if_pos c17, if_neg (by omega), if_neg (by rw [c74]; decide)]))), ?_⟩
 refine Own.nil_ _ _ _ _ _ _ ?_
 unfold mkPL; rw [if_neg (by unfold mkPC; rw [if_pos c17, if_neg (by omega), if_neg (by rw [c74]; decide)]; decide)]
 refine pe H rfl (op_b1 (mk_shProm p (by assumption) (by assumption) (by assumption)) H pos_shProm U31 ti67) ?_
 clear H A; rintro v95 w96 ⟨ho97, he98, hob99⟩ A H
 have hs101 := hs36.trans' he98
 obtain ⟨hx102, _⟩ := nx hx37 he98
 replace ho32 := ho32.ext he98
 refine ⟨hs101, ?_⟩
 refine dr_one (i := 2) (by kernel_rfl) ?_
 refine pe H rfl (op_ap (ts := #[]) H U31 ti67 pos_shProm ho32 (h_list.ext pos_shProm (hx26.trans' hs101)) flat_shProm) ?_
 clear H A; rintro v103 w104 ⟨ho105, hst106, hob107⟩ A H
 replace ho105 := ho105.cast (List.nil_append _)
 have hs109 := hs101.stp hst106 (by intro q hq; have hq0 := ho32.lt q hq; omega)
 obtain ⟨hx110, _⟩ := no hx102 ho32 hst106
 replace ho97 := ho97.stp hst106 (by intro q hq; have hq0 := ho32.lt q hq; omega)
 have hsp111 : ∀ q, Value.ownBlock v103 = some q → q ≠ w0.heap.size := by intro q hq; have hq0 := hb4.lt; rcases hob107 with h | h; (rw [h] at hq; first | (have hq1 := ho32.lt q hq; omega)); (rw [h] at hq; cases hq; omega)
 have hsp112 : ∀ q, Value.ownBlock v103 = some q → Value.ownBlock v95 ≠ some q := by intro q hq hb; have hq0 := ho97.lt q hb; rcases hob107 with h | h; (rw [h] at hq; first | (have hq1 := ho32.lt q hq; omega)); (rw [h] at hq; cases hq; omega)
 refine ⟨hs109, ?_⟩
 refine dr_one (i := 5) (by kernel_rfl) ?_
 refine pe H rfl (op_ap (ts := #[]) H U31 ti67 pos_shProm ho105 (ho97.rds pos_shProm) flat_shProm) ?_
 clear H A; rintro v113 w114 ⟨ho115, hst116, hob117⟩ A H
 have hs119 := hs109.stp hst116 (by intro q hq; have hq0 := ho105.lt q hq; omega)
 obtain ⟨hx120, _⟩ := no hx110 ho105 hst116
 replace ho97 := ho97.stpF flat_shProm hst116 (fun q hq => hsp112 q hq)
 have hsp121 : ∀ q, Value.ownBlock v113 = some q → q ≠ w0.heap.size := by intro q hq; have hq0 := hb4.lt; rcases hob117 with h | h; (rw [h] at hq; (have hq1 := ho105.lt q hq; omega)); (rw [h] at hq; cases hq; omega)
 have hsp122 : ∀ q, Value.ownBlock v113 = some q → Value.ownBlock v95 ≠ some q := by intro q hq hb; have hq0 := ho97.lt q hb; rcases hob117 with h | h; (rw [h] at hq; exact hsp112 q hq hb); (rw [h] at hq; cases hq; omega)
 refine ⟨hs119, ?_⟩
 refine dw 6 H rfl hs119 (op_assign H rfl rfl) ?_
 clear H A; intro A H
 refine dr_end (by kernel_rfl) ?_
 replace hb4 := hb4.ext hs119
 revert A; refine go ?_; intro A H
 refine wc H cb57 (c_spec_ArePromises _ v113 ((list ++ [p])) (ho115.rds pos_shProm)) ?_
 clear H A; rintro v125 w126 he127 rfl A H
 obtain ⟨hx129, _⟩ := nx hx120 he127
 replace hb4 := hb4.ext he127
 replace ho97 := ho97.ext he127
 replace ho115 := ho115.ext he127
 revert A; refine go ?_; intro A H
 rcases Bool.eq_false_or_eq_true (prsB ((list ++ [p]))) with c132 | c132
 rw [c132] at H
 have hkc132 := prsB_k c132
 refine wv H (op_move H rfl rfl) ?_
 clear H A; intro A H
 refine wc H cb150 (c_spec_l23Breach _ v113 ((list ++ [p])) (ho115.rds pos_shProm) (by assumption)) ?_
 clear H A; rintro v134 w135 he136 rfl A H
 obtain ⟨hx138, _⟩ := nx hx129 he136
 replace hb4 := hb4.ext he136
 replace ho97 := ho97.ext he136
 replace ho115 := ho115.ext he136
 revert A; refine go ?_; intro A H
 by_cases c141 : (0 : Int) < (brS ((list ++ [p])) : Int)
 rw [decide_eq_true c141] at H
 revert A; refine go ?_; intro A H
 refine ret2 H rfl rfl rfl ?_
 clear H A
 refine ret_mk hx138 ⟨.slice none 0 0, (tup2_eq rfl (int_eq (by symm; unfold mkPC; rw [if_pos c17, if_neg (by omega), if_pos c132, if_pos c141]))), ?_⟩
 refine Own.nil_ _ _ _ _ _ _ ?_
 unfold mkPL; rw [if_neg (by unfold mkPC; rw [if_pos c17, if_neg (by omega), if_pos c132, if_pos c141]; decide)]
 rw [decide_eq_false c141] at H
 revert A; refine go ?_; intro A H
 refine ret2 H rfl rfl rfl ?_
 clear H A
 refine ret_mk hx138 ⟨v113, (tup2_eq rfl (int_eq (by symm; unfold mkPC; rw [if_pos c17, if_neg (by omega), if_pos c132, if_neg c141]))), ?_⟩
 refine (fi ho115).cast ?_
 unfold mkPL; rw [if_pos (by unfold mkPC; rw [if_pos c17, if_neg (by omega), if_pos c132, if_neg c141])]
 rw [c132] at H
 revert A; refine go ?_; intro A H
 refine ret2 H rfl rfl rfl ?_
 clear H A
 refine ret_mk hx129 ⟨.slice none 0 0, (tup2_eq rfl (int_eq (by symm; unfold mkPC; rw [if_pos c17, if_neg (by omega), if_neg (by rw [c132]; decide)]))), ?_⟩
 refine Own.nil_ _ _ _ _ _ _ ?_
 unfold mkPL; rw [if_neg (by unfold mkPC; rw [if_pos c17, if_neg (by omega), if_neg (by rw [c132]; decide)]; decide)]
 refine pe H rfl (op_b1 (mk_shProm p (by assumption) (by assumption) (by assumption)) H pos_shProm U31 ti67) ?_
 clear H A; rintro v153 w154 ⟨ho155, he156, hob157⟩ A H
 have hs159 := hs27.trans' he156
 obtain ⟨hx160, _⟩ := nx hx26 he156
 refine ⟨hs159, ?_⟩
 refine dr_one (i := 0) (by kernel_rfl) ?_
 refine pe H rfl (op_b0 H pos_shProm U31 ti67) ?_
 clear H A; rintro v161 w162 ⟨ho163, he164, hob165⟩ A H
 have hs167 := hs159.trans' he164
 obtain ⟨hx168, _⟩ := nx hx160 he164
 replace ho155 := ho155.ext he164
 refine ⟨hs167, ?_⟩
 refine dr_one (i := 2) (by kernel_rfl) ?_
 refine pe H rfl (op_ap (ts := #[]) H U31 ti67 pos_shProm ho163 (h_list.ext pos_shProm (hx26.trans' hs167)) flat_shProm) ?_
 clear H A; rintro v169 w170 ⟨ho171, hst172, hob173⟩ A H
 replace ho171 := ho171.cast (List.nil_append _)
 have hs175 := hs167.stp hst172 (by intro q hq; have hq0 := ho163.lt q hq; omega)
 obtain ⟨hx176, _⟩ := no hx168 ho163 hst172
 replace ho155 := ho155.stp hst172 (by intro q hq; have hq0 := ho163.lt q hq; omega)
 have hsp177 : ∀ q, Value.ownBlock v169 = some q → q ≠ w0.heap.size := by intro q hq; have hq0 := hb4.lt; rcases hob173 with h | h; (rw [h] at hq; first | (have hq1 := ho163.lt q hq; omega)); (rw [h] at hq; cases hq; omega)
 have hsp178 : ∀ q, Value.ownBlock v169 = some q → Value.ownBlock v153 ≠ some q := by intro q hq hb; have hq0 := ho155.lt q hb; rcases hob173 with h | h; (rw [h] at hq; first | (have hq1 := ho163.lt q hq; omega)); (rw [h] at hq; cases hq; omega)
 refine ⟨hs175, ?_⟩
 refine dr_one (i := 5) (by kernel_rfl) ?_
 refine pe H rfl (op_ap (ts := #[]) H U31 ti67 pos_shProm ho171 (ho155.rds pos_shProm) flat_shProm) ?_
 clear H A; rintro v179 w180 ⟨ho181, hst182, hob183⟩ A H
 have hs185 := hs175.stp hst182 (by intro q hq; have hq0 := ho171.lt q hq; omega)
 obtain ⟨hx186, _⟩ := no hx176 ho171 hst182
 replace ho155 := ho155.stp hst182 (by intro q hq; have hq0 := ho171.lt q hq; omega)
 have hsp187 : ∀ q, Value.ownBlock v179 = some q → q ≠ w0.heap.size := by intro q hq; have hq0 := hb4.lt; rcases hob183 with h | h; (rw [h] at hq; (have hq1 := ho171.lt q hq; omega)); (rw [h] at hq; cases hq; omega)
 have hsp188 : ∀ q, Value.ownBlock v179 = some q → Value.ownBlock v153 ≠ some q := by intro q hq hb; have hq0 := ho155.lt q hb; rcases hob183 with h | h; (rw [h] at hq; (have hq1 := ho171.lt q hq; omega)); (rw [h] at hq; cases hq; omega)
 refine ⟨hs185, ?_⟩
 refine dw 6 H rfl hs185 (op_assign H rfl rfl) ?_
 clear H A; intro A H
 refine dr_end (by kernel_rfl) ?_
 replace hb4 := hb4.ext hs185
 revert A; refine go ?_; intro A H
 refine wc H cb57 (c_spec_ArePromises _ v179 ((list ++ [p])) (ho181.rds pos_shProm)) ?_
 clear H A; rintro v191 w192 he193 rfl A H
 obtain ⟨hx195, _⟩ := nx hx186 he193
 replace hb4 := hb4.ext he193
 replace ho155 := ho155.ext he193
 replace ho181 := ho181.ext he193
 revert A; refine go ?_; intro A H
 rcases Bool.eq_false_or_eq_true (prsB ((list ++ [p]))) with c198 | c198
 rw [c198] at H
 have hkc198 := prsB_k c198
 refine wv H (op_move H rfl rfl) ?_
 clear H A; intro A H
 refine wc H cb150 (c_spec_l23Breach _ v179 ((list ++ [p])) (ho181.rds pos_shProm) (by assumption)) ?_
 clear H A; rintro v200 w201 he202 rfl A H
 obtain ⟨hx204, _⟩ := nx hx195 he202
 replace hb4 := hb4.ext he202
 replace ho155 := ho155.ext he202
 replace ho181 := ho181.ext he202
 revert A; refine go ?_; intro A H
 by_cases c207 : (0 : Int) < (brS ((list ++ [p])) : Int)
 rw [decide_eq_true c207] at H
 revert A; refine go ?_; intro A H
 refine ret2 H rfl rfl rfl ?_
 clear H A
 refine ret_mk hx204 ⟨.slice none 0 0, (tup2_eq rfl (int_eq (by symm; unfold mkPC; rw [if_pos c17, if_neg (by omega), if_pos c198, if_pos c207]))), ?_⟩
 refine Own.nil_ _ _ _ _ _ _ ?_
 unfold mkPL; rw [if_neg (by unfold mkPC; rw [if_pos c17, if_neg (by omega), if_pos c198, if_pos c207]; decide)]
 rw [decide_eq_false c207] at H
 revert A; refine go ?_; intro A H
 refine ret2 H rfl rfl rfl ?_
 clear H A
 refine ret_mk hx204 ⟨v179, (tup2_eq rfl (int_eq (by symm; unfold mkPC; rw [if_pos c17, if_neg (by omega), if_pos c198, if_neg c207]))), ?_⟩
 refine (fi ho181).cast ?_
 unfold mkPL; rw [if_pos (by unfold mkPC; rw [if_pos c17, if_neg (by omega), if_pos c198, if_neg c207])]
 rw [c198] at H
 revert A; refine go ?_; intro A H
 refine ret2 H rfl rfl rfl ?_
 clear H A
 refine ret_mk hx195 ⟨.slice none 0 0, (tup2_eq rfl (int_eq (by symm; unfold mkPC; rw [if_pos c17, if_neg (by omega), if_neg (by rw [c198]; decide)]))), ?_⟩
 refine Own.nil_ _ _ _ _ _ _ ?_
 unfold mkPL; rw [if_neg (by unfold mkPC; rw [if_pos c17, if_neg (by omega), if_neg (by rw [c198]; decide)]; decide)]
 rw [c17] at H
 revert A; refine go ?_; intro A H
 refine ret2 H rfl rfl rfl ?_
 clear H A
 refine ret_mk hx15 ⟨.slice none 0 0, (tup2_eq rfl (int_eq (by symm; unfold mkPC; rw [if_neg (by rw [c17]; decide)]))), ?_⟩
 refine Own.nil_ _ _ _ _ _ _ ?_
 unfold mkPL; rw [if_neg (by unfold mkPC; rw [if_neg (by rw [c17]; decide)]; decide)]




end Go.Proofs.YthbehhhblchhhaaGreat
