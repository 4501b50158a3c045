/- The law FnConsoleLines, walked. -/
import Derived.Test.YthbehhhblchhhaaGreatR5
import Derived.Test.YthbehhhblchhhaaGreatX4
import Derived.Test.YthbehhhblchhhaaGreatX5
import Derived.Test.YthbehhhblchhhaaGreatK2
namespace Go.Proofs.YthbehhhblchhhaaGreat
open Go Go.RowKit
set_option maxHeartbeats 16000000

theorem set_take {α : Type} {acc xs : List α} {i : Nat} {x : α} (h : acc.take i = xs.take i) (hl : acc.length = xs.length) (hx : xs[i]? = some x) : (acc.set i x).take (i + 1) = xs.take (i + 1) := by
  have hi : i < xs.length := (List.getElem?_eq_some_iff.1 hx).1
  rw [take_snoc hx, ← h]
  have : (acc.set i x)[i]? = some x := by rw [List.getElem?_set_self (by omega)]
  rw [take_snoc this, List.take_set_of_le (Nat.le_refl _)]
/-- Do two lists agree place by place? -/
def eqL {α : Type} [DecidableEq α] (xs ys : List α) : Bool := decide (xs = ys)
theorem eqL_nil {α : Type} [DecidableEq α] : eqL ([] : List α) [] = true := by simp [eqL]
theorem eqL_self {α : Type} [DecidableEq α] (xs : List α) : eqL xs xs = true := by simp [eqL]
theorem eqL_len {α : Type} [DecidableEq α] {xs ys : List α} (h : ¬ xs.length = ys.length) : eqL xs ys = false := by
  unfold eqL; rw [decide_eq_false]; intro e; exact h (by rw [e])
theorem eqL_step {α : Type} [DecidableEq α] {xs ys : List α} {i : Nat} {x y : α} (hx : xs[i]? = some x) (hy : ys[i]? = some y) : eqL (xs.drop i) (ys.drop i) = (decide (x = y) && eqL (xs.drop (i + 1)) (ys.drop (i + 1))) := by
  unfold eqL; rw [drop_cons hx, drop_cons hy, Bool.eq_iff_iff]; simp
/-- How much is left of a size behind a piece of that cost; -1: too little. -/
def szR (n : Int) (k : Nat) : Int := if n - k < 0 then -1 else n - k
theorem szR_ok {n : Int} {k : Nat} (h : ¬ szR n k < 0) : (k : Int) ≤ n ∧ szR n k = n - k := by unfold szR at *; split at h <;> simp_all <;> omega
theorem szR_no {n : Int} {k : Nat} (h : szR n k < 0) : n < (k : Int) := by unfold szR at h; split at h <;> omega
theorem szR_add {n : Int} {k m : Nat} (h : ¬ szR n k < 0) : szR n (k + m) = szR (szR n k) m := by
  obtain ⟨h1, h2⟩ := szR_ok h
  rw [h2]; unfold szR; split <;> split <;> omega
theorem szR_neg {n : Int} {k m : Nat} (h : szR n k < 0) : szR n (k + m) = -1 := by
  have := szR_no h; unfold szR; rw [if_pos (by omega)]
theorem szR_le {n : Int} {k : Nat} (h : 0 ≤ n) : szR n k ≤ n := by unfold szR; split <;> omega
theorem szR_zero {n : Int} (h : 0 ≤ n) : szR n 0 = n := by unfold szR; rw [if_neg (by omega)]; omega
theorem szR_if {n : Int} {k : Nat} (h : n < (k : Int)) : szR n k = -1 := by unfold szR; rw [if_pos (by omega)]
theorem szR_nif {n : Int} {k : Nat} (h : (k : Int) ≤ n) : szR n k = n - k := by unfold szR; rw [if_neg (by omega)]
/-- What the elements cost, and a list of them. -/
def sumC {α : Type} (c : α → Nat) : List α → Nat
  | [] => 0
  | x :: xs => c x + sumC c xs
def costL {α : Type} (c : α → Nat) (xs : List α) : Nat := xs.length + sumC c xs
theorem costL_len {α : Type} (c : α → Nat) (xs : List α) : xs.length ≤ costL c xs := by unfold costL; omega
theorem sumC_mem {α : Type} (c : α → Nat) : ∀ (xs : List α) (x : α), x ∈ xs → c x ≤ sumC c xs
  | [], x, h => by simp at h
  | y :: ys, x, h => by
    rcases List.mem_cons.1 h with e | e
    · subst e; simp only [sumC]; omega
    · have := sumC_mem c ys x e; simp only [sumC]; omega
theorem cost_mem {α : Type} {c : α → Nat} {xs : List α} {x : α} (h : x ∈ xs) : c x ≤ costL c xs := by have := sumC_mem c xs x h; unfold costL; omega
theorem hset_self {α : Type} {xs : List α} {i : Nat} {x y : α} (h : (xs.set i x)[i]? = some y) (hi : i < xs.length) : y = x := by
  rw [List.getElem?_set_self hi] at h; exact (Option.some.inj h).symm

def nzT : Str := [110, 111, 105, 115, 101, 10]
theorem spl_cut (b : UInt8) : ∀ (s cur B : Str), spl b cur (s ++ b :: B) = spl b cur s ++ spl b [] B
  | [], cur, B => by simp [spl]
  | c :: s, cur, B => by
    rw [List.cons_append]; simp only [spl]; split
    · rw [spl_cut b s [] B]; rfl
    · exact spl_cut b s _ B
theorem li_end {t : Str} : liL (t ++ [10]) = spl 10 [] t := by
  have e : spl 10 [] (t ++ [10]) = spl 10 [] t ++ [[]] := spl_cut 10 t [] []
  unfold liL; rw [e]
  have hl : (spl 10 [] t ++ [[]]).length - 1 = (spl 10 [] t).length := by simp
  rw [hl, if_pos (by rw [List.getElem?_append_right (Nat.le_refl _), Nat.sub_self]; rfl), List.take_left]
theorem li_noise {text : Str} (h : text = [] ∨ text[text.length - 1]? = some 10) : liL (text ++ [110, 111, 105, 115, 101, 10]) = liL text ++ [[110, 111, 105, 115, 101]] := by
  rcases h with h | h
  · subst h; decide
  · have hp : 0 < text.length := by have := (List.getElem?_eq_some_iff.1 h).1; omega
    have et : text = text.take (text.length - 1) ++ [10] := by
      have := take_snoc h; rw [show text.length - 1 + 1 = text.length by omega, List.take_length] at this; exact this
    generalize text.take (text.length - 1) = t at et
    rw [et, li_end, show t ++ [10] ++ [110, 111, 105, 115, 101, 10] = (t ++ 10 :: [110, 111, 105, 115, 101]) ++ [10] by simp, li_end, spl_cut]
    rfl
theorem lnT_app : ∀ {A : List Str} {d : Dsk} {l : Str}, lnT (A ++ [l]) d = lnT A d ++ [rnT (lnD A d) l]
  | [], _, _ => rfl
  | a :: A, d, l => by rw [List.cons_append, lnT, lnT_app, lnT, lnD]; rfl
theorem rn_noise (d : Dsk) : rnT d [110, 111, 105, 115, 101] = errS 6 := (rn_no (by decide)).2
theorem rcC_0 {text : Str} (h : rcC text = 0) : fitB text = true := by
  unfold rcC at h; split at h
  · assumption
  · omega
theorem rcC_03 (text : Str) : rcC text = 0 ∨ rcC text = 3 := by unfold rcC; split <;> simp
/-- A line that is no command gives error 6, and what has been put out before stays. -/
theorem rc_noise {text : Str} (h : text = [] ∨ text[text.length - 1]? = some 10) (h0 : rcC text = 0) (h1 : rcC (text ++ [110, 111, 105, 115, 101, 10]) = 0) : rcL (text ++ [110, 111, 105, 115, 101, 10]) = rcL text ++ [errS 6] := by
  unfold rcL; rw [rcC_0 h0, rcC_0 h1, if_pos rfl, if_pos rfl, li_noise h, lnT_app, rn_noise]
theorem noise_at {A B : List Str} {x : Str} (h : B = A ++ [errS 6]) (hx : B[A.length]? = some x) : x = [101, 114, 114, 111, 114, 32, 54] := by
  rw [h, List.getElem?_append_right (Nat.le_refl _), Nat.sub_self] at hx
  have := (Option.some.inj hx).symm; rw [this]; unfold errS; rw [decS_nn (by omega), digs_lt (by decide)]; decide

theorem c_laws_big (w0 : World) (v_code : Value) (code : List UInt8) {S_code : Nat → Prop} (h_code : Rds shU8 S_code w0 v_code code) :
    Calls Tryz.prog 7 #[v_code] w0 (Ret w0 (fun v _ => v = .bool (decide (4096 < code.length)))) := by
 refine enter (N := 6) Tryz.func7 rfl rfl rfl ?_
 intro A H
 have hx0 := Ext.rfl' w0
 have hl_code := h_code.length_le
 revert A; refine go ?_; intro A H
 refine wv H (ln H U22 h_code) ?_
 clear H A; refine go ?_; intro A H
 refine ret1 H rfl rfl ?_
 clear H A
 exact ret_mk hx0 (congrArg Value.bool (by simp; omega))



theorem c_laws_likeTexts (w0 : World) (v_a : Value) (a : List Str) {S_a : Nat → Prop} (v_b : Value) (b : List Str) {S_b : Nat → Prop} (h_a : Rds shStr S_a w0 v_a a) (h_b : Rds shStr S_b w0 v_b b) :
    Calls Tryz.prog 12 #[v_a, v_b] w0 (Ret w0 (fun v _ => v = .bool (eqL a b))) := by
 refine enter (N := 26) Tryz.func12 rfl rfl rfl ?_
 intro A H
 have hx0 := Ext.rfl' w0
 have hl_a := h_a.length_le
 have hl_b := h_b.length_le
 revert A; refine go ?_; intro A H
 refine wv H (ln H U25 h_a) ?_
 clear H A; intro A H
 refine wv H (op_move H rfl rfl) ?_
 clear H A; intro A H
 refine wv H (ln H U25 h_b) ?_
 clear H A; refine go ?_; intro A H
 by_cases c7 : ((a.length : Nat) : Int) = ((b.length : Nat) : Int)
 rw [decide_eq_true c7] at H
 revert A; refine go ?_; intro A H
 refine loop_inv (X := Nat) (fun i fr wl => Sl 26 fr [(0, v_a), (1, v_b), (5, .int .i64 ((i : Nat) : Int))] ∧ Ext w0 wl ∧ w0.heap.size ≤ wl.heap.size ∧ (i ≤ a.length) ∧ (a.length = b.length) ∧ (eqL (a.drop i) (b.drop i) = eqL a b)) (fun i => a.length - i) (0) ?_ ?_
 exact ⟨(sl H), hx0, (by omega), (by omega), (by omega), (by simp)⟩
 clear H A
 rintro i A w9 ⟨H, hx10, hzl12, hi, hl, hF⟩
 have hzhx10 := hx10.size
 revert A; refine go ?_; intro A H
 refine wv H (ln H U25 h_a) ?_
 clear H A; refine go ?_; intro A H
 by_cases c17 : ((i : Nat) : Int) < ((a.length : Nat) : Int)
 rw [decide_eq_true c17] at H
 revert A; refine go ?_; intro A H
 refine dre Ext follows_mixed ?_
 intro w18 he19 hs21
 obtain ⟨hx20, _⟩ := nx hx10 he19
 revert A; refine dgo [0, 1] hs21 ?_; intro A H
 obtain ⟨x24, hx24⟩ := get_ex (xs := a) (j := i) (by omega)
 obtain ⟨p25, hi27, hc28, b31, hs30⟩ := at_shStr h_a hx24
 refine dw 2 H rfl hs21 (ix H U25 ti9 hi27) ?_
 clear H A; intro A H
 refine dv 3 H rfl hs21 (fun w' hw' => lh H U9 (hc28.ext (hx20.trans' hw'))) ?_
 clear H A; refine dgo [4, 5] hs21 ?_; intro A H
 obtain ⟨x36, hx36⟩ := get_ex (xs := b) (j := i) (by omega)
 obtain ⟨p37, hi39, hc40, b43, hs42⟩ := at_shStr h_b hx36
 refine dw 6 H rfl hs21 (ix H U25 ti9 hi39) ?_
 clear H A; intro A H
 refine dv 7 H rfl hs21 (fun w' hw' => lh H U9 (hc40.ext (hx20.trans' hw'))) ?_
 clear H A; intro A H
 refine dv 8 H rfl hs21 (fun w' hw' => (op_sneq H rfl rfl rfl).to (congrArg Value.bool decide_not)) ?_
 clear H A; intro A H
 refine dr_end (by kernel_rfl) ?_
 refine then_n ?_
 by_cases c47 : x24 = x36
 rw [decide_eq_true c47] at H
 revert A; refine go ?_; intro A H
 refine wv H ((op_add H rfl rfl rfl).int (IntWalk.i64_in _ (by omega))) ?_
 clear H A; refine go ?_; intro A H
 refine ⟨((i + 1)), ?_, ?_⟩
 refine ⟨(sl H), hx20, (by omega), (by omega), (by exact hl), (by rw [eqL_step hx24 hx36] at hF; simpa [c7, c17, c47] using hF)⟩
 show (a.length - ((i + 1)) : Nat) < a.length - i; omega
 rw [decide_eq_false c47] at H
 revert A; refine go ?_; intro A H
 refine ret1 H rfl rfl ?_
 clear H A
 rw [eqL_step hx24 hx36] at hF
 exact ret_mk hx20 (congrArg Value.bool (by simp [← hF, c47]))
 rw [decide_eq_false c17] at H
 revert A; refine go ?_; intro A H
 refine ret1 H rfl rfl ?_
 clear H A
 rw [drop_nil (by omega), drop_nil (by omega), eqL_nil] at hF
 exact ret_mk hx10 (congrArg Value.bool (by simp [← hF]))
 rw [decide_eq_false c7] at H
 revert A; refine go ?_; intro A H
 refine ret1 H rfl rfl ?_
 clear H A
 exact ret_mk hx0 (congrArg Value.bool (by rw [eqL_len (by omega)]))



set_option maxRecDepth 16000 in
theorem c_laws_FnConsoleLines (w0 : World) (v_code : Value) (code : List UInt8) {S_code : Nat → Prop} (h_code : Rds shU8 S_code w0 v_code code) :
    Calls Tryz.prog 3 #[v_code] w0 (Ret w0 (fun v _ => v = .bool (true))) := by
 refine enter (N := 90) Tryz.func3 rfl rfl rfl ?_
 intro A H
 have hx0 := Ext.rfl' w0
 have hl_code := h_code.length_le
 revert A; refine go ?_; intro A H
 refine wc H cb7 (c_laws_big _ v_code code (h_code.ext pos_shU8 hx0)) ?_
 clear H A; rintro v3 w4 he5 rfl A H
 obtain ⟨hx7, _⟩ := nx hx0 he5
 revert A; refine go ?_; intro A H
 rcases Bool.eq_false_or_eq_true (decide (4096 < code.length)) with c8 | c8
 rw [c8] at H
 revert A; refine go ?_; intro A H
 refine ret1 H rfl rfl ?_
 clear H A
 exact ret_mk hx7 (congrArg Value.bool (by rfl))
 rw [c8] at H
 revert A; refine go ?_; intro A H
 refine wc H cb8 (c_spec_DrawRunConsole _ v_code code (h_code.ext pos_shU8 hx7)) ?_
 clear H A; rintro v11 w12 he13 ⟨q14, hq15, rfl⟩ A H
 obtain ⟨hx17, _⟩ := nx hx7 he13
 revert A; refine go ?_; intro A H
 refine wc H cb9 (c_impl_RunConsole _ ((q14)) (by omega)) ?_
 clear H A; rintro v20 w21 he22 ⟨v23, rfl, ho24⟩ A H
 obtain ⟨hx26, _⟩ := nx hx17 he22
 revert A; refine go ?_; intro A H
 refine wc H cb10 (c_spec_RunConsole _ ((q14)) (by omega)) ?_
 clear H A; rintro v33 w34 he35 ⟨v36, rfl, ho37⟩ A H
 obtain ⟨hx39, _⟩ := nx hx26 he35
 replace ho24 := ho24.ext he35
 revert A; refine go ?_; intro A H
 refine wc H cb11 (c_spec_DrawIsConsoleLine _ v_code code (h_code.ext pos_shU8 hx39)) ?_
 clear H A; rintro v46 w47 he48 ⟨q49, hq50, rfl⟩ A H
 obtain ⟨hx52, _⟩ := nx hx39 he48
 replace ho24 := ho24.ext he48
 replace ho37 := ho37.ext he48
 revert A; refine go ?_; intro A H
 by_cases c58 : (rcC ((q14)) : Int) = (rcC ((q14)) : Int)
 rw [decide_eq_true c58] at H
 have hcl := rcL_len q14
 have hcl2 := rcL_len (q14 ++ [110, 111, 105, 115, 101, 10])
 obtain ⟨_, _, _, hcd1, hcd2, hcd3⟩ := desk_bd (rcD_ok q14)
 revert A; refine go ?_; intro A H
 refine wc H cb12 (c_laws_likeTexts _ v23 ((rcL ((q14)))) v36 ((rcL ((q14)))) (ho24.rds pos_shStr) (ho37.rds pos_shStr)) ?_
 clear H A; rintro v61 w62 he63 rfl A H
 obtain ⟨hx65, _⟩ := nx hx52 he63
 replace ho24 := ho24.ext he63
 replace ho37 := ho37.ext he63
 revert A; refine go ?_; intro A H
 rcases Bool.eq_false_or_eq_true (eqL ((rcL ((q14)))) ((rcL ((q14))))) with c69 | c69
 rw [c69] at H
 refine wv H (op_move H rfl rfl) ?_
 clear H A; intro A H
 refine wc H cb13 (c_impl_IsConsoleLine _ ((q49)) (by omega)) ?_
 clear H A; rintro v71 w72 he73 rfl A H
 obtain ⟨hx75, _⟩ := nx hx65 he73
 replace ho24 := ho24.ext he73
 replace ho37 := ho37.ext he73
 refine wv H (op_move H rfl rfl) ?_
 clear H A; intro A H
 refine wc H cb14 (c_spec_IsConsoleLine _ ((q49)) (by omega)) ?_
 clear H A; rintro v77 w78 he79 rfl A H
 obtain ⟨hx81, _⟩ := nx hx75 he79
 replace ho24 := ho24.ext he79
 replace ho37 := ho37.ext he79
 refine wv H (op_bneq H rfl U4 rfl rfl) ?_
 clear H A; refine go ?_; intro A H
 rcases Bool.eq_false_or_eq_true (((pcO ((q49))).isSome == (pcO ((q49))).isSome)) with c84 | c84
 rw [c84] at H
 clear ho37
 revert A; refine go ?_; intro A H
 by_cases c88 : (rcC ((q14)) : Int) = (0 : Int)
 rw [decide_eq_true c88] at H
 refine wv H (op_move H rfl rfl) ?_
 clear H A; intro A H
 refine wv H (op_len_str H rfl U9 rfl) ?_
 clear H A; refine go ?_; intro A H
 by_cases c93 : (0 : Int) < ((((q14)).length : Nat) : Int)
 rw [decide_eq_true c93] at H
 revert A; refine go ?_; intro A H
 refine wv H (op_len_str H rfl U9 rfl) ?_
 clear H A; intro A H
 refine wv H ((op_sub H rfl rfl rfl).int (IntWalk.i64_in _ (by omega))) ?_
 clear H A; intro A H
 obtain ⟨b98, hb98⟩ := get_ex (xs := (q14)) (j := (((q14)).length - 1)) (by omega)
 have b98_lt := b98.toNat_lt
 refine wv H (op_index_str H rfl U9 rfl rfl (by omega) hb98) ?_
 clear H A; refine go ?_; intro A H
 by_cases c103 : (b98.toNat : Int) = (10 : Int)
 rw [decide_eq_true c103] at H
 revert A; refine go ?_; intro A H
 refine wv H (op_sadd H rfl rfl rfl (by simp only [List.length_cons, List.length_nil]; omega)) ?_
 clear H A; intro A H
 refine wc H cb9 (c_impl_RunConsole _ (((q14)) ++ (([110, 111, 105, 115, 101, 10] : Str))) (by simp only [List.length_append, List.length_cons, List.length_nil]; omega)) ?_
 clear H A; rintro v106 w107 he108 ⟨v109, rfl, ho110⟩ A H
 obtain ⟨hx112, _⟩ := nx hx81 he108
 replace ho24 := ho24.ext he108
 revert A; refine go ?_; intro A H
 by_cases c120 : (rcC (((q14)) ++ (([110, 111, 105, 115, 101, 10] : Str))) : Int) = (0 : Int)
 rw [decide_eq_true c120] at H
 have hnz : q14 = [] ∨ q14[q14.length - 1]? = some 10 := by right; rw [hb98]; exact congrArg some (ub (b := 10) (by rw [c103]; rfl))
 have hrc := rc_noise hnz c88 c120
 have hln := congrArg List.length hrc
 rw [List.length_append, List.length_singleton] at hln
 revert A; refine go ?_; intro A H
 refine wv H (ln H U25 (ho110.rds pos_shStr)) ?_
 clear H A; intro A H
 refine wv H (op_move H rfl rfl) ?_
 clear H A; intro A H
 refine wv H (ln H U25 (ho24.rds pos_shStr)) ?_
 clear H A; intro A H
 refine wv H ((op_add H rfl rfl rfl).int (IntWalk.i64_in _ (by omega))) ?_
 clear H A; refine go ?_; intro A H
 by_cases c128 : ((((rcL (((q14)) ++ (([110, 111, 105, 115, 101, 10] : Str))))).length : Nat) : Int) = (((((rcL ((q14)))).length : Nat) : Int) + (1 : Int))
 rw [decide_eq_true c128] at H
 revert A; refine go ?_; intro A H
 refine wv H (ln H U25 (ho24.rds pos_shStr)) ?_
 clear H A; intro A H
 obtain ⟨x132, hx132⟩ := get_ex (xs := (rcL (((q14)) ++ (([110, 111, 105, 115, 101, 10] : Str))))) (j := ((rcL ((q14)))).length) (by omega)
 obtain ⟨p133, hi135, hc136, b139, _, _⟩ := at_shStr (ho110.rds pos_shStr) hx132
 have hxex132 := noise_at hrc hx132
 refine wv H (ix H U25 ti9 hi135) ?_
 clear H A; intro A H
 refine wv H (lh H U9 hc136) ?_
 clear H A; refine go ?_; intro A H
 by_cases c145 : x132 = ([101, 114, 114, 111, 114, 32, 54] : Str)
 rw [decide_eq_true c145] at H
 revert A; refine go ?_; intro A H
 refine wv H (ln H U25 (ho24.rds pos_shStr)) ?_
 clear H A; intro A H
 obtain ⟨u149, hu150, hr151⟩ := Rds.part (ho110.rds pos_shStr) U25 ti9 none (some (.int .i64 (((rcL ((q14)))).length : Nat))) 0 (((rcL ((q14)))).length) (.inl ⟨rfl, rfl⟩) (.inr ⟨.i64, rfl⟩) (by omega) (by omega)
 replace hr151 := hr151.cast (ys := ((rcL (((q14)) ++ (([110, 111, 105, 115, 101, 10] : Str))))).take (((rcL ((q14)))).length)) (by simp)
 refine wv H (op_slice_t (by omega) H rfl rfl rfl hu150) ?_
 clear H A; intro A H
 refine wv H (op_move H rfl rfl) ?_
 clear H A; intro A H
 refine wc H cb12 (c_laws_likeTexts _ u149 (((rcL (((q14)) ++ (([110, 111, 105, 115, 101, 10] : Str))))).take (((rcL ((q14)))).length)) v23 ((rcL ((q14)))) hr151 (ho24.rds pos_shStr)) ?_
 clear H A; rintro v154 w155 he156 rfl A H
 obtain ⟨hx158, _⟩ := nx hx112 he156
 replace ho24 := ho24.ext he156
 replace ho110 := ho110.ext he156
 replace hc136 := hc136.ext he156
 replace hr151 := hr151.ext pos_shStr he156
 revert A; refine go ?_; intro A H
 refine ret1 H rfl rfl ?_
 clear H A
 exact ret_mk hx158 (congrArg Value.bool (by rw [hrc, List.take_left]; exact eqL_self _))
 rw [decide_eq_false c145] at H
 revert A; refine go ?_; intro A H
 refine ret1 H rfl rfl ?_
 clear H A
 exact ret_mk hx112 (congrArg Value.bool (by exact absurd hxex132 c145))
 rw [decide_eq_false c128] at H
 revert A; refine go ?_; intro A H
 refine ret1 H rfl rfl ?_
 clear H A
 exact ret_mk hx112 (congrArg Value.bool (by omega))
 rw [decide_eq_false c120] at H
 clear ho24 ho110
 revert A; refine go ?_; intro A H
 refine ret1 H rfl rfl ?_
 clear H A
 exact ret_mk hx112 (congrArg Value.bool (by exact decide_eq_true ((rcC_03 _).resolve_left (by assumption))))
 rw [decide_eq_false c103] at H
 clear ho24
 revert A; refine go ?_; intro A H
 refine ret1 H rfl rfl ?_
 clear H A
 exact ret_mk hx81 (congrArg Value.bool (by rfl))
 rw [decide_eq_false c93] at H
 revert A; refine go ?_; intro A H
 refine wv H (op_sadd H rfl rfl rfl (by simp only [List.length_cons, List.length_nil]; omega)) ?_
 clear H A; intro A H
 refine wc H cb9 (c_impl_RunConsole _ (((q14)) ++ (([110, 111, 105, 115, 101, 10] : Str))) (by simp only [List.length_append, List.length_cons, List.length_nil]; omega)) ?_
 clear H A; rintro v199 w200 he201 ⟨v202, rfl, ho203⟩ A H
 obtain ⟨hx205, _⟩ := nx hx81 he201
 replace ho24 := ho24.ext he201
 revert A; refine go ?_; intro A H
 by_cases c213 : (rcC (((q14)) ++ (([110, 111, 105, 115, 101, 10] : Str))) : Int) = (0 : Int)
 rw [decide_eq_true c213] at H
 have hnz : q14 = [] ∨ q14[q14.length - 1]? = some 10 := by left; exact List.eq_nil_of_length_eq_zero (by omega)
 have hrc := rc_noise hnz c88 c213
 have hln := congrArg List.length hrc
 rw [List.length_append, List.length_singleton] at hln
 revert A; refine go ?_; intro A H
 refine wv H (ln H U25 (ho203.rds pos_shStr)) ?_
 clear H A; intro A H
 refine wv H (op_move H rfl rfl) ?_
 clear H A; intro A H
 refine wv H (ln H U25 (ho24.rds pos_shStr)) ?_
 clear H A; intro A H
 refine wv H ((op_add H rfl rfl rfl).int (IntWalk.i64_in _ (by omega))) ?_
 clear H A; refine go ?_; intro A H
 by_cases c221 : ((((rcL (((q14)) ++ (([110, 111, 105, 115, 101, 10] : Str))))).length : Nat) : Int) = (((((rcL ((q14)))).length : Nat) : Int) + (1 : Int))
 rw [decide_eq_true c221] at H
 revert A; refine go ?_; intro A H
 refine wv H (ln H U25 (ho24.rds pos_shStr)) ?_
 clear H A; intro A H
 obtain ⟨x225, hx225⟩ := get_ex (xs := (rcL (((q14)) ++ (([110, 111, 105, 115, 101, 10] : Str))))) (j := ((rcL ((q14)))).length) (by omega)
 obtain ⟨p226, hi228, hc229, b232, _, _⟩ := at_shStr (ho203.rds pos_shStr) hx225
 have hxex225 := noise_at hrc hx225
 refine wv H (ix H U25 ti9 hi228) ?_
 clear H A; intro A H
 refine wv H (lh H U9 hc229) ?_
 clear H A; refine go ?_; intro A H
 by_cases c238 : x225 = ([101, 114, 114, 111, 114, 32, 54] : Str)
 rw [decide_eq_true c238] at H
 revert A; refine go ?_; intro A H
 refine wv H (ln H U25 (ho24.rds pos_shStr)) ?_
 clear H A; intro A H
 obtain ⟨u242, hu243, hr244⟩ := Rds.part (ho203.rds pos_shStr) U25 ti9 none (some (.int .i64 (((rcL ((q14)))).length : Nat))) 0 (((rcL ((q14)))).length) (.inl ⟨rfl, rfl⟩) (.inr ⟨.i64, rfl⟩) (by omega) (by omega)
 replace hr244 := hr244.cast (ys := ((rcL (((q14)) ++ (([110, 111, 105, 115, 101, 10] : Str))))).take (((rcL ((q14)))).length)) (by simp)
 refine wv H (op_slice_t (by omega) H rfl rfl rfl hu243) ?_
 clear H A; intro A H
 refine wv H (op_move H rfl rfl) ?_
 clear H A; intro A H
 refine wc H cb12 (c_laws_likeTexts _ u242 (((rcL (((q14)) ++ (([110, 111, 105, 115, 101, 10] : Str))))).take (((rcL ((q14)))).length)) v23 ((rcL ((q14)))) hr244 (ho24.rds pos_shStr)) ?_
 clear H A; rintro v247 w248 he249 rfl A H
 obtain ⟨hx251, _⟩ := nx hx205 he249
 replace ho24 := ho24.ext he249
 replace ho203 := ho203.ext he249
 replace hc229 := hc229.ext he249
 replace hr244 := hr244.ext pos_shStr he249
 revert A; refine go ?_; intro A H
 refine ret1 H rfl rfl ?_
 clear H A
 exact ret_mk hx251 (congrArg Value.bool (by rw [hrc, List.take_left]; exact eqL_self _))
 rw [decide_eq_false c238] at H
 revert A; refine go ?_; intro A H
 refine ret1 H rfl rfl ?_
 clear H A
 exact ret_mk hx205 (congrArg Value.bool (by exact absurd hxex225 c238))
 rw [decide_eq_false c221] at H
 revert A; refine go ?_; intro A H
 refine ret1 H rfl rfl ?_
 clear H A
 exact ret_mk hx205 (congrArg Value.bool (by omega))
 rw [decide_eq_false c213] at H
 clear ho24 ho203
 revert A; refine go ?_; intro A H
 refine ret1 H rfl rfl ?_
 clear H A
 exact ret_mk hx205 (congrArg Value.bool (by exact decide_eq_true ((rcC_03 _).resolve_left (by assumption))))
 rw [decide_eq_false c88] at H
 clear ho24
 revert A; refine go ?_; intro A H
 refine ret1 H rfl rfl ?_
 clear H A
 exact ret_mk hx81 (congrArg Value.bool (by rfl))
 rw [c84] at H
 clear ho24 ho37
 revert A; refine go ?_; intro A H
 refine ret1 H rfl rfl ?_
 clear H A
 exact ret_mk hx81 (congrArg Value.bool (by simp at c84))
 rw [c69] at H
 clear ho24 ho37
 revert A; refine go ?_; intro A H
 refine ret1 H rfl rfl ?_
 clear H A
 exact ret_mk hx65 (congrArg Value.bool (by rw [eqL_self] at c69; cases c69))
 rw [decide_eq_false c58] at H
 clear ho24 ho37
 revert A; refine go ?_; intro A H
 refine ret1 H rfl rfl ?_
 clear H A
 exact ret_mk hx52 (congrArg Value.bool (by exact absurd rfl c58))




end Go.Proofs.YthbehhhblchhhaaGreat
