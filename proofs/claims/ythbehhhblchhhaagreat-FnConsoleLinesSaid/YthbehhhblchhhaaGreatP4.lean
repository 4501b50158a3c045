/- Promises that are kept. -/
import Derived.Test.YthbehhhblchhhaaGreatP3
namespace Go.Proofs.YthbehhhblchhhaaGreat
open Go Go.RowKit
set_option maxHeartbeats 16000000

theorem c_spec_l23Kept (w0 : World) (v_list : Value) (list : List (Str × Int × Int)) {S_list : Nat → Prop} (h_list : Rds shProm S_list w0 v_list list) (g0 : prK list) :
    Calls Tryz.prog 157 #[v_list] w0 (Ret w0 (fun v w1 => Own shI64 2 w0.heap.size w0.heap.size w1.heap.size w1 v (kpL list))) := by
 refine enter (N := 73) Tryz.func157 rfl rfl rfl ?_
 intro A H
 have hx0 := Ext.rfl' w0
 have hl_list := h_list.length_le
 have hwk := g0.1
 have hol := odN_len list list.length
 revert A; refine go ?_; intro A H
 refine we H (op_b0 H pos_shI64 U55 ti2) ?_
 clear H A; rintro v2 w3 ⟨ho4, he5, hob6⟩ A H
 obtain ⟨hx8, _⟩ := nx hx0 he5
 revert A; refine go ?_; intro A H
 refine wc H cb163 (c_spec_l23Order _ v_list list (h_list.ext pos_shProm hx8) (by assumption)) ?_
 clear H A; rintro v11 w12 he13 ho14 A H
 obtain ⟨hx16, _⟩ := nx hx8 he13
 replace ho4 := ho4.ext he13
 revert A; refine go ?_; intro A H
 refine loop_inv (X := Nat × Value × (List Int)) (fun ⟨i, v, t⟩ fr wl => Sl 73 fr [(0, v_list), (3, v), (4, v11), (5, .int .i64 ((i : Nat) : Int))] ∧ Ext w0 wl ∧ Own shI64 2 w3.heap.size w3.heap.size w12.heap.size wl v11 ((odN list list.length)) ∧ Own shI64 2 w0.heap.size w0.heap.size wl.heap.size wl v t ∧ w12.heap.size ≤ wl.heap.size ∧ (∀ q, Value.ownBlock v = some q → Value.ownBlock v11 ≠ some q) ∧ (i ≤ (odN list list.length).length) ∧ (kpG list ((odN list list.length).drop i) t = kpL list) ∧ (t.length ≤ i) ∧ (∀ o ∈ t, 0 ≤ o ∧ o < (list.length : Int)) ∧ ((odN list list.length).length ≤ 41)) (fun ⟨i, v, t⟩ => (odN list list.length).length - i) (0, v2, ([] : List Int)) ?_ ?_
 exact ⟨(sl H), hx16, ho14, (fi ho4), (by omega), (by intro q hq; first | (intro hb; have hq0 := ho4.lt q hq; have hq1 := ho14.lt q hb; omega)), (by omega), (by rfl), (by exact Nat.le_refl _), (by intro o ho; simp at ho), (by omega)⟩
 clear H A
 rintro ⟨i, v, t⟩ A w19 ⟨H, hx20, hf22, hf21, hzl25, hsp23, hi, hF, hl, hB, ho41⟩
 have hzhx20 := hx20.size
 revert A; refine go ?_; intro A H
 refine wv H (ln H U55 (hf22.rds pos_shI64)) ?_
 clear H A; refine go ?_; intro A H
 by_cases c30 : ((i : Nat) : Int) < ((((odN list list.length)).length : Nat) : Int)
 rw [decide_eq_true c30] at H
 revert A; refine go ?_; intro A H
 obtain ⟨x34, hx34⟩ := get_ex (xs := (odN list list.length)) (j := i) (by omega)
 obtain ⟨p35, hi37, hc38, b41, _, _⟩ := at_shI64 (hf22.rds pos_shI64) hx34
 have hobx34 := odN_in list _ _ (List.mem_of_getElem? hx34)
 refine wv H (ix H U55 ti2 hi37) ?_
 clear H A; intro A H
 refine wv H (lh H U2 hc38) ?_
 clear H A; intro A H
 refine we H (op_b1 (mk_shI64 x34 (by assumption)) H pos_shI64 U55 ti2) ?_
 clear H A; rintro v44 w45 ⟨ho46, he47, hob48⟩ A H
 obtain ⟨hx50, _⟩ := nx hx20 he47
 replace hf22 := hf22.ext he47
 replace hf21 := hf21.ext he47
 replace hc38 := hc38.ext he47
 refine we H (op_ap (ts := #[]) H U55 ti2 pos_shI64 hf21 (ho46.rds pos_shI64) flat_shI64) ?_
 clear H A; rintro v51 w52 ⟨ho53, hst54, hob55⟩ A H
 obtain ⟨hx57, _⟩ := no hx50 hf21 hst54
 replace hf22 := hf22.stpF flat_shI64 hst54 (fun q hq => hsp23 q hq)
 replace ho46 := ho46.stp hst54 (by intro q hq; have hq0 := hf21.lt q hq; omega)
 have hsp58 : ∀ q, Value.ownBlock v51 = some q → Value.ownBlock v11 ≠ some q := by intro q hq hb; have hq0 := hf22.lt q hb; rcases hob55 with h | h; (rw [h] at hq; exact hsp23 q hq hb); (rw [h] at hq; cases hq; omega)
 have hsp59 : ∀ q, Value.ownBlock v51 = some q → Value.ownBlock v44 ≠ some q := by intro q hq hb; have hq0 := ho46.lt q hb; rcases hob55 with h | h; (rw [h] at hq; first | (have hq1 := hf21.lt q hq; omega)); (rw [h] at hq; cases hq; omega)
 clear ho46
 revert A; refine go ?_; intro A H
 refine we H (op_b0 H pos_shProm U31 ti67) ?_
 clear H A; rintro v61 w62 ⟨ho63, he64, hob65⟩ A H
 obtain ⟨hx67, _⟩ := nx hx57 he64
 replace hf22 := hf22.ext he64
 replace ho53 := ho53.ext he64
 revert A; refine go ?_; intro A H
 refine loop_inv (X := Nat × Value × (List (Str × Int × Int)) × Nat) (fun ⟨k, v2, sm, wo⟩ fr wl => Sl 73 fr [(0, v_list), (3, v51), (4, v11), (5, .int .i64 ((i : Nat) : Int)), (6, v2), (7, .int .i64 ((wo : Nat) : Int)), (8, .int .i64 ((k : Nat) : Int))] ∧ Ext w0 wl ∧ Own shI64 2 w0.heap.size w0.heap.size w52.heap.size wl v51 ((t ++ [x34])) ∧ Own shI64 2 w3.heap.size w3.heap.size w12.heap.size wl v11 ((odN list list.length)) ∧ Own shProm 67 w52.heap.size w52.heap.size wl.heap.size wl v2 sm ∧ w62.heap.size ≤ wl.heap.size ∧ (k ≤ (t ++ [x34]).length) ∧ (sm = (tkP list (t ++ [x34])).take k) ∧ (sm.length = k) ∧ (∀ o ∈ (t ++ [x34]), 0 ≤ o ∧ o < (list.length : Int)) ∧ ((t ++ [x34]).length = t.length + 1) ∧ (wo = wsP (tkP list (t ++ [x34])) k) ∧ (wo < (t ++ [x34]).length)) (fun ⟨k, v2, sm, wo⟩ => (t ++ [x34]).length - k) (0, v61, ([] : List (Str × Int × Int)), 0) ?_ ?_
 exact ⟨(sl H), hx67, ho53, hf22, (fi ho63), (by omega), (by omega), (by rfl), (by rfl), (by intro o ho; rcases List.mem_append.1 ho with q | q; (exact hB o q); (have e := List.mem_singleton.1 q; subst e; omega)), (by simp), (by rfl), (by rw [List.length_append, List.length_singleton]; omega)⟩
 clear H A
 rintro ⟨k, v2, sm, wo⟩ A w71 ⟨H, hx72, hf73, hf74, hf75, hzl77, hk, hS, hsl, hT, hTl, hW, hwl⟩
 have hzhx72 := hx72.size
 revert A; refine go ?_; intro A H
 refine wv H (ln H U55 (hf73.rds pos_shI64)) ?_
 clear H A; refine go ?_; intro A H
 by_cases c82 : ((k : Nat) : Int) < ((((t ++ [x34])).length : Nat) : Int)
 rw [decide_eq_true c82] at H
 revert A; refine go ?_; intro A H
 obtain ⟨x87, hx87⟩ := get_ex (xs := (t ++ [x34])) (j := k) (by omega)
 obtain ⟨p88, hi90, hc91, b94, _, _⟩ := at_shI64 (hf73.rds pos_shI64) hx87
 have hobx87 := hT _ (List.mem_of_getElem? hx87)
 refine wv H (ix H U55 ti2 hi90) ?_
 clear H A; intro A H
 refine wv H (lh H U2 hc91) ?_
 clear H A; intro A H
 obtain ⟨x97, hx97⟩ := get_ex (xs := list) (j := x87.toNat) (by omega)
 obtain ⟨p98, hi100, hc101, b104, b105, b106, hs103⟩ := at_shProm h_list hx97
 have hbx97 := prK_at g0 hx97
 refine wv H (ix H U31 ti67 hi100) ?_
 clear H A; intro A H
 refine wv H (ls H U67 ti67 (hc101.ext hx72)) ?_
 clear H A; intro A H
 refine we H (op_b1 (mk_shProm x97 (by assumption) (by assumption) (by assumption)) H pos_shProm U31 ti67) ?_
 clear H A; rintro v109 w110 ⟨ho111, he112, hob113⟩ A H
 obtain ⟨hx115, _⟩ := nx hx72 he112
 replace hf73 := hf73.ext he112
 replace hf74 := hf74.ext he112
 replace hf75 := hf75.ext he112
 replace hc91 := hc91.ext he112
 refine we H (op_ap (ts := #[]) H U31 ti67 pos_shProm hf75 (ho111.rds pos_shProm) flat_shProm) ?_
 clear H A; rintro v116 w117 ⟨ho118, hst119, hob120⟩ A H
 obtain ⟨hx122, _⟩ := no hx115 hf75 hst119
 replace hf73 := hf73.stp hst119 (by intro q hq; have hq0 := hf75.lt q hq; omega)
 replace hf74 := hf74.stp hst119 (by intro q hq; have hq0 := hf75.lt q hq; omega)
 replace ho111 := ho111.stp hst119 (by intro q hq; have hq0 := hf75.lt q hq; omega)
 have hsp123 : ∀ q, Value.ownBlock v116 = some q → Value.ownBlock v109 ≠ some q := by intro q hq hb; have hq0 := ho111.lt q hb; rcases hob120 with h | h; (rw [h] at hq; first | (have hq1 := hf75.lt q hq; omega)); (rw [h] at hq; cases hq; omega)
 revert A; refine go ?_; intro A H
 clear ho111
 refine dre Ext follows_mixed ?_
 intro w125 he126 hs128
 obtain ⟨hx127, _⟩ := nx hx122 he126
 replace hf73 := hf73.ext he126
 replace hf74 := hf74.ext he126
 replace ho118 := ho118.ext he126
 revert A; refine dgo [0, 1, 2] hs128 ?_; intro A H
 obtain ⟨p132, hi134, hc135, b138, _, _⟩ := at_shI64 (hf73.rds pos_shI64) hx87
 refine dw 3 H rfl hs128 (ix H U55 ti2 hi134) ?_
 clear H A; intro A H
 refine dv 4 H rfl hs128 (fun w' hw' => lh H U2 (hc135.ext hw')) ?_
 clear H A; intro A H
 refine dw 5 H rfl hs128 (ix H U31 ti67 hi100) ?_
 clear H A; intro A H
 refine dw 6 H rfl hs128 (fa H U67 ti2) ?_
 clear H A; intro A H
 refine dv 7 H rfl hs128 (fun w' hw' => lf 2 H U2 (hc101.ext (hx127.trans' hw'))) ?_
 clear H A; refine dgo [8, 9, 10] hs128 ?_; intro A H
 obtain ⟨x147, hx147⟩ := get_ex (xs := (t ++ [x34])) (j := wo) (by omega)
 obtain ⟨p148, hi150, hc151, b154, _, _⟩ := at_shI64 (hf73.rds pos_shI64) hx147
 have hobx147 := hT _ (List.mem_of_getElem? hx147)
 refine dw 11 H rfl hs128 (ix H U55 ti2 hi150) ?_
 clear H A; intro A H
 refine dv 12 H rfl hs128 (fun w' hw' => lh H U2 (hc151.ext hw')) ?_
 clear H A; intro A H
 obtain ⟨x157, hx157⟩ := get_ex (xs := list) (j := x147.toNat) (by omega)
 obtain ⟨p158, hi160, hc161, b164, b165, b166, hs163⟩ := at_shProm h_list hx157
 have hbx157 := prK_at g0 hx157
 refine dw 13 H rfl hs128 (ix H U31 ti67 hi160) ?_
 clear H A; intro A H
 refine dw 14 H rfl hs128 (fa H U67 ti2) ?_
 clear H A; intro A H
 refine dv 15 H rfl hs128 (fun w' hw' => lf 2 H U2 (hc161.ext (hx127.trans' hw'))) ?_
 clear H A; intro A H
 refine dw 16 H rfl hs128 (op_geq H rfl rfl rfl) ?_
 clear H A; intro A H
 refine dr_end (by kernel_rfl) ?_
 refine then_n ?_
 by_cases c171 : x157.2.2 ≤ x97.2.2
 rw [decide_eq_true c171] at H
 clear hc135 hc151
 revert A; refine go ?_; intro A H
 refine wv H ((op_add H rfl rfl rfl).int (IntWalk.i64_in _ (by omega))) ?_
 clear H A; refine go ?_; intro A H
 refine ⟨((k + 1), v116, (sm ++ [x97]), k), ?_, ?_⟩
 refine ⟨(sl H), hx127, hf73, hf74, (fi ho118), (by omega), (by omega), (by rw [take_snoc (tkP_at hx87 hx97), ← hS]), (by simp; omega), (by exact hT), (by exact hTl), (by rw [wsP, ← hW, mnP_eq (tkP_at hx147 hx157), mnP_eq (tkP_at hx87 hx97)]; rw [if_pos c171]), (by omega)⟩
 show ((t ++ [x34]).length - ((k + 1)) : Nat) < (t ++ [x34]).length - k; omega
 rw [decide_eq_false c171] at H
 clear hc135 hc151
 revert A; refine go ?_; intro A H
 refine wv H ((op_add H rfl rfl rfl).int (IntWalk.i64_in _ (by omega))) ?_
 clear H A; refine go ?_; intro A H
 refine ⟨((k + 1), v116, (sm ++ [x97]), wo), ?_, ?_⟩
 refine ⟨(sl H), hx127, hf73, hf74, (fi ho118), (by omega), (by omega), (by rw [take_snoc (tkP_at hx87 hx97), ← hS]), (by simp; omega), (by exact hT), (by exact hTl), (by rw [wsP, ← hW, mnP_eq (tkP_at hx147 hx157), mnP_eq (tkP_at hx87 hx97)]; rw [if_neg c171]), (by omega)⟩
 show ((t ++ [x34]).length - ((k + 1)) : Nat) < (t ++ [x34]).length - k; omega
 rw [decide_eq_false c82] at H
 revert A; refine go ?_; intro A H
 refine wc H cb150 (c_spec_l23Breach _ v2 sm (hf75.rds pos_shProm) (by rw [hS, List.take_of_length_le (by rw [tkP_len]; omega)]; exact prK_tk g0 (by omega) hT)) ?_
 clear H A; rintro v181 w182 he183 rfl A H
 obtain ⟨hx185, _⟩ := nx hx72 he183
 replace hf73 := hf73.ext he183
 replace hf74 := hf74.ext he183
 replace hf75 := hf75.ext he183
 revert A; refine go ?_; intro A H
 by_cases c187 : (0 : Int) < (brS sm : Int)
 rw [decide_eq_true c187] at H
 refine cond_t H rfl ?_
 clear hf75
 refine dre Ext follows_mixed ?_
 intro w188 he189 hs191
 obtain ⟨hx190, _⟩ := nx hx185 he189
 replace hf73 := hf73.ext he189
 replace hf74 := hf74.ext he189
 revert A; refine dgo [0, 1] hs191 ?_; intro A H
 obtain ⟨u194, hu195, hpp197, hr196⟩ := Own.partw hf73 pos_shI64 (by omega) U55 ti2 none (some (.int .i64 (wo : Nat))) 0 wo (.inl ⟨rfl, rfl⟩) (.inr ⟨.i64, rfl⟩) (by omega) (by omega)
 replace hr196 := hr196.cast (ys := ((t ++ [x34])).take wo) (by simp)
 refine dw 2 H rfl hs191 (op_slice_t (by omega) H rfl rfl rfl hu195) ?_
 clear H A; refine dgo [4, 5] hs191 ?_; intro A H
 refine dw 6 H rfl hs191 ((op_add H rfl rfl rfl).int (IntWalk.i64_in _ (by omega))) ?_
 clear H A; intro A H
 obtain ⟨u202, hu203, hpp205, hr204⟩ := Own.partw hf73 pos_shI64 (by omega) U55 ti2 (some (.int .i64 ((wo + 1) : Nat))) none ((wo + 1)) (((t ++ [x34])).length) (.inr ⟨.i64, rfl⟩) (.inl ⟨rfl, rfl⟩) (by omega) (by omega)
 replace hr204 := hr204.cast (ys := ((t ++ [x34])).drop ((wo + 1))) (by rw [List.take_length])
 refine dw 7 H rfl hs191 (op_slice_f (by omega) H rfl rfl rfl hu203) ?_
 clear H A; intro A H
 refine dr_one (i := 3) (by kernel_rfl) ?_
 refine pc H cb164 rfl (c_spec_l01Own _ u194 (((t ++ [x34])).take wo) (hr196.ext pos_shI64 hs191) (by simp; omega)) ?_
 clear H A; rintro v207 w208 he209 ho210 A H
 have hs212 := hs191.trans' he209
 obtain ⟨hx213, _⟩ := nx hx190 he209
 refine ⟨hs212, ?_⟩
 replace hf73 := hf73.ext hs212
 replace hf74 := hf74.ext hs212
 replace hr196 := hr196.ext pos_shI64 hs212
 replace hr204 := hr204.ext pos_shI64 hs212
 refine dr_narrow (S' := fun w' => StpL w208 w' (fun i => Value.ownBlock v207 = some i)) (fun w' h' => hs212.freshL h' (by intro i q; first | (right; have hq0 := ho210.lt _ q; omega))) _ _ _ _ ?_
 have hs214 : Ext w208 w208 := Ext.rfl' _
 refine dr_one (i := 8) (by kernel_rfl) ?_
 refine pe H rfl (op_ap (ts := #[]) H U55 ti2 pos_shI64 ho210 hr204 flat_shI64) ?_
 clear H A; rintro v215 w216 ⟨ho217, hst218, hob219⟩ A H
 obtain ⟨hx221, _⟩ := no hx213 ho210 hst218
 replace hf73 := hf73.stp hst218 (by intro q hq; have hq0 := ho210.lt q hq; omega)
 replace hf74 := hf74.stp hst218 (by intro q hq; have hq0 := ho210.lt q hq; omega)
 replace hr196 := hr196.stp pos_shI64 hst218 (by intro q hq; have hq0 := ho210.lt q hq; exact not_iv (by omega))
 replace hr204 := hr204.stp pos_shI64 hst218 (by intro q hq; have hq0 := ho210.lt q hq; exact not_iv (by omega))
 have hsp222 : ∀ q, Value.ownBlock v215 = some q → Value.ownBlock v51 ≠ some q := by intro q hq hb; have hq0 := hf73.lt q hb; rcases hob219 with h | h; (rw [h] at hq; first | (have hq1 := ho210.lt q hq; omega)); (rw [h] at hq; cases hq; omega)
 have hsp223 : ∀ q, Value.ownBlock v215 = some q → Value.ownBlock v11 ≠ some q := by intro q hq hb; have hq0 := hf74.lt q hb; rcases hob219 with h | h; (rw [h] at hq; first | (have hq1 := ho210.lt q hq; omega)); (rw [h] at hq; cases hq; omega)
 have hs224 := (StpL.of_ext (B := fun i => Value.ownBlock v207 = some i) hs214).trans' (Stp.toL hst218 (by intro q hq; exact hq))
 refine ⟨hs224, ?_⟩
 refine dr_narrow (S' := fun w' => Ext w216 w') (fun w' h' => StpL.trans' hs224 (StpL.of_ext h')) _ _ _ _ ?_
 have hs225 : Ext w216 w216 := Ext.rfl' _
 refine dw 9 H rfl hs225 (op_assign H rfl rfl) ?_
 clear H A; intro A H
 refine dr_end (by kernel_rfl) ?_
 clear hf73 hr196 hr204
 revert A; refine go ?_; intro A H
 refine wv H ((op_add H rfl rfl rfl).int (IntWalk.i64_in _ (by omega))) ?_
 clear H A; refine go ?_; intro A H
 have hse : sm = tkP list (t ++ [x34]) := by rw [hS, List.take_of_length_le (by rw [tkP_len]; omega)]
 have hbb := brS_bd (prK_tk g0 (by omega) hT)
 rw [hse] at c187
 have hWE : wsP (tkP list (t ++ [x34])) (t ++ [x34]).length = wo := by rw [hW]; congr 1; omega
 have hks : ((((((t ++ [x34])).take wo)) ++ ((t ++ [x34])).drop ((wo + 1)))) = kpS list t x34 := by rw [kpS_no (by omega)]; unfold cutL; (rw [hWE]; done)
 refine ⟨((i + 1), v215, (((((t ++ [x34])).take wo)) ++ ((t ++ [x34])).drop ((wo + 1)))), ?_, ?_⟩
 refine ⟨(sl H), hx221, hf74, (fi ho217), (by omega), (by intro q hq; (intro hb; have hq0 := ho217.lt q hq; have hq1 := hf74.lt q hb; omega)), (by omega), (by rw [drop_cons hx34, kpG] at hF; rw [hks]; exact hF), (by rw [hks]; exact Nat.le_trans (kpS_len _ _ _) (by omega)), (by rw [hks]; intro o ho; rcases kpS_mem ho with e | e; (subst e; omega); (exact hB o e)), (by exact ho41)⟩
 show ((odN list list.length).length - ((i + 1)) : Nat) < (odN list list.length).length - i; omega
 rw [decide_eq_false c187] at H
 clear hf75
 revert A; refine go ?_; intro A H
 refine wv H ((op_add H rfl rfl rfl).int (IntWalk.i64_in _ (by omega))) ?_
 clear H A; refine go ?_; intro A H
 have hse : sm = tkP list (t ++ [x34]) := by rw [hS, List.take_of_length_le (by rw [tkP_len]; omega)]
 have hbb := brS_bd (prK_tk g0 (by omega) hT)
 rw [hse] at c187
 have hks : ((t ++ [x34])) = kpS list t x34 := (kpS_ok (by omega)).symm
 refine ⟨((i + 1), v51, (t ++ [x34])), ?_, ?_⟩
 refine ⟨(sl H), hx185, hf74, (fi hf73), (by omega), (by intro q hq; exact hsp58 q hq), (by omega), (by rw [drop_cons hx34, kpG] at hF; rw [hks]; exact hF), (by rw [hks]; exact Nat.le_trans (kpS_len _ _ _) (by omega)), (by rw [hks]; intro o ho; rcases kpS_mem ho with e | e; (subst e; omega); (exact hB o e)), (by exact ho41)⟩
 show ((odN list list.length).length - ((i + 1)) : Nat) < (odN list list.length).length - i; omega
 rw [decide_eq_false c30] at H
 clear hf22
 revert A; refine go ?_; intro A H
 refine ret1 H rfl rfl ?_
 clear H A
 refine ret_mk hx20 ?_
 refine (fi hf21).cast ?_
 rw [drop_nil (by omega), kpG] at hF; exact hF



theorem c_impl_keptNames (w0 : World) (v_list : Value) (list : List (Str × Int × Int)) {S_list : Nat → Prop} (h_list : Rds shProm S_list w0 v_list list) (g0 : prK list) :
    Calls Tryz.prog 121 #[v_list] w0 (Ret w0 (fun v w1 => Own shStr 9 w0.heap.size w0.heap.size w1.heap.size w1 v (ktN list (kpL list) list.length))) := by
 refine enter (N := 95) Tryz.func121 rfl rfl rfl ?_
 intro A H
 have hx0 := Ext.rfl' w0
 have hl_list := h_list.length_le
 have hwk := g0.1
 have hol := odN_len list list.length
 revert A; refine go ?_; intro A H
 refine wc H cb144 (c_impl_dayOrder _ v_list list (h_list.ext pos_shProm hx0) (by assumption)) ?_
 clear H A; rintro v4 w5 he6 ho7 A H
 obtain ⟨hx9, _⟩ := nx hx0 he6
 refine wv H (ln H U135 (ho7.rds pos_shI64)) ?_
 clear H A; refine go ?_; intro A H
 refine loop_inv (X := Nat × Value × (List Int)) (fun ⟨i, v, t⟩ fr wl => Sl 95 fr [(0, v_list), (3, v), (17, v4), (18, .int .i64 ((((odN list list.length)).length : Nat) : Int)), (19, .int .i64 ((i : Nat) : Int))] ∧ Ext w0 wl ∧ Own shI64 3 w0.heap.size w0.heap.size w5.heap.size wl v4 ((odN list list.length)) ∧ Own shI64 3 w5.heap.size w5.heap.size wl.heap.size wl v t ∧ w5.heap.size ≤ wl.heap.size ∧ (∀ q, Value.ownBlock v = some q → Value.ownBlock v4 ≠ some q) ∧ (i ≤ (odN list list.length).length) ∧ (kpG list ((odN list list.length).drop i) t = kpL list) ∧ (t.length ≤ i) ∧ (∀ o ∈ t, 0 ≤ o ∧ o < (list.length : Int)) ∧ ((odN list list.length).length ≤ 41)) (fun ⟨i, v, t⟩ => (odN list list.length).length - i) (0, (.slice none 0 0), []) ?_ ?_
 exact ⟨(sl H), hx9, ho7, (Own.nil _ _ _ _ _ _), (by omega), (by intro q hq; cases hq), (by omega), (by rfl), (by exact Nat.le_refl _), (by intro o ho; simp at ho), (by omega)⟩
 clear H A
 rintro ⟨i, v, t⟩ A w12 ⟨H, hx13, hf15, hf14, hzl18, hsp16, hi, hF, hl, hB, ho41⟩
 have hzhx13 := hx13.size
 revert A; refine go ?_; intro A H
 by_cases c20 : ((i : Nat) : Int) < ((((odN list list.length)).length : Nat) : Int)
 rw [decide_eq_true c20] at H
 revert A; refine go ?_; intro A H
 obtain ⟨x21, hx21⟩ := get_ex (xs := (odN list list.length)) (j := i) (by omega)
 obtain ⟨p22, hi24, hc25, b28, _, _⟩ := at_shI64 (hf15.rds pos_shI64) hx21
 have hobx21 := odN_in list _ _ (List.mem_of_getElem? hx21)
 refine wv H (ix H U135 ti3 hi24) ?_
 clear H A; intro A H
 refine wv H (lh H U3 hc25) ?_
 clear H A; intro A H
 clear hc25
 revert A; refine go ?_; intro A H
 refine we H (op_b1 (mk_shI64 x21 (by assumption)) H pos_shI64 U135 ti3) ?_
 clear H A; rintro v34 w35 ⟨ho36, he37, hob38⟩ A H
 obtain ⟨hx40, _⟩ := nx hx13 he37
 replace hf15 := hf15.ext he37
 replace hf14 := hf14.ext he37
 refine we H (op_ap (ts := #[]) H U135 ti3 pos_shI64 hf14 (ho36.rds pos_shI64) flat_shI64) ?_
 clear H A; rintro v41 w42 ⟨ho43, hst44, hob45⟩ A H
 obtain ⟨hx47, _⟩ := no hx40 hf14 hst44
 replace hf15 := hf15.stp hst44 (by intro q hq; have hq0 := hf14.lt q hq; omega)
 replace ho36 := ho36.stp hst44 (by intro q hq; have hq0 := hf14.lt q hq; omega)
 have hsp48 : ∀ q, Value.ownBlock v41 = some q → Value.ownBlock v4 ≠ some q := by intro q hq hb; have hq0 := hf15.lt q hb; rcases hob45 with h | h; (rw [h] at hq; (have hq1 := hf14.lt q hq; omega)); (rw [h] at hq; cases hq; omega)
 have hsp49 : ∀ q, Value.ownBlock v41 = some q → Value.ownBlock v34 ≠ some q := by intro q hq hb; have hq0 := ho36.lt q hb; rcases hob45 with h | h; (rw [h] at hq; first | (have hq1 := hf14.lt q hq; omega)); (rw [h] at hq; cases hq; omega)
 clear ho36
 revert A; refine go ?_; intro A H
 refine wv H (ln H U135 (ho43.rds pos_shI64)) ?_
 clear H A; refine go ?_; intro A H
 refine loop_inv (X := Nat × Value × (List (Str × Int × Int))) (fun ⟨kn, v2, sm⟩ fr wl => Sl 95 fr [(0, v_list), (3, v41), (6, v2), (17, v4), (18, .int .i64 ((((odN list list.length)).length : Nat) : Int)), (19, .int .i64 ((i : Nat) : Int)), (27, v41), (28, .int .i64 ((((t ++ [x21])).length : Nat) : Int)), (29, .int .i64 ((kn : Nat) : Int))] ∧ Ext w0 wl ∧ Own shI64 3 w5.heap.size w5.heap.size w42.heap.size wl v41 ((t ++ [x21])) ∧ Own shI64 3 w0.heap.size w0.heap.size w5.heap.size wl v4 ((odN list list.length)) ∧ Own shProm 67 w42.heap.size w42.heap.size wl.heap.size wl v2 sm ∧ w42.heap.size ≤ wl.heap.size ∧ (kn ≤ (t ++ [x21]).length) ∧ (sm = (tkP list (t ++ [x21])).take kn) ∧ (sm.length = kn) ∧ (∀ o ∈ (t ++ [x21]), 0 ≤ o ∧ o < (list.length : Int)) ∧ ((t ++ [x21]).length = t.length + 1)) (fun ⟨kn, v2, sm⟩ => (t ++ [x21]).length - kn) (0, (.slice none 0 0), []) ?_ ?_
 exact ⟨(sl H), hx47, ho43, hf15, (Own.nil _ _ _ _ _ _), (by omega), (by omega), (by rfl), (by rfl), (by intro o ho; rcases List.mem_append.1 ho with q | q; (exact hB o q); (have e := List.mem_singleton.1 q; subst e; omega)), (by simp)⟩
 clear H A
 rintro ⟨kn, v2, sm⟩ A w55 ⟨H, hx56, hf57, hf59, hf58, hzl61, hkn, hS, hsl, hT, hTl⟩
 have hzhx56 := hx56.size
 revert A; refine go ?_; intro A H
 by_cases c63 : ((kn : Nat) : Int) < ((((t ++ [x21])).length : Nat) : Int)
 rw [decide_eq_true c63] at H
 revert A; refine go ?_; intro A H
 obtain ⟨x64, hx64⟩ := get_ex (xs := (t ++ [x21])) (j := kn) (by omega)
 obtain ⟨p65, hi67, hc68, b71, _, _⟩ := at_shI64 (hf57.rds pos_shI64) hx64
 have hobx64 := hT _ (List.mem_of_getElem? hx64)
 refine wv H (ix H U135 ti3 hi67) ?_
 clear H A; intro A H
 refine wv H (lh H U3 hc68) ?_
 clear H A; intro A H
 clear hc68
 revert A; refine go ?_; intro A H
 obtain ⟨x78, hx78⟩ := get_ex (xs := list) (j := x64.toNat) (by omega)
 obtain ⟨p79, hi81, hc82, b85, b86, b87, hs84⟩ := at_shProm h_list hx78
 have hbx78 := prK_at g0 hx78
 refine wv H (ix H U31 ti67 hi81) ?_
 clear H A; intro A H
 refine wv H (ls H U67 ti67 (hc82.ext hx56)) ?_
 clear H A; intro A H
 refine we H (op_b1 (mk_shProm x78 (by assumption) (by assumption) (by assumption)) H pos_shProm U31 ti67) ?_
 clear H A; rintro v90 w91 ⟨ho92, he93, hob94⟩ A H
 obtain ⟨hx96, _⟩ := nx hx56 he93
 replace hf57 := hf57.ext he93
 replace hf59 := hf59.ext he93
 replace hf58 := hf58.ext he93
 refine we H (op_ap (ts := #[]) H U31 ti67 pos_shProm hf58 (ho92.rds pos_shProm) flat_shProm) ?_
 clear H A; rintro v97 w98 ⟨ho99, hst100, hob101⟩ A H
 obtain ⟨hx103, _⟩ := no hx96 hf58 hst100
 replace hf57 := hf57.stp hst100 (by intro q hq; have hq0 := hf58.lt q hq; omega)
 replace hf59 := hf59.stp hst100 (by intro q hq; have hq0 := hf58.lt q hq; omega)
 replace ho92 := ho92.stp hst100 (by intro q hq; have hq0 := hf58.lt q hq; omega)
 have hsp104 : ∀ q, Value.ownBlock v97 = some q → Value.ownBlock v90 ≠ some q := by intro q hq hb; have hq0 := ho92.lt q hb; rcases hob101 with h | h; (rw [h] at hq; first | (have hq1 := hf58.lt q hq; omega)); (rw [h] at hq; cases hq; omega)
 clear ho92
 revert A; refine go ?_; intro A H
 refine wv H ((op_add H rfl rfl rfl).int (IntWalk.i64_in _ (by omega))) ?_
 clear H A; refine go ?_; intro A H
 refine ⟨((kn + 1), v97, (sm ++ [x78])), ?_, ?_⟩
 refine ⟨(sl H), hx103, hf57, hf59, (fi ho99), (by omega), (by omega), (by rw [take_snoc (tkP_at hx64 hx78), ← hS]), (by simp; omega), (by exact hT), (by exact hTl)⟩
 show ((t ++ [x21]).length - ((kn + 1)) : Nat) < (t ++ [x21]).length - kn; omega
 rw [decide_eq_false c63] at H
 revert A; refine go ?_; intro A H
 refine wc H cb119 (c_impl_firstBreach _ v2 sm (hf58.rds pos_shProm) (by rw [hS, List.take_of_length_le (by rw [tkP_len]; omega)]; exact prK_tk g0 (by omega) hT)) ?_
 clear H A; rintro v109 w110 he111 rfl A H
 obtain ⟨hx113, _⟩ := nx hx56 he111
 replace hf57 := hf57.ext he111
 replace hf59 := hf59.ext he111
 replace hf58 := hf58.ext he111
 revert A; refine go ?_; intro A H
 by_cases c115 : (brS sm : Int) = (0 : Int)
 rw [decide_eq_true c115] at H
 clear hf58
 revert A; refine go ?_; intro A H
 refine wv H ((op_add H rfl rfl rfl).int (IntWalk.i64_in _ (by omega))) ?_
 clear H A; refine go ?_; intro A H
 have hse : sm = tkP list (t ++ [x21]) := by rw [hS, List.take_of_length_le (by rw [tkP_len]; omega)]
 have hbb := brS_bd (prK_tk g0 (by omega) hT)
 rw [hse] at c115
 have hks : ((t ++ [x21])) = kpS list t x21 := (kpS_ok (by omega)).symm
 refine ⟨((i + 1), v41, (t ++ [x21])), ?_, ?_⟩
 refine ⟨(sl H), hx113, hf59, (fi hf57), (by omega), (by intro q hq; (intro hb; have hq0 := hf57.lt q hq; have hq1 := hf59.lt q hb; omega)), (by omega), (by rw [drop_cons hx21, kpG] at hF; rw [hks]; exact hF), (by rw [hks]; exact Nat.le_trans (kpS_len _ _ _) (by omega)), (by rw [hks]; intro o ho; rcases kpS_mem ho with e | e; (subst e; omega); (exact hB o e)), (by exact ho41)⟩
 show ((odN list list.length).length - ((i + 1)) : Nat) < (odN list list.length).length - i; omega
 rw [decide_eq_false c115] at H
 revert A; refine go ?_; intro A H
 refine wv H (ln H U135 (hf57.rds pos_shI64)) ?_
 clear H A; refine go ?_; intro A H
 refine loop_inv (X := Nat × Nat) (fun ⟨k, wo⟩ fr wl => Sl 95 fr [(0, v_list), (3, v41), (6, v2), (9, .int .i64 ((wo : Nat) : Int)), (17, v4), (18, .int .i64 ((((odN list list.length)).length : Nat) : Int)), (19, .int .i64 ((i : Nat) : Int)), (45, .int .i64 ((((t ++ [x21])).length : Nat) : Int)), (46, .int .i64 ((k : Nat) : Int))] ∧ Ext w0 wl ∧ Own shI64 3 w5.heap.size w5.heap.size w42.heap.size wl v41 ((t ++ [x21])) ∧ Own shProm 67 w42.heap.size w42.heap.size w55.heap.size wl v2 sm ∧ Own shI64 3 w0.heap.size w0.heap.size w5.heap.size wl v4 ((odN list list.length)) ∧ w110.heap.size ≤ wl.heap.size ∧ (k ≤ (t ++ [x21]).length) ∧ (wo = wsP sm k) ∧ (wo < (t ++ [x21]).length)) (fun ⟨k, wo⟩ => (t ++ [x21]).length - k) (0, 0) ?_ ?_
 exact ⟨(sl H), hx113, hf57, hf58, hf59, (by omega), (by omega), (by rfl), (by omega)⟩
 clear H A
 rintro ⟨k, wo⟩ A w122 ⟨H, hx123, hf124, hf125, hf126, hzl128, hk, hW, hwl⟩
 have hzhx123 := hx123.size
 revert A; refine go ?_; intro A H
 by_cases c130 : ((k : Nat) : Int) < ((((t ++ [x21])).length : Nat) : Int)
 rw [decide_eq_true c130] at H
 revert A; refine go ?_; intro A H
 refine dre Ext follows_mixed ?_
 intro w133 he134 hs136
 obtain ⟨hx135, _⟩ := nx hx123 he134
 replace hf124 := hf124.ext he134
 replace hf125 := hf125.ext he134
 replace hf126 := hf126.ext he134
 revert A; refine dgo [0, 1] hs136 ?_; intro A H
 obtain ⟨x139, hx139⟩ := get_ex (xs := sm) (j := k) (by omega)
 obtain ⟨p140, hi142, hc143, b146, b147, b148, _, _⟩ := at_shProm (hf125.rds pos_shProm) hx139
 refine dw 2 H rfl hs136 (ix H U31 ti67 hi142) ?_
 clear H A; intro A H
 refine dw 3 H rfl hs136 (fa H U67 ti2) ?_
 clear H A; intro A H
 refine dv 4 H rfl hs136 (fun w' hw' => lf 2 H U2 (hc143.ext hw')) ?_
 clear H A; refine dgo [5, 6] hs136 ?_; intro A H
 obtain ⟨x154, hx154⟩ := get_ex (xs := sm) (j := wo) (by omega)
 obtain ⟨p155, hi157, hc158, b161, b162, b163, _, _⟩ := at_shProm (hf125.rds pos_shProm) hx154
 refine dw 7 H rfl hs136 (ix H U31 ti67 hi157) ?_
 clear H A; intro A H
 refine dw 8 H rfl hs136 (fa H U67 ti2) ?_
 clear H A; intro A H
 refine dv 9 H rfl hs136 (fun w' hw' => lf 2 H U2 (hc158.ext hw')) ?_
 clear H A; intro A H
 refine dw 10 H rfl hs136 (op_geq H rfl rfl rfl) ?_
 clear H A; intro A H
 refine dr_end (by kernel_rfl) ?_
 replace hf124 := hf124.ext hs136
 replace hf125 := hf125.ext hs136
 replace hf126 := hf126.ext hs136
 replace hc143 := hc143.ext hs136
 replace hc158 := hc158.ext hs136
 refine then_n ?_
 by_cases c168 : x154.2.2 ≤ x139.2.2
 rw [decide_eq_true c168] at H
 clear hc143 hc158
 revert A; refine go ?_; intro A H
 refine wv H ((op_add H rfl rfl rfl).int (IntWalk.i64_in _ (by omega))) ?_
 clear H A; refine go ?_; intro A H
 refine ⟨((k + 1), k), ?_, ?_⟩
 refine ⟨(sl H), hx135, hf124, hf125, hf126, (by omega), (by omega), (by rw [wsP, ← hW, mnP_eq hx154, mnP_eq hx139]; rw [if_pos c168]), (by omega)⟩
 show ((t ++ [x21]).length - ((k + 1)) : Nat) < (t ++ [x21]).length - k; omega
 rw [decide_eq_false c168] at H
 clear hc143 hc158
 revert A; refine go ?_; intro A H
 refine wv H ((op_add H rfl rfl rfl).int (IntWalk.i64_in _ (by omega))) ?_
 clear H A; refine go ?_; intro A H
 refine ⟨((k + 1), wo), ?_, ?_⟩
 refine ⟨(sl H), hx135, hf124, hf125, hf126, (by omega), (by omega), (by rw [wsP, ← hW, mnP_eq hx154, mnP_eq hx139]; rw [if_neg c168]), (by omega)⟩
 show ((t ++ [x21]).length - ((k + 1)) : Nat) < (t ++ [x21]).length - k; omega
 rw [decide_eq_false c130] at H
 revert A; refine go ?_; intro A H
 clear hf125
 refine dre (fun wa_ wb_ => Stp wa_ wb_ (Value.ownBlock v41)) follows_mixed ?_
 intro w175 he176 hs178
 obtain ⟨hx177, _⟩ := nx hx123 he176
 replace hf124 := hf124.ext he176
 replace hf126 := hf126.ext he176
 revert A; refine dgo [0, 1] (Stp.of_ext hs178 _) ?_; intro A H
 obtain ⟨u181, hu182, hpp184, hr183⟩ := Own.partw hf124 pos_shI64 (by omega) U135 ti3 none (some (.int .i64 (wo : Nat))) 0 wo (.inl ⟨rfl, rfl⟩) (.inr ⟨.i64, rfl⟩) (by omega) (by omega)
 replace hr183 := hr183.cast (ys := ((t ++ [x21])).take wo) (by simp)
 refine dw 2 H rfl (Stp.of_ext hs178 _) (op_slice_t (by omega) H rfl rfl rfl hu182) ?_
 clear H A; refine dgo [3, 4] (Stp.of_ext hs178 _) ?_; intro A H
 refine dw 5 H rfl (Stp.of_ext hs178 _) ((op_add H rfl rfl rfl).int (IntWalk.i64_in _ (by omega))) ?_
 clear H A; intro A H
 obtain ⟨u189, hu190, hpp192, hr191⟩ := Own.partw hf124 pos_shI64 (by omega) U135 ti3 (some (.int .i64 ((wo + 1) : Nat))) none ((wo + 1)) (((t ++ [x21])).length) (.inr ⟨.i64, rfl⟩) (.inl ⟨rfl, rfl⟩) (by omega) (by omega)
 replace hr191 := hr191.cast (ys := ((t ++ [x21])).drop ((wo + 1))) (by rw [List.take_length])
 refine dw 6 H rfl (Stp.of_ext hs178 _) (op_slice_f (by omega) H rfl rfl rfl hu190) ?_
 clear H A; intro A H
 refine dr_one (i := 7) (by kernel_rfl) ?_
 replace hf124 := hf124.ext hs178
 replace hf126 := hf126.ext hs178
 replace hr183 := hr183.ext pos_shI64 hs178
 replace hr191 := hr191.ext pos_shI64 hs178
 refine pe H rfl (op_del (s := shI64) (ts := #[]) H rfl U135 ti3 rfl rfl hf124 (by omega) hpp184 hpp192 (by omega)) ?_
 clear H A; rintro v194 w195 ⟨ho196, hst197, hob198, hz199⟩ A H
 have hs201 := (Stp.of_ext hs178 (Value.ownBlock v41)).trans' hst197
 obtain ⟨hx202, _⟩ := no hx177 hf124 hst197
 replace hf126 := hf126.stp hst197 (by intro q hq; have hq0 := hf124.lt q hq; omega)
 clear hf124
 refine ⟨hs201, ?_⟩
 refine dw 8 H rfl hs201 (op_assign H rfl rfl) ?_
 clear H A; intro A H
 refine dr_end (by kernel_rfl) ?_
 revert A; refine go ?_; intro A H
 refine wv H ((op_add H rfl rfl rfl).int (IntWalk.i64_in _ (by omega))) ?_
 clear H A; refine go ?_; intro A H
 have hse : sm = tkP list (t ++ [x21]) := by rw [hS, List.take_of_length_le (by rw [tkP_len]; omega)]
 have hbb := brS_bd (prK_tk g0 (by omega) hT)
 rw [hse] at c115
 have hWE : wsP (tkP list (t ++ [x21])) (t ++ [x21]).length = wo := by rw [hW, hse]; congr 1; omega
 have hks : ((((t ++ [x21])).take (wo - 0) ++ (((t ++ [x21])).drop ((wo + 1))).take (((t ++ [x21])).length - (wo + 1)))) = kpS list t x21 := by rw [kpS_no (by omega)]; unfold cutL; (rw [hWE, Nat.sub_zero, List.take_of_length_le (l := (t ++ [x21]).drop (wo + 1)) (Nat.le_of_eq List.length_drop)])
 refine ⟨((i + 1), v194, (((t ++ [x21])).take (wo - 0) ++ (((t ++ [x21])).drop ((wo + 1))).take (((t ++ [x21])).length - (wo + 1)))), ?_, ?_⟩
 refine ⟨(sl H), hx202, hf126, (fi ho196), (by omega), (by intro q hq; first | (intro hb; have hq0 := ho196.lt q hq; have hq1 := hf126.lt q hb; omega)), (by omega), (by rw [drop_cons hx21, kpG] at hF; rw [hks]; exact hF), (by rw [hks]; exact Nat.le_trans (kpS_len _ _ _) (by omega)), (by rw [hks]; intro o ho; rcases kpS_mem ho with e | e; (subst e; omega); (exact hB o e)), (by exact ho41)⟩
 show ((odN list list.length).length - ((i + 1)) : Nat) < (odN list list.length).length - i; omega
 rw [decide_eq_false c20] at H
 clear hf15
 revert A; refine go ?_; intro A H
 refine wv H (ln H U31 h_list) ?_
 clear H A; refine go ?_; intro A H
 refine loop_inv (X := Nat × Value × (List Str)) (fun ⟨i, v2, acc⟩ fr wl => Sl 95 fr [(3, v), (11, v2), (71, v_list), (72, .int .i64 ((list.length : Nat) : Int)), (73, .int .i64 ((i : Nat) : Int))] ∧ Ext w0 wl ∧ Own shI64 3 w5.heap.size w5.heap.size w12.heap.size wl v t ∧ Own shStr 9 w12.heap.size w12.heap.size wl.heap.size wl v2 acc ∧ w12.heap.size ≤ wl.heap.size ∧ (i ≤ list.length) ∧ (acc = ktN list (kpL list) i) ∧ (t = kpL list) ∧ (t.length ≤ 41) ∧ (acc.length ≤ 41 * i)) (fun ⟨i, v2, acc⟩ => list.length - i) (0, (.slice none 0 0), []) ?_ ?_
 exact ⟨(sl H), hx13, hf14, (Own.nil _ _ _ _ _ _), (by omega), (by omega), (by rfl), (by rw [drop_nil (by omega), kpG] at hF; exact hF), (by omega), (by simp)⟩
 clear H A
 rintro ⟨i, v2, acc⟩ A w210 ⟨H, hx211, hf212, hf213, hzl215, hi, hA, hte, htl, hal⟩
 have hzhx211 := hx211.size
 revert A; refine go ?_; intro A H
 by_cases c217 : ((i : Nat) : Int) < ((list.length : Nat) : Int)
 rw [decide_eq_true c217] at H
 revert A; refine go ?_; intro A H
 obtain ⟨x219, hx219⟩ := get_ex (xs := list) (j := i) (by omega)
 obtain ⟨p220, hi222, hc223, b226, b227, b228, hs225⟩ := at_shProm h_list hx219
 have hbx219 := prK_at g0 hx219
 refine wv H (ix H U31 ti67 hi222) ?_
 clear H A; intro A H
 refine wv H (ls H U67 ti67 (hc223.ext hx211)) ?_
 clear H A; intro A H
 refine we H (op_alloc' rfl ti67 rfl) ?_
 clear H A; rintro _ w232 ⟨rfl, he233, hb234, hz235⟩ A H
 obtain ⟨hx237, _⟩ := nx hx211 he233
 replace hf212 := hf212.ext he233
 replace hf213 := hf213.ext he233
 refine wv H (op_assign H rfl rfl) ?_
 clear H A; intro A H
 refine ws H (op_sa H ti67 hb234) ?_
 rintro w239 ⟨hb241, hst240, hz242⟩
 obtain ⟨hx243, _⟩ := nb hx237 hst240
 replace hf212 := hf212.stp hst240 (by intro q hq; cases hq; omega)
 replace hf213 := hf213.stp hst240 (by intro q hq; cases hq; omega)
 clear hb234
 revert A; refine go ?_; intro A H
 refine wv H (ln H U135 (hf212.rds pos_shI64)) ?_
 clear H A; refine go ?_; intro A H
 refine loop_inv (X := Nat × Value × (List Str)) (fun ⟨k, v3, ac3⟩ fr wl => Sl 95 fr [(3, v), (11, v3), (12, .int .i64 ((i : Nat) : Int)), (13, .pointer (some (⟨w210.heap.size, 0, none⟩ : Addr))), (71, v_list), (72, .int .i64 ((list.length : Nat) : Int)), (73, .int .i64 ((i : Nat) : Int)), (78, v), (79, .int .i64 ((t.length : Nat) : Int)), (80, .int .i64 ((k : Nat) : Int))] ∧ Ext w0 wl ∧ Own shI64 3 w5.heap.size w5.heap.size w12.heap.size wl v t ∧ Box wl w210.heap.size 67 [St x219.1, .int .i64 x219.2.1, .int .i64 x219.2.2] ∧ Own shStr 9 w12.heap.size w12.heap.size wl.heap.size wl v3 ac3 ∧ w239.heap.size ≤ wl.heap.size ∧ (k ≤ t.length) ∧ (ac3 = ktN list (kpL list) i ++ ((t.take k).filter fun o => decide (o = (i : Int))).map (fun _ => (gtP list i).1)) ∧ (ac3.length ≤ 41 * i + k)) (fun ⟨k, v3, ac3⟩ => t.length - k) (0, v2, acc) ?_ ?_
 exact ⟨(sl H), hx243, hf212, hb241, (fi hf213), (by omega), (by omega), (by rw [hA]; simp), (by omega)⟩
 clear H A
 rintro ⟨k, v3, ac3⟩ A w247 ⟨H, hx248, hf249, hf251, hf250, hzl253, hk, hA2, hal2⟩
 have hzhx248 := hx248.size
 revert A; refine go ?_; intro A H
 by_cases c255 : ((k : Nat) : Int) < ((t.length : Nat) : Int)
 rw [decide_eq_true c255] at H
 revert A; refine go ?_; intro A H
 obtain ⟨x256, hx256⟩ := get_ex (xs := t) (j := k) (by omega)
 obtain ⟨p257, hi259, hc260, b263, _, _⟩ := at_shI64 (hf249.rds pos_shI64) hx256
 refine wv H (ix H U135 ti3 hi259) ?_
 clear H A; intro A H
 refine wv H (lh H U3 hc260) ?_
 clear H A; intro A H
 clear hc260
 revert A; refine go ?_; intro A H
 by_cases c270 : x256 = ((i : Nat) : Int)
 rw [decide_eq_true c270] at H
 revert A; refine go ?_; intro A H
 refine fl 0 H U67 ti9 U9 hf251.cells ?_
 clear H A; intro A H
 refine we H (op_b1 (mk_shStr x219.1 (by assumption)) H pos_shStr U25 ti9) ?_
 clear H A; rintro v274 w275 ⟨ho276, he277, hob278⟩ A H
 obtain ⟨hx280, _⟩ := nx hx248 he277
 replace hf249 := hf249.ext he277
 replace hf251 := hf251.ext he277
 replace hf250 := hf250.ext he277
 refine we H (op_ap (ts := #[]) H U25 ti9 pos_shStr hf250 (ho276.rds pos_shStr) flat_shStr) ?_
 clear H A; rintro v281 w282 ⟨ho283, hst284, hob285⟩ A H
 obtain ⟨hx287, _⟩ := no hx280 hf250 hst284
 replace hf249 := hf249.stp hst284 (by intro q hq; have hq0 := hf250.lt q hq; omega)
 replace hf251 := bo hf251 hf250 hst284
 replace ho276 := ho276.stp hst284 (by intro q hq; have hq0 := hf250.lt q hq; omega)
 have hsp288 : ∀ q, Value.ownBlock v281 = some q → Value.ownBlock v274 ≠ some q := by intro q hq hb; have hq0 := ho276.lt q hb; rcases hob285 with h | h; (rw [h] at hq; first | (have hq1 := hf250.lt q hq; omega)); (rw [h] at hq; cases hq; omega)
 clear ho276
 revert A; refine go ?_; intro A H
 refine wv H ((op_add H rfl rfl rfl).int (IntWalk.i64_in _ (by omega))) ?_
 clear H A; refine go ?_; intro A H
 refine ⟨((k + 1), v281, (ac3 ++ [x219.1])), ?_, ?_⟩
 refine ⟨(sl H), hx287, hf249, hf251, (fi ho283), (by omega), (by omega), (by rw [kt_in hx256 hx219 (by assumption), hA2, List.append_assoc]), (by simp; omega)⟩
 show (t.length - ((k + 1)) : Nat) < t.length - k; omega
 rw [decide_eq_false c270] at H
 revert A; refine go ?_; intro A H
 refine wv H ((op_add H rfl rfl rfl).int (IntWalk.i64_in _ (by omega))) ?_
 clear H A; refine go ?_; intro A H
 refine ⟨((k + 1), v3, ac3), ?_, ?_⟩
 refine ⟨(sl H), hx248, hf249, hf251, (fi hf250), (by omega), (by omega), (by rw [kt_out hx256 (by assumption)]; exact hA2), (by omega)⟩
 show (t.length - ((k + 1)) : Nat) < t.length - k; omega
 rw [decide_eq_false c255] at H
 clear hf251
 revert A; refine go ?_; intro A H
 refine wv H ((op_add H rfl rfl rfl).int (IntWalk.i64_in _ (by omega))) ?_
 clear H A; refine go ?_; intro A H
 refine ⟨((i + 1), v3, ac3), ?_, ?_⟩
 refine ⟨(sl H), hx248, hf249, (fi hf250), (by omega), (by omega), (by rw [ktN, hA2, List.take_of_length_le (by omega), hte]), (by exact hte), (by exact htl), (by omega)⟩
 show (list.length - ((i + 1)) : Nat) < list.length - i; omega
 rw [decide_eq_false c217] at H
 clear hf212
 revert A; refine go ?_; intro A H
 refine ret1 H rfl rfl ?_
 clear H A
 refine ret_mk hx211 ?_
 refine (fi hf213).cast ?_
 have e : i = list.length := (by omega); rw [hA, e]



theorem c_impl_MostKept (w0 : World) (v_list : Value) (list : List (Str × Int × Int)) {S_list : Nat → Prop} (h_list : Rds shProm S_list w0 v_list list) :
    Calls Tryz.prog 103 #[v_list] w0 (Ret w0 (fun v _ => v = .tuple #[.int .i64 (if prsB list then ((kpL list).length : Int) else 0), .int .i64 (if prsB list then 0 else 1)])) := by
 refine enter (N := 10) Tryz.func103 rfl rfl rfl ?_
 intro A H
 have hx0 := Ext.rfl' w0
 have hl_list := h_list.length_le
 have hka := kt_all list
 revert A; refine go ?_; intro A H
 refine wc H cb54 (c_impl_ArePromises _ v_list list (h_list.ext pos_shProm hx0)) ?_
 clear H A; rintro v4 w5 he6 rfl A H
 obtain ⟨hx8, _⟩ := nx hx0 he6
 revert A; refine go ?_; intro A H
 rcases Bool.eq_false_or_eq_true (prsB list) with c10 | c10
 rw [c10] at H
 have hlenc10 := prsB_len c10
 have hkc10 := prsB_k c10
 have hbrc10 := brG_bd (all := list) (xs := list) (f := 0) (fun p hp => (hkc10.2 p hp).1) (by omega)
 revert A; refine go ?_; intro A H
 refine wc H cb121 (c_impl_keptNames _ v_list list (h_list.ext pos_shProm hx8) (by assumption)) ?_
 clear H A; rintro v12 w13 he14 ho15 A H
 obtain ⟨hx17, _⟩ := nx hx8 he14
 refine wv H (ln H U25 (ho15.rds pos_shStr)) ?_
 clear H A; refine go ?_; intro A H
 refine ret2 H rfl rfl rfl ?_
 clear H A
 exact ret_mk hx17 (tup2_eq (int_eq (by simp [c10, hka])) (int_eq (by simp [c10])))
 rw [c10] at H
 revert A; refine go ?_; intro A H
 refine ret2 H rfl rfl rfl ?_
 clear H A
 exact ret_mk hx8 (tup2_eq (int_eq (by simp [c10])) (int_eq (by simp [c10])))



theorem c_spec_MostKept (w0 : World) (v_list : Value) (list : List (Str × Int × Int)) {S_list : Nat → Prop} (h_list : Rds shProm S_list w0 v_list list) :
    Calls Tryz.prog 137 #[v_list] w0 (Ret w0 (fun v _ => v = .tuple #[.int .i64 (if prsB list then ((kpL list).length : Int) else 0), .int .i64 (if prsB list then 0 else 1)])) := by
 refine enter (N := 10) Tryz.func137 rfl rfl rfl ?_
 intro A H
 have hx0 := Ext.rfl' w0
 have hl_list := h_list.length_le
 have hka := kt_all list
 revert A; refine go ?_; intro A H
 refine wc H cb57 (c_spec_ArePromises _ v_list list (h_list.ext pos_shProm hx0)) ?_
 clear H A; rintro v4 w5 he6 rfl A H
 obtain ⟨hx8, _⟩ := nx hx0 he6
 revert A; refine go ?_; intro A H
 rcases Bool.eq_false_or_eq_true (prsB list) with c10 | c10
 rw [c10] at H
 have hlenc10 := prsB_len c10
 have hkc10 := prsB_k c10
 have hbrc10 := brG_bd (all := list) (xs := list) (f := 0) (fun p hp => (hkc10.2 p hp).1) (by omega)
 revert A; refine go ?_; intro A H
 refine wc H cb157 (c_spec_l23Kept _ v_list list (h_list.ext pos_shProm hx8) (by assumption)) ?_
 clear H A; rintro v12 w13 he14 ho15 A H
 obtain ⟨hx17, _⟩ := nx hx8 he14
 refine wv H (ln H U55 (ho15.rds pos_shI64)) ?_
 clear H A; refine go ?_; intro A H
 refine ret2 H rfl rfl rfl ?_
 clear H A
 exact ret_mk hx17 (tup2_eq (int_eq (by simp [c10])) (int_eq (by simp [c10])))
 rw [c10] at H
 revert A; refine go ?_; intro A H
 refine ret2 H rfl rfl rfl ?_
 clear H A
 exact ret_mk hx8 (tup2_eq (int_eq (by simp [c10])) (int_eq (by simp [c10])))




end Go.Proofs.YthbehhhblchhhaaGreat
