/- Stocks and promises drawn. -/
import Derived.Test.YthbehhhblchhhaaGreatR1
import Derived.Test.YthbehhhblchhhaaGreatS1
import Derived.Test.YthbehhhblchhhaaGreatR5
namespace Go.Proofs.YthbehhhblchhhaaGreat
open Go Go.RowKit
set_option maxHeartbeats 16000000

theorem c_spec_l24Good (w0 : World) (g_s b_s : Nat) (code : Str) (h_s : Src w0 g_s b_s 75) (g0 : code.length ≤ 1048576) :
    Calls Tryz.prog 75 #[.pointer (some (⟨g_s, 0, none⟩ : Addr)), St code] w0 (RetS w0 (some g_s) (fun v w1 => Src w1 g_s b_s 75 ∧ (fun v w1 => ∃ (b : Bin), (b.1.length ≤ 1048576) ∧ (I64 b.2.1) ∧ (I64 b.2.2.1) ∧ (I64 b.2.2.2.1) ∧ (I64 b.2.2.2.2) ∧ (fun v _ => v = .agg #[St (((b)).1), .int .i64 ((b)).2.1, .int .i64 ((b)).2.2.1, .int .i64 ((b)).2.2.2.1, .int .i64 ((b)).2.2.2.2]) v w1) v w1)) := by
 refine enter (N := 22) Tryz.func75 rfl rfl rfl ?_
 intro A H
 have hx0 := Stp.rfl' w0 (some g_s)
 have hgl_s := h_s.lt
 revert A; refine go ?_; intro A H
 refine we H (op_alloc' rfl ti65 rfl) ?_
 clear H A; rintro _ w2 ⟨rfl, he3, hb4, hz5⟩ A H
 obtain ⟨hx7, _⟩ := nxe hx0 he3
 replace h_s := h_s.ext he3
 revert A; refine go ?_; intro A H
 refine wl_callS H rfl rfl rfl (op_call H rfl cb37 rfl) (c_spec_l01Next _ g_s b_s (20 : Int) h_s) ?_
 clear H A; rintro v10 w11 he12 ⟨hS13, ⟨q14, hq15, hq16, hq17, rfl⟩⟩ A H
 obtain ⟨hx19, _⟩ := nxs hx7 he12
 replace hb4 := bb hb4 he12
 have hSlhS13 := hS13.lt
 refine wv H (op_move H rfl rfl) ?_
 clear H A; intro A H
 refine wl_callS H rfl rfl rfl (op_call H rfl cb37 rfl) (c_spec_l01Next _ g_s b_s (12 : Int) hS13) ?_
 clear H A; rintro v21 w22 he23 ⟨hS24, ⟨q25, hq26, hq27, hq28, rfl⟩⟩ A H
 obtain ⟨hx30, _⟩ := nxs hx19 he23
 replace hb4 := bb hb4 he23
 clear hS13
 have hSlhS24 := hS24.lt
 refine wv H (op_move H rfl rfl) ?_
 clear H A; intro A H
 refine wl_callS H rfl rfl rfl (op_call H rfl cb37 rfl) (c_spec_l01Next _ g_s b_s (9 : Int) hS24) ?_
 clear H A; rintro v32 w33 he34 ⟨hS35, ⟨q36, hq37, hq38, hq39, rfl⟩⟩ A H
 obtain ⟨hx41, _⟩ := nxs hx30 he34
 replace hb4 := bb hb4 he34
 clear hS24
 have hSlhS35 := hS35.lt
 refine wv H ((op_add H rfl rfl rfl).int (IntWalk.i64_in _ (by omega))) ?_
 clear H A; intro A H
 refine wv H (op_build (vs := [(0, St code), (1, .int .i64 (q14 : Int)), (3, .int .i64 (q25 : Int)), (4, .int .i64 ((1 : Int) + (q36 : Int)))]) (cs := #[St code, .int .i64 (q14 : Int), .int .i64 (0 : Int), .int .i64 (q25 : Int), .int .i64 ((1 : Int) + (q36 : Int))]) H rfl U65 ti65 bp65 rfl rfl) ?_
 clear H A; intro A H
 refine we H (op_alloc' rfl ti65 rfl) ?_
 clear H A; rintro _ w45 ⟨rfl, he46, hb47, hz48⟩ A H
 obtain ⟨hx50, _⟩ := nxe hx41 he46
 replace hb4 := hb4.ext he46
 replace hS35 := hS35.ext he46
 refine ws H (op_sa H ti65 hb47) ?_
 rintro w51 ⟨hb53, hst52, hz54⟩
 have hx55 := hx50.fresh hst52 (by intro q hq; cases hq; exact (by omega))
 have hzhx55 := hst52.size
 replace hb4 := bb hb4 hst52
 replace hS35 := hS35.stp hst52 (by intro q hq; cases hq; omega)
 clear hb47
 revert A; refine go ?_; intro A H
 refine fl 1 H U65 ti2 U2 hb53.cells ?_
 clear H A; intro A H
 refine wv H ((op_add H rfl rfl rfl).int (IntWalk.i64_in _ (by omega))) ?_
 clear H A; intro A H
 refine wl_callS H rfl rfl rfl (op_call H rfl cb37 rfl) (c_spec_l01Next _ g_s b_s ((q14 : Int) + (1 : Int)) hS35) ?_
 clear H A; rintro v60 w61 he62 ⟨hS63, ⟨q64, hq65, hq66, hq67, rfl⟩⟩ A H
 obtain ⟨hx69, _⟩ := nxs hx55 he62
 replace hb4 := bb hb4 he62
 replace hb53 := bb hb53 he62
 clear hS35
 have hSlhS63 := hS63.lt
 refine wv H (fa H U65 ti2) ?_
 clear H A; intro A H
 refine ws H (op_store' (off := 2) H rfl ti2 rfl rfl hb53 rfl rfl (by simp [Value.oneCell']) (Nat.le_of_ble_eq_true rfl)) ?_
 rintro w71 ⟨hb73, hst72, hz74⟩
 have hx75 := hx69.fresh hst72 (by intro q hq; cases hq; exact (by omega))
 have hzhx75 := hst72.size
 replace hb4 := bb hb4 hst72
 replace hS63 := hS63.stp hst72 (by intro q hq; cases hq; omega)
 clear hb53
 revert A; refine go ?_; intro A H
 refine wv H (ls H U65 ti65 hb73.cells) ?_
 clear H A; intro A H
 refine ws H (op_sa H ti65 hb4) ?_
 rintro w77 ⟨hb79, hst78, hz80⟩
 have hx81 := hx75.fresh hst78 (by intro q hq; cases hq; exact (by omega))
 have hzhx81 := hst78.size
 replace hS63 := hS63.stp hst78 (by intro q hq; cases hq; omega)
 replace hb73 := bb hb73 hst78
 clear hb4
 revert A; refine go ?_; intro A H
 refine retc H rfl rfl U65 ti65 rfl hb79.cells ?_
 clear H A
 refine ret_mkS hx81 ⟨hS63, ?_⟩
 refine ⟨((code, (q14 : Int), (q64 : Int), (q25 : Int), ((1 : Int) + (q36 : Int))) : Bin), (by assumption), (by dsimp only; omega), (by dsimp only; omega), (by dsimp only; omega), (by dsimp only; omega), ?_⟩
 exact (by rfl)



theorem c_spec_l23Good (w0 : World) (g_s b_s : Nat) (name : Str) (h_s : Src w0 g_s b_s 75) (g0 : name.length ≤ 1048576) :
    Calls Tryz.prog 77 #[.pointer (some (⟨g_s, 0, none⟩ : Addr)), St name] w0 (RetS w0 (some g_s) (fun v w1 => Src w1 g_s b_s 75 ∧ (fun v w1 => ∃ (p : Prom), (p.1.length ≤ 1048576) ∧ (I64 p.2.1) ∧ (I64 p.2.2) ∧ (fun v _ => v = .agg #[St (((p)).1), .int .i64 ((p)).2.1, .int .i64 ((p)).2.2]) v w1) v w1)) := by
 refine enter (N := 14) Tryz.func77 rfl rfl rfl ?_
 intro A H
 have hx0 := Stp.rfl' w0 (some g_s)
 have hgl_s := h_s.lt
 revert A; refine go ?_; intro A H
 refine we H (op_alloc' rfl ti67 rfl) ?_
 clear H A; rintro _ w2 ⟨rfl, he3, hb4, hz5⟩ A H
 obtain ⟨hx7, _⟩ := nxe hx0 he3
 replace h_s := h_s.ext he3
 revert A; refine go ?_; intro A H
 refine wl_callS H rfl rfl rfl (op_call H rfl cb37 rfl) (c_spec_l01Next _ g_s b_s (5 : Int) h_s) ?_
 clear H A; rintro v10 w11 he12 ⟨hS13, ⟨q14, hq15, hq16, hq17, rfl⟩⟩ A H
 obtain ⟨hx19, _⟩ := nxs hx7 he12
 replace hb4 := bb hb4 he12
 have hSlhS13 := hS13.lt
 refine wv H ((op_add H rfl rfl rfl).int (IntWalk.i64_in _ (by omega))) ?_
 clear H A; intro A H
 refine wv H (op_move H rfl rfl) ?_
 clear H A; intro A H
 refine wl_callS H rfl rfl rfl (op_call H rfl cb37 rfl) (c_spec_l01Next _ g_s b_s (30 : Int) hS13) ?_
 clear H A; rintro v22 w23 he24 ⟨hS25, ⟨q26, hq27, hq28, hq29, rfl⟩⟩ A H
 obtain ⟨hx31, _⟩ := nxs hx19 he24
 replace hb4 := bb hb4 he24
 clear hS13
 have hSlhS25 := hS25.lt
 refine wv H ((op_add H rfl rfl rfl).int (IntWalk.i64_in _ (by omega))) ?_
 clear H A; intro A H
 refine wv H ((op_mul H rfl rfl rfl).int (IntWalk.i64_in _ (by omega))) ?_
 clear H A; intro A H
 refine wv H (op_build (vs := [(0, St name), (1, .int .i64 ((1 : Int) + (q14 : Int))), (2, .int .i64 ((10 : Int) * ((1 : Int) + (q26 : Int))))]) (cs := #[St name, .int .i64 ((1 : Int) + (q14 : Int)), .int .i64 ((10 : Int) * ((1 : Int) + (q26 : Int)))]) H rfl U67 ti67 bp67 rfl rfl) ?_
 clear H A; intro A H
 refine ws H (op_sa H ti67 hb4) ?_
 rintro w35 ⟨hb37, hst36, hz38⟩
 have hx39 := hx31.fresh hst36 (by intro q hq; cases hq; exact (by omega))
 have hzhx39 := hst36.size
 replace hS25 := hS25.stp hst36 (by intro q hq; cases hq; omega)
 clear hb4
 revert A; refine go ?_; intro A H
 refine retc H rfl rfl U67 ti67 rfl hb37.cells ?_
 clear H A
 refine ret_mkS hx39 ⟨hS25, ?_⟩
 refine ⟨((name, ((1 : Int) + (q14 : Int)), ((10 : Int) * ((1 : Int) + (q26 : Int)))) : Prom), (by assumption), (by dsimp only; omega), (by dsimp only; omega), ?_⟩
 exact (by rfl)



theorem c_spec_l24Draw (w0 : World) (g_s b_s : Nat) (h_s : Src w0 g_s b_s 75) :
    Calls Tryz.prog 50 #[.pointer (some (⟨g_s, 0, none⟩ : Addr))] w0 (RetS w0 (some g_s) (fun v w1 => Src w1 g_s b_s 75 ∧ (fun v w1 => ∃ (l : List Bin), (l.length ≤ 100) ∧ (fun v w1 => Own shBin 65 w0.heap.size w0.heap.size w1.heap.size w1 v (l)) v w1) v w1)) := by
 refine enter (N := 77) Tryz.func50 rfl rfl rfl ?_
 intro A H
 have hx0 := Stp.rfl' w0 (some g_s)
 have hgl_s := h_s.lt
 have hn16 := nm16_len
 revert A; refine go ?_; intro A H
 refine we H (op_b0 H pos_shBin U30 ti65) ?_
 clear H A; rintro v2 w3 ⟨ho4, he5, hob6⟩ A H
 obtain ⟨hx8, _⟩ := nxe hx0 he5
 replace h_s := h_s.ext he5
 revert A; refine go ?_; intro A H
 refine wc H cb66 (c_spec_l16Names _  ) ?_
 clear H A; rintro v10 w11 he12 ho13 A H
 obtain ⟨hx15, _⟩ := nxe hx8 he12
 replace h_s := h_s.ext he12
 replace ho4 := ho4.ext he12
 revert A; refine go ?_; intro A H
 refine loop_inv (X := Nat × Value × (List (Str × Int × Int × Int × Int))) (fun ⟨i, v, xs⟩ fr wl => Sl 77 fr [(0, .pointer (some (⟨g_s, 0, none⟩ : Addr))), (3, v), (4, v10), (5, .int .i64 ((i : Nat) : Int))] ∧ Stp w0 wl (some g_s) ∧ Src wl g_s b_s 75 ∧ Own shStr 9 w3.heap.size w3.heap.size w11.heap.size wl v10 ((nm16)) ∧ Own shBin 65 w0.heap.size w0.heap.size wl.heap.size wl v xs ∧ w11.heap.size ≤ wl.heap.size ∧ (i ≤ 8) ∧ (xs.length ≤ i)) (fun ⟨i, v, xs⟩ => 8 - i) (0, v2, ([] : List (Str × Int × Int × Int × Int))) ?_ ?_
 exact ⟨(sl H), hx15, h_s, ho13, (fi ho4), (by omega), (by omega), (by simp)⟩
 clear H A
 rintro ⟨i, v, xs⟩ A w18 ⟨H, hx19, hf20, hf22, hf21, hzl24, hi, hxl⟩
 have hzhx19 := hx19.size
 have hgl25 := hf20.lt
 revert A; refine go ?_; intro A H
 refine wv H (ln H U25 (hf22.rds pos_shStr)) ?_
 clear H A; refine go ?_; intro A H
 by_cases c30 : ((i : Nat) : Int) < ((((nm16)).length : Nat) : Int)
 rw [decide_eq_true c30] at H
 revert A; refine go ?_; intro A H
 refine wl_callS H rfl rfl rfl (op_call H rfl cb37 rfl) (c_spec_l01Next _ g_s b_s (3 : Int) hf20) ?_
 clear H A; rintro v32 w33 he34 ⟨hS35, ⟨q36, hq37, hq38, hq39, rfl⟩⟩ A H
 obtain ⟨hx41, _⟩ := nxs hx19 he34
 replace hf22 := hf22.stp he34 (by intro q hq; cases hq; omega)
 replace hf21 := hf21.stp he34 (by intro q hq; cases hq; omega)
 clear hf20
 have hSlhS35 := hS35.lt
 revert A; refine go ?_; intro A H
 by_cases c43 : (0 : Int) < (q36 : Int)
 rw [decide_eq_true c43] at H
 revert A; refine go ?_; intro A H
 obtain ⟨x48, hx48⟩ := get_ex (xs := (nm16)) (j := i) (by omega)
 obtain ⟨p49, hi51, hc52, b55, _, _⟩ := at_shStr (hf22.rds pos_shStr) hx48
 have hdlx48 := el_len 17 (xs := nm16) (by rfl) hx48
 refine wv H (ix H U25 ti9 hi51) ?_
 clear H A; intro A H
 refine wv H (lh H U9 hc52) ?_
 clear H A; intro A H
 refine wl_callS H rfl rfl rfl (op_call H rfl cb75 rfl) (c_spec_l24Good _ g_s b_s x48 hS35 (by omega)) ?_
 clear H A; rintro v58 w59 he60 ⟨hS61, ⟨q62, hq63, hq64, hq65, hq66, hq67, rfl⟩⟩ A H
 obtain ⟨hx69, _⟩ := nxs hx41 he60
 replace hf22 := hf22.stp he60 (by intro q hq; cases hq; omega)
 replace hf21 := hf21.stp he60 (by intro q hq; cases hq; omega)
 replace hc52 := hc52.stp he60 (by intro q hq; cases hq; omega)
 clear hS35
 have hSlhS61 := hS61.lt
 refine we H (op_b1 (mk_shBin ((q62)) (by omega) (by assumption) (by assumption) (by assumption) (by assumption)) H pos_shBin U30 ti65) ?_
 clear H A; rintro v70 w71 ⟨ho72, he73, hob74⟩ A H
 obtain ⟨hx76, _⟩ := nxe hx69 he73
 replace hf22 := hf22.ext he73
 replace hf21 := hf21.ext he73
 replace hc52 := hc52.ext he73
 replace hS61 := hS61.ext he73
 refine we H (op_ap (ts := #[]) H U30 ti65 pos_shBin hf21 (ho72.rds pos_shBin) flat_shBin) ?_
 clear H A; rintro v77 w78 ⟨ho79, hst80, hob81⟩ A H
 have hx83 := hx76.fresh hst80 (by intro q hq; have hq0 := hf21.lt q hq; omega)
 have hzhx83 := hst80.size
 replace hf22 := oo hf22 flat_shStr hf21 hst80
 replace hS61 := hS61.stp hst80 (by intro q hq; have hq0 := hf21.lt q hq; omega)
 replace ho72 := ho72.stp hst80 (by intro q hq; have hq0 := hf21.lt q hq; omega)
 have hsp84 : ∀ q, Value.ownBlock v77 = some q → Value.ownBlock v70 ≠ some q := by intro q hq hb; have hq0 := ho72.lt q hb; rcases hob81 with h | h; (rw [h] at hq; first | (have hq1 := hf21.lt q hq; omega)); (rw [h] at hq; cases hq; omega)
 clear ho72
 revert A; refine go ?_; intro A H
 refine wv H ((op_add H rfl rfl rfl).int (IntWalk.i64_in _ (by omega))) ?_
 clear H A; refine go ?_; intro A H
 refine ⟨((i + 1), v77, (xs ++ [(q62)])), ?_, ?_⟩
 refine ⟨(sl H), hx83, hS61, hf22, (fi ho79), (by omega), (by omega), (by simp only [List.length_append, List.length_cons, List.length_nil]; omega)⟩
 show (8 - ((i + 1)) : Nat) < 8 - i; omega
 rw [decide_eq_false c43] at H
 revert A; refine go ?_; intro A H
 refine wv H ((op_add H rfl rfl rfl).int (IntWalk.i64_in _ (by omega))) ?_
 clear H A; refine go ?_; intro A H
 refine ⟨((i + 1), v, xs), ?_, ?_⟩
 refine ⟨(sl H), hx41, hS35, hf22, (fi hf21), (by omega), (by omega), (by omega)⟩
 show (8 - ((i + 1)) : Nat) < 8 - i; omega
 rw [decide_eq_false c30] at H
 clear hf22
 revert A; refine go ?_; intro A H
 refine wl_callS H rfl rfl rfl (op_call H rfl cb37 rfl) (c_spec_l01Next _ g_s b_s (40 : Int) hf20) ?_
 clear H A; rintro v93 w94 he95 ⟨hS96, ⟨q97, hq98, hq99, hq100, rfl⟩⟩ A H
 obtain ⟨hx102, _⟩ := nxs hx19 he95
 replace hf21 := hf21.stp he95 (by intro q hq; cases hq; omega)
 clear hf20
 have hSlhS96 := hS96.lt
 revert A; refine go ?_; intro A H
 by_cases c105 : (q97 : Int) = (0 : Int)
 rw [decide_eq_true c105] at H
 revert A; refine go ?_; intro A H
 refine we H (op_lits [([98, 111, 108, 116] : Str), ([90] : Str), ([122, 105, 112] : Str)] H U25 ti9) ?_
 clear H A; rintro v108 w109 ⟨ho110, he111, hob112⟩ A H
 obtain ⟨hx114, _⟩ := nxe hx102 he111
 replace hf21 := hf21.ext he111
 replace hS96 := hS96.ext he111
 refine wv H (op_move H rfl rfl) ?_
 clear H A; intro A H
 refine wl_callS H rfl rfl rfl (op_call H rfl cb37 rfl) (c_spec_l01Next _ g_s b_s (3 : Int) hS96) ?_
 clear H A; rintro v116 w117 he118 ⟨hS119, ⟨q120, hq121, hq122, hq123, rfl⟩⟩ A H
 obtain ⟨hx125, _⟩ := nxs hx114 he118
 replace hf21 := hf21.stp he118 (by intro q hq; cases hq; omega)
 replace ho110 := ho110.stp he118 (by intro q hq; cases hq; omega)
 clear hS96
 have hSlhS119 := hS119.lt
 obtain ⟨x126, hx126⟩ := get_ex (xs := [([98, 111, 108, 116] : Str), ([90] : Str), ([122, 105, 112] : Str)]) (j := ((q120 : Int)).toNat) (by simp only [List.length_cons, List.length_nil]; omega)
 obtain ⟨p127, hi129, hc130, b133, _, _⟩ := at_shStr (ho110.rds pos_shStr) hx126
 have hdlx126 := el_len 17 (by rfl) hx126
 refine wv H (ix H U25 ti9 hi129) ?_
 clear H A; intro A H
 refine wv H (lh H U9 hc130) ?_
 clear H A; intro A H
 refine wl_callS H rfl rfl rfl (op_call H rfl cb75 rfl) (c_spec_l24Good _ g_s b_s x126 hS119 (by omega)) ?_
 clear H A; rintro v136 w137 he138 ⟨hS139, ⟨q140, hq141, hq142, hq143, hq144, hq145, rfl⟩⟩ A H
 obtain ⟨hx147, _⟩ := nxs hx125 he138
 replace hf21 := hf21.stp he138 (by intro q hq; cases hq; omega)
 replace ho110 := ho110.stp he138 (by intro q hq; cases hq; omega)
 replace hc130 := hc130.stp he138 (by intro q hq; cases hq; omega)
 clear hS119
 have hSlhS139 := hS139.lt
 refine we H (op_b1 (mk_shBin ((q140)) (by omega) (by assumption) (by assumption) (by assumption) (by assumption)) H pos_shBin U30 ti65) ?_
 clear H A; rintro v148 w149 ⟨ho150, he151, hob152⟩ A H
 obtain ⟨hx154, _⟩ := nxe hx147 he151
 replace hf21 := hf21.ext he151
 replace ho110 := ho110.ext he151
 replace hc130 := hc130.ext he151
 replace hS139 := hS139.ext he151
 refine we H (op_ap (ts := #[]) H U30 ti65 pos_shBin hf21 (ho150.rds pos_shBin) flat_shBin) ?_
 clear H A; rintro v155 w156 ⟨ho157, hst158, hob159⟩ A H
 have hx161 := hx154.fresh hst158 (by intro q hq; have hq0 := hf21.lt q hq; omega)
 have hzhx161 := hst158.size
 replace ho110 := ho110.stp hst158 (by intro q hq; have hq0 := hf21.lt q hq; omega)
 replace hS139 := hS139.stp hst158 (by intro q hq; have hq0 := hf21.lt q hq; omega)
 replace ho150 := ho150.stp hst158 (by intro q hq; have hq0 := hf21.lt q hq; omega)
 have hsp162 : ∀ q, Value.ownBlock v155 = some q → Value.ownBlock v148 ≠ some q := by intro q hq hb; have hq0 := ho150.lt q hb; rcases hob159 with h | h; (rw [h] at hq; first | (have hq1 := hf21.lt q hq; omega)); (rw [h] at hq; cases hq; omega)
 clear ho110 ho150
 revert A; refine go ?_; intro A H
 refine ret1 H rfl rfl ?_
 clear H A
 refine ret_mkS hx161 ⟨hS139, ?_⟩
 refine ⟨(((xs ++ [(q140)])) : List Bin), (by simp only [List.length_append, List.length_cons, List.length_nil]; omega), ?_⟩
 refine (fi ho157).cast ?_
 rfl
 rw [decide_eq_false c105] at H
 revert A; refine go ?_; intro A H
 by_cases c168 : (q97 : Int) = (1 : Int)
 rw [decide_eq_true c168] at H
 revert A; refine go ?_; intro A H
 refine loop_inv (X := Nat × Value × (List (Str × Int × Int × Int × Int))) (fun ⟨k, v2, ys⟩ fr wl => Sl 77 fr [(0, .pointer (some (⟨g_s, 0, none⟩ : Addr))), (3, v2), (6, .int .i64 ((k : Nat) : Int))] ∧ Stp w0 wl (some g_s) ∧ Src wl g_s b_s 75 ∧ Own shBin 65 w0.heap.size w0.heap.size wl.heap.size wl v2 ys ∧ w94.heap.size ≤ wl.heap.size ∧ (k ≤ ys.length) ∧ (ys.length ≤ 21)) (fun ⟨k, v2, ys⟩ => 22 - k) (0, v, xs) ?_ ?_
 exact ⟨(sl H), hx102, hS96, (fi hf21), (by omega), (by omega), (by omega)⟩
 clear H A
 rintro ⟨k, v2, ys⟩ A w170 ⟨H, hx171, hf172, hf173, hzl175, hk, hyl⟩
 have hzhx171 := hx171.size
 have hgl176 := hf172.lt
 revert A; refine go ?_; intro A H
 refine wv H (ln H U30 (hf173.rds pos_shBin)) ?_
 clear H A; intro A H
 refine wv H (op_move H rfl rfl) ?_
 clear H A; intro A H
 refine wl_callS H rfl rfl rfl (op_call H rfl cb37 rfl) (c_spec_l01Next _ g_s b_s (2 : Int) hf172) ?_
 clear H A; rintro v180 w181 he182 ⟨hS183, ⟨q184, hq185, hq186, hq187, rfl⟩⟩ A H
 obtain ⟨hx189, _⟩ := nxs hx171 he182
 replace hf173 := hf173.stp he182 (by intro q hq; cases hq; omega)
 clear hf172
 have hSlhS183 := hS183.lt
 refine wv H ((op_add H rfl rfl rfl).int (IntWalk.i64_in _ (by omega))) ?_
 clear H A; refine go ?_; intro A H
 by_cases c192 : ((ys.length : Nat) : Int) < ((20 : Int) + (q184 : Int))
 rw [decide_eq_true c192] at H
 revert A; refine go ?_; intro A H
 refine wv H ((op_add H rfl rfl rfl).int (IntWalk.i64_in _ (by omega))) ?_
 clear H A; intro A H
 refine wv H (op_slice_str_b (i := k) (j := (k + 1)) (by omega) (by omega) H rfl U9 rfl rfl rfl (by omega) (by simp; omega)) ?_
 clear H A; intro A H
 refine wv H (op_sadd H rfl rfl rfl (by simp only [List.length_cons, List.length_nil, List.length_drop, List.length_take]; omega)) ?_
 clear H A; intro A H
 refine wl_callS H rfl rfl rfl (op_call H rfl cb75 rfl) (c_spec_l24Good _ g_s b_s ((([120] : Str)) ++ (((([97, 98, 99, 100, 101, 102, 103, 104, 105, 106, 107, 108, 109, 110, 111, 112, 113, 114, 115, 116, 117, 118] : Str)).take ((k + 1))).drop k)) hS183 (by simp; omega)) ?_
 clear H A; rintro v200 w201 he202 ⟨hS203, ⟨q204, hq205, hq206, hq207, hq208, hq209, rfl⟩⟩ A H
 obtain ⟨hx211, _⟩ := nxs hx189 he202
 replace hf173 := hf173.stp he202 (by intro q hq; cases hq; omega)
 clear hS183
 have hSlhS203 := hS203.lt
 refine we H (op_b1 (mk_shBin ((q204)) (by omega) (by assumption) (by assumption) (by assumption) (by assumption)) H pos_shBin U30 ti65) ?_
 clear H A; rintro v212 w213 ⟨ho214, he215, hob216⟩ A H
 obtain ⟨hx218, _⟩ := nxe hx211 he215
 replace hf173 := hf173.ext he215
 replace hS203 := hS203.ext he215
 refine we H (op_ap (ts := #[]) H U30 ti65 pos_shBin hf173 (ho214.rds pos_shBin) flat_shBin) ?_
 clear H A; rintro v219 w220 ⟨ho221, hst222, hob223⟩ A H
 have hx225 := hx218.fresh hst222 (by intro q hq; have hq0 := hf173.lt q hq; omega)
 have hzhx225 := hst222.size
 replace hS203 := hS203.stp hst222 (by intro q hq; have hq0 := hf173.lt q hq; omega)
 replace ho214 := ho214.stp hst222 (by intro q hq; have hq0 := hf173.lt q hq; omega)
 have hsp226 : ∀ q, Value.ownBlock v219 = some q → Value.ownBlock v212 ≠ some q := by intro q hq hb; have hq0 := ho214.lt q hb; rcases hob223 with h | h; (rw [h] at hq; first | (have hq1 := hf173.lt q hq; omega)); (rw [h] at hq; cases hq; omega)
 clear ho214
 revert A; refine go ?_; intro A H
 refine wv H ((op_add H rfl rfl rfl).int (IntWalk.i64_in _ (by omega))) ?_
 clear H A; refine go ?_; intro A H
 refine ⟨((k + 1), v219, (ys ++ [(q204)])), ?_, ?_⟩
 refine ⟨(sl H), hx225, hS203, (fi ho221), (by omega), (by simp only [List.length_append, List.length_cons, List.length_nil]; omega), (by simp only [List.length_append, List.length_cons, List.length_nil]; omega)⟩
 show (22 - ((k + 1)) : Nat) < 22 - k; omega
 rw [decide_eq_false c192] at H
 revert A; refine go ?_; intro A H
 refine ret1 H rfl rfl ?_
 clear H A
 refine ret_mkS hx189 ⟨hS183, ?_⟩
 refine ⟨((ys) : List Bin), (by omega), ?_⟩
 refine (fi hf173).cast ?_
 rfl
 rw [decide_eq_false c168] at H
 revert A; refine go ?_; intro A H
 by_cases c235 : (q97 : Int) = (2 : Int)
 rw [decide_eq_true c235] at H
 revert A; refine go ?_; intro A H
 refine we H (op_nums [(5 : Int), (100000 : Int), (100001 : Int)] H U55 ti2) ?_
 clear H A; rintro v238 w239 ⟨ho240, he241, hob242⟩ A H
 obtain ⟨hx244, _⟩ := nxe hx102 he241
 replace hf21 := hf21.ext he241
 replace hS96 := hS96.ext he241
 refine wl_callS H rfl rfl rfl (op_call H rfl cb76 rfl) (c_spec_l01Pick _ g_s b_s v238 ([(5 : Int), (100000 : Int), (100001 : Int)]) hS96 (ho240.rds pos_shI64) (by rintro ⟨_, _⟩; omega) (by simp)) ?_
 clear H A; rintro v245 w246 he247 ⟨hS248, ⟨q249, hq250, rfl⟩⟩ A H
 obtain ⟨hx252, _⟩ := nxs hx244 he247
 replace hf21 := hf21.stp he247 (by intro q hq; cases hq; omega)
 replace ho240 := ho240.stp he247 (by intro q hq; cases hq; omega)
 clear hS96
 have hSlhS248 := hS248.lt
 simp only [List.mem_cons, List.not_mem_nil, or_false] at hq250
 refine wv H (op_move H rfl rfl) ?_
 clear H A; intro A H
 refine we H (op_nums [(5 : Int), (6 : Int), (-1 : Int)] H U55 ti2) ?_
 clear H A; rintro v254 w255 ⟨ho256, he257, hob258⟩ A H
 obtain ⟨hx260, _⟩ := nxe hx252 he257
 replace hf21 := hf21.ext he257
 replace ho240 := ho240.ext he257
 replace hS248 := hS248.ext he257
 refine wl_callS H rfl rfl rfl (op_call H rfl cb76 rfl) (c_spec_l01Pick _ g_s b_s v254 ([(5 : Int), (6 : Int), (-1 : Int)]) hS248 (ho256.rds pos_shI64) (by rintro ⟨_, _⟩; omega) (by simp)) ?_
 clear H A; rintro v261 w262 he263 ⟨hS264, ⟨q265, hq266, rfl⟩⟩ A H
 obtain ⟨hx268, _⟩ := nxs hx260 he263
 replace hf21 := hf21.stp he263 (by intro q hq; cases hq; omega)
 replace ho240 := ho240.stp he263 (by intro q hq; cases hq; omega)
 replace ho256 := ho256.stp he263 (by intro q hq; cases hq; omega)
 clear hS248
 have hSlhS264 := hS264.lt
 simp only [List.mem_cons, List.not_mem_nil, or_false] at hq266
 refine wv H (op_move H rfl rfl) ?_
 clear H A; intro A H
 refine we H (op_nums [(0 : Int), (1 : Int), (100000 : Int)] H U55 ti2) ?_
 clear H A; rintro v270 w271 ⟨ho272, he273, hob274⟩ A H
 obtain ⟨hx276, _⟩ := nxe hx268 he273
 replace hf21 := hf21.ext he273
 replace ho240 := ho240.ext he273
 replace ho256 := ho256.ext he273
 replace hS264 := hS264.ext he273
 refine wl_callS H rfl rfl rfl (op_call H rfl cb76 rfl) (c_spec_l01Pick _ g_s b_s v270 ([(0 : Int), (1 : Int), (100000 : Int)]) hS264 (ho272.rds pos_shI64) (by rintro ⟨_, _⟩; omega) (by simp)) ?_
 clear H A; rintro v277 w278 he279 ⟨hS280, ⟨q281, hq282, rfl⟩⟩ A H
 obtain ⟨hx284, _⟩ := nxs hx276 he279
 replace hf21 := hf21.stp he279 (by intro q hq; cases hq; omega)
 replace ho240 := ho240.stp he279 (by intro q hq; cases hq; omega)
 replace ho256 := ho256.stp he279 (by intro q hq; cases hq; omega)
 replace ho272 := ho272.stp he279 (by intro q hq; cases hq; omega)
 clear hS264
 have hSlhS280 := hS280.lt
 simp only [List.mem_cons, List.not_mem_nil, or_false] at hq282
 refine wv H (op_build (vs := [(0, St (([122, 105, 110, 99] : Str))), (1, .int .i64 (q249 : Int)), (2, .int .i64 (q265 : Int)), (4, .int .i64 (q281 : Int))]) (cs := #[St (([122, 105, 110, 99] : Str)), .int .i64 (q249 : Int), .int .i64 (q265 : Int), .int .i64 (0 : Int), .int .i64 (q281 : Int)]) H rfl U65 ti65 bp65 rfl rfl) ?_
 clear H A; intro A H
 refine we H (op_b1 (mk_shBin ((([122, 105, 110, 99] : Str), (q249 : Int), (q265 : Int), (0 : Int), (q281 : Int))) (by simp) (by dsimp only; omega) (by dsimp only; omega) (by dsimp only; omega) (by dsimp only; omega)) H pos_shBin U30 ti65) ?_
 clear H A; rintro v286 w287 ⟨ho288, he289, hob290⟩ A H
 obtain ⟨hx292, _⟩ := nxe hx284 he289
 replace hf21 := hf21.ext he289
 replace ho240 := ho240.ext he289
 replace ho256 := ho256.ext he289
 replace ho272 := ho272.ext he289
 replace hS280 := hS280.ext he289
 refine we H (op_ap (ts := #[]) H U30 ti65 pos_shBin hf21 (ho288.rds pos_shBin) flat_shBin) ?_
 clear H A; rintro v293 w294 ⟨ho295, hst296, hob297⟩ A H
 have hx299 := hx292.fresh hst296 (by intro q hq; have hq0 := hf21.lt q hq; omega)
 have hzhx299 := hst296.size
 replace ho240 := ho240.stp hst296 (by intro q hq; have hq0 := hf21.lt q hq; omega)
 replace ho256 := ho256.stp hst296 (by intro q hq; have hq0 := hf21.lt q hq; omega)
 replace ho272 := ho272.stp hst296 (by intro q hq; have hq0 := hf21.lt q hq; omega)
 replace hS280 := hS280.stp hst296 (by intro q hq; have hq0 := hf21.lt q hq; omega)
 replace ho288 := ho288.stp hst296 (by intro q hq; have hq0 := hf21.lt q hq; omega)
 have hsp300 : ∀ q, Value.ownBlock v293 = some q → Value.ownBlock v286 ≠ some q := by intro q hq hb; have hq0 := ho288.lt q hb; rcases hob297 with h | h; (rw [h] at hq; first | (have hq1 := hf21.lt q hq; omega)); (rw [h] at hq; cases hq; omega)
 clear ho240 ho256 ho272 ho288
 revert A; refine go ?_; intro A H
 refine ret1 H rfl rfl ?_
 clear H A
 refine ret_mkS hx299 ⟨hS280, ?_⟩
 refine ⟨(((xs ++ [(([122, 105, 110, 99] : Str), (q249 : Int), (q265 : Int), (0 : Int), (q281 : Int))])) : List Bin), (by simp only [List.length_append, List.length_cons, List.length_nil]; omega), ?_⟩
 refine (fi ho295).cast ?_
 rfl
 rw [decide_eq_false c235] at H
 revert A; refine go ?_; intro A H
 refine ret1 H rfl rfl ?_
 clear H A
 refine ret_mkS hx102 ⟨hS96, ?_⟩
 refine ⟨((xs) : List Bin), (by omega), ?_⟩
 refine (fi hf21).cast ?_
 rfl



theorem c_spec_l23Draw (w0 : World) (g_s b_s : Nat) (h_s : Src w0 g_s b_s 75) :
    Calls Tryz.prog 51 #[.pointer (some (⟨g_s, 0, none⟩ : Addr))] w0 (RetS w0 (some g_s) (fun v w1 => Src w1 g_s b_s 75 ∧ (fun v w1 => ∃ (l : List Prom), (l.length ≤ 100) ∧ (fun v w1 => Own shProm 67 w0.heap.size w0.heap.size w1.heap.size w1 v (l)) v w1) v w1)) := by
 refine enter (N := 96) Tryz.func51 rfl rfl rfl ?_
 intro A H
 have hx0 := Stp.rfl' w0 (some g_s)
 have hgl_s := h_s.lt
 revert A; refine go ?_; intro A H
 refine we H (op_b0 H pos_shProm U31 ti67) ?_
 clear H A; rintro v2 w3 ⟨ho4, he5, hob6⟩ A H
 obtain ⟨hx8, _⟩ := nxe hx0 he5
 replace h_s := h_s.ext he5
 revert A; refine go ?_; intro A H
 refine we H (op_lits [([97, 100, 97] : Str), ([98, 111] : Str), ([99, 121] : Str), ([100, 101, 101] : Str), ([101, 118, 101] : Str), ([102, 97, 121] : Str), ([103, 105, 108] : Str), ([104, 97, 108] : Str)] H U25 ti9) ?_
 clear H A; rintro v10 w11 ⟨ho12, he13, hob14⟩ A H
 obtain ⟨hx16, _⟩ := nxe hx8 he13
 replace h_s := h_s.ext he13
 replace ho4 := ho4.ext he13
 revert A; refine go ?_; intro A H
 refine we H (op_nums [(2 : Int), (3 : Int), (8 : Int)] H U55 ti2) ?_
 clear H A; rintro v19 w20 ⟨ho21, he22, hob23⟩ A H
 obtain ⟨hx25, _⟩ := nxe hx16 he22
 replace h_s := h_s.ext he22
 replace ho4 := ho4.ext he22
 replace ho12 := ho12.ext he22
 refine wl_callS H rfl rfl rfl (op_call H rfl cb76 rfl) (c_spec_l01Pick _ g_s b_s v19 ([(2 : Int), (3 : Int), (8 : Int)]) h_s (ho21.rds pos_shI64) (by rintro ⟨_, _⟩; omega) (by simp)) ?_
 clear H A; rintro v26 w27 he28 ⟨hS29, ⟨q30, hq31, rfl⟩⟩ A H
 obtain ⟨hx33, _⟩ := nxs hx25 he28
 replace ho4 := ho4.stp he28 (by intro q hq; cases hq; omega)
 replace ho12 := ho12.stp he28 (by intro q hq; cases hq; omega)
 replace ho21 := ho21.stp he28 (by intro q hq; cases hq; omega)
 have hSlhS29 := hS29.lt
 simp only [List.mem_cons, List.not_mem_nil, or_false] at hq31
 clear ho21
 revert A; refine go ?_; intro A H
 refine loop_inv (X := Nat × Value × (List (Str × Int × Int))) (fun ⟨i, v, xs⟩ fr wl => Sl 96 fr [(0, .pointer (some (⟨g_s, 0, none⟩ : Addr))), (3, v), (4, v10), (5, .int .i64 (q30 : Int)), (6, .int .i64 ((i : Nat) : Int))] ∧ Stp w0 wl (some g_s) ∧ Src wl g_s b_s 75 ∧ Own shStr 9 w3.heap.size w3.heap.size w11.heap.size wl v10 ([([97, 100, 97] : Str), ([98, 111] : Str), ([99, 121] : Str), ([100, 101, 101] : Str), ([101, 118, 101] : Str), ([102, 97, 121] : Str), ([103, 105, 108] : Str), ([104, 97, 108] : Str)]) ∧ Own shProm 67 w0.heap.size w0.heap.size wl.heap.size wl v xs ∧ w27.heap.size ≤ wl.heap.size ∧ (i ≤ 8) ∧ (xs.length ≤ i)) (fun ⟨i, v, xs⟩ => 8 - i) (0, v2, ([] : List (Str × Int × Int))) ?_ ?_
 exact ⟨(sl H), hx33, hS29, ho12, (fi ho4), (by omega), (by omega), (by simp)⟩
 clear H A
 rintro ⟨i, v, xs⟩ A w36 ⟨H, hx37, hf38, hf40, hf39, hzl42, hi, hxl⟩
 have hzhx37 := hx37.size
 have hgl43 := hf38.lt
 revert A; refine go ?_; intro A H
 refine wv H (ln H U25 (hf40.rds pos_shStr)) ?_
 clear H A; refine go ?_; intro A H
 by_cases c48 : ((i : Nat) : Int) < ((([([97, 100, 97] : Str), ([98, 111] : Str), ([99, 121] : Str), ([100, 101, 101] : Str), ([101, 118, 101] : Str), ([102, 97, 121] : Str), ([103, 105, 108] : Str), ([104, 97, 108] : Str)]).length : Nat) : Int)
 rw [decide_eq_true c48] at H
 revert A; refine go ?_; intro A H
 refine wl_callS H rfl rfl rfl (op_call H rfl cb37 rfl) (c_spec_l01Next _ g_s b_s (q30 : Int) hf38) ?_
 clear H A; rintro v51 w52 he53 ⟨hS54, ⟨q55, hq56, hq57, hq58, rfl⟩⟩ A H
 obtain ⟨hx60, _⟩ := nxs hx37 he53
 replace hf40 := hf40.stp he53 (by intro q hq; cases hq; omega)
 replace hf39 := hf39.stp he53 (by intro q hq; cases hq; omega)
 clear hf38
 have hSlhS54 := hS54.lt
 revert A; refine go ?_; intro A H
 by_cases c63 : (q55 : Int) = (0 : Int)
 rw [decide_eq_true c63] at H
 revert A; refine go ?_; intro A H
 obtain ⟨x76, hx76⟩ := get_ex (xs := [([97, 100, 97] : Str), ([98, 111] : Str), ([99, 121] : Str), ([100, 101, 101] : Str), ([101, 118, 101] : Str), ([102, 97, 121] : Str), ([103, 105, 108] : Str), ([104, 97, 108] : Str)]) (j := i) (by omega)
 obtain ⟨p77, hi79, hc80, b83, _, _⟩ := at_shStr (hf40.rds pos_shStr) hx76
 have hdlx76 := el_len 17 (by rfl) hx76
 refine wv H (ix H U25 ti9 hi79) ?_
 clear H A; intro A H
 refine wv H (lh H U9 hc80) ?_
 clear H A; intro A H
 refine wl_callS H rfl rfl rfl (op_call H rfl cb77 rfl) (c_spec_l23Good _ g_s b_s x76 hS54 (by omega)) ?_
 clear H A; rintro v86 w87 he88 ⟨hS89, ⟨q90, hq91, hq92, hq93, rfl⟩⟩ A H
 obtain ⟨hx95, _⟩ := nxs hx60 he88
 replace hf40 := hf40.stp he88 (by intro q hq; cases hq; omega)
 replace hf39 := hf39.stp he88 (by intro q hq; cases hq; omega)
 replace hc80 := hc80.stp he88 (by intro q hq; cases hq; omega)
 clear hS54
 have hSlhS89 := hS89.lt
 refine we H (op_b1 (mk_shProm ((q90)) (by omega) (by assumption) (by assumption)) H pos_shProm U31 ti67) ?_
 clear H A; rintro v96 w97 ⟨ho98, he99, hob100⟩ A H
 obtain ⟨hx102, _⟩ := nxe hx95 he99
 replace hf40 := hf40.ext he99
 replace hf39 := hf39.ext he99
 replace hc80 := hc80.ext he99
 replace hS89 := hS89.ext he99
 refine we H (op_ap (ts := #[]) H U31 ti67 pos_shProm hf39 (ho98.rds pos_shProm) flat_shProm) ?_
 clear H A; rintro v103 w104 ⟨ho105, hst106, hob107⟩ A H
 have hx109 := hx102.fresh hst106 (by intro q hq; have hq0 := hf39.lt q hq; omega)
 have hzhx109 := hst106.size
 replace hf40 := oo hf40 flat_shStr hf39 hst106
 replace hS89 := hS89.stp hst106 (by intro q hq; have hq0 := hf39.lt q hq; omega)
 replace ho98 := ho98.stp hst106 (by intro q hq; have hq0 := hf39.lt q hq; omega)
 have hsp110 : ∀ q, Value.ownBlock v103 = some q → Value.ownBlock v96 ≠ some q := by intro q hq hb; have hq0 := ho98.lt q hb; rcases hob107 with h | h; (rw [h] at hq; first | (have hq1 := hf39.lt q hq; omega)); (rw [h] at hq; cases hq; omega)
 clear ho98
 revert A; refine go ?_; intro A H
 refine wv H ((op_add H rfl rfl rfl).int (IntWalk.i64_in _ (by omega))) ?_
 clear H A; refine go ?_; intro A H
 refine ⟨((i + 1), v103, (xs ++ [(q90)])), ?_, ?_⟩
 refine ⟨(sl H), hx109, hS89, hf40, (fi ho105), (by omega), (by simp only [List.length_cons, List.length_nil] at *; omega), (by simp only [List.length_append, List.length_cons, List.length_nil]; omega)⟩
 show (8 - ((i + 1)) : Nat) < 8 - i; (simp only [List.length_cons, List.length_nil] at *; omega)
 rw [decide_eq_false c63] at H
 revert A; refine go ?_; intro A H
 by_cases c118 : (q30 : Int) = (8 : Int)
 rw [decide_eq_true c118] at H
 refine wv H (op_move H rfl rfl) ?_
 clear H A; intro A H
 refine wl_callS H rfl rfl rfl (op_call H rfl cb37 rfl) (c_spec_l01Next _ g_s b_s (3 : Int) hS54) ?_
 clear H A; rintro v120 w121 he122 ⟨hS123, ⟨q124, hq125, hq126, hq127, rfl⟩⟩ A H
 obtain ⟨hx129, _⟩ := nxs hx60 he122
 replace hf40 := hf40.stp he122 (by intro q hq; cases hq; omega)
 replace hf39 := hf39.stp he122 (by intro q hq; cases hq; omega)
 clear hS54
 have hSlhS123 := hS123.lt
 revert A; refine go ?_; intro A H
 by_cases c133 : (0 : Int) < (q124 : Int)
 rw [decide_eq_true c133] at H
 revert A; refine go ?_; intro A H
 obtain ⟨x138, hx138⟩ := get_ex (xs := [([97, 100, 97] : Str), ([98, 111] : Str), ([99, 121] : Str), ([100, 101, 101] : Str), ([101, 118, 101] : Str), ([102, 97, 121] : Str), ([103, 105, 108] : Str), ([104, 97, 108] : Str)]) (j := i) (by omega)
 obtain ⟨p139, hi141, hc142, b145, _, _⟩ := at_shStr (hf40.rds pos_shStr) hx138
 have hdlx138 := el_len 17 (by rfl) hx138
 refine wv H (ix H U25 ti9 hi141) ?_
 clear H A; intro A H
 refine wv H (lh H U9 hc142) ?_
 clear H A; intro A H
 refine wl_callS H rfl rfl rfl (op_call H rfl cb77 rfl) (c_spec_l23Good _ g_s b_s x138 hS123 (by omega)) ?_
 clear H A; rintro v148 w149 he150 ⟨hS151, ⟨q152, hq153, hq154, hq155, rfl⟩⟩ A H
 obtain ⟨hx157, _⟩ := nxs hx129 he150
 replace hf40 := hf40.stp he150 (by intro q hq; cases hq; omega)
 replace hf39 := hf39.stp he150 (by intro q hq; cases hq; omega)
 replace hc142 := hc142.stp he150 (by intro q hq; cases hq; omega)
 clear hS123
 have hSlhS151 := hS151.lt
 refine we H (op_b1 (mk_shProm ((q152)) (by omega) (by assumption) (by assumption)) H pos_shProm U31 ti67) ?_
 clear H A; rintro v158 w159 ⟨ho160, he161, hob162⟩ A H
 obtain ⟨hx164, _⟩ := nxe hx157 he161
 replace hf40 := hf40.ext he161
 replace hf39 := hf39.ext he161
 replace hc142 := hc142.ext he161
 replace hS151 := hS151.ext he161
 refine we H (op_ap (ts := #[]) H U31 ti67 pos_shProm hf39 (ho160.rds pos_shProm) flat_shProm) ?_
 clear H A; rintro v165 w166 ⟨ho167, hst168, hob169⟩ A H
 have hx171 := hx164.fresh hst168 (by intro q hq; have hq0 := hf39.lt q hq; omega)
 have hzhx171 := hst168.size
 replace hf40 := oo hf40 flat_shStr hf39 hst168
 replace hS151 := hS151.stp hst168 (by intro q hq; have hq0 := hf39.lt q hq; omega)
 replace ho160 := ho160.stp hst168 (by intro q hq; have hq0 := hf39.lt q hq; omega)
 have hsp172 : ∀ q, Value.ownBlock v165 = some q → Value.ownBlock v158 ≠ some q := by intro q hq hb; have hq0 := ho160.lt q hb; rcases hob169 with h | h; (rw [h] at hq; first | (have hq1 := hf39.lt q hq; omega)); (rw [h] at hq; cases hq; omega)
 clear ho160
 revert A; refine go ?_; intro A H
 refine wv H ((op_add H rfl rfl rfl).int (IntWalk.i64_in _ (by omega))) ?_
 clear H A; refine go ?_; intro A H
 refine ⟨((i + 1), v165, (xs ++ [(q152)])), ?_, ?_⟩
 refine ⟨(sl H), hx171, hS151, hf40, (fi ho167), (by omega), (by simp only [List.length_cons, List.length_nil] at *; omega), (by simp only [List.length_append, List.length_cons, List.length_nil]; omega)⟩
 show (8 - ((i + 1)) : Nat) < 8 - i; (simp only [List.length_cons, List.length_nil] at *; omega)
 rw [decide_eq_false c133] at H
 revert A; refine go ?_; intro A H
 refine wv H ((op_add H rfl rfl rfl).int (IntWalk.i64_in _ (by omega))) ?_
 clear H A; refine go ?_; intro A H
 refine ⟨((i + 1), v, xs), ?_, ?_⟩
 refine ⟨(sl H), hx129, hS123, hf40, (fi hf39), (by omega), (by simp only [List.length_cons, List.length_nil] at *; omega), (by omega)⟩
 show (8 - ((i + 1)) : Nat) < 8 - i; (simp only [List.length_cons, List.length_nil] at *; omega)
 rw [decide_eq_false c118] at H
 revert A; refine go ?_; intro A H
 refine wv H ((op_add H rfl rfl rfl).int (IntWalk.i64_in _ (by omega))) ?_
 clear H A; refine go ?_; intro A H
 refine ⟨((i + 1), v, xs), ?_, ?_⟩
 refine ⟨(sl H), hx60, hS54, hf40, (fi hf39), (by omega), (by simp only [List.length_cons, List.length_nil] at *; omega), (by omega)⟩
 show (8 - ((i + 1)) : Nat) < 8 - i; (simp only [List.length_cons, List.length_nil] at *; omega)
 rw [decide_eq_false c48] at H
 clear hf40
 revert A; refine go ?_; intro A H
 refine wl_callS H rfl rfl rfl (op_call H rfl cb37 rfl) (c_spec_l01Next _ g_s b_s (40 : Int) hf38) ?_
 clear H A; rintro v189 w190 he191 ⟨hS192, ⟨q193, hq194, hq195, hq196, rfl⟩⟩ A H
 obtain ⟨hx198, _⟩ := nxs hx37 he191
 replace hf39 := hf39.stp he191 (by intro q hq; cases hq; omega)
 clear hf38
 have hSlhS192 := hS192.lt
 revert A; refine go ?_; intro A H
 by_cases c201 : (q193 : Int) = (0 : Int)
 rw [decide_eq_true c201] at H
 revert A; refine go ?_; intro A H
 refine we H (op_lits [([97, 100, 97] : Str), ([90] : Str)] H U25 ti9) ?_
 clear H A; rintro v204 w205 ⟨ho206, he207, hob208⟩ A H
 obtain ⟨hx210, _⟩ := nxe hx198 he207
 replace hf39 := hf39.ext he207
 replace hS192 := hS192.ext he207
 refine wv H (op_move H rfl rfl) ?_
 clear H A; intro A H
 refine wl_callS H rfl rfl rfl (op_call H rfl cb37 rfl) (c_spec_l01Next _ g_s b_s (2 : Int) hS192) ?_
 clear H A; rintro v212 w213 he214 ⟨hS215, ⟨q216, hq217, hq218, hq219, rfl⟩⟩ A H
 obtain ⟨hx221, _⟩ := nxs hx210 he214
 replace hf39 := hf39.stp he214 (by intro q hq; cases hq; omega)
 replace ho206 := ho206.stp he214 (by intro q hq; cases hq; omega)
 clear hS192
 have hSlhS215 := hS215.lt
 obtain ⟨x222, hx222⟩ := get_ex (xs := [([97, 100, 97] : Str), ([90] : Str)]) (j := ((q216 : Int)).toNat) (by simp only [List.length_cons, List.length_nil]; omega)
 obtain ⟨p223, hi225, hc226, b229, _, _⟩ := at_shStr (ho206.rds pos_shStr) hx222
 have hdlx222 := el_len 17 (by rfl) hx222
 refine wv H (ix H U25 ti9 hi225) ?_
 clear H A; intro A H
 refine wv H (lh H U9 hc226) ?_
 clear H A; intro A H
 refine wl_callS H rfl rfl rfl (op_call H rfl cb77 rfl) (c_spec_l23Good _ g_s b_s x222 hS215 (by omega)) ?_
 clear H A; rintro v232 w233 he234 ⟨hS235, ⟨q236, hq237, hq238, hq239, rfl⟩⟩ A H
 obtain ⟨hx241, _⟩ := nxs hx221 he234
 replace hf39 := hf39.stp he234 (by intro q hq; cases hq; omega)
 replace ho206 := ho206.stp he234 (by intro q hq; cases hq; omega)
 replace hc226 := hc226.stp he234 (by intro q hq; cases hq; omega)
 clear hS215
 have hSlhS235 := hS235.lt
 refine we H (op_b1 (mk_shProm ((q236)) (by omega) (by assumption) (by assumption)) H pos_shProm U31 ti67) ?_
 clear H A; rintro v242 w243 ⟨ho244, he245, hob246⟩ A H
 obtain ⟨hx248, _⟩ := nxe hx241 he245
 replace hf39 := hf39.ext he245
 replace ho206 := ho206.ext he245
 replace hc226 := hc226.ext he245
 replace hS235 := hS235.ext he245
 refine we H (op_ap (ts := #[]) H U31 ti67 pos_shProm hf39 (ho244.rds pos_shProm) flat_shProm) ?_
 clear H A; rintro v249 w250 ⟨ho251, hst252, hob253⟩ A H
 have hx255 := hx248.fresh hst252 (by intro q hq; have hq0 := hf39.lt q hq; omega)
 have hzhx255 := hst252.size
 replace ho206 := ho206.stp hst252 (by intro q hq; have hq0 := hf39.lt q hq; omega)
 replace hS235 := hS235.stp hst252 (by intro q hq; have hq0 := hf39.lt q hq; omega)
 replace ho244 := ho244.stp hst252 (by intro q hq; have hq0 := hf39.lt q hq; omega)
 have hsp256 : ∀ q, Value.ownBlock v249 = some q → Value.ownBlock v242 ≠ some q := by intro q hq hb; have hq0 := ho244.lt q hb; rcases hob253 with h | h; (rw [h] at hq; first | (have hq1 := hf39.lt q hq; omega)); (rw [h] at hq; cases hq; omega)
 clear ho206 ho244
 revert A; refine go ?_; intro A H
 refine ret1 H rfl rfl ?_
 clear H A
 refine ret_mkS hx255 ⟨hS235, ?_⟩
 refine ⟨(((xs ++ [(q236)])) : List Prom), (by simp only [List.length_append, List.length_cons, List.length_nil]; omega), ?_⟩
 refine (fi ho251).cast ?_
 rfl
 rw [decide_eq_false c201] at H
 revert A; refine go ?_; intro A H
 by_cases c262 : (q193 : Int) = (1 : Int)
 rw [decide_eq_true c262] at H
 revert A; refine go ?_; intro A H
 refine loop_inv (X := Nat × Value × (List (Str × Int × Int))) (fun ⟨k, v2, ys⟩ fr wl => Sl 96 fr [(0, .pointer (some (⟨g_s, 0, none⟩ : Addr))), (3, v2), (7, .int .i64 ((k : Nat) : Int))] ∧ Stp w0 wl (some g_s) ∧ Src wl g_s b_s 75 ∧ Own shProm 67 w0.heap.size w0.heap.size wl.heap.size wl v2 ys ∧ w190.heap.size ≤ wl.heap.size ∧ (k ≤ ys.length) ∧ (ys.length ≤ 41)) (fun ⟨k, v2, ys⟩ => 42 - k) (0, v, xs) ?_ ?_
 exact ⟨(sl H), hx198, hS192, (fi hf39), (by omega), (by omega), (by omega)⟩
 clear H A
 rintro ⟨k, v2, ys⟩ A w264 ⟨H, hx265, hf266, hf267, hzl269, hk, hyl⟩
 have hzhx265 := hx265.size
 have hgl270 := hf266.lt
 revert A; refine go ?_; intro A H
 refine wv H (ln H U31 (hf267.rds pos_shProm)) ?_
 clear H A; intro A H
 refine wv H (op_move H rfl rfl) ?_
 clear H A; intro A H
 refine wl_callS H rfl rfl rfl (op_call H rfl cb37 rfl) (c_spec_l01Next _ g_s b_s (2 : Int) hf266) ?_
 clear H A; rintro v274 w275 he276 ⟨hS277, ⟨q278, hq279, hq280, hq281, rfl⟩⟩ A H
 obtain ⟨hx283, _⟩ := nxs hx265 he276
 replace hf267 := hf267.stp he276 (by intro q hq; cases hq; omega)
 clear hf266
 have hSlhS277 := hS277.lt
 refine wv H ((op_add H rfl rfl rfl).int (IntWalk.i64_in _ (by omega))) ?_
 clear H A; refine go ?_; intro A H
 by_cases c286 : ((ys.length : Nat) : Int) < ((40 : Int) + (q278 : Int))
 rw [decide_eq_true c286] at H
 revert A; refine go ?_; intro A H
 refine dre (fun wa_ wb_ => Stp wa_ wb_ (Value.ownBlock v2)) follows_mixed ?_
 intro w287 he288 hs290
 obtain ⟨hx289, _⟩ := nxe hx283 he288
 replace hf267 := hf267.ext he288
 replace hS277 := hS277.ext he288
 revert A; refine dgo [0, 1] (Stp.of_ext hs290 _) ?_; intro A H
 refine dv 2 H rfl (Stp.of_ext hs290 _) (fun w' hw' => (op_quo H rfl rfl rfl (by omega)).int (IntWalk.i64_quo _ _ (by omega))) ?_
 clear H A; intro A H
 refine dw 3 H rfl (Stp.of_ext hs290 _) (op_move H rfl rfl) ?_
 clear H A; intro A H
 refine dv 4 H rfl (Stp.of_ext hs290 _) (fun w' hw' => (op_quo H rfl rfl rfl (by omega)).int (IntWalk.i64_quo _ _ (by omega))) ?_
 clear H A; intro A H
 refine dw 5 H rfl (Stp.of_ext hs290 _) ((op_add H rfl rfl rfl).int (IntWalk.i64_in _ (by omega))) ?_
 clear H A; intro A H
 refine dw 6 H rfl (Stp.of_ext hs290 _) (op_slice_str_b (i := (k / 5)) (j := ((k / 5) + 1)) (by omega) (by omega) H rfl U9 rfl rfl rfl (by omega) (by simp; omega)) ?_
 clear H A; intro A H
 refine dw 7 H rfl (Stp.of_ext hs290 _) (op_sadd H rfl rfl rfl (by simp only [List.length_cons, List.length_nil, List.length_drop, List.length_take]; omega)) ?_
 clear H A; intro A H
 refine dw 8 H rfl (Stp.of_ext hs290 _) (op_move H rfl rfl) ?_
 clear H A; intro A H
 refine dv 9 H rfl (Stp.of_ext hs290 _) (fun w' hw' => (op_rem H rfl rfl rfl (by omega)).int (Int.tmod_eq_emod_of_nonneg (by omega))) ?_
 clear H A; intro A H
 refine dw 10 H rfl (Stp.of_ext hs290 _) (op_move H rfl rfl) ?_
 clear H A; intro A H
 refine dv 11 H rfl (Stp.of_ext hs290 _) (fun w' hw' => (op_rem H rfl rfl rfl (by omega)).int (Int.tmod_eq_emod_of_nonneg (by omega))) ?_
 clear H A; intro A H
 refine dw 12 H rfl (Stp.of_ext hs290 _) ((op_add H rfl rfl rfl).int (IntWalk.i64_in _ (by omega))) ?_
 clear H A; intro A H
 refine dw 13 H rfl (Stp.of_ext hs290 _) (op_slice_str_b (i := (k % 5)) (j := ((k % 5) + 1)) (by omega) (by omega) H rfl U9 rfl rfl rfl (by omega) (by simp; omega)) ?_
 clear H A; intro A H
 refine dw 14 H rfl (Stp.of_ext hs290 _) (op_sadd H rfl rfl rfl (by simp only [List.length_append, List.length_cons, List.length_nil, List.length_drop, List.length_take]; omega)) ?_
 clear H A; intro A H
 refine dw 15 H rfl (Stp.of_ext hs290 _) (op_build (vs := [(0, St (((([120] : Str)) ++ (((([97, 98, 99, 100, 101, 102, 103, 104, 105, 106] : Str)).take (((k / 5) + 1))).drop ((k / 5)))) ++ (((([97, 98, 99, 100, 101] : Str)).take (((k % 5) + 1))).drop ((k % 5))))), (1, .int .i64 (300 : Int)), (2, .int .i64 (100 : Int))]) (cs := #[St (((([120] : Str)) ++ (((([97, 98, 99, 100, 101, 102, 103, 104, 105, 106] : Str)).take (((k / 5) + 1))).drop ((k / 5)))) ++ (((([97, 98, 99, 100, 101] : Str)).take (((k % 5) + 1))).drop ((k % 5)))), .int .i64 (300 : Int), .int .i64 (100 : Int)]) H rfl U67 ti67 bp67 rfl rfl) ?_
 clear H A; intro A H
 refine dr_one (i := 16) (by kernel_rfl) ?_
 refine pe H rfl (op_b1 (mk_shProm ((((([120] : Str)) ++ (((([97, 98, 99, 100, 101, 102, 103, 104, 105, 106] : Str)).take (((k / 5) + 1))).drop ((k / 5)))) ++ (((([97, 98, 99, 100, 101] : Str)).take (((k % 5) + 1))).drop ((k % 5))), (300 : Int), (100 : Int))) (by simp; omega) (by dsimp only; omega) (by dsimp only; omega)) H pos_shProm U31 ti67) ?_
 clear H A; rintro v307 w308 ⟨ho309, he310, hob311⟩ A H
 have hs313 := hs290.trans' he310
 obtain ⟨hx314, _⟩ := nxe hx289 he310
 refine ⟨(Stp.of_ext hs313 _), ?_⟩
 replace hf267 := hf267.ext hs313
 replace hS277 := hS277.ext hs313
 refine drs (Stp.of_ext hs313 _) ?_
 intro hs315
 refine dr_one (i := 17) (by kernel_rfl) ?_
 replace hf267 := hf267.ext hs315
 replace hS277 := hS277.ext hs315
 replace ho309 := ho309.ext hs315
 refine pe H rfl (op_ap (ts := #[]) H U31 ti67 pos_shProm hf267 (ho309.rds pos_shProm) flat_shProm) ?_
 clear H A; rintro v316 w317 ⟨ho318, hst319, hob320⟩ A H
 have hs322 := (Stp.of_ext hs315 (Value.ownBlock v2)).trans' hst319
 have hx323 := hx314.fresh hst319 (by intro q hq; have hq0 := hf267.lt q hq; omega)
 have hzhx323 := hst319.size
 replace hS277 := hS277.stp hst319 (by intro q hq; have hq0 := hf267.lt q hq; omega)
 replace ho309 := ho309.stp hst319 (by intro q hq; have hq0 := hf267.lt q hq; omega)
 have hsp324 : ∀ q, Value.ownBlock v316 = some q → Value.ownBlock v307 ≠ some q := by intro q hq hb; have hq0 := ho309.lt q hb; rcases hob320 with h | h; (rw [h] at hq; first | (have hq1 := hf267.lt q hq; omega)); (rw [h] at hq; cases hq; omega)
 refine ⟨hs322, ?_⟩
 refine drs hs322 ?_
 intro hs325
 refine dw 18 H rfl (Stp.of_ext hs325 _) (op_assign H rfl rfl) ?_
 clear H A; intro A H
 refine dr_end (by kernel_rfl) ?_
 clear ho309
 revert A; refine go ?_; intro A H
 refine wv H ((op_add H rfl rfl rfl).int (IntWalk.i64_in _ (by omega))) ?_
 clear H A; refine go ?_; intro A H
 refine ⟨((k + 1), v316, (ys ++ [(((([120] : Str)) ++ (((([97, 98, 99, 100, 101, 102, 103, 104, 105, 106] : Str)).take (((k / 5) + 1))).drop ((k / 5)))) ++ (((([97, 98, 99, 100, 101] : Str)).take (((k % 5) + 1))).drop ((k % 5))), (300 : Int), (100 : Int))])), ?_, ?_⟩
 refine ⟨(sl H), hx323, hS277, (fi ho318), (by omega), (by simp only [List.length_append, List.length_cons, List.length_nil]; omega), (by simp only [List.length_append, List.length_cons, List.length_nil]; omega)⟩
 show (42 - ((k + 1)) : Nat) < 42 - k; omega
 rw [decide_eq_false c286] at H
 revert A; refine go ?_; intro A H
 refine ret1 H rfl rfl ?_
 clear H A
 refine ret_mkS hx283 ⟨hS277, ?_⟩
 refine ⟨((ys) : List Prom), (by omega), ?_⟩
 refine (fi hf267).cast ?_
 rfl
 rw [decide_eq_false c262] at H
 revert A; refine go ?_; intro A H
 by_cases c334 : (q193 : Int) = (2 : Int)
 rw [decide_eq_true c334] at H
 revert A; refine go ?_; intro A H
 refine we H (op_nums [(0 : Int), (1 : Int), (1000 : Int), (1001 : Int)] H U55 ti2) ?_
 clear H A; rintro v337 w338 ⟨ho339, he340, hob341⟩ A H
 obtain ⟨hx343, _⟩ := nxe hx198 he340
 replace hf39 := hf39.ext he340
 replace hS192 := hS192.ext he340
 refine wl_callS H rfl rfl rfl (op_call H rfl cb76 rfl) (c_spec_l01Pick _ g_s b_s v337 ([(0 : Int), (1 : Int), (1000 : Int), (1001 : Int)]) hS192 (ho339.rds pos_shI64) (by rintro ⟨_, _⟩; omega) (by simp)) ?_
 clear H A; rintro v344 w345 he346 ⟨hS347, ⟨q348, hq349, rfl⟩⟩ A H
 obtain ⟨hx351, _⟩ := nxs hx343 he346
 replace hf39 := hf39.stp he346 (by intro q hq; cases hq; omega)
 replace ho339 := ho339.stp he346 (by intro q hq; cases hq; omega)
 clear hS192
 have hSlhS347 := hS347.lt
 simp only [List.mem_cons, List.not_mem_nil, or_false] at hq349
 refine wv H (op_move H rfl rfl) ?_
 clear H A; intro A H
 refine we H (op_nums [(0 : Int), (1 : Int), (2000 : Int), (2001 : Int)] H U55 ti2) ?_
 clear H A; rintro v353 w354 ⟨ho355, he356, hob357⟩ A H
 obtain ⟨hx359, _⟩ := nxe hx351 he356
 replace hf39 := hf39.ext he356
 replace ho339 := ho339.ext he356
 replace hS347 := hS347.ext he356
 refine wl_callS H rfl rfl rfl (op_call H rfl cb76 rfl) (c_spec_l01Pick _ g_s b_s v353 ([(0 : Int), (1 : Int), (2000 : Int), (2001 : Int)]) hS347 (ho355.rds pos_shI64) (by rintro ⟨_, _⟩; omega) (by simp)) ?_
 clear H A; rintro v360 w361 he362 ⟨hS363, ⟨q364, hq365, rfl⟩⟩ A H
 obtain ⟨hx367, _⟩ := nxs hx359 he362
 replace hf39 := hf39.stp he362 (by intro q hq; cases hq; omega)
 replace ho339 := ho339.stp he362 (by intro q hq; cases hq; omega)
 replace ho355 := ho355.stp he362 (by intro q hq; cases hq; omega)
 clear hS347
 have hSlhS363 := hS363.lt
 simp only [List.mem_cons, List.not_mem_nil, or_false] at hq365
 refine wv H (op_build (vs := [(0, St (([105, 118, 121] : Str))), (1, .int .i64 (q348 : Int)), (2, .int .i64 (q364 : Int))]) (cs := #[St (([105, 118, 121] : Str)), .int .i64 (q348 : Int), .int .i64 (q364 : Int)]) H rfl U67 ti67 bp67 rfl rfl) ?_
 clear H A; intro A H
 refine we H (op_b1 (mk_shProm ((([105, 118, 121] : Str), (q348 : Int), (q364 : Int))) (by simp) (by dsimp only; omega) (by dsimp only; omega)) H pos_shProm U31 ti67) ?_
 clear H A; rintro v369 w370 ⟨ho371, he372, hob373⟩ A H
 obtain ⟨hx375, _⟩ := nxe hx367 he372
 replace hf39 := hf39.ext he372
 replace ho339 := ho339.ext he372
 replace ho355 := ho355.ext he372
 replace hS363 := hS363.ext he372
 refine we H (op_ap (ts := #[]) H U31 ti67 pos_shProm hf39 (ho371.rds pos_shProm) flat_shProm) ?_
 clear H A; rintro v376 w377 ⟨ho378, hst379, hob380⟩ A H
 have hx382 := hx375.fresh hst379 (by intro q hq; have hq0 := hf39.lt q hq; omega)
 have hzhx382 := hst379.size
 replace ho339 := ho339.stp hst379 (by intro q hq; have hq0 := hf39.lt q hq; omega)
 replace ho355 := ho355.stp hst379 (by intro q hq; have hq0 := hf39.lt q hq; omega)
 replace hS363 := hS363.stp hst379 (by intro q hq; have hq0 := hf39.lt q hq; omega)
 replace ho371 := ho371.stp hst379 (by intro q hq; have hq0 := hf39.lt q hq; omega)
 have hsp383 : ∀ q, Value.ownBlock v376 = some q → Value.ownBlock v369 ≠ some q := by intro q hq hb; have hq0 := ho371.lt q hb; rcases hob380 with h | h; (rw [h] at hq; first | (have hq1 := hf39.lt q hq; omega)); (rw [h] at hq; cases hq; omega)
 clear ho339 ho355 ho371
 revert A; refine go ?_; intro A H
 refine ret1 H rfl rfl ?_
 clear H A
 refine ret_mkS hx382 ⟨hS363, ?_⟩
 refine ⟨(((xs ++ [(([105, 118, 121] : Str), (q348 : Int), (q364 : Int))])) : List Prom), (by simp only [List.length_append, List.length_cons, List.length_nil]; omega), ?_⟩
 refine (fi ho378).cast ?_
 rfl
 rw [decide_eq_false c334] at H
 revert A; refine go ?_; intro A H
 refine ret1 H rfl rfl ?_
 clear H A
 refine ret_mkS hx198 ⟨hS192, ?_⟩
 refine ⟨((xs) : List Prom), (by omega), ?_⟩
 refine (fi hf39).cast ?_
 rfl




end Go.Proofs.YthbehhhblchhhaaGreat
