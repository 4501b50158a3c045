/- Commands done by the program. -/
import Derived.Test.YthbehhhblchhhaaGreatX1
namespace Go.Proofs.YthbehhhblchhhaaGreat
open Go Go.RowKit
set_option maxHeartbeats 16000000

theorem cm_mm {ws : List Str} {ns : List Int} {w : Str} (h : cmOK ws ns) (hw : ws[0]? = some w) (n0 : ¬ w = [98, 105, 110]) (n1 : ¬ w = [102, 105, 108, 108]) (n2 : ¬ w = [114, 101, 115, 101, 114, 118, 101]) (n3 : ¬ w = [114, 101, 108, 101, 97, 115, 101]) (n4 : ¬ w = [117, 115, 101]) (n5 : ¬ w = [102, 114, 101, 101]) (n6 : ¬ w = [111, 114, 100, 101, 114]) (n7 : ¬ w = [112, 114, 111, 109, 105, 115, 101]) (n8 : ¬ w = [119, 104, 101, 110]) (n9 : ¬ w = [107, 101, 112, 116]) (n10 : ¬ w = [115, 97, 108, 101]) (n11 : ¬ w = [112, 97, 121]) (n12 : ¬ w = [98, 117, 121]) (n13 : ¬ w = [99, 108, 111, 115, 101]) (n14 : ¬ w = [99, 97, 115, 104]) (n15 : ¬ w = [111, 119, 101, 115]) (n16 : ¬ w = [103, 101, 97, 114]) : w = [109, 109] := by
  have h1 := cm_some h hw
  unfold kdO at h1
  unfold W3 W2 W1 W0 WI WII at h1
  simp only [List.mem_cons, List.not_mem_nil, or_false] at h1
  simp only [n0, n1, n2, n3, n4, n5, n6, n7, n8, n9, n10, n11, n12, n13, n14, n15, n16, false_or, or_false, if_false] at h1
  split at h1
  · assumption
  · exact absurd h1 (by decide)
theorem cm_gear {ws : List Str} {ns : List Int} {w : Str} (h : cmOK ws ns) (hw : ws[0]? = some w) (n0 : ¬ w = [98, 105, 110]) (n1 : ¬ w = [102, 105, 108, 108]) (n2 : ¬ w = [114, 101, 115, 101, 114, 118, 101]) (n3 : ¬ w = [114, 101, 108, 101, 97, 115, 101]) (n4 : ¬ w = [117, 115, 101]) (n5 : ¬ w = [102, 114, 101, 101]) (n6 : ¬ w = [111, 114, 100, 101, 114]) (n7 : ¬ w = [112, 114, 111, 109, 105, 115, 101]) (n8 : ¬ w = [119, 104, 101, 110]) (n9 : ¬ w = [107, 101, 112, 116]) (n10 : ¬ w = [115, 97, 108, 101]) (n11 : ¬ w = [112, 97, 121]) (n12 : ¬ w = [98, 117, 121]) (n13 : ¬ w = [99, 108, 111, 115, 101]) (n14 : ¬ w = [99, 97, 115, 104]) (n15 : ¬ w = [111, 119, 101, 115]) (n17 : ¬ w = [109, 109]) : w = [103, 101, 97, 114] := by
  have h1 := cm_some h hw
  unfold kdO at h1
  unfold W3 W2 W1 W0 WI WII at h1
  simp only [List.mem_cons, List.not_mem_nil, or_false] at h1
  simp only [n0, n1, n2, n3, n4, n5, n6, n7, n8, n9, n10, n11, n12, n13, n14, n15, n17, or_false, if_false] at h1
  split at h1
  · assumption
  · exact absurd h1 (by decide)
theorem ge {p : Prop} (h : p := by first | assumption | omega | (constructor <;> omega) | (dsimp only; omega) | (dsimp only; decide) | exact bd_fr (by assumption) _ | exact bd_wn _ _ | exact bd_kt (by assumption) | exact bd_cs (by assumption) _ | exact bd_ow (by assumption) _ | exact bd_gr (by assumption) (by assumption) | (simp; done) | (simp; omega)) : p := h

theorem c_impl_withStock (w0 : World) (v_d0 : Value) (v_d1 : Value) (v_d2 : Value) (d : List (Str × Int × Int × Int × Int) × List (Str × Int × Int) × List (Int × Int × Str × Int)) {lo_d hi_d : Nat} (v_stock : Value) (stock : List (Str × Int × Int × Int × Int)) (err : Int) (h_d0 : Own shBin 65 lo_d lo_d hi_d w0 v_d0 d.1) (h_d1 : Own shProm 67 lo_d lo_d hi_d w0 v_d1 d.2.1) (h_d2 : Own shEnt 69 lo_d lo_d hi_d w0 v_d2 d.2.2) (k_d : hi_d ≤ w0.heap.size) (_l_d : lo_d ≤ w0.heap.size) (h_stock : Own shBin 65 lo_d lo_d hi_d w0 v_stock stock) :
    Calls Tryz.prog 93 #[.agg #[v_d0, v_d1, v_d2], v_stock, .int .i64 err] w0 (Ret w0 (fun v w1 => ∃ r0_0 r0_1 r0_2, v = .tuple #[.agg #[r0_0, r0_1, r0_2], St ((stR d stock err).2.1), .int .i64 ((stR d stock err).2.2)] ∧ Own shBin 65 lo_d lo_d w1.heap.size w1 r0_0 (((stR d stock err).1).1) ∧ Own shProm 67 lo_d lo_d w1.heap.size w1 r0_1 (((stR d stock err).1).2.1) ∧ Own shEnt 69 lo_d lo_d w1.heap.size w1 r0_2 (((stR d stock err).1).2.2))) := by
 refine enter (N := 16) Tryz.func93 rfl rfl rfl ?_
 intro A H
 have hx0 := Ext.rfl' w0
 have hl_d0 := (h_d0.rds pos_shBin).length_le
 have hl_d1 := (h_d1.rds pos_shProm).length_le
 have hl_d2 := (h_d2.rds pos_shEnt).length_le
 have hl_stock := (h_stock.rds pos_shBin).length_le
 revert A; refine go ?_; intro A H
 refine we H (op_box' H rfl rfl rfl) ?_
 clear H A; rintro _ w2 ⟨rfl, he3, hb4, hz5⟩ A H
 obtain ⟨hx7, _⟩ := nx hx0 he3
 refine we H (op_alloc' rfl ti34 rfl) ?_
 clear H A; rintro _ w9 ⟨rfl, he10, hb11, hz12⟩ A H
 obtain ⟨hx14, _⟩ := nx hx7 he10
 replace hb4 := hb4.ext he10
 revert A; refine go ?_; intro A H
 by_cases c19 : err = (0 : Int)
 rw [decide_eq_true c19] at H
 revert A; refine go ?_; intro A H
 refine wv H (fa H U34 ti30) ?_
 clear H A; intro A H
 refine ws H (op_store' (off := 0) H rfl ti30 rfl rfl hb4 (h_stock.ext hx14).cells1 rfl (by intro u hu; have hu : u ∈ ([v_stock] : List Value) := hu; simp only [List.mem_cons, List.mem_nil_iff, or_false] at hu; rcases hu with rfl <;> exact (h_stock.ext hx14).one) (Nat.le_of_ble_eq_true rfl)) ?_
 rintro w22 ⟨hb24, hst23, hz25⟩
 obtain ⟨hx26, _⟩ := nb hx14 hst23
 replace hb11 := bb hb11 hst23
 clear hb4
 revert A; refine go ?_; intro A H
 refine wv H (ls H U34 ti34 hb24.cells) ?_
 clear H A; intro A H
 refine ws H (op_storeAll' H rfl ti34 rfl rfl hb11 rfl rfl (by intro u hu; have hu : u ∈ ([v_stock, v_d1, v_d2] : List Value) := hu; simp only [List.mem_cons, List.mem_nil_iff, or_false] at hu; rcases hu with rfl | rfl | rfl <;> first | exact (h_stock.ext hx26).one | exact (h_d1.ext hx26).one | exact (h_d2.ext hx26).one) rfl) ?_
 rintro w28 ⟨hb30, hst29, hz31⟩
 obtain ⟨hx32, _⟩ := nb hx26 hst29
 replace hb24 := bb hb24 hst29
 clear hb11
 revert A; refine go ?_; intro A H
 refine ret_ctt H rfl rfl U34 ti34 rfl hb30.cells rfl rfl ?_
 clear H A
 exact ret_mk hx32 ⟨v_stock, v_d1, v_d2, (tup3_eq (by rfl) (congrArg St (by unfold stR; (rw [if_pos (by omega)]; done))) (int_eq (by unfold stR; (rw [if_pos (by omega)]; done)))), ((fi (h_stock.ext hx32)).cast (by unfold stR; (rw [if_pos (by omega)]; done))), ((fi (h_d1.ext hx32)).cast (by unfold stR; (rw [if_pos (by omega)]; done))), ((fi (h_d2.ext hx32)).cast (by unfold stR; (rw [if_pos (by omega)]; done)))⟩
 rw [decide_eq_false c19] at H
 revert A; refine go ?_; intro A H
 refine wv H (ls H U34 ti34 hb4.cells) ?_
 clear H A; intro A H
 refine wv H (op_move H rfl rfl) ?_
 clear H A; intro A H
 refine ws H (op_storeAll' H rfl ti34 rfl rfl hb11 rfl rfl (by intro u hu; have hu : u ∈ ([v_d0, v_d1, v_d2] : List Value) := hu; simp only [List.mem_cons, List.mem_nil_iff, or_false] at hu; rcases hu with rfl | rfl | rfl <;> first | exact (h_d0.ext hx14).one | exact (h_d1.ext hx14).one | exact (h_d2.ext hx14).one) rfl) ?_
 rintro w37 ⟨hb39, hst38, hz40⟩
 obtain ⟨hx41, _⟩ := nb hx14 hst38
 replace hb4 := bb hb4 hst38
 clear hb11
 revert A; refine go ?_; intro A H
 refine ret_ctt H rfl rfl U34 ti34 rfl hb39.cells rfl rfl ?_
 clear H A
 exact ret_mk hx41 ⟨v_d0, v_d1, v_d2, (tup3_eq (by rfl) (congrArg St (by unfold stR; (rw [if_neg (by omega)]; done))) (int_eq (by unfold stR; (rw [if_neg (by omega)]; done)))), ((fi (h_d0.ext hx41)).cast (by unfold stR; (rw [if_neg (by omega)]; done))), ((fi (h_d1.ext hx41)).cast (by unfold stR; (rw [if_neg (by omega)]; done))), ((fi (h_d2.ext hx41)).cast (by unfold stR; (rw [if_neg (by omega)]; done)))⟩



theorem c_impl_withEntry (w0 : World) (v_d0 : Value) (v_d1 : Value) (v_d2 : Value) (d : List (Str × Int × Int × Int × Int) × List (Str × Int × Int) × List (Int × Int × Str × Int)) {lo_d hi_d : Nat} (e : Int × Int × Str × Int) (h_d0 : Own shBin 65 lo_d lo_d hi_d w0 v_d0 d.1) (h_d1 : Own shProm 67 lo_d lo_d hi_d w0 v_d1 d.2.1) (h_d2 : Own shEnt 69 lo_d lo_d hi_d w0 v_d2 d.2.2) (k_d : hi_d ≤ w0.heap.size) (l_d : lo_d ≤ w0.heap.size) (_g0 : dbB d.2.2 = true) (g1 : d.2.2.length ≤ 60) (g2 : I64 e.1) (g3 : I64 e.2.1) (g4 : e.2.2.1.length ≤ 9223372036854775807) (g5 : I64 e.2.2.2) :
    Calls Tryz.prog 104 #[.agg #[v_d0, v_d1, v_d2], .agg #[.int .i64 e.1, .int .i64 e.2.1, St e.2.2.1, .int .i64 e.2.2.2]] w0 (Ret w0 (fun v w1 => ∃ r0_0 r0_1 r0_2, v = .tuple #[.agg #[r0_0, r0_1, r0_2], St ((bkR d e).2.1), .int .i64 ((bkR d e).2.2)] ∧ Own shBin 65 lo_d lo_d w1.heap.size w1 r0_0 (((bkR d e).1).1) ∧ Own shProm 67 lo_d lo_d w1.heap.size w1 r0_1 (((bkR d e).1).2.1) ∧ Own shEnt 69 lo_d lo_d w1.heap.size w1 r0_2 (((bkR d e).1).2.2))) := by
 refine enter (N := 23) Tryz.func104 rfl rfl rfl ?_
 intro A H
 have hx0 := Ext.rfl' w0
 have hl_d0 := (h_d0.rds pos_shBin).length_le
 have hl_d1 := (h_d1.rds pos_shProm).length_le
 have hl_d2 := (h_d2.rds pos_shEnt).length_le
 revert A; refine go ?_; intro A H
 refine we H (op_box' H rfl rfl rfl) ?_
 clear H A; rintro _ w2 ⟨rfl, he3, hb4, hz5⟩ A H
 obtain ⟨hx7, _⟩ := nx hx0 he3
 refine we H (op_box' H rfl rfl rfl) ?_
 clear H A; rintro _ w9 ⟨rfl, he10, hb11, hz12⟩ A H
 obtain ⟨hx14, _⟩ := nx hx7 he10
 replace hb4 := hb4.ext he10
 refine we H (op_alloc' rfl ti34 rfl) ?_
 clear H A; rintro _ w16 ⟨rfl, he17, hb18, hz19⟩ A H
 obtain ⟨hx21, _⟩ := nx hx14 he17
 replace hb4 := hb4.ext he17
 replace hb11 := hb11.ext he17
 revert A; refine go ?_; intro A H
 refine fl 2 H U34 ti32 U32 hb4.cells ?_
 clear H A; intro A H
 refine wv H (ls H U69 ti69 hb11.cells) ?_
 clear H A; intro A H
 refine wc H cb122 (c_impl_AddEntry _ v_d2 d.2.2 e ((h_d2.ext hx21).rds pos_shEnt) (by omega) (by assumption) (by assumption) (by assumption) (by assumption)) ?_
 clear H A; rintro v27 w28 he29 ⟨v30, rfl, ho31⟩ A H
 obtain ⟨hx33, _⟩ := nx hx21 he29
 replace hb4 := hb4.ext he29
 replace hb11 := hb11.ext he29
 replace hb18 := hb18.ext he29
 clear hb11
 revert A; refine go ?_; intro A H
 by_cases c41 : (addC d.2.2 e : Int) = (0 : Int)
 rw [decide_eq_true c41] at H
 revert A; refine go ?_; intro A H
 refine wv H (fa H U34 ti32) ?_
 clear H A; intro A H
 refine ws H (op_store' (off := 2) H rfl ti32 rfl rfl hb4 ho31.cells1 rfl (o1 ho31.one o0) (Nat.le_of_ble_eq_true rfl)) ?_
 rintro w44 ⟨hb46, hst45, hz47⟩
 obtain ⟨hx48, _⟩ := nb hx33 hst45
 replace hb18 := bb hb18 hst45
 replace ho31 := ho31.stp hst45 (by intro q hq; cases hq; omega)
 clear hb4
 revert A; refine go ?_; intro A H
 refine wv H (ls H U34 ti34 hb46.cells) ?_
 clear H A; intro A H
 refine ws H (op_storeAll' H rfl ti34 rfl rfl hb18 rfl rfl (by intro u hu; have hu : u ∈ ([v_d0, v_d1, v30] : List Value) := hu; simp only [List.mem_cons, List.mem_nil_iff, or_false] at hu; rcases hu with rfl | rfl | rfl <;> first | exact (h_d0.ext hx48).one | exact (h_d1.ext hx48).one | exact ho31.one) rfl) ?_
 rintro w50 ⟨hb52, hst51, hz53⟩
 obtain ⟨hx54, _⟩ := nb hx48 hst51
 replace ho31 := ho31.stp hst51 (by intro q hq; cases hq; omega)
 replace hb46 := bb hb46 hst51
 clear hb18
 revert A; refine go ?_; intro A H
 refine ret_ctt H rfl rfl U34 ti34 rfl hb52.cells rfl rfl ?_
 clear H A
 exact ret_mk hx54 ⟨v_d0, v_d1, v30, (tup3_eq (by rfl) (congrArg St (by unfold bkR; (rw [if_pos (by omega)]; done))) (int_eq (by unfold bkR; (rw [if_pos (by omega)]; done)))), ((fi (h_d0.ext hx54)).cast (by unfold bkR; (rw [if_pos (by omega)]; done))), ((fi (h_d1.ext hx54)).cast (by unfold bkR; (rw [if_pos (by omega)]; done))), ((fi ho31).cast (by unfold bkR; (rw [if_pos (by omega)]; done)))⟩
 rw [decide_eq_false c41] at H
 clear ho31
 revert A; refine go ?_; intro A H
 refine wv H (ls H U34 ti34 hb4.cells) ?_
 clear H A; intro A H
 refine wv H (op_move H rfl rfl) ?_
 clear H A; intro A H
 refine ws H (op_storeAll' H rfl ti34 rfl rfl hb18 rfl rfl (by intro u hu; have hu : u ∈ ([v_d0, v_d1, v_d2] : List Value) := hu; simp only [List.mem_cons, List.mem_nil_iff, or_false] at hu; rcases hu with rfl | rfl | rfl <;> first | exact (h_d0.ext hx33).one | exact (h_d1.ext hx33).one | exact (h_d2.ext hx33).one) rfl) ?_
 rintro w59 ⟨hb61, hst60, hz62⟩
 obtain ⟨hx63, _⟩ := nb hx33 hst60
 replace hb4 := bb hb4 hst60
 clear hb18
 revert A; refine go ?_; intro A H
 refine ret_ctt H rfl rfl U34 ti34 rfl hb61.cells rfl rfl ?_
 clear H A
 exact ret_mk hx63 ⟨v_d0, v_d1, v_d2, (tup3_eq (by rfl) (congrArg St (by unfold bkR; (rw [if_neg (by omega)]; done))) (int_eq (by unfold bkR; (rw [if_neg (by omega)]; done)))), ((fi (h_d0.ext hx63)).cast (by unfold bkR; (rw [if_neg (by omega)]; done))), ((fi (h_d1.ext hx63)).cast (by unfold bkR; (rw [if_neg (by omega)]; done))), ((fi (h_d2.ext hx63)).cast (by unfold bkR; (rw [if_neg (by omega)]; done)))⟩



theorem c_impl_told (w0 : World) (v_d0 : Value) (v_d1 : Value) (v_d2 : Value) (d : List (Str × Int × Int × Int × Int) × List (Str × Int × Int) × List (Int × Int × Str × Int)) {lo_d hi_d : Nat} (n : Int) (err : Int) (h_d0 : Own shBin 65 lo_d lo_d hi_d w0 v_d0 d.1) (h_d1 : Own shProm 67 lo_d lo_d hi_d w0 v_d1 d.2.1) (h_d2 : Own shEnt 69 lo_d lo_d hi_d w0 v_d2 d.2.2) (k_d : hi_d ≤ w0.heap.size) (_l_d : lo_d ≤ w0.heap.size) (g0 : -9000000000 ≤ n ∧ n ≤ 9000000000) :
    Calls Tryz.prog 99 #[.agg #[v_d0, v_d1, v_d2], .int .i64 n, .int .i64 err] w0 (Ret w0 (fun v w1 => ∃ r0_0 r0_1 r0_2, v = .tuple #[.agg #[r0_0, r0_1, r0_2], St ((tdR d n err).2.1), .int .i64 ((tdR d n err).2.2)] ∧ Own shBin 65 lo_d lo_d w1.heap.size w1 r0_0 (((tdR d n err).1).1) ∧ Own shProm 67 lo_d lo_d w1.heap.size w1 r0_1 (((tdR d n err).1).2.1) ∧ Own shEnt 69 lo_d lo_d w1.heap.size w1 r0_2 (((tdR d n err).1).2.2))) := by
 refine enter (N := 13) Tryz.func99 rfl rfl rfl ?_
 intro A H
 have hx0 := Ext.rfl' w0
 have hl_d0 := (h_d0.rds pos_shBin).length_le
 have hl_d1 := (h_d1.rds pos_shProm).length_le
 have hl_d2 := (h_d2.rds pos_shEnt).length_le
 revert A; refine go ?_; intro A H
 refine we H (op_box' H rfl rfl rfl) ?_
 clear H A; rintro _ w2 ⟨rfl, he3, hb4, hz5⟩ A H
 obtain ⟨hx7, _⟩ := nx hx0 he3
 refine we H (op_alloc' rfl ti34 rfl) ?_
 clear H A; rintro _ w9 ⟨rfl, he10, hb11, hz12⟩ A H
 obtain ⟨hx14, _⟩ := nx hx7 he10
 replace hb4 := hb4.ext he10
 revert A; refine go ?_; intro A H
 refine dre (fun wa_ wb_ => Stp wa_ wb_ (some w2.heap.size)) follows_mixed ?_
 intro w17 he18 hs20
 obtain ⟨hx19, _⟩ := nx hx14 he18
 replace hb4 := hb4.ext he18
 replace hb11 := hb11.ext he18
 refine dv 0 H rfl (Stp.of_ext hs20 _) (fun w' hw' => ls H U34 ti34 (hb4.stp hw' (by intro q hq; cases hq; omega)).cells) ?_
 clear H A; refine dgo [1, 3] (Stp.of_ext hs20 _) ?_; intro A H
 refine dr_one (i := 2) (by kernel_rfl) ?_
 refine pc H cb61 rfl (c_impl_decimal _ n (by omega) (by omega)) ?_
 clear H A; rintro v24 w25 he26 rfl A H
 have hs28 := hs20.trans' he26
 obtain ⟨hx29, _⟩ := nx hx19 he26
 refine ⟨(Stp.of_ext hs28 _), ?_⟩
 replace hb4 := hb4.ext hs28
 replace hb11 := hb11.ext hs28
 refine drs (Stp.of_ext hs28 _) ?_
 intro hs30
 refine dr_one (i := 4) (by kernel_rfl) ?_
 replace hb4 := hb4.ext hs30
 replace hb11 := hb11.ext hs30
 refine po_effS H rfl rfl rfl (op_storeAll' H rfl ti34 rfl rfl hb11 rfl rfl (by intro u hu; have hu : u ∈ ([v_d0, v_d1, v_d2] : List Value) := hu; simp only [List.mem_cons, List.mem_nil_iff, or_false] at hu; rcases hu with rfl | rfl | rfl <;> first | exact (h_d0.ext hx29).one | exact (h_d1.ext hx29).one | exact (h_d2.ext hx29).one) rfl) ?_
 rintro w31 ⟨hb33, hst32, hz34⟩
 have hs35 := (Stp.of_ext hs30 (some w2.heap.size)).trans' hst32
 obtain ⟨hx36, _⟩ := nb hx29 hst32
 replace hb4 := bb hb4 hst32
 clear hb11
 refine ⟨hs35, ?_⟩
 refine drs hs35 ?_
 intro hs37
 revert A; refine dgo [5, 6] (Stp.of_ext hs37 _) ?_; intro A H
 refine dr_end (by kernel_rfl) ?_
 revert A; refine go ?_; intro A H
 refine ret_ctt H rfl rfl U34 ti34 rfl hb33.cells rfl rfl ?_
 clear H A
 exact ret_mk hx36 ⟨v_d0, v_d1, v_d2, (tup3_eq (by rfl) (congrArg St (by rfl)) (int_eq (by rfl))), ((fi (h_d0.ext hx36)).cast (by rfl)), ((fi (h_d1.ext hx36)).cast (by rfl)), ((fi (h_d2.ext hx36)).cast (by rfl))⟩



theorem c_impl_execute (w0 : World) (v_d0 : Value) (v_d1 : Value) (v_d2 : Value) (d : List (Str × Int × Int × Int × Int) × List (Str × Int × Int) × List (Int × Int × Str × Int)) {lo_d hi_d : Nat} (v_words : Value) (words : List Str) {S_words : Nat → Prop} (v_n : Value) (n : List Int) {S_n : Nat → Prop} (h_d0 : Own shBin 65 lo_d lo_d hi_d w0 v_d0 d.1) (h_d1 : Own shProm 67 lo_d lo_d hi_d w0 v_d1 d.2.1) (h_d2 : Own shEnt 69 lo_d lo_d hi_d w0 v_d2 d.2.2) (k_d : hi_d ≤ w0.heap.size) (l_d : lo_d ≤ w0.heap.size) (h_words : Rds shStr S_words w0 v_words words) (h_n : Rds shI64 S_n w0 v_n n) (g0 : deskB d = true) (g1 : cmOK words n) :
    Calls Tryz.prog 62 #[.agg #[v_d0, v_d1, v_d2], v_words, v_n] w0 (Ret w0 (fun v w1 => ∃ r0_0 r0_1 r0_2, v = .tuple #[.agg #[r0_0, r0_1, r0_2], St ((exM d words n).2.1), .int .i64 ((exM d words n).2.2)] ∧ Own shBin 65 lo_d lo_d w1.heap.size w1 r0_0 (((exM d words n).1).1) ∧ Own shProm 67 lo_d lo_d w1.heap.size w1 r0_1 (((exM d words n).1).2.1) ∧ Own shEnt 69 lo_d lo_d w1.heap.size w1 r0_2 (((exM d words n).1).2.2))) := by
 refine enter (N := 363) Tryz.func62 rfl rfl rfl ?_
 intro A H
 have hx0 := Ext.rfl' w0
 have hl_d0 := (h_d0.rds pos_shBin).length_le
 have hl_d1 := (h_d1.rds pos_shProm).length_le
 have hl_d2 := (h_d2.rds pos_shEnt).length_le
 have hl_words := h_words.length_le
 have hl_n := h_n.length_le
 obtain ⟨hd1, hd2, hd3, hd4, hd5, hd6⟩ := desk_bd g0
 have hcp := cm_pos g1
 revert A; refine go ?_; intro A H
 refine we H (op_box' H rfl rfl rfl) ?_
 clear H A; rintro _ w2 ⟨rfl, he3, hb4, hz5⟩ A H
 obtain ⟨hx7, _⟩ := nx hx0 he3
 refine we H (op_alloc' rfl ti34 rfl) ?_
 clear H A; rintro _ w9 ⟨rfl, he10, hb11, hz12⟩ A H
 obtain ⟨hx14, _⟩ := nx hx7 he10
 replace hb4 := hb4.ext he10
 revert A; refine go ?_; intro A H
 obtain ⟨x18, hx18⟩ := get_ex (xs := words) (j := 0) (by omega)
 obtain ⟨p19, hi21, hc22, b25, hs24⟩ := at_shStr h_words hx18
 have hbx18 := cm_str g1 (List.mem_of_getElem? hx18)
 refine wv H (ix H U25 ti9 hi21) ?_
 clear H A; intro A H
 refine wv H (lh H U9 (hc22.ext hx14)) ?_
 clear H A; refine go ?_; intro A H
 by_cases c30 : x18 = ([98, 105, 110] : Str)
 rw [decide_eq_true c30] at H
 obtain ⟨hwlc30, hnlc30⟩ : words.length = 4 ∧ n.length = 2 := cm_len (l := [true, false, false]) g1 hx18 (by rw [c30]; decide)
 revert A; refine go ?_; intro A H
 refine dre Ext follows_mixed ?_
 intro w31 he32 hs34
 obtain ⟨hx33, _⟩ := nx hx14 he32
 replace hb4 := hb4.ext he32
 replace hb11 := hb11.ext he32
 refine dw 0 H rfl hs34 (fa H U34 ti30) ?_
 clear H A; intro A H
 refine dv 1 H rfl hs34 (fun w' hw' => lf 0 H U30 (hb4.ext hw').cells) ?_
 clear H A; intro A H
 refine dw 2 H rfl hs34 (op_move H rfl rfl) ?_
 clear H A; intro A H
 obtain ⟨x38, hx38⟩ := get_ex (xs := words) (j := 1) (by omega)
 obtain ⟨p39, hi41, hc42, b45, hs44⟩ := at_shStr h_words hx38
 have hbx38 := cm_str g1 (List.mem_of_getElem? hx38)
 refine dw 3 H rfl hs34 (ix H U25 ti9 hi41) ?_
 clear H A; intro A H
 refine dv 4 H rfl hs34 (fun w' hw' => lh H U9 (hc42.ext (hx33.trans' hw'))) ?_
 clear H A; intro A H
 refine dw 5 H rfl hs34 (op_move H rfl rfl) ?_
 clear H A; intro A H
 obtain ⟨x49, hx49⟩ := get_ex (xs := n) (j := 0) (by omega)
 obtain ⟨p50, hi52, hc53, b56, hs55⟩ := at_shI64 h_n hx49
 have hbx49 := cm_num g1 (List.mem_of_getElem? hx49)
 refine dw 6 H rfl hs34 (ix H U55 ti2 hi52) ?_
 clear H A; intro A H
 refine dv 7 H rfl hs34 (fun w' hw' => lh H U2 (hc53.ext (hx33.trans' hw'))) ?_
 clear H A; intro A H
 refine dw 8 H rfl hs34 (op_move H rfl rfl) ?_
 clear H A; intro A H
 obtain ⟨x60, hx60⟩ := get_ex (xs := n) (j := 1) (by omega)
 obtain ⟨p61, hi63, hc64, b67, hs66⟩ := at_shI64 h_n hx60
 have hbx60 := cm_num g1 (List.mem_of_getElem? hx60)
 refine dw 9 H rfl hs34 (ix H U55 ti2 hi63) ?_
 clear H A; intro A H
 refine dv 10 H rfl hs34 (fun w' hw' => lh H U2 (hc64.ext (hx33.trans' hw'))) ?_
 clear H A; intro A H
 refine dw 11 H rfl hs34 (op_build (vs := [(0, St x38), (3, .int .i64 x49), (4, .int .i64 x60)]) (cs := #[St x38, .int .i64 (0 : Int), .int .i64 (0 : Int), .int .i64 x49, .int .i64 x60]) H rfl U65 ti65 bp65 rfl rfl) ?_
 clear H A; intro A H
 refine dr_one (i := 12) (by kernel_rfl) ?_
 refine pc H cb92 rfl (c_impl_addBin _ v_d0 d.1 ((x38, (0 : Int), (0 : Int), x49, x60)) (((h_d0.ext hx33).rds pos_shBin).ext pos_shBin hs34) ge ge ge ge ge ge) ?_
 clear H A; rintro v71 w72 he73 ⟨v74, rfl, ho75⟩ A H
 have hs77 := hs34.trans' he73
 obtain ⟨hx78, _⟩ := nx hx33 he73
 refine ⟨hs77, ?_⟩
 replace hb4 := hb4.ext hs77
 replace hb11 := hb11.ext hs77
 refine drn hs77 ?_
 intro hs79
 revert A; refine dgo [13, 14, 15, 16, 17] hs79 ?_; intro A H
 refine dr_end (by kernel_rfl) ?_
 revert A; refine go ?_; intro A H
 refine wv H (ls H U34 ti34 hb4.cells) ?_
 clear H A; refine go ?_; intro A H
 refine wc H cb93 (c_impl_withStock (lo_d := lo_d) (hi_d := w72.heap.size) _ v_d0 v_d1 v_d2 d v74 ((adL d.1 ((x38, (0 : Int), (0 : Int), x49, x60)))) (adC d.1 ((x38, (0 : Int), (0 : Int), x49, x60)) : Int) (fi (h_d0.ext hx78)) (fi (h_d1.ext hx78)) (fi (h_d2.ext hx78)) (by omega) (by omega) (fi ho75)) ?_
 clear H A; rintro v88 w89 he90 ⟨u91, u93, u95, rfl, ho92, ho94, ho96⟩ A H
 obtain ⟨hx98, _⟩ := nx hx78 he90
 replace hb4 := hb4.ext he90
 replace hb11 := hb11.ext he90
 replace ho75 := ho75.ext he90
 revert A; refine go ?_; intro A H
 refine ws H (op_storeAll' H rfl ti34 rfl rfl hb11 rfl rfl (o1 ho92.one (o1 ho94.one (o1 ho96.one o0))) rfl) ?_
 rintro w102 ⟨hb104, hst103, hz105⟩
 obtain ⟨hx106, _⟩ := nb hx98 hst103
 replace hb4 := bb hb4 hst103
 replace ho75 := ho75.stp hst103 (by intro q hq; cases hq; omega)
 replace ho92 := ob ho92 flat_shBin hb11 hst103
 replace ho94 := ob ho94 flat_shProm hb11 hst103
 replace ho96 := ob ho96 flat_shEnt hb11 hst103
 clear hb11
 revert A; refine go ?_; intro A H
 refine ret_ctt H rfl rfl U34 ti34 rfl hb104.cells rfl rfl ?_
 clear H A
 have hr := exM_bin (d := d) (ns := n) hx18 c30 hx38 hx49 hx60
 exact ret_mk hx106 ⟨u91, u93, u95, (tup3_eq (by rfl) (congrArg St (by rw [hr])) (int_eq (by rw [hr]))), ((fi ho92).cast (by rw [hr])), ((fi ho94).cast (by rw [hr])), ((fi ho96).cast (by rw [hr]))⟩
 rw [decide_eq_false c30] at H
 revert A; refine go ?_; intro A H
 by_cases c111 : x18 = ([102, 105, 108, 108] : Str)
 rw [decide_eq_true c111] at H
 obtain ⟨hwlc111, hnlc111⟩ : words.length = 3 ∧ n.length = 1 := cm_len (l := [true, false]) g1 hx18 (by rw [c111]; decide)
 revert A; refine go ?_; intro A H
 refine dre Ext follows_mixed ?_
 intro w112 he113 hs115
 obtain ⟨hx114, _⟩ := nx hx14 he113
 replace hb4 := hb4.ext he113
 replace hb11 := hb11.ext he113
 refine dw 0 H rfl hs115 (fa H U34 ti30) ?_
 clear H A; intro A H
 refine dv 1 H rfl hs115 (fun w' hw' => lf 0 H U30 (hb4.ext hw').cells) ?_
 clear H A; intro A H
 refine dw 2 H rfl hs115 (op_move H rfl rfl) ?_
 clear H A; intro A H
 obtain ⟨x119, hx119⟩ := get_ex (xs := words) (j := 1) (by omega)
 obtain ⟨p120, hi122, hc123, b126, hs125⟩ := at_shStr h_words hx119
 have hbx119 := cm_str g1 (List.mem_of_getElem? hx119)
 refine dw 3 H rfl hs115 (ix H U25 ti9 hi122) ?_
 clear H A; intro A H
 refine dv 4 H rfl hs115 (fun w' hw' => lh H U9 (hc123.ext (hx114.trans' hw'))) ?_
 clear H A; intro A H
 refine dw 5 H rfl hs115 (op_move H rfl rfl) ?_
 clear H A; intro A H
 obtain ⟨x130, hx130⟩ := get_ex (xs := n) (j := 0) (by omega)
 obtain ⟨p131, hi133, hc134, b137, hs136⟩ := at_shI64 h_n hx130
 have hbx130 := cm_num g1 (List.mem_of_getElem? hx130)
 refine dw 6 H rfl hs115 (ix H U55 ti2 hi133) ?_
 clear H A; intro A H
 refine dv 7 H rfl hs115 (fun w' hw' => lh H U2 (hc134.ext (hx114.trans' hw'))) ?_
 clear H A; intro A H
 refine dr_one (i := 8) (by kernel_rfl) ?_
 refine pc H cb94 rfl (c_impl_FillBin _ v_d0 d.1 x119 x130 (((h_d0.ext hx114).rds pos_shBin).ext pos_shBin hs115)) ?_
 clear H A; rintro v140 w141 he142 ⟨v143, rfl, ho144⟩ A H
 have hs146 := hs115.trans' he142
 obtain ⟨hx147, _⟩ := nx hx114 he142
 refine ⟨hs146, ?_⟩
 replace hb4 := hb4.ext hs146
 replace hb11 := hb11.ext hs146
 refine drn hs146 ?_
 intro hs148
 revert A; refine dgo [9, 10, 11, 12, 13] hs148 ?_; intro A H
 refine dr_end (by kernel_rfl) ?_
 revert A; refine go ?_; intro A H
 refine wv H (ls H U34 ti34 hb4.cells) ?_
 clear H A; refine go ?_; intro A H
 refine wc H cb93 (c_impl_withStock (lo_d := lo_d) (hi_d := w141.heap.size) _ v_d0 v_d1 v_d2 d v143 ((opL d.1 x119 (flC d.1 x119 x130) x130 0)) (flC d.1 x119 x130 : Int) (fi (h_d0.ext hx147)) (fi (h_d1.ext hx147)) (fi (h_d2.ext hx147)) (by omega) (by omega) (fi ho144)) ?_
 clear H A; rintro v157 w158 he159 ⟨u160, u162, u164, rfl, ho161, ho163, ho165⟩ A H
 obtain ⟨hx167, _⟩ := nx hx147 he159
 replace hb4 := hb4.ext he159
 replace hb11 := hb11.ext he159
 replace ho144 := ho144.ext he159
 revert A; refine go ?_; intro A H
 refine ws H (op_storeAll' H rfl ti34 rfl rfl hb11 rfl rfl (o1 ho161.one (o1 ho163.one (o1 ho165.one o0))) rfl) ?_
 rintro w171 ⟨hb173, hst172, hz174⟩
 obtain ⟨hx175, _⟩ := nb hx167 hst172
 replace hb4 := bb hb4 hst172
 replace ho144 := ho144.stp hst172 (by intro q hq; cases hq; omega)
 replace ho161 := ob ho161 flat_shBin hb11 hst172
 replace ho163 := ob ho163 flat_shProm hb11 hst172
 replace ho165 := ob ho165 flat_shEnt hb11 hst172
 clear hb11
 revert A; refine go ?_; intro A H
 refine ret_ctt H rfl rfl U34 ti34 rfl hb173.cells rfl rfl ?_
 clear H A
 have hr := exM_fill (d := d) (ns := n) hx18 c111 hx119 hx130
 exact ret_mk hx175 ⟨u160, u162, u164, (tup3_eq (by rfl) (congrArg St (by rw [hr])) (int_eq (by rw [hr]))), ((fi ho161).cast (by rw [hr])), ((fi ho163).cast (by rw [hr])), ((fi ho165).cast (by rw [hr]))⟩
 rw [decide_eq_false c111] at H
 revert A; refine go ?_; intro A H
 by_cases c180 : x18 = ([114, 101, 115, 101, 114, 118, 101] : Str)
 rw [decide_eq_true c180] at H
 obtain ⟨hwlc180, hnlc180⟩ : words.length = 3 ∧ n.length = 1 := cm_len (l := [true, false]) g1 hx18 (by rw [c180]; decide)
 revert A; refine go ?_; intro A H
 refine dre Ext follows_mixed ?_
 intro w181 he182 hs184
 obtain ⟨hx183, _⟩ := nx hx14 he182
 replace hb4 := hb4.ext he182
 replace hb11 := hb11.ext he182
 refine dw 0 H rfl hs184 (fa H U34 ti30) ?_
 clear H A; intro A H
 refine dv 1 H rfl hs184 (fun w' hw' => lf 0 H U30 (hb4.ext hw').cells) ?_
 clear H A; intro A H
 refine dw 2 H rfl hs184 (op_move H rfl rfl) ?_
 clear H A; intro A H
 obtain ⟨x188, hx188⟩ := get_ex (xs := words) (j := 1) (by omega)
 obtain ⟨p189, hi191, hc192, b195, hs194⟩ := at_shStr h_words hx188
 have hbx188 := cm_str g1 (List.mem_of_getElem? hx188)
 refine dw 3 H rfl hs184 (ix H U25 ti9 hi191) ?_
 clear H A; intro A H
 refine dv 4 H rfl hs184 (fun w' hw' => lh H U9 (hc192.ext (hx183.trans' hw'))) ?_
 clear H A; intro A H
 refine dw 5 H rfl hs184 (op_move H rfl rfl) ?_
 clear H A; intro A H
 obtain ⟨x199, hx199⟩ := get_ex (xs := n) (j := 0) (by omega)
 obtain ⟨p200, hi202, hc203, b206, hs205⟩ := at_shI64 h_n hx199
 have hbx199 := cm_num g1 (List.mem_of_getElem? hx199)
 refine dw 6 H rfl hs184 (ix H U55 ti2 hi202) ?_
 clear H A; intro A H
 refine dv 7 H rfl hs184 (fun w' hw' => lh H U2 (hc203.ext (hx183.trans' hw'))) ?_
 clear H A; intro A H
 refine dr_one (i := 8) (by kernel_rfl) ?_
 refine pc H cb95 rfl (c_impl_ReservePieces _ v_d0 d.1 x188 x199 (((h_d0.ext hx183).rds pos_shBin).ext pos_shBin hs184)) ?_
 clear H A; rintro v209 w210 he211 ⟨v212, rfl, ho213⟩ A H
 have hs215 := hs184.trans' he211
 obtain ⟨hx216, _⟩ := nx hx183 he211
 refine ⟨hs215, ?_⟩
 replace hb4 := hb4.ext hs215
 replace hb11 := hb11.ext hs215
 refine drn hs215 ?_
 intro hs217
 revert A; refine dgo [9, 10, 11, 12, 13] hs217 ?_; intro A H
 refine dr_end (by kernel_rfl) ?_
 revert A; refine go ?_; intro A H
 refine wv H (ls H U34 ti34 hb4.cells) ?_
 clear H A; refine go ?_; intro A H
 refine wc H cb93 (c_impl_withStock (lo_d := lo_d) (hi_d := w210.heap.size) _ v_d0 v_d1 v_d2 d v212 ((opL d.1 x188 (rsC d.1 x188 x199) 0 x199)) (rsC d.1 x188 x199 : Int) (fi (h_d0.ext hx216)) (fi (h_d1.ext hx216)) (fi (h_d2.ext hx216)) (by omega) (by omega) (fi ho213)) ?_
 clear H A; rintro v226 w227 he228 ⟨u229, u231, u233, rfl, ho230, ho232, ho234⟩ A H
 obtain ⟨hx236, _⟩ := nx hx216 he228
 replace hb4 := hb4.ext he228
 replace hb11 := hb11.ext he228
 replace ho213 := ho213.ext he228
 revert A; refine go ?_; intro A H
 refine ws H (op_storeAll' H rfl ti34 rfl rfl hb11 rfl rfl (o1 ho230.one (o1 ho232.one (o1 ho234.one o0))) rfl) ?_
 rintro w240 ⟨hb242, hst241, hz243⟩
 obtain ⟨hx244, _⟩ := nb hx236 hst241
 replace hb4 := bb hb4 hst241
 replace ho213 := ho213.stp hst241 (by intro q hq; cases hq; omega)
 replace ho230 := ob ho230 flat_shBin hb11 hst241
 replace ho232 := ob ho232 flat_shProm hb11 hst241
 replace ho234 := ob ho234 flat_shEnt hb11 hst241
 clear hb11
 revert A; refine go ?_; intro A H
 refine ret_ctt H rfl rfl U34 ti34 rfl hb242.cells rfl rfl ?_
 clear H A
 have hr := exM_reserve (d := d) (ns := n) hx18 c180 hx188 hx199
 exact ret_mk hx244 ⟨u229, u231, u233, (tup3_eq (by rfl) (congrArg St (by rw [hr])) (int_eq (by rw [hr]))), ((fi ho230).cast (by rw [hr])), ((fi ho232).cast (by rw [hr])), ((fi ho234).cast (by rw [hr]))⟩
 rw [decide_eq_false c180] at H
 revert A; refine go ?_; intro A H
 by_cases c249 : x18 = ([114, 101, 108, 101, 97, 115, 101] : Str)
 rw [decide_eq_true c249] at H
 obtain ⟨hwlc249, hnlc249⟩ : words.length = 3 ∧ n.length = 1 := cm_len (l := [true, false]) g1 hx18 (by rw [c249]; decide)
 revert A; refine go ?_; intro A H
 refine dre Ext follows_mixed ?_
 intro w250 he251 hs253
 obtain ⟨hx252, _⟩ := nx hx14 he251
 replace hb4 := hb4.ext he251
 replace hb11 := hb11.ext he251
 refine dw 0 H rfl hs253 (fa H U34 ti30) ?_
 clear H A; intro A H
 refine dv 1 H rfl hs253 (fun w' hw' => lf 0 H U30 (hb4.ext hw').cells) ?_
 clear H A; intro A H
 refine dw 2 H rfl hs253 (op_move H rfl rfl) ?_
 clear H A; intro A H
 obtain ⟨x257, hx257⟩ := get_ex (xs := words) (j := 1) (by omega)
 obtain ⟨p258, hi260, hc261, b264, hs263⟩ := at_shStr h_words hx257
 have hbx257 := cm_str g1 (List.mem_of_getElem? hx257)
 refine dw 3 H rfl hs253 (ix H U25 ti9 hi260) ?_
 clear H A; intro A H
 refine dv 4 H rfl hs253 (fun w' hw' => lh H U9 (hc261.ext (hx252.trans' hw'))) ?_
 clear H A; intro A H
 refine dw 5 H rfl hs253 (op_move H rfl rfl) ?_
 clear H A; intro A H
 obtain ⟨x268, hx268⟩ := get_ex (xs := n) (j := 0) (by omega)
 obtain ⟨p269, hi271, hc272, b275, hs274⟩ := at_shI64 h_n hx268
 have hbx268 := cm_num g1 (List.mem_of_getElem? hx268)
 refine dw 6 H rfl hs253 (ix H U55 ti2 hi271) ?_
 clear H A; intro A H
 refine dv 7 H rfl hs253 (fun w' hw' => lh H U2 (hc272.ext (hx252.trans' hw'))) ?_
 clear H A; intro A H
 refine dr_one (i := 8) (by kernel_rfl) ?_
 refine pc H cb96 rfl (c_impl_ReleasePieces _ v_d0 d.1 x257 x268 (((h_d0.ext hx252).rds pos_shBin).ext pos_shBin hs253)) ?_
 clear H A; rintro v278 w279 he280 ⟨v281, rfl, ho282⟩ A H
 have hs284 := hs253.trans' he280
 obtain ⟨hx285, _⟩ := nx hx252 he280
 refine ⟨hs284, ?_⟩
 replace hb4 := hb4.ext hs284
 replace hb11 := hb11.ext hs284
 refine drn hs284 ?_
 intro hs286
 revert A; refine dgo [9, 10, 11, 12, 13] hs286 ?_; intro A H
 refine dr_end (by kernel_rfl) ?_
 revert A; refine go ?_; intro A H
 refine wv H (ls H U34 ti34 hb4.cells) ?_
 clear H A; refine go ?_; intro A H
 refine wc H cb93 (c_impl_withStock (lo_d := lo_d) (hi_d := w279.heap.size) _ v_d0 v_d1 v_d2 d v281 ((opL d.1 x257 (rlC d.1 x257 x268) 0 (0 - x268))) (rlC d.1 x257 x268 : Int) (fi (h_d0.ext hx285)) (fi (h_d1.ext hx285)) (fi (h_d2.ext hx285)) (by omega) (by omega) (fi ho282)) ?_
 clear H A; rintro v295 w296 he297 ⟨u298, u300, u302, rfl, ho299, ho301, ho303⟩ A H
 obtain ⟨hx305, _⟩ := nx hx285 he297
 replace hb4 := hb4.ext he297
 replace hb11 := hb11.ext he297
 replace ho282 := ho282.ext he297
 revert A; refine go ?_; intro A H
 refine ws H (op_storeAll' H rfl ti34 rfl rfl hb11 rfl rfl (o1 ho299.one (o1 ho301.one (o1 ho303.one o0))) rfl) ?_
 rintro w309 ⟨hb311, hst310, hz312⟩
 obtain ⟨hx313, _⟩ := nb hx305 hst310
 replace hb4 := bb hb4 hst310
 replace ho282 := ho282.stp hst310 (by intro q hq; cases hq; omega)
 replace ho299 := ob ho299 flat_shBin hb11 hst310
 replace ho301 := ob ho301 flat_shProm hb11 hst310
 replace ho303 := ob ho303 flat_shEnt hb11 hst310
 clear hb11
 revert A; refine go ?_; intro A H
 refine ret_ctt H rfl rfl U34 ti34 rfl hb311.cells rfl rfl ?_
 clear H A
 have hr := exM_release (d := d) (ns := n) hx18 c249 hx257 hx268
 exact ret_mk hx313 ⟨u298, u300, u302, (tup3_eq (by rfl) (congrArg St (by rw [hr])) (int_eq (by rw [hr]))), ((fi ho299).cast (by rw [hr])), ((fi ho301).cast (by rw [hr])), ((fi ho303).cast (by rw [hr]))⟩
 rw [decide_eq_false c249] at H
 revert A; refine go ?_; intro A H
 by_cases c318 : x18 = ([117, 115, 101] : Str)
 rw [decide_eq_true c318] at H
 obtain ⟨hwlc318, hnlc318⟩ : words.length = 3 ∧ n.length = 1 := cm_len (l := [true, false]) g1 hx18 (by rw [c318]; decide)
 revert A; refine go ?_; intro A H
 refine dre Ext follows_mixed ?_
 intro w319 he320 hs322
 obtain ⟨hx321, _⟩ := nx hx14 he320
 replace hb4 := hb4.ext he320
 replace hb11 := hb11.ext he320
 refine dw 0 H rfl hs322 (fa H U34 ti30) ?_
 clear H A; intro A H
 refine dv 1 H rfl hs322 (fun w' hw' => lf 0 H U30 (hb4.ext hw').cells) ?_
 clear H A; intro A H
 refine dw 2 H rfl hs322 (op_move H rfl rfl) ?_
 clear H A; intro A H
 obtain ⟨x326, hx326⟩ := get_ex (xs := words) (j := 1) (by omega)
 obtain ⟨p327, hi329, hc330, b333, hs332⟩ := at_shStr h_words hx326
 have hbx326 := cm_str g1 (List.mem_of_getElem? hx326)
 refine dw 3 H rfl hs322 (ix H U25 ti9 hi329) ?_
 clear H A; intro A H
 refine dv 4 H rfl hs322 (fun w' hw' => lh H U9 (hc330.ext (hx321.trans' hw'))) ?_
 clear H A; intro A H
 refine dw 5 H rfl hs322 (op_move H rfl rfl) ?_
 clear H A; intro A H
 obtain ⟨x337, hx337⟩ := get_ex (xs := n) (j := 0) (by omega)
 obtain ⟨p338, hi340, hc341, b344, hs343⟩ := at_shI64 h_n hx337
 have hbx337 := cm_num g1 (List.mem_of_getElem? hx337)
 refine dw 6 H rfl hs322 (ix H U55 ti2 hi340) ?_
 clear H A; intro A H
 refine dv 7 H rfl hs322 (fun w' hw' => lh H U2 (hc341.ext (hx321.trans' hw'))) ?_
 clear H A; intro A H
 refine dr_one (i := 8) (by kernel_rfl) ?_
 refine pc H cb97 rfl (c_impl_UsePieces _ v_d0 d.1 x326 x337 (((h_d0.ext hx321).rds pos_shBin).ext pos_shBin hs322)) ?_
 clear H A; rintro v347 w348 he349 ⟨v350, rfl, ho351⟩ A H
 have hs353 := hs322.trans' he349
 obtain ⟨hx354, _⟩ := nx hx321 he349
 refine ⟨hs353, ?_⟩
 replace hb4 := hb4.ext hs353
 replace hb11 := hb11.ext hs353
 refine drn hs353 ?_
 intro hs355
 revert A; refine dgo [9, 10, 11, 12, 13] hs355 ?_; intro A H
 refine dr_end (by kernel_rfl) ?_
 revert A; refine go ?_; intro A H
 refine wv H (ls H U34 ti34 hb4.cells) ?_
 clear H A; refine go ?_; intro A H
 refine wc H cb93 (c_impl_withStock (lo_d := lo_d) (hi_d := w348.heap.size) _ v_d0 v_d1 v_d2 d v350 ((opL d.1 x326 (rlC d.1 x326 x337) (0 - x337) (0 - x337))) (rlC d.1 x326 x337 : Int) (fi (h_d0.ext hx354)) (fi (h_d1.ext hx354)) (fi (h_d2.ext hx354)) (by omega) (by omega) (fi ho351)) ?_
 clear H A; rintro v364 w365 he366 ⟨u367, u369, u371, rfl, ho368, ho370, ho372⟩ A H
 obtain ⟨hx374, _⟩ := nx hx354 he366
 replace hb4 := hb4.ext he366
 replace hb11 := hb11.ext he366
 replace ho351 := ho351.ext he366
 revert A; refine go ?_; intro A H
 refine ws H (op_storeAll' H rfl ti34 rfl rfl hb11 rfl rfl (o1 ho368.one (o1 ho370.one (o1 ho372.one o0))) rfl) ?_
 rintro w378 ⟨hb380, hst379, hz381⟩
 obtain ⟨hx382, _⟩ := nb hx374 hst379
 replace hb4 := bb hb4 hst379
 replace ho351 := ho351.stp hst379 (by intro q hq; cases hq; omega)
 replace ho368 := ob ho368 flat_shBin hb11 hst379
 replace ho370 := ob ho370 flat_shProm hb11 hst379
 replace ho372 := ob ho372 flat_shEnt hb11 hst379
 clear hb11
 revert A; refine go ?_; intro A H
 refine ret_ctt H rfl rfl U34 ti34 rfl hb380.cells rfl rfl ?_
 clear H A
 have hr := exM_use (d := d) (ns := n) hx18 c318 hx326 hx337
 exact ret_mk hx382 ⟨u367, u369, u371, (tup3_eq (by rfl) (congrArg St (by rw [hr])) (int_eq (by rw [hr]))), ((fi ho368).cast (by rw [hr])), ((fi ho370).cast (by rw [hr])), ((fi ho372).cast (by rw [hr]))⟩
 rw [decide_eq_false c318] at H
 revert A; refine go ?_; intro A H
 by_cases c387 : x18 = ([102, 114, 101, 101] : Str)
 rw [decide_eq_true c387] at H
 obtain ⟨hwlc387, hnlc387⟩ : words.length = 2 ∧ n.length = 0 := cm_len (l := [true]) g1 hx18 (by rw [c387]; decide)
 revert A; refine go ?_; intro A H
 refine dre Ext follows_mixed ?_
 intro w388 he389 hs391
 obtain ⟨hx390, _⟩ := nx hx14 he389
 replace hb4 := hb4.ext he389
 replace hb11 := hb11.ext he389
 refine dw 0 H rfl hs391 (fa H U34 ti30) ?_
 clear H A; intro A H
 refine dv 1 H rfl hs391 (fun w' hw' => lf 0 H U30 (hb4.ext hw').cells) ?_
 clear H A; intro A H
 refine dw 2 H rfl hs391 (op_move H rfl rfl) ?_
 clear H A; intro A H
 obtain ⟨x395, hx395⟩ := get_ex (xs := words) (j := 1) (by omega)
 obtain ⟨p396, hi398, hc399, b402, hs401⟩ := at_shStr h_words hx395
 have hbx395 := cm_str g1 (List.mem_of_getElem? hx395)
 refine dw 3 H rfl hs391 (ix H U25 ti9 hi398) ?_
 clear H A; intro A H
 refine dv 4 H rfl hs391 (fun w' hw' => lh H U9 (hc399.ext (hx390.trans' hw'))) ?_
 clear H A; intro A H
 refine dr_one (i := 5) (by kernel_rfl) ?_
 refine pc H cb98 rfl (c_impl_FreePieces _ v_d0 d.1 x395 (((h_d0.ext hx390).rds pos_shBin).ext pos_shBin hs391)) ?_
 clear H A; rintro v405 w406 he407 rfl A H
 have hs409 := hs391.trans' he407
 obtain ⟨hx410, _⟩ := nx hx390 he407
 refine ⟨hs409, ?_⟩
 replace hb4 := hb4.ext hs409
 replace hb11 := hb11.ext hs409
 refine drn hs409 ?_
 intro hs411
 revert A; refine dgo [6, 7, 8, 9, 10] hs411 ?_; intro A H
 refine dr_end (by kernel_rfl) ?_
 revert A; refine go ?_; intro A H
 refine wv H (ls H U34 ti34 hb4.cells) ?_
 clear H A; refine go ?_; intro A H
 refine wc H cb99 (c_impl_told (lo_d := lo_d) (hi_d := w406.heap.size) _ v_d0 v_d1 v_d2 d (if stC d.1 x395 1 = 0 then (bnO d.1 x395).2.1 - (bnO d.1 x395).2.2.1 else 0 : Int) (stC d.1 x395 1 : Int) (fi (h_d0.ext hx410)) (fi (h_d1.ext hx410)) (fi (h_d2.ext hx410)) (by omega) (by omega) ge) ?_
 clear H A; rintro v420 w421 he422 ⟨u423, u425, u427, rfl, ho424, ho426, ho428⟩ A H
 obtain ⟨hx430, _⟩ := nx hx410 he422
 replace hb4 := hb4.ext he422
 replace hb11 := hb11.ext he422
 revert A; refine go ?_; intro A H
 refine ws H (op_storeAll' H rfl ti34 rfl rfl hb11 rfl rfl (o1 ho424.one (o1 ho426.one (o1 ho428.one o0))) rfl) ?_
 rintro w434 ⟨hb436, hst435, hz437⟩
 obtain ⟨hx438, _⟩ := nb hx430 hst435
 replace hb4 := bb hb4 hst435
 replace ho424 := ob ho424 flat_shBin hb11 hst435
 replace ho426 := ob ho426 flat_shProm hb11 hst435
 replace ho428 := ob ho428 flat_shEnt hb11 hst435
 clear hb11
 revert A; refine go ?_; intro A H
 refine ret_ctt H rfl rfl U34 ti34 rfl hb436.cells rfl rfl ?_
 clear H A
 have hr := exM_free (d := d) (ns := n) hx18 c387 hx395
 exact ret_mk hx438 ⟨u423, u425, u427, (tup3_eq (by rfl) (congrArg St (by rw [hr]; rfl)) (int_eq (by rw [hr]; rfl))), ((fi ho424).cast (by rw [hr]; rfl)), ((fi ho426).cast (by rw [hr]; rfl)), ((fi ho428).cast (by rw [hr]; rfl))⟩
 rw [decide_eq_false c387] at H
 revert A; refine go ?_; intro A H
 by_cases c443 : x18 = ([111, 114, 100, 101, 114] : Str)
 rw [decide_eq_true c443] at H
 obtain ⟨hwlc443, hnlc443⟩ : words.length = 1 ∧ n.length = 0 := cm_len (l := []) g1 hx18 (by rw [c443]; decide)
 revert A; refine go ?_; intro A H
 refine dre (fun wa_ wb_ => Stp wa_ wb_ (some w2.heap.size)) follows_mixed ?_
 intro w444 he445 hs447
 obtain ⟨hx446, _⟩ := nx hx14 he445
 replace hb4 := hb4.ext he445
 replace hb11 := hb11.ext he445
 refine dv 0 H rfl (Stp.of_ext hs447 _) (fun w' hw' => ls H U34 ti34 (hb4.stp hw' (by intro q hq; cases hq; omega)).cells) ?_
 clear H A; intro A H
 refine dw 1 H rfl (Stp.of_ext hs447 _) (fa H U34 ti30) ?_
 clear H A; intro A H
 refine dv 2 H rfl (Stp.of_ext hs447 _) (fun w' hw' => lf 0 H U30 (hb4.stp hw' (by intro q hq; cases hq; omega)).cells) ?_
 clear H A; intro A H
 refine dr_one (i := 3) (by kernel_rfl) ?_
 refine pc H cb100 rfl (c_impl_orderText _ v_d0 d.1 (((h_d0.ext hx446).rds pos_shBin).ext pos_shBin hs447) ge) ?_
 clear H A; rintro v451 w452 he453 rfl A H
 have hs455 := hs447.trans' he453
 obtain ⟨hx456, _⟩ := nx hx446 he453
 refine ⟨(Stp.of_ext hs455 _), ?_⟩
 replace hb4 := hb4.ext hs455
 replace hb11 := hb11.ext hs455
 refine drs (Stp.of_ext hs455 _) ?_
 intro hs457
 refine dr_one (i := 4) (by kernel_rfl) ?_
 replace hb4 := hb4.ext hs457
 replace hb11 := hb11.ext hs457
 refine po_effS H rfl rfl rfl (op_storeAll' H rfl ti34 rfl rfl hb11 rfl rfl (by intro u hu; have hu : u ∈ ([v_d0, v_d1, v_d2] : List Value) := hu; simp only [List.mem_cons, List.mem_nil_iff, or_false] at hu; rcases hu with rfl | rfl | rfl <;> first | exact (h_d0.ext hx456).one | exact (h_d1.ext hx456).one | exact (h_d2.ext hx456).one) rfl) ?_
 rintro w458 ⟨hb460, hst459, hz461⟩
 have hs462 := (Stp.of_ext hs457 (some w2.heap.size)).trans' hst459
 obtain ⟨hx463, _⟩ := nb hx456 hst459
 replace hb4 := bb hb4 hst459
 clear hb11
 refine ⟨hs462, ?_⟩
 refine drs hs462 ?_
 intro hs464
 revert A; refine dgo [5, 6] (Stp.of_ext hs464 _) ?_; intro A H
 refine dr_end (by kernel_rfl) ?_
 revert A; refine go ?_; intro A H
 refine ret_ctt H rfl rfl U34 ti34 rfl hb460.cells rfl rfl ?_
 clear H A
 have hr := exM_order (d := d) (ns := n) hx18 c443
 exact ret_mk hx463 ⟨v_d0, v_d1, v_d2, (tup3_eq (by rfl) (congrArg St (by rw [hr]; rfl)) (int_eq (by rw [hr]; rfl))), ((fi (h_d0.ext hx463)).cast (by rw [hr]; rfl)), ((fi (h_d1.ext hx463)).cast (by rw [hr]; rfl)), ((fi (h_d2.ext hx463)).cast (by rw [hr]; rfl))⟩
 rw [decide_eq_false c443] at H
 revert A; refine go ?_; intro A H
 by_cases c469 : x18 = ([112, 114, 111, 109, 105, 115, 101] : Str)
 rw [decide_eq_true c469] at H
 obtain ⟨hwlc469, hnlc469⟩ : words.length = 4 ∧ n.length = 2 := cm_len (l := [true, false, false]) g1 hx18 (by rw [c469]; decide)
 revert A; refine go ?_; intro A H
 refine dre Ext follows_mixed ?_
 intro w470 he471 hs473
 obtain ⟨hx472, _⟩ := nx hx14 he471
 replace hb4 := hb4.ext he471
 replace hb11 := hb11.ext he471
 refine dw 0 H rfl hs473 (fa H U34 ti31) ?_
 clear H A; intro A H
 refine dv 1 H rfl hs473 (fun w' hw' => lf 1 H U31 (hb4.ext hw').cells) ?_
 clear H A; intro A H
 refine dw 2 H rfl hs473 (op_move H rfl rfl) ?_
 clear H A; intro A H
 obtain ⟨x477, hx477⟩ := get_ex (xs := words) (j := 1) (by omega)
 obtain ⟨p478, hi480, hc481, b484, hs483⟩ := at_shStr h_words hx477
 have hbx477 := cm_str g1 (List.mem_of_getElem? hx477)
 refine dw 3 H rfl hs473 (ix H U25 ti9 hi480) ?_
 clear H A; intro A H
 refine dv 4 H rfl hs473 (fun w' hw' => lh H U9 (hc481.ext (hx472.trans' hw'))) ?_
 clear H A; intro A H
 refine dw 5 H rfl hs473 (op_move H rfl rfl) ?_
 clear H A; intro A H
 obtain ⟨x488, hx488⟩ := get_ex (xs := n) (j := 0) (by omega)
 obtain ⟨p489, hi491, hc492, b495, hs494⟩ := at_shI64 h_n hx488
 have hbx488 := cm_num g1 (List.mem_of_getElem? hx488)
 refine dw 6 H rfl hs473 (ix H U55 ti2 hi491) ?_
 clear H A; intro A H
 refine dv 7 H rfl hs473 (fun w' hw' => lh H U2 (hc492.ext (hx472.trans' hw'))) ?_
 clear H A; intro A H
 refine dw 8 H rfl hs473 (op_move H rfl rfl) ?_
 clear H A; intro A H
 obtain ⟨x499, hx499⟩ := get_ex (xs := n) (j := 1) (by omega)
 obtain ⟨p500, hi502, hc503, b506, hs505⟩ := at_shI64 h_n hx499
 have hbx499 := cm_num g1 (List.mem_of_getElem? hx499)
 refine dw 9 H rfl hs473 (ix H U55 ti2 hi502) ?_
 clear H A; intro A H
 refine dv 10 H rfl hs473 (fun w' hw' => lh H U2 (hc503.ext (hx472.trans' hw'))) ?_
 clear H A; intro A H
 refine dw 11 H rfl hs473 (op_build (vs := [(0, St x477), (1, .int .i64 x488), (2, .int .i64 x499)]) (cs := #[St x477, .int .i64 x488, .int .i64 x499]) H rfl U67 ti67 bp67 rfl rfl) ?_
 clear H A; intro A H
 refine dr_one (i := 12) (by kernel_rfl) ?_
 refine pc H cb101 rfl (c_impl_MakePromise _ v_d1 d.2.1 ((x477, x488, x499)) (((h_d1.ext hx472).rds pos_shProm).ext pos_shProm hs473) ge ge ge) ?_
 clear H A; rintro v510 w511 he512 ⟨v513, rfl, ho514⟩ A H
 have hs516 := hs473.trans' he512
 obtain ⟨hx517, _⟩ := nx hx472 he512
 refine ⟨hs516, ?_⟩
 replace hb4 := hb4.ext hs516
 replace hb11 := hb11.ext hs516
 refine drn hs516 ?_
 intro hs518
 revert A; refine dgo [13, 14, 15, 16, 17] hs518 ?_; intro A H
 refine dr_end (by kernel_rfl) ?_
 revert A; refine go ?_; intro A H
 by_cases c526 : (mkPC d.2.1 ((x477, x488, x499)) : Int) = (0 : Int)
 rw [decide_eq_true c526] at H
 revert A; refine go ?_; intro A H
 refine wv H (fa H U34 ti31) ?_
 clear H A; intro A H
 refine ws H (op_store' (off := 1) H rfl ti31 rfl rfl hb4 ho514.cells1 rfl (o1 ho514.one o0) (Nat.le_of_ble_eq_true rfl)) ?_
 rintro w529 ⟨hb531, hst530, hz532⟩
 obtain ⟨hx533, _⟩ := nb hx517 hst530
 replace hb11 := bb hb11 hst530
 replace ho514 := ho514.stp hst530 (by intro q hq; cases hq; omega)
 clear hb4
 revert A; refine go ?_; intro A H
 refine wv H (ls H U34 ti34 hb531.cells) ?_
 clear H A; intro A H
 refine ws H (op_storeAll' H rfl ti34 rfl rfl hb11 rfl rfl (by intro u hu; have hu : u ∈ ([v_d0, v513, v_d2] : List Value) := hu; simp only [List.mem_cons, List.mem_nil_iff, or_false] at hu; rcases hu with rfl | rfl | rfl <;> first | exact (h_d0.ext hx533).one | exact ho514.one | exact (h_d2.ext hx533).one) rfl) ?_
 rintro w535 ⟨hb537, hst536, hz538⟩
 obtain ⟨hx539, _⟩ := nb hx533 hst536
 replace ho514 := ho514.stp hst536 (by intro q hq; cases hq; omega)
 replace hb531 := bb hb531 hst536
 clear hb11
 revert A; refine go ?_; intro A H
 refine ret_ctt H rfl rfl U34 ti34 rfl hb537.cells rfl rfl ?_
 clear H A
 have hr := exM_promise (d := d) (ns := n) hx18 c469 hx477 hx488 hx499
 exact ret_mk hx539 ⟨v_d0, v513, v_d2, (tup3_eq (by rfl) (congrArg St (by rw [hr, prR, if_pos c526])) (int_eq (by rw [hr, prR, if_pos c526]))), ((fi (h_d0.ext hx539)).cast (by rw [hr, prR, if_pos c526])), ((fi ho514).cast (by rw [hr, prR, if_pos c526])), ((fi (h_d2.ext hx539)).cast (by rw [hr, prR, if_pos c526]))⟩
 rw [decide_eq_false c526] at H
 clear ho514
 revert A; refine go ?_; intro A H
 refine wv H (ls H U34 ti34 hb4.cells) ?_
 clear H A; intro A H
 refine wv H (op_move H rfl rfl) ?_
 clear H A; intro A H
 refine ws H (op_storeAll' H rfl ti34 rfl rfl hb11 rfl rfl (by intro u hu; have hu : u ∈ ([v_d0, v_d1, v_d2] : List Value) := hu; simp only [List.mem_cons, List.mem_nil_iff, or_false] at hu; rcases hu with rfl | rfl | rfl <;> first | exact (h_d0.ext hx517).one | exact (h_d1.ext hx517).one | exact (h_d2.ext hx517).one) rfl) ?_
 rintro w544 ⟨hb546, hst545, hz547⟩
 obtain ⟨hx548, _⟩ := nb hx517 hst545
 replace hb4 := bb hb4 hst545
 clear hb11
 revert A; refine go ?_; intro A H
 refine ret_ctt H rfl rfl U34 ti34 rfl hb546.cells rfl rfl ?_
 clear H A
 have hr := exM_promise (d := d) (ns := n) hx18 c469 hx477 hx488 hx499
 exact ret_mk hx548 ⟨v_d0, v_d1, v_d2, (tup3_eq (by rfl) (congrArg St (by rw [hr, prR, if_neg c526])) (int_eq (by rw [hr, prR, if_neg c526]))), ((fi (h_d0.ext hx548)).cast (by rw [hr, prR, if_neg c526])), ((fi (h_d1.ext hx548)).cast (by rw [hr, prR, if_neg c526])), ((fi (h_d2.ext hx548)).cast (by rw [hr, prR, if_neg c526]))⟩
 rw [decide_eq_false c469] at H
 revert A; refine go ?_; intro A H
 by_cases c553 : x18 = ([119, 104, 101, 110] : Str)
 rw [decide_eq_true c553] at H
 obtain ⟨hwlc553, hnlc553⟩ : words.length = 2 ∧ n.length = 1 := cm_len (l := [false]) g1 hx18 (by rw [c553]; decide)
 revert A; refine go ?_; intro A H
 refine dre Ext follows_mixed ?_
 intro w554 he555 hs557
 obtain ⟨hx556, _⟩ := nx hx14 he555
 replace hb4 := hb4.ext he555
 replace hb11 := hb11.ext he555
 refine dw 0 H rfl hs557 (fa H U34 ti31) ?_
 clear H A; intro A H
 refine dv 1 H rfl hs557 (fun w' hw' => lf 1 H U31 (hb4.ext hw').cells) ?_
 clear H A; intro A H
 refine dw 2 H rfl hs557 (op_move H rfl rfl) ?_
 clear H A; intro A H
 obtain ⟨x561, hx561⟩ := get_ex (xs := n) (j := 0) (by omega)
 obtain ⟨p562, hi564, hc565, b568, hs567⟩ := at_shI64 h_n hx561
 have hbx561 := cm_num g1 (List.mem_of_getElem? hx561)
 refine dw 3 H rfl hs557 (ix H U55 ti2 hi564) ?_
 clear H A; intro A H
 refine dv 4 H rfl hs557 (fun w' hw' => lh H U2 (hc565.ext (hx556.trans' hw'))) ?_
 clear H A; intro A H
 refine dr_one (i := 5) (by kernel_rfl) ?_
 refine pc H cb102 rfl (c_impl_EarliestDay _ v_d1 d.2.1 x561 (((h_d1.ext hx556).rds pos_shProm).ext pos_shProm hs557)) ?_
 clear H A; rintro v571 w572 he573 rfl A H
 have hs575 := hs557.trans' he573
 obtain ⟨hx576, _⟩ := nx hx556 he573
 refine ⟨hs575, ?_⟩
 replace hb4 := hb4.ext hs575
 replace hb11 := hb11.ext hs575
 refine drn hs575 ?_
 intro hs577
 revert A; refine dgo [6, 7, 8, 9, 10] hs577 ?_; intro A H
 refine dr_end (by kernel_rfl) ?_
 revert A; refine go ?_; intro A H
 refine wv H (ls H U34 ti34 hb4.cells) ?_
 clear H A; refine go ?_; intro A H
 refine wc H cb99 (c_impl_told (lo_d := lo_d) (hi_d := w572.heap.size) _ v_d0 v_d1 v_d2 d (if edC d.2.1 x561 = 0 then edS d.2.1 x561 else 0 : Int) (edC d.2.1 x561 : Int) (fi (h_d0.ext hx576)) (fi (h_d1.ext hx576)) (fi (h_d2.ext hx576)) (by omega) (by omega) ge) ?_
 clear H A; rintro v586 w587 he588 ⟨u589, u591, u593, rfl, ho590, ho592, ho594⟩ A H
 obtain ⟨hx596, _⟩ := nx hx576 he588
 replace hb4 := hb4.ext he588
 replace hb11 := hb11.ext he588
 revert A; refine go ?_; intro A H
 refine ws H (op_storeAll' H rfl ti34 rfl rfl hb11 rfl rfl (o1 ho590.one (o1 ho592.one (o1 ho594.one o0))) rfl) ?_
 rintro w600 ⟨hb602, hst601, hz603⟩
 obtain ⟨hx604, _⟩ := nb hx596 hst601
 replace hb4 := bb hb4 hst601
 replace ho590 := ob ho590 flat_shBin hb11 hst601
 replace ho592 := ob ho592 flat_shProm hb11 hst601
 replace ho594 := ob ho594 flat_shEnt hb11 hst601
 clear hb11
 revert A; refine go ?_; intro A H
 refine ret_ctt H rfl rfl U34 ti34 rfl hb602.cells rfl rfl ?_
 clear H A
 have hr := exM_when (d := d) (ns := n) hx18 c553 hx561
 exact ret_mk hx604 ⟨u589, u591, u593, (tup3_eq (by rfl) (congrArg St (by rw [hr]; rfl)) (int_eq (by rw [hr]; rfl))), ((fi ho590).cast (by rw [hr]; rfl)), ((fi ho592).cast (by rw [hr]; rfl)), ((fi ho594).cast (by rw [hr]; rfl))⟩
 rw [decide_eq_false c553] at H
 revert A; refine go ?_; intro A H
 by_cases c609 : x18 = ([107, 101, 112, 116] : Str)
 rw [decide_eq_true c609] at H
 obtain ⟨hwlc609, hnlc609⟩ : words.length = 1 ∧ n.length = 0 := cm_len (l := []) g1 hx18 (by rw [c609]; decide)
 revert A; refine go ?_; intro A H
 refine fl 1 H U34 ti31 U31 hb4.cells ?_
 clear H A; intro A H
 refine wc H cb103 (c_impl_MostKept _ v_d1 d.2.1 ((h_d1.ext hx14).rds pos_shProm)) ?_
 clear H A; rintro v612 w613 he614 rfl A H
 obtain ⟨hx616, _⟩ := nx hx14 he614
 replace hb4 := hb4.ext he614
 replace hb11 := hb11.ext he614
 revert A; refine go ?_; intro A H
 refine wv H (ls H U34 ti34 hb4.cells) ?_
 clear H A; refine go ?_; intro A H
 refine wc H cb99 (c_impl_told (lo_d := lo_d) (hi_d := w613.heap.size) _ v_d0 v_d1 v_d2 d (if prsB d.2.1 then ((kpL d.2.1).length : Int) else 0 : Int) (if prsB d.2.1 then 0 else 1 : Int) (fi (h_d0.ext hx616)) (fi (h_d1.ext hx616)) (fi (h_d2.ext hx616)) (by omega) (by omega) ge) ?_
 clear H A; rintro v625 w626 he627 ⟨u628, u630, u632, rfl, ho629, ho631, ho633⟩ A H
 obtain ⟨hx635, _⟩ := nx hx616 he627
 replace hb4 := hb4.ext he627
 replace hb11 := hb11.ext he627
 revert A; refine go ?_; intro A H
 refine ws H (op_storeAll' H rfl ti34 rfl rfl hb11 rfl rfl (o1 ho629.one (o1 ho631.one (o1 ho633.one o0))) rfl) ?_
 rintro w639 ⟨hb641, hst640, hz642⟩
 obtain ⟨hx643, _⟩ := nb hx635 hst640
 replace hb4 := bb hb4 hst640
 replace ho629 := ob ho629 flat_shBin hb11 hst640
 replace ho631 := ob ho631 flat_shProm hb11 hst640
 replace ho633 := ob ho633 flat_shEnt hb11 hst640
 clear hb11
 revert A; refine go ?_; intro A H
 refine ret_ctt H rfl rfl U34 ti34 rfl hb641.cells rfl rfl ?_
 clear H A
 have hr := exM_kept (d := d) (ns := n) hx18 c609
 exact ret_mk hx643 ⟨u628, u630, u632, (tup3_eq (by rfl) (congrArg St (by rw [hr]; rfl)) (int_eq (by rw [hr]; rfl))), ((fi ho629).cast (by rw [hr]; rfl)), ((fi ho631).cast (by rw [hr]; rfl)), ((fi ho633).cast (by rw [hr]; rfl))⟩
 rw [decide_eq_false c609] at H
 revert A; refine go ?_; intro A H
 by_cases c648 : x18 = ([115, 97, 108, 101] : Str)
 rw [decide_eq_true c648] at H
 obtain ⟨hwlc648, hnlc648⟩ : words.length = 4 ∧ n.length = 2 := cm_len (l := [true, false, false]) g1 hx18 (by rw [c648]; decide)
 revert A; refine go ?_; intro A H
 refine dre (fun wa_ wb_ => Stp wa_ wb_ (some w2.heap.size)) follows_mixed ?_
 intro w649 he650 hs652
 obtain ⟨hx651, _⟩ := nx hx14 he650
 replace hb4 := hb4.ext he650
 replace hb11 := hb11.ext he650
 refine dv 0 H rfl (Stp.of_ext hs652 _) (fun w' hw' => ls H U34 ti34 (hb4.stp hw' (by intro q hq; cases hq; omega)).cells) ?_
 clear H A; intro A H
 refine dw 1 H rfl (Stp.of_ext hs652 _) (op_move H rfl rfl) ?_
 clear H A; intro A H
 obtain ⟨x655, hx655⟩ := get_ex (xs := n) (j := 0) (by omega)
 obtain ⟨p656, hi658, hc659, b662, hs661⟩ := at_shI64 h_n hx655
 have hbx655 := cm_num g1 (List.mem_of_getElem? hx655)
 refine dw 2 H rfl (Stp.of_ext hs652 _) (ix H U55 ti2 hi658) ?_
 clear H A; intro A H
 refine dv 3 H rfl (Stp.of_ext hs652 _) (fun w' hw' => lh H U2 (hc659.ext (hx651.stp hw' (by intro q hq; cases hq; omega)))) ?_
 clear H A; intro A H
 refine dw 4 H rfl (Stp.of_ext hs652 _) (op_move H rfl rfl) ?_
 clear H A; intro A H
 obtain ⟨x666, hx666⟩ := get_ex (xs := words) (j := 1) (by omega)
 obtain ⟨p667, hi669, hc670, b673, hs672⟩ := at_shStr h_words hx666
 have hbx666 := cm_str g1 (List.mem_of_getElem? hx666)
 refine dw 5 H rfl (Stp.of_ext hs652 _) (ix H U25 ti9 hi669) ?_
 clear H A; intro A H
 refine dv 6 H rfl (Stp.of_ext hs652 _) (fun w' hw' => lh H U9 (hc670.ext (hx651.stp hw' (by intro q hq; cases hq; omega)))) ?_
 clear H A; intro A H
 refine dw 7 H rfl (Stp.of_ext hs652 _) (op_move H rfl rfl) ?_
 clear H A; intro A H
 obtain ⟨x677, hx677⟩ := get_ex (xs := n) (j := 1) (by omega)
 obtain ⟨p678, hi680, hc681, b684, hs683⟩ := at_shI64 h_n hx677
 have hbx677 := cm_num g1 (List.mem_of_getElem? hx677)
 refine dw 8 H rfl (Stp.of_ext hs652 _) (ix H U55 ti2 hi680) ?_
 clear H A; intro A H
 refine dv 9 H rfl (Stp.of_ext hs652 _) (fun w' hw' => lh H U2 (hc681.ext (hx651.stp hw' (by intro q hq; cases hq; omega)))) ?_
 clear H A; intro A H
 refine dw 10 H rfl (Stp.of_ext hs652 _) (op_build (vs := [(0, .int .i64 x655), (1, .int .i64 (0 : Int)), (2, St x666), (3, .int .i64 x677)]) (cs := #[.int .i64 x655, .int .i64 (0 : Int), St x666, .int .i64 x677]) H rfl U69 ti69 bp69 rfl rfl) ?_
 clear H A; intro A H
 refine dr_one (i := 11) (by kernel_rfl) ?_
 refine pc H cb104 rfl (c_impl_withEntry (lo_d := lo_d) (hi_d := w649.heap.size) _ v_d0 v_d1 v_d2 d ((x655, (0 : Int), x666, x677)) (fi (h_d0.ext hx651)) (fi (h_d1.ext hx651)) (fi (h_d2.ext hx651)) (by omega) (by omega) ge ge ge ge ge ge) ?_
 clear H A; rintro v688 w689 he690 ⟨u691, u693, u695, rfl, ho692, ho694, ho696⟩ A H
 have hs698 := hs652.trans' he690
 obtain ⟨hx699, _⟩ := nx hx651 he690
 refine ⟨(Stp.of_ext hs698 _), ?_⟩
 replace hb4 := hb4.ext hs698
 replace hb11 := hb11.ext hs698
 refine drs (Stp.of_ext hs698 _) ?_
 intro hs700
 revert A; refine dgo [12, 13, 14] (Stp.of_ext hs700 _) ?_; intro A H
 refine dr_one (i := 15) (by kernel_rfl) ?_
 replace hb4 := hb4.ext hs700
 replace hb11 := hb11.ext hs700
 replace ho692 := ho692.ext hs700
 replace ho694 := ho694.ext hs700
 replace ho696 := ho696.ext hs700
 refine po_effS H rfl rfl rfl (op_storeAll' H rfl ti34 rfl rfl hb11 rfl rfl (o1 ho692.one (o1 ho694.one (o1 ho696.one o0))) rfl) ?_
 rintro w704 ⟨hb706, hst705, hz707⟩
 have hs708 := (Stp.of_ext hs700 (some w2.heap.size)).trans' hst705
 obtain ⟨hx709, _⟩ := nb hx699 hst705
 replace hb4 := bb hb4 hst705
 replace ho692 := ob ho692 flat_shBin hb11 hst705
 replace ho694 := ob ho694 flat_shProm hb11 hst705
 replace ho696 := ob ho696 flat_shEnt hb11 hst705
 clear hb11
 refine ⟨hs708, ?_⟩
 refine drs hs708 ?_
 intro hs710
 revert A; refine dgo [16, 17] (Stp.of_ext hs710 _) ?_; intro A H
 refine dr_end (by kernel_rfl) ?_
 revert A; refine go ?_; intro A H
 refine ret_ctt H rfl rfl U34 ti34 rfl hb706.cells rfl rfl ?_
 clear H A
 have hr := exM_sale (d := d) (ns := n) hx18 c648 hx666 hx655 hx677
 exact ret_mk hx709 ⟨u691, u693, u695, (tup3_eq (by rfl) (congrArg St (by rw [hr])) (int_eq (by rw [hr]))), ((fi ho692).cast (by rw [hr])), ((fi ho694).cast (by rw [hr])), ((fi ho696).cast (by rw [hr]))⟩
 rw [decide_eq_false c648] at H
 revert A; refine go ?_; intro A H
 by_cases c715 : x18 = ([112, 97, 121] : Str)
 rw [decide_eq_true c715] at H
 obtain ⟨hwlc715, hnlc715⟩ : words.length = 4 ∧ n.length = 2 := cm_len (l := [true, false, false]) g1 hx18 (by rw [c715]; decide)
 revert A; refine go ?_; intro A H
 refine dre (fun wa_ wb_ => Stp wa_ wb_ (some w2.heap.size)) follows_mixed ?_
 intro w716 he717 hs719
 obtain ⟨hx718, _⟩ := nx hx14 he717
 replace hb4 := hb4.ext he717
 replace hb11 := hb11.ext he717
 refine dv 0 H rfl (Stp.of_ext hs719 _) (fun w' hw' => ls H U34 ti34 (hb4.stp hw' (by intro q hq; cases hq; omega)).cells) ?_
 clear H A; intro A H
 refine dw 1 H rfl (Stp.of_ext hs719 _) (op_move H rfl rfl) ?_
 clear H A; intro A H
 obtain ⟨x722, hx722⟩ := get_ex (xs := n) (j := 0) (by omega)
 obtain ⟨p723, hi725, hc726, b729, hs728⟩ := at_shI64 h_n hx722
 have hbx722 := cm_num g1 (List.mem_of_getElem? hx722)
 refine dw 2 H rfl (Stp.of_ext hs719 _) (ix H U55 ti2 hi725) ?_
 clear H A; intro A H
 refine dv 3 H rfl (Stp.of_ext hs719 _) (fun w' hw' => lh H U2 (hc726.ext (hx718.stp hw' (by intro q hq; cases hq; omega)))) ?_
 clear H A; intro A H
 refine dw 4 H rfl (Stp.of_ext hs719 _) (op_move H rfl rfl) ?_
 clear H A; intro A H
 obtain ⟨x733, hx733⟩ := get_ex (xs := words) (j := 1) (by omega)
 obtain ⟨p734, hi736, hc737, b740, hs739⟩ := at_shStr h_words hx733
 have hbx733 := cm_str g1 (List.mem_of_getElem? hx733)
 refine dw 5 H rfl (Stp.of_ext hs719 _) (ix H U25 ti9 hi736) ?_
 clear H A; intro A H
 refine dv 6 H rfl (Stp.of_ext hs719 _) (fun w' hw' => lh H U9 (hc737.ext (hx718.stp hw' (by intro q hq; cases hq; omega)))) ?_
 clear H A; intro A H
 refine dw 7 H rfl (Stp.of_ext hs719 _) (op_move H rfl rfl) ?_
 clear H A; intro A H
 obtain ⟨x744, hx744⟩ := get_ex (xs := n) (j := 1) (by omega)
 obtain ⟨p745, hi747, hc748, b751, hs750⟩ := at_shI64 h_n hx744
 have hbx744 := cm_num g1 (List.mem_of_getElem? hx744)
 refine dw 8 H rfl (Stp.of_ext hs719 _) (ix H U55 ti2 hi747) ?_
 clear H A; intro A H
 refine dv 9 H rfl (Stp.of_ext hs719 _) (fun w' hw' => lh H U2 (hc748.ext (hx718.stp hw' (by intro q hq; cases hq; omega)))) ?_
 clear H A; intro A H
 refine dw 10 H rfl (Stp.of_ext hs719 _) (op_build (vs := [(0, .int .i64 x722), (1, .int .i64 (1 : Int)), (2, St x733), (3, .int .i64 x744)]) (cs := #[.int .i64 x722, .int .i64 (1 : Int), St x733, .int .i64 x744]) H rfl U69 ti69 bp69 rfl rfl) ?_
 clear H A; intro A H
 refine dr_one (i := 11) (by kernel_rfl) ?_
 refine pc H cb104 rfl (c_impl_withEntry (lo_d := lo_d) (hi_d := w716.heap.size) _ v_d0 v_d1 v_d2 d ((x722, (1 : Int), x733, x744)) (fi (h_d0.ext hx718)) (fi (h_d1.ext hx718)) (fi (h_d2.ext hx718)) (by omega) (by omega) ge ge ge ge ge ge) ?_
 clear H A; rintro v755 w756 he757 ⟨u758, u760, u762, rfl, ho759, ho761, ho763⟩ A H
 have hs765 := hs719.trans' he757
 obtain ⟨hx766, _⟩ := nx hx718 he757
 refine ⟨(Stp.of_ext hs765 _), ?_⟩
 replace hb4 := hb4.ext hs765
 replace hb11 := hb11.ext hs765
 refine drs (Stp.of_ext hs765 _) ?_
 intro hs767
 revert A; refine dgo [12, 13, 14] (Stp.of_ext hs767 _) ?_; intro A H
 refine dr_one (i := 15) (by kernel_rfl) ?_
 replace hb4 := hb4.ext hs767
 replace hb11 := hb11.ext hs767
 replace ho759 := ho759.ext hs767
 replace ho761 := ho761.ext hs767
 replace ho763 := ho763.ext hs767
 refine po_effS H rfl rfl rfl (op_storeAll' H rfl ti34 rfl rfl hb11 rfl rfl (o1 ho759.one (o1 ho761.one (o1 ho763.one o0))) rfl) ?_
 rintro w771 ⟨hb773, hst772, hz774⟩
 have hs775 := (Stp.of_ext hs767 (some w2.heap.size)).trans' hst772
 obtain ⟨hx776, _⟩ := nb hx766 hst772
 replace hb4 := bb hb4 hst772
 replace ho759 := ob ho759 flat_shBin hb11 hst772
 replace ho761 := ob ho761 flat_shProm hb11 hst772
 replace ho763 := ob ho763 flat_shEnt hb11 hst772
 clear hb11
 refine ⟨hs775, ?_⟩
 refine drs hs775 ?_
 intro hs777
 revert A; refine dgo [16, 17] (Stp.of_ext hs777 _) ?_; intro A H
 refine dr_end (by kernel_rfl) ?_
 revert A; refine go ?_; intro A H
 refine ret_ctt H rfl rfl U34 ti34 rfl hb773.cells rfl rfl ?_
 clear H A
 have hr := exM_pay (d := d) (ns := n) hx18 c715 hx733 hx722 hx744
 exact ret_mk hx776 ⟨u758, u760, u762, (tup3_eq (by rfl) (congrArg St (by rw [hr])) (int_eq (by rw [hr]))), ((fi ho759).cast (by rw [hr])), ((fi ho761).cast (by rw [hr])), ((fi ho763).cast (by rw [hr]))⟩
 rw [decide_eq_false c715] at H
 revert A; refine go ?_; intro A H
 by_cases c782 : x18 = ([98, 117, 121] : Str)
 rw [decide_eq_true c782] at H
 obtain ⟨hwlc782, hnlc782⟩ : words.length = 4 ∧ n.length = 2 := cm_len (l := [true, false, false]) g1 hx18 (by rw [c782]; decide)
 revert A; refine go ?_; intro A H
 refine dre (fun wa_ wb_ => Stp wa_ wb_ (some w2.heap.size)) follows_mixed ?_
 intro w783 he784 hs786
 obtain ⟨hx785, _⟩ := nx hx14 he784
 replace hb4 := hb4.ext he784
 replace hb11 := hb11.ext he784
 refine dv 0 H rfl (Stp.of_ext hs786 _) (fun w' hw' => ls H U34 ti34 (hb4.stp hw' (by intro q hq; cases hq; omega)).cells) ?_
 clear H A; intro A H
 refine dw 1 H rfl (Stp.of_ext hs786 _) (op_move H rfl rfl) ?_
 clear H A; intro A H
 obtain ⟨x789, hx789⟩ := get_ex (xs := n) (j := 0) (by omega)
 obtain ⟨p790, hi792, hc793, b796, hs795⟩ := at_shI64 h_n hx789
 have hbx789 := cm_num g1 (List.mem_of_getElem? hx789)
 refine dw 2 H rfl (Stp.of_ext hs786 _) (ix H U55 ti2 hi792) ?_
 clear H A; intro A H
 refine dv 3 H rfl (Stp.of_ext hs786 _) (fun w' hw' => lh H U2 (hc793.ext (hx785.stp hw' (by intro q hq; cases hq; omega)))) ?_
 clear H A; intro A H
 refine dw 4 H rfl (Stp.of_ext hs786 _) (op_move H rfl rfl) ?_
 clear H A; intro A H
 obtain ⟨x800, hx800⟩ := get_ex (xs := words) (j := 1) (by omega)
 obtain ⟨p801, hi803, hc804, b807, hs806⟩ := at_shStr h_words hx800
 have hbx800 := cm_str g1 (List.mem_of_getElem? hx800)
 refine dw 5 H rfl (Stp.of_ext hs786 _) (ix H U25 ti9 hi803) ?_
 clear H A; intro A H
 refine dv 6 H rfl (Stp.of_ext hs786 _) (fun w' hw' => lh H U9 (hc804.ext (hx785.stp hw' (by intro q hq; cases hq; omega)))) ?_
 clear H A; intro A H
 refine dw 7 H rfl (Stp.of_ext hs786 _) (op_move H rfl rfl) ?_
 clear H A; intro A H
 obtain ⟨x811, hx811⟩ := get_ex (xs := n) (j := 1) (by omega)
 obtain ⟨p812, hi814, hc815, b818, hs817⟩ := at_shI64 h_n hx811
 have hbx811 := cm_num g1 (List.mem_of_getElem? hx811)
 refine dw 8 H rfl (Stp.of_ext hs786 _) (ix H U55 ti2 hi814) ?_
 clear H A; intro A H
 refine dv 9 H rfl (Stp.of_ext hs786 _) (fun w' hw' => lh H U2 (hc815.ext (hx785.stp hw' (by intro q hq; cases hq; omega)))) ?_
 clear H A; intro A H
 refine dw 10 H rfl (Stp.of_ext hs786 _) (op_build (vs := [(0, .int .i64 x789), (1, .int .i64 (2 : Int)), (2, St x800), (3, .int .i64 x811)]) (cs := #[.int .i64 x789, .int .i64 (2 : Int), St x800, .int .i64 x811]) H rfl U69 ti69 bp69 rfl rfl) ?_
 clear H A; intro A H
 refine dr_one (i := 11) (by kernel_rfl) ?_
 refine pc H cb104 rfl (c_impl_withEntry (lo_d := lo_d) (hi_d := w783.heap.size) _ v_d0 v_d1 v_d2 d ((x789, (2 : Int), x800, x811)) (fi (h_d0.ext hx785)) (fi (h_d1.ext hx785)) (fi (h_d2.ext hx785)) (by omega) (by omega) ge ge ge ge ge ge) ?_
 clear H A; rintro v822 w823 he824 ⟨u825, u827, u829, rfl, ho826, ho828, ho830⟩ A H
 have hs832 := hs786.trans' he824
 obtain ⟨hx833, _⟩ := nx hx785 he824
 refine ⟨(Stp.of_ext hs832 _), ?_⟩
 replace hb4 := hb4.ext hs832
 replace hb11 := hb11.ext hs832
 refine drs (Stp.of_ext hs832 _) ?_
 intro hs834
 revert A; refine dgo [12, 13, 14] (Stp.of_ext hs834 _) ?_; intro A H
 refine dr_one (i := 15) (by kernel_rfl) ?_
 replace hb4 := hb4.ext hs834
 replace hb11 := hb11.ext hs834
 replace ho826 := ho826.ext hs834
 replace ho828 := ho828.ext hs834
 replace ho830 := ho830.ext hs834
 refine po_effS H rfl rfl rfl (op_storeAll' H rfl ti34 rfl rfl hb11 rfl rfl (o1 ho826.one (o1 ho828.one (o1 ho830.one o0))) rfl) ?_
 rintro w838 ⟨hb840, hst839, hz841⟩
 have hs842 := (Stp.of_ext hs834 (some w2.heap.size)).trans' hst839
 obtain ⟨hx843, _⟩ := nb hx833 hst839
 replace hb4 := bb hb4 hst839
 replace ho826 := ob ho826 flat_shBin hb11 hst839
 replace ho828 := ob ho828 flat_shProm hb11 hst839
 replace ho830 := ob ho830 flat_shEnt hb11 hst839
 clear hb11
 refine ⟨hs842, ?_⟩
 refine drs hs842 ?_
 intro hs844
 revert A; refine dgo [16, 17] (Stp.of_ext hs844 _) ?_; intro A H
 refine dr_end (by kernel_rfl) ?_
 revert A; refine go ?_; intro A H
 refine ret_ctt H rfl rfl U34 ti34 rfl hb840.cells rfl rfl ?_
 clear H A
 have hr := exM_buy (d := d) (ns := n) hx18 c782 hx800 hx789 hx811
 exact ret_mk hx843 ⟨u825, u827, u829, (tup3_eq (by rfl) (congrArg St (by rw [hr])) (int_eq (by rw [hr]))), ((fi ho826).cast (by rw [hr])), ((fi ho828).cast (by rw [hr])), ((fi ho830).cast (by rw [hr]))⟩
 rw [decide_eq_false c782] at H
 revert A; refine go ?_; intro A H
 by_cases c849 : x18 = ([99, 108, 111, 115, 101] : Str)
 rw [decide_eq_true c849] at H
 obtain ⟨hwlc849, hnlc849⟩ : words.length = 2 ∧ n.length = 1 := cm_len (l := [false]) g1 hx18 (by rw [c849]; decide)
 revert A; refine go ?_; intro A H
 refine dre (fun wa_ wb_ => Stp wa_ wb_ (some w2.heap.size)) follows_mixed ?_
 intro w850 he851 hs853
 obtain ⟨hx852, _⟩ := nx hx14 he851
 replace hb4 := hb4.ext he851
 replace hb11 := hb11.ext he851
 refine dv 0 H rfl (Stp.of_ext hs853 _) (fun w' hw' => ls H U34 ti34 (hb4.stp hw' (by intro q hq; cases hq; omega)).cells) ?_
 clear H A; intro A H
 refine dw 1 H rfl (Stp.of_ext hs853 _) (op_move H rfl rfl) ?_
 clear H A; intro A H
 obtain ⟨x856, hx856⟩ := get_ex (xs := n) (j := 0) (by omega)
 obtain ⟨p857, hi859, hc860, b863, hs862⟩ := at_shI64 h_n hx856
 have hbx856 := cm_num g1 (List.mem_of_getElem? hx856)
 refine dw 2 H rfl (Stp.of_ext hs853 _) (ix H U55 ti2 hi859) ?_
 clear H A; intro A H
 refine dv 3 H rfl (Stp.of_ext hs853 _) (fun w' hw' => lh H U2 (hc860.ext (hx852.stp hw' (by intro q hq; cases hq; omega)))) ?_
 clear H A; intro A H
 refine dw 4 H rfl (Stp.of_ext hs853 _) (op_build (vs := [(0, .int .i64 x856), (1, .int .i64 (3 : Int))]) (cs := #[.int .i64 x856, .int .i64 (3 : Int), St (([] : Str)), .int .i64 (0 : Int)]) H rfl U69 ti69 bp69 rfl rfl) ?_
 clear H A; intro A H
 refine dr_one (i := 5) (by kernel_rfl) ?_
 refine pc H cb104 rfl (c_impl_withEntry (lo_d := lo_d) (hi_d := w850.heap.size) _ v_d0 v_d1 v_d2 d ((x856, (3 : Int), ([] : Str), (0 : Int))) (fi (h_d0.ext hx852)) (fi (h_d1.ext hx852)) (fi (h_d2.ext hx852)) (by omega) (by omega) ge ge ge ge ge ge) ?_
 clear H A; rintro v867 w868 he869 ⟨u870, u872, u874, rfl, ho871, ho873, ho875⟩ A H
 have hs877 := hs853.trans' he869
 obtain ⟨hx878, _⟩ := nx hx852 he869
 refine ⟨(Stp.of_ext hs877 _), ?_⟩
 replace hb4 := hb4.ext hs877
 replace hb11 := hb11.ext hs877
 refine drs (Stp.of_ext hs877 _) ?_
 intro hs879
 revert A; refine dgo [6, 7, 8] (Stp.of_ext hs879 _) ?_; intro A H
 refine dr_one (i := 9) (by kernel_rfl) ?_
 replace hb4 := hb4.ext hs879
 replace hb11 := hb11.ext hs879
 replace ho871 := ho871.ext hs879
 replace ho873 := ho873.ext hs879
 replace ho875 := ho875.ext hs879
 refine po_effS H rfl rfl rfl (op_storeAll' H rfl ti34 rfl rfl hb11 rfl rfl (o1 ho871.one (o1 ho873.one (o1 ho875.one o0))) rfl) ?_
 rintro w883 ⟨hb885, hst884, hz886⟩
 have hs887 := (Stp.of_ext hs879 (some w2.heap.size)).trans' hst884
 obtain ⟨hx888, _⟩ := nb hx878 hst884
 replace hb4 := bb hb4 hst884
 replace ho871 := ob ho871 flat_shBin hb11 hst884
 replace ho873 := ob ho873 flat_shProm hb11 hst884
 replace ho875 := ob ho875 flat_shEnt hb11 hst884
 clear hb11
 refine ⟨hs887, ?_⟩
 refine drs hs887 ?_
 intro hs889
 revert A; refine dgo [10, 11] (Stp.of_ext hs889 _) ?_; intro A H
 refine dr_end (by kernel_rfl) ?_
 revert A; refine go ?_; intro A H
 refine ret_ctt H rfl rfl U34 ti34 rfl hb885.cells rfl rfl ?_
 clear H A
 have hr := exM_close (d := d) (ns := n) hx18 c849 hx856
 exact ret_mk hx888 ⟨u870, u872, u874, (tup3_eq (by rfl) (congrArg St (by rw [hr])) (int_eq (by rw [hr]))), ((fi ho871).cast (by rw [hr])), ((fi ho873).cast (by rw [hr])), ((fi ho875).cast (by rw [hr]))⟩
 rw [decide_eq_false c849] at H
 revert A; refine go ?_; intro A H
 by_cases c894 : x18 = ([99, 97, 115, 104] : Str)
 rw [decide_eq_true c894] at H
 obtain ⟨hwlc894, hnlc894⟩ : words.length = 2 ∧ n.length = 1 := cm_len (l := [false]) g1 hx18 (by rw [c894]; decide)
 revert A; refine go ?_; intro A H
 refine dre Ext follows_mixed ?_
 intro w895 he896 hs898
 obtain ⟨hx897, _⟩ := nx hx14 he896
 replace hb4 := hb4.ext he896
 replace hb11 := hb11.ext he896
 refine dw 0 H rfl hs898 (fa H U34 ti32) ?_
 clear H A; intro A H
 refine dv 1 H rfl hs898 (fun w' hw' => lf 2 H U32 (hb4.ext hw').cells) ?_
 clear H A; intro A H
 refine dw 2 H rfl hs898 (op_move H rfl rfl) ?_
 clear H A; intro A H
 obtain ⟨x902, hx902⟩ := get_ex (xs := n) (j := 0) (by omega)
 obtain ⟨p903, hi905, hc906, b909, hs908⟩ := at_shI64 h_n hx902
 have hbx902 := cm_num g1 (List.mem_of_getElem? hx902)
 refine dw 3 H rfl hs898 (ix H U55 ti2 hi905) ?_
 clear H A; intro A H
 refine dv 4 H rfl hs898 (fun w' hw' => lh H U2 (hc906.ext (hx897.trans' hw'))) ?_
 clear H A; intro A H
 refine dr_one (i := 5) (by kernel_rfl) ?_
 refine pc H cb105 rfl (c_impl_CashOf _ v_d2 d.2.2 x902 (((h_d2.ext hx897).rds pos_shEnt).ext pos_shEnt hs898) ge) ?_
 clear H A; rintro v912 w913 he914 rfl A H
 have hs916 := hs898.trans' he914
 obtain ⟨hx917, _⟩ := nx hx897 he914
 refine ⟨hs916, ?_⟩
 replace hb4 := hb4.ext hs916
 replace hb11 := hb11.ext hs916
 refine drn hs916 ?_
 intro hs918
 revert A; refine dgo [6, 7, 8, 9, 10] hs918 ?_; intro A H
 refine dr_end (by kernel_rfl) ?_
 revert A; refine go ?_; intro A H
 refine wv H (ls H U34 ti34 hb4.cells) ?_
 clear H A; refine go ?_; intro A H
 refine wc H cb99 (c_impl_told (lo_d := lo_d) (hi_d := w913.heap.size) _ v_d0 v_d1 v_d2 d (if codeD d.2.2 x902 = 0 then sumI (csE x902) d.2.2 else 0 : Int) (codeD d.2.2 x902 : Int) (fi (h_d0.ext hx917)) (fi (h_d1.ext hx917)) (fi (h_d2.ext hx917)) (by omega) (by omega) ge) ?_
 clear H A; rintro v927 w928 he929 ⟨u930, u932, u934, rfl, ho931, ho933, ho935⟩ A H
 obtain ⟨hx937, _⟩ := nx hx917 he929
 replace hb4 := hb4.ext he929
 replace hb11 := hb11.ext he929
 revert A; refine go ?_; intro A H
 refine ws H (op_storeAll' H rfl ti34 rfl rfl hb11 rfl rfl (o1 ho931.one (o1 ho933.one (o1 ho935.one o0))) rfl) ?_
 rintro w941 ⟨hb943, hst942, hz944⟩
 obtain ⟨hx945, _⟩ := nb hx937 hst942
 replace hb4 := bb hb4 hst942
 replace ho931 := ob ho931 flat_shBin hb11 hst942
 replace ho933 := ob ho933 flat_shProm hb11 hst942
 replace ho935 := ob ho935 flat_shEnt hb11 hst942
 clear hb11
 revert A; refine go ?_; intro A H
 refine ret_ctt H rfl rfl U34 ti34 rfl hb943.cells rfl rfl ?_
 clear H A
 have hr := exM_cash (d := d) (ns := n) hx18 c894 hx902
 exact ret_mk hx945 ⟨u930, u932, u934, (tup3_eq (by rfl) (congrArg St (by rw [hr]; rfl)) (int_eq (by rw [hr]; rfl))), ((fi ho931).cast (by rw [hr]; rfl)), ((fi ho933).cast (by rw [hr]; rfl)), ((fi ho935).cast (by rw [hr]; rfl))⟩
 rw [decide_eq_false c894] at H
 revert A; refine go ?_; intro A H
 by_cases c950 : x18 = ([111, 119, 101, 115] : Str)
 rw [decide_eq_true c950] at H
 obtain ⟨hwlc950, hnlc950⟩ : words.length = 2 ∧ n.length = 0 := cm_len (l := [true]) g1 hx18 (by rw [c950]; decide)
 revert A; refine go ?_; intro A H
 refine dre Ext follows_mixed ?_
 intro w951 he952 hs954
 obtain ⟨hx953, _⟩ := nx hx14 he952
 replace hb4 := hb4.ext he952
 replace hb11 := hb11.ext he952
 refine dw 0 H rfl hs954 (fa H U34 ti32) ?_
 clear H A; intro A H
 refine dv 1 H rfl hs954 (fun w' hw' => lf 2 H U32 (hb4.ext hw').cells) ?_
 clear H A; intro A H
 refine dw 2 H rfl hs954 (op_move H rfl rfl) ?_
 clear H A; intro A H
 obtain ⟨x958, hx958⟩ := get_ex (xs := words) (j := 1) (by omega)
 obtain ⟨p959, hi961, hc962, b965, hs964⟩ := at_shStr h_words hx958
 have hbx958 := cm_str g1 (List.mem_of_getElem? hx958)
 refine dw 3 H rfl hs954 (ix H U25 ti9 hi961) ?_
 clear H A; intro A H
 refine dv 4 H rfl hs954 (fun w' hw' => lh H U9 (hc962.ext (hx953.trans' hw'))) ?_
 clear H A; intro A H
 refine dr_one (i := 5) (by kernel_rfl) ?_
 refine pc H cb106 rfl (c_impl_OwesOf _ v_d2 d.2.2 x958 (((h_d2.ext hx953).rds pos_shEnt).ext pos_shEnt hs954) ge ge) ?_
 clear H A; rintro v968 w969 he970 rfl A H
 have hs972 := hs954.trans' he970
 obtain ⟨hx973, _⟩ := nx hx953 he970
 refine ⟨hs972, ?_⟩
 replace hb4 := hb4.ext hs972
 replace hb11 := hb11.ext hs972
 refine drn hs972 ?_
 intro hs974
 revert A; refine dgo [6, 7, 8, 9, 10] hs974 ?_; intro A H
 refine dr_end (by kernel_rfl) ?_
 revert A; refine go ?_; intro A H
 refine wv H (ls H U34 ti34 hb4.cells) ?_
 clear H A; refine go ?_; intro A H
 refine wc H cb99 (c_impl_told (lo_d := lo_d) (hi_d := w969.heap.size) _ v_d0 v_d1 v_d2 d (if dbB d.2.2 && wordB x958 then owS x958 d.2.2 else 0 : Int) (if dbB d.2.2 && wordB x958 then 0 else 1 : Int) (fi (h_d0.ext hx973)) (fi (h_d1.ext hx973)) (fi (h_d2.ext hx973)) (by omega) (by omega) ge) ?_
 clear H A; rintro v983 w984 he985 ⟨u986, u988, u990, rfl, ho987, ho989, ho991⟩ A H
 obtain ⟨hx993, _⟩ := nx hx973 he985
 replace hb4 := hb4.ext he985
 replace hb11 := hb11.ext he985
 revert A; refine go ?_; intro A H
 refine ws H (op_storeAll' H rfl ti34 rfl rfl hb11 rfl rfl (o1 ho987.one (o1 ho989.one (o1 ho991.one o0))) rfl) ?_
 rintro w997 ⟨hb999, hst998, hz1000⟩
 obtain ⟨hx1001, _⟩ := nb hx993 hst998
 replace hb4 := bb hb4 hst998
 replace ho987 := ob ho987 flat_shBin hb11 hst998
 replace ho989 := ob ho989 flat_shProm hb11 hst998
 replace ho991 := ob ho991 flat_shEnt hb11 hst998
 clear hb11
 revert A; refine go ?_; intro A H
 refine ret_ctt H rfl rfl U34 ti34 rfl hb999.cells rfl rfl ?_
 clear H A
 have hr := exM_owes (d := d) (ns := n) hx18 c950 hx958
 exact ret_mk hx1001 ⟨u986, u988, u990, (tup3_eq (by rfl) (congrArg St (by rw [hr]; rfl)) (int_eq (by rw [hr]; rfl))), ((fi ho987).cast (by rw [hr]; rfl)), ((fi ho989).cast (by rw [hr]; rfl)), ((fi ho991).cast (by rw [hr]; rfl))⟩
 rw [decide_eq_false c950] at H
 revert A; refine go ?_; intro A H
 by_cases c1006 : x18 = ([103, 101, 97, 114] : Str)
 rw [decide_eq_true c1006] at H
 obtain ⟨hwlc1006, hnlc1006⟩ : words.length = 3 ∧ n.length = 2 := cm_len (l := [false, false]) g1 hx18 (by rw [c1006]; decide)
 revert A; refine go ?_; intro A H
 obtain ⟨x1008, hx1008⟩ := get_ex (xs := n) (j := 0) (by omega)
 obtain ⟨p1009, hi1011, hc1012, b1015, hs1014⟩ := at_shI64 h_n hx1008
 have hbx1008 := cm_num g1 (List.mem_of_getElem? hx1008)
 refine wv H (ix H U55 ti2 hi1011) ?_
 clear H A; intro A H
 refine wv H (lh H U2 (hc1012.ext hx14)) ?_
 clear H A; intro A H
 refine wc H cb81 (c_impl_within _ x1008 (1 : Int) (100 : Int) ) ?_
 clear H A; rintro v1018 w1019 he1020 rfl A H
 obtain ⟨hx1022, _⟩ := nx hx14 he1020
 replace hb4 := hb4.ext he1020
 replace hb11 := hb11.ext he1020
 revert A; refine go ?_; intro A H
 rcases Bool.eq_false_or_eq_true (decide ((1 : Int) ≤ x1008) && decide (x1008 ≤ (100 : Int))) with c1025 | c1025
 rw [c1025] at H
 have hmc1025 : (1 ≤ x1008 ∧ x1008 ≤ 100) := by simpa using c1025
 refine wv H (op_move H rfl rfl) ?_
 clear H A; intro A H
 obtain ⟨x1027, hx1027⟩ := get_ex (xs := n) (j := 1) (by omega)
 obtain ⟨p1028, hi1030, hc1031, b1034, hs1033⟩ := at_shI64 h_n hx1027
 have hbx1027 := cm_num g1 (List.mem_of_getElem? hx1027)
 refine wv H (ix H U55 ti2 hi1030) ?_
 clear H A; intro A H
 refine wv H (lh H U2 (hc1031.ext hx1022)) ?_
 clear H A; intro A H
 refine wc H cb81 (c_impl_within _ x1027 (1 : Int) (100 : Int) ) ?_
 clear H A; rintro v1037 w1038 he1039 rfl A H
 obtain ⟨hx1041, _⟩ := nx hx1022 he1039
 replace hb4 := hb4.ext he1039
 replace hb11 := hb11.ext he1039
 revert A; refine go ?_; intro A H
 rcases Bool.eq_false_or_eq_true (decide ((1 : Int) ≤ x1027) && decide (x1027 ≤ (100 : Int))) with c1044 | c1044
 rw [c1044] at H
 have hmc1044 : (1 ≤ x1027 ∧ x1027 ≤ 100) := by simpa using c1044
 revert A; refine go ?_; intro A H
 refine dre (fun wa_ wb_ => Stp wa_ wb_ (some w2.heap.size)) follows_mixed ?_
 intro w1045 he1046 hs1048
 obtain ⟨hx1047, _⟩ := nx hx1041 he1046
 replace hb4 := hb4.ext he1046
 replace hb11 := hb11.ext he1046
 refine dv 0 H rfl (Stp.of_ext hs1048 _) (fun w' hw' => ls H U34 ti34 (hb4.stp hw' (by intro q hq; cases hq; omega)).cells) ?_
 clear H A; intro A H
 refine dw 1 H rfl (Stp.of_ext hs1048 _) (op_move H rfl rfl) ?_
 clear H A; intro A H
 refine dw 2 H rfl (Stp.of_ext hs1048 _) (ix H U55 ti2 hi1011) ?_
 clear H A; intro A H
 refine dv 3 H rfl (Stp.of_ext hs1048 _) (fun w' hw' => lh H U2 (hc1012.ext (hx1047.stp hw' (by intro q hq; cases hq; omega)))) ?_
 clear H A; intro A H
 refine dw 4 H rfl (Stp.of_ext hs1048 _) ((op_mul H rfl rfl rfl).int (IntWalk.i64_in _ (by omega))) ?_
 clear H A; intro A H
 refine dw 5 H rfl (Stp.of_ext hs1048 _) (op_move H rfl rfl) ?_
 clear H A; intro A H
 refine dw 6 H rfl (Stp.of_ext hs1048 _) (ix H U55 ti2 hi1030) ?_
 clear H A; intro A H
 refine dv 7 H rfl (Stp.of_ext hs1048 _) (fun w' hw' => lh H U2 (hc1031.ext (hx1047.stp hw' (by intro q hq; cases hq; omega)))) ?_
 clear H A; intro A H
 refine dr_one (i := 8) (by kernel_rfl) ?_
 refine pc H cb107 rfl (c_impl_nearest _ ((1000 : Int) * x1008) x1027 ge ge) ?_
 clear H A; rintro v1057 w1058 he1059 rfl A H
 have hs1061 := hs1048.trans' he1059
 obtain ⟨hx1062, _⟩ := nx hx1047 he1059
 refine ⟨(Stp.of_ext hs1061 _), ?_⟩
 replace hb4 := hb4.ext hs1061
 replace hb11 := hb11.ext hs1061
 refine drs (Stp.of_ext hs1061 _) ?_
 intro hs1063
 refine dr_one (i := 9) (by kernel_rfl) ?_
 refine pc H cb99 rfl (c_impl_told (lo_d := lo_d) (hi_d := w1058.heap.size) _ v_d0 v_d1 v_d2 d (neI ((1000 : Int) * x1008) x1027 : Int) (0 : Int) (fi (h_d0.ext hx1062)) (fi (h_d1.ext hx1062)) (fi (h_d2.ext hx1062)) (by omega) (by omega) ge) ?_
 clear H A; rintro v1064 w1065 he1066 ⟨u1067, u1069, u1071, rfl, ho1068, ho1070, ho1072⟩ A H
 have hs1074 := hs1063.trans' he1066
 obtain ⟨hx1075, _⟩ := nx hx1062 he1066
 refine ⟨(Stp.of_ext hs1074 _), ?_⟩
 replace hb4 := hb4.ext hs1074
 replace hb11 := hb11.ext hs1074
 refine drs (Stp.of_ext hs1074 _) ?_
 intro hs1076
 revert A; refine dgo [10, 11, 12] (Stp.of_ext hs1076 _) ?_; intro A H
 refine dr_one (i := 13) (by kernel_rfl) ?_
 replace hb4 := hb4.ext hs1076
 replace hb11 := hb11.ext hs1076
 replace ho1068 := ho1068.ext hs1076
 replace ho1070 := ho1070.ext hs1076
 replace ho1072 := ho1072.ext hs1076
 refine po_effS H rfl rfl rfl (op_storeAll' H rfl ti34 rfl rfl hb11 rfl rfl (o1 ho1068.one (o1 ho1070.one (o1 ho1072.one o0))) rfl) ?_
 rintro w1080 ⟨hb1082, hst1081, hz1083⟩
 have hs1084 := (Stp.of_ext hs1076 (some w2.heap.size)).trans' hst1081
 obtain ⟨hx1085, _⟩ := nb hx1075 hst1081
 replace hb4 := bb hb4 hst1081
 replace ho1068 := ob ho1068 flat_shBin hb11 hst1081
 replace ho1070 := ob ho1070 flat_shProm hb11 hst1081
 replace ho1072 := ob ho1072 flat_shEnt hb11 hst1081
 clear hb11
 refine ⟨hs1084, ?_⟩
 refine drs hs1084 ?_
 intro hs1086
 revert A; refine dgo [14, 15] (Stp.of_ext hs1086 _) ?_; intro A H
 refine dr_end (by kernel_rfl) ?_
 revert A; refine go ?_; intro A H
 refine ret_ctt H rfl rfl U34 ti34 rfl hb1082.cells rfl rfl ?_
 clear H A
 have hr := exM_gear (d := d) (ns := n) hx18 c1006 hx1008 hx1027
 unfold grR at hr; (rw [if_pos ⟨by assumption, by assumption⟩] at hr)
 exact ret_mk hx1085 ⟨u1067, u1069, u1071, (tup3_eq (by rfl) (congrArg St (by rw [hr]; done)) (int_eq (by rw [hr]; done))), ((fi ho1068).cast (by rw [hr]; done)), ((fi ho1070).cast (by rw [hr]; done)), ((fi ho1072).cast (by rw [hr]; done))⟩
 rw [c1044] at H
 have hmc1044 : ¬ (1 ≤ x1027 ∧ x1027 ≤ 100) := by simpa using c1044
 revert A; refine go ?_; intro A H
 refine wv H (ls H U34 ti34 hb4.cells) ?_
 clear H A; intro A H
 refine ws H (op_storeAll' H rfl ti34 rfl rfl hb11 rfl rfl (by intro u hu; have hu : u ∈ ([v_d0, v_d1, v_d2] : List Value) := hu; simp only [List.mem_cons, List.mem_nil_iff, or_false] at hu; rcases hu with rfl | rfl | rfl <;> first | exact (h_d0.ext hx1041).one | exact (h_d1.ext hx1041).one | exact (h_d2.ext hx1041).one) rfl) ?_
 rintro w1090 ⟨hb1092, hst1091, hz1093⟩
 obtain ⟨hx1094, _⟩ := nb hx1041 hst1091
 replace hb4 := bb hb4 hst1091
 clear hb11
 revert A; refine go ?_; intro A H
 refine ret_ctt H rfl rfl U34 ti34 rfl hb1092.cells rfl rfl ?_
 clear H A
 have hr := exM_gear (d := d) (ns := n) hx18 c1006 hx1008 hx1027
 unfold grR at hr; (rw [if_neg (by omega)] at hr)
 exact ret_mk hx1094 ⟨v_d0, v_d1, v_d2, (tup3_eq (by rfl) (congrArg St (by rw [hr]; rfl)) (int_eq (by rw [hr]; rfl))), ((fi (h_d0.ext hx1094)).cast (by rw [hr]; rfl)), ((fi (h_d1.ext hx1094)).cast (by rw [hr]; rfl)), ((fi (h_d2.ext hx1094)).cast (by rw [hr]; rfl))⟩
 rw [c1025] at H
 have hmc1025 : ¬ (1 ≤ x1008 ∧ x1008 ≤ 100) := by simpa using c1025
 revert A; refine go ?_; intro A H
 refine wv H (ls H U34 ti34 hb4.cells) ?_
 clear H A; intro A H
 refine ws H (op_storeAll' H rfl ti34 rfl rfl hb11 rfl rfl (by intro u hu; have hu : u ∈ ([v_d0, v_d1, v_d2] : List Value) := hu; simp only [List.mem_cons, List.mem_nil_iff, or_false] at hu; rcases hu with rfl | rfl | rfl <;> first | exact (h_d0.ext hx1022).one | exact (h_d1.ext hx1022).one | exact (h_d2.ext hx1022).one) rfl) ?_
 rintro w1104 ⟨hb1106, hst1105, hz1107⟩
 obtain ⟨hx1108, _⟩ := nb hx1022 hst1105
 replace hb4 := bb hb4 hst1105
 clear hb11
 revert A; refine go ?_; intro A H
 refine ret_ctt H rfl rfl U34 ti34 rfl hb1106.cells rfl rfl ?_
 clear H A
 obtain ⟨y9, hy9⟩ := get_ex (xs := n) (j := 1) (by omega)
 have hr := exM_gear (d := d) (ns := n) hx18 c1006 hx1008 hy9
 unfold grR at hr; (rw [if_neg (by omega)] at hr)
 exact ret_mk hx1108 ⟨v_d0, v_d1, v_d2, (tup3_eq (by rfl) (congrArg St (by rw [hr]; rfl)) (int_eq (by rw [hr]; rfl))), ((fi (h_d0.ext hx1108)).cast (by rw [hr]; rfl)), ((fi (h_d1.ext hx1108)).cast (by rw [hr]; rfl)), ((fi (h_d2.ext hx1108)).cast (by rw [hr]; rfl))⟩
 rw [decide_eq_false c1006] at H
 have hmm := cm_mm g1 hx18 c30 c111 c180 c249 c318 c387 c443 c469 c553 c609 c648 c715 c782 c849 c894 c950 c1006
 obtain ⟨hwlm, hnlm⟩ : words.length = 2 ∧ n.length = 1 := cm_len (l := [false]) g1 hx18 (by rw [hmm]; decide)
 revert A; refine go ?_; intro A H
 obtain ⟨x1112, hx1112⟩ := get_ex (xs := n) (j := 0) (by omega)
 obtain ⟨p1113, hi1115, hc1116, b1119, hs1118⟩ := at_shI64 h_n hx1112
 have hbx1112 := cm_num g1 (List.mem_of_getElem? hx1112)
 refine wv H (ix H U55 ti2 hi1115) ?_
 clear H A; intro A H
 refine wv H (lh H U2 (hc1116.ext hx14)) ?_
 clear H A; intro A H
 refine wc H cb108 (c_impl_MeasureText _ x1112 ) ?_
 clear H A; rintro v1122 w1123 he1124 rfl A H
 obtain ⟨hx1126, _⟩ := nx hx14 he1124
 replace hb4 := hb4.ext he1124
 replace hb11 := hb11.ext he1124
 revert A; refine go ?_; intro A H
 refine wv H (ls H U34 ti34 hb4.cells) ?_
 clear H A; refine go ?_; intro A H
 refine ws H (op_storeAll' H rfl ti34 rfl rfl hb11 rfl rfl (by intro u hu; have hu : u ∈ ([v_d0, v_d1, v_d2] : List Value) := hu; simp only [List.mem_cons, List.mem_nil_iff, or_false] at hu; rcases hu with rfl | rfl | rfl <;> first | exact (h_d0.ext hx1126).one | exact (h_d1.ext hx1126).one | exact (h_d2.ext hx1126).one) rfl) ?_
 rintro w1135 ⟨hb1137, hst1136, hz1138⟩
 obtain ⟨hx1139, _⟩ := nb hx1126 hst1136
 replace hb4 := bb hb4 hst1136
 clear hb11
 revert A; refine go ?_; intro A H
 refine ret_ctt H rfl rfl U34 ti34 rfl hb1137.cells rfl rfl ?_
 clear H A
 have hr := exM_mm (d := d) (ns := n) hx18 hmm hx1112
 exact ret_mk hx1139 ⟨v_d0, v_d1, v_d2, (tup3_eq (by rfl) (congrArg St (by rw [hr]; rfl)) (int_eq (by rw [hr]; rfl))), ((fi (h_d0.ext hx1139)).cast (by rw [hr]; rfl)), ((fi (h_d1.ext hx1139)).cast (by rw [hr]; rfl)), ((fi (h_d2.ext hx1139)).cast (by rw [hr]; rfl))⟩




end Go.Proofs.YthbehhhblchhhaaGreat
