/- Lines done by the reference. -/
import Derived.Test.YthbehhhblchhhaaGreatX3
namespace Go.Proofs.YthbehhhblchhhaaGreat
open Go Go.RowKit
set_option maxHeartbeats 16000000

theorem c_spec_l34First (w0 : World)   :
    Calls Tryz.prog 63 #[] w0 (Ret w0 (fun v w1 => ∃ r0_0 r0_1 r0_2, v = .agg #[r0_0, r0_1, r0_2] ∧ Own shBin 65 w0.heap.size w0.heap.size w1.heap.size w1 r0_0 ((dk0).1) ∧ Own shProm 67 w0.heap.size w0.heap.size w1.heap.size w1 r0_1 ((dk0).2.1) ∧ Own shEnt 69 w0.heap.size w0.heap.size w1.heap.size w1 r0_2 ((dk0).2.2))) := by
 refine enter (N := 5) Tryz.func63 rfl rfl rfl ?_
 intro A H
 have hx0 := Ext.rfl' w0
 revert A; refine go ?_; intro A H
 refine we H (op_alloc' rfl ti34 rfl) ?_
 clear H A; rintro _ w2 ⟨rfl, he3, hb4, hz5⟩ A H
 obtain ⟨hx7, _⟩ := nx hx0 he3
 revert A; refine go ?_; intro A H
 refine we H (op_b0 H pos_shBin U30 ti65) ?_
 clear H A; rintro v8 w9 ⟨ho10, he11, hob12⟩ A H
 obtain ⟨hx14, _⟩ := nx hx7 he11
 replace hb4 := hb4.ext he11
 refine we H (op_b0 H pos_shProm U31 ti67) ?_
 clear H A; rintro v15 w16 ⟨ho17, he18, hob19⟩ A H
 obtain ⟨hx21, _⟩ := nx hx14 he18
 replace hb4 := hb4.ext he18
 replace ho10 := ho10.ext he18
 refine we H (op_b0 H pos_shEnt U32 ti69) ?_
 clear H A; rintro v22 w23 ⟨ho24, he25, hob26⟩ A H
 obtain ⟨hx28, _⟩ := nx hx21 he25
 replace hb4 := hb4.ext he25
 replace ho10 := ho10.ext he25
 replace ho17 := ho17.ext he25
 refine wv H (op_build (vs := [(0, v8), (1, v15), (2, v22)]) (cs := #[v8, v15, v22]) H rfl U34 ti34 bp34 rfl ((fill_one ho10.cells1 rfl rfl).trans ((fill_one ho17.cells1 rfl rfl).trans ((fill_one ho24.cells1 rfl rfl).trans rfl)))) ?_
 clear H A; intro A H
 refine ws H (op_storeAll' H rfl ti34 rfl rfl hb4 rfl rfl (o1 ho10.one (o1 ho17.one (o1 ho24.one o0))) rfl) ?_
 rintro w30 ⟨hb32, hst31, hz33⟩
 obtain ⟨hx34, _⟩ := nb hx28 hst31
 replace ho10 := ho10.stp hst31 (by intro q hq; cases hq; omega)
 replace ho17 := ho17.stp hst31 (by intro q hq; cases hq; omega)
 replace ho24 := ho24.stp hst31 (by intro q hq; cases hq; omega)
 clear hb4
 revert A; refine go ?_; intro A H
 refine retc H rfl rfl U34 ti34 rfl hb32.cells ?_
 clear H A
 exact ret_mk hx34 ⟨v8, v15, v22, (by rfl), ((fi ho10).cast (by rfl)), ((fi ho17).cast (by rfl)), ((fi ho24).cast (by rfl))⟩



theorem c_spec_l34Run (w0 : World) (v_d0 : Value) (v_d1 : Value) (v_d2 : Value) (d : List (Str × Int × Int × Int × Int) × List (Str × Int × Int) × List (Int × Int × Str × Int)) {lo_d hi_d : Nat} (line : Str) (h_d0 : Own shBin 65 lo_d lo_d hi_d w0 v_d0 d.1) (h_d1 : Own shProm 67 lo_d lo_d hi_d w0 v_d1 d.2.1) (h_d2 : Own shEnt 69 lo_d lo_d hi_d w0 v_d2 d.2.2) (k_d : hi_d ≤ w0.heap.size) (l_d : lo_d ≤ w0.heap.size) (g0 : deskB d = true) (g1 : line.length ≤ 1048576) :
    Calls Tryz.prog 64 #[.agg #[v_d0, v_d1, v_d2], St line] w0 (Ret w0 (fun v w1 => ∃ r0_0 r0_1 r0_2, v = .tuple #[.agg #[r0_0, r0_1, r0_2], St (rnT d line)] ∧ Own shBin 65 lo_d lo_d w1.heap.size w1 r0_0 ((rnD d line).1) ∧ Own shProm 67 lo_d lo_d w1.heap.size w1 r0_1 ((rnD d line).2.1) ∧ Own shEnt 69 lo_d lo_d w1.heap.size w1 r0_2 ((rnD d line).2.2))) := by
 refine enter (N := 59) Tryz.func64 rfl rfl rfl ?_
 intro A H
 have hx0 := Ext.rfl' w0
 have hl_d0 := (h_d0.rds pos_shBin).length_le
 have hl_d1 := (h_d1.rds pos_shProm).length_le
 have hl_d2 := (h_d2.rds pos_shEnt).length_le
 revert A; refine go ?_; intro A H
 refine we H (op_box' H rfl rfl rfl) ?_
 clear H A; rintro _ w2 ⟨rfl, he3, hb4, hz5⟩ A H
 obtain ⟨hx7, _⟩ := nx hx0 he3
 refine we H (op_alloc' rfl ti34 rfl) ?_
 clear H A; rintro _ w9 ⟨rfl, he10, hb11, hz12⟩ A H
 obtain ⟨hx14, _⟩ := nx hx7 he10
 replace hb4 := hb4.ext he10
 revert A; refine go ?_; intro A H
 refine wc H cb40 (c_spec_l34Parse _ line gf) ?_
 clear H A; rintro v17 w18 he19 ⟨v20, v22, rfl, ho21, ho23⟩ A H
 obtain ⟨hx25, _⟩ := nx hx14 he19
 replace hb4 := hb4.ext he19
 replace hb11 := hb11.ext he19
 revert A; refine go ?_; intro A H
 rcases Bool.eq_false_or_eq_true ((pcO line).isSome) with c35 | c35
 rw [c35] at H
 have hcm := cm_of c35 g1
 revert A; refine go ?_; intro A H
 refine wv H (ls H U34 ti34 hb4.cells) ?_
 clear H A; refine go ?_; intro A H
 refine wc H cb109 (c_spec_l34Stock (lo_d := lo_d) (hi_d := w18.heap.size) _ v_d0 v_d1 v_d2 d v20 ((pcW line)) v22 ((pcN line)) (fi (h_d0.ext hx25)) (fi (h_d1.ext hx25)) (fi (h_d2.ext hx25)) (by omega) (by omega) (ho21.rds pos_shStr) (ho23.rds pos_shI64) gf gf) ?_
 clear H A; rintro v39 w40 he41 ⟨u42, u44, u46, rfl, ho43, ho45, ho47⟩ A H
 obtain ⟨hx49, _⟩ := nx hx25 he41
 replace hb4 := hb4.ext he41
 replace hb11 := hb11.ext he41
 replace ho21 := ho21.ext he41
 replace ho23 := ho23.ext he41
 revert A; refine go ?_; intro A H
 refine we H (op_alloc' rfl ti34 rfl) ?_
 clear H A; rintro _ w55 ⟨rfl, he56, hb57, hz58⟩ A H
 obtain ⟨hx60, _⟩ := nx hx49 he56
 replace hb4 := hb4.ext he56
 replace hb11 := hb11.ext he56
 replace ho21 := ho21.ext he56
 replace ho23 := ho23.ext he56
 replace ho43 := ho43.ext he56
 replace ho45 := ho45.ext he56
 replace ho47 := ho47.ext he56
 refine ws H (op_storeAll' H rfl ti34 rfl rfl hb57 rfl rfl (o1 ho43.one (o1 ho45.one (o1 ho47.one o0))) rfl) ?_
 rintro w61 ⟨hb63, hst62, hz64⟩
 obtain ⟨hx65, _⟩ := nb hx60 hst62
 replace hb4 := bb hb4 hst62
 replace hb11 := bb hb11 hst62
 replace ho21 := ho21.stp hst62 (by intro q hq; cases hq; omega)
 replace ho23 := ho23.stp hst62 (by intro q hq; cases hq; omega)
 replace ho43 := ho43.stp hst62 (by intro q hq; cases hq; omega)
 replace ho45 := ho45.stp hst62 (by intro q hq; cases hq; omega)
 replace ho47 := ho47.stp hst62 (by intro q hq; cases hq; omega)
 clear hb57
 revert A; refine go ?_; intro A H
 rcases Bool.eq_false_or_eq_true (isS (gw ((pcW line)) 0)) with c70 | c70
 rw [c70] at H
 clear ho21 ho23
 revert A; refine go ?_; intro A H
 by_cases c76 : (sdC d ((pcW line)) ((pcN line)) : Int) = (0 : Int)
 rw [decide_eq_true c76] at H
 have hcbc76 := exM_code d (pcW line) (pcN line)
 have hkc76 : sdC d (pcW line) (pcN line) = rnC d line := if_pos c70
 rw [hkc76] at c76
 have hcb2c76 : 0 ≤ sdC d (pcW line) (pcN line) ∧ sdC d (pcW line) (pcN line) ≤ 9 := by rw [hkc76]; exact hcbc76
 clear hb4
 revert A; refine go ?_; intro A H
 refine wv H (ls H U34 ti34 hb63.cells) ?_
 clear H A; intro A H
 refine wv H (op_move H rfl rfl) ?_
 clear H A; intro A H
 refine ws H (op_storeAll' H rfl ti34 rfl rfl hb11 rfl rfl (o1 ho43.one (o1 ho45.one (o1 ho47.one o0))) rfl) ?_
 rintro w79 ⟨hb81, hst80, hz82⟩
 obtain ⟨hx83, _⟩ := nb hx65 hst80
 replace ho43 := ob ho43 flat_shBin hb11 hst80
 replace ho45 := ob ho45 flat_shProm hb11 hst80
 replace ho47 := ob ho47 flat_shEnt hb11 hst80
 replace hb63 := bb hb63 hst80
 clear hb11
 revert A; refine go ?_; intro A H
 refine retct H rfl rfl rfl U34 ti34 rfl hb81.cells ?_
 clear H A
 have hr := rn_ok (d := d) c35 c76
 exact ret_mk hx83 ⟨u42, u44, u46, (tup2_eq (by rfl) (congrArg St (by rw [hr.2]; exact (ex_ok (.inl c70) c76).symm))), ((fi ho43).cast (by rw [hr.1, sdD, if_pos c70])), ((fi ho45).cast (by rw [hr.1, sdD, if_pos c70])), ((fi ho47).cast (by rw [hr.1, sdD, if_pos c70]))⟩
 rw [decide_eq_false c76] at H
 have hcbc76 := exM_code d (pcW line) (pcN line)
 have hkc76 : sdC d (pcW line) (pcN line) = rnC d line := if_pos c70
 rw [hkc76] at c76
 have hcb2c76 : 0 ≤ sdC d (pcW line) (pcN line) ∧ sdC d (pcW line) (pcN line) ≤ 9 := by rw [hkc76]; exact hcbc76
 revert A; refine go ?_; intro A H
 clear ho43 ho45 ho47 hb63
 refine dre (fun wa_ wb_ => Stp wa_ wb_ (some w2.heap.size)) follows_mixed ?_
 intro w85 he86 hs88
 obtain ⟨hx87, _⟩ := nx hx65 he86
 replace hb4 := hb4.ext he86
 replace hb11 := hb11.ext he86
 refine dv 0 H rfl (Stp.of_ext hs88 _) (fun w' hw' => ls H U34 ti34 (hb4.stp hw' (by intro q hq; cases hq; omega)).cells) ?_
 clear H A; intro A H
 refine dw 1 H rfl (Stp.of_ext hs88 _) (op_move H rfl rfl) ?_
 clear H A; intro A H
 refine dr_one (i := 2) (by kernel_rfl) ?_
 refine pc H cb67 rfl (c_spec_l01Dec _ (sdC d ((pcW line)) ((pcN line)) : Int) gf gf) ?_
 clear H A; rintro v91 w92 he93 rfl A H
 have hs95 := hs88.trans' he93
 obtain ⟨hx96, _⟩ := nx hx87 he93
 refine ⟨(Stp.of_ext hs95 _), ?_⟩
 replace hb4 := hb4.ext hs95
 replace hb11 := hb11.ext hs95
 refine drs (Stp.of_ext hs95 _) ?_
 intro hs97
 refine dw 3 H rfl (Stp.of_ext hs97 _) (op_sadd H rfl rfl rfl (by exact es_l2 (by omega))) ?_
 clear H A; intro A H
 refine dr_one (i := 4) (by kernel_rfl) ?_
 replace hb4 := hb4.ext hs97
 replace hb11 := hb11.ext hs97
 refine po_effS H rfl rfl rfl (op_storeAll' H rfl ti34 rfl rfl hb11 rfl rfl (by intro u hu; have hu : u ∈ ([v_d0, v_d1, v_d2] : List Value) := hu; simp only [List.mem_cons, List.mem_nil_iff, or_false] at hu; rcases hu with rfl | rfl | rfl <;> first | exact (h_d0.ext hx96).one | exact (h_d1.ext hx96).one | exact (h_d2.ext hx96).one) rfl) ?_
 rintro w99 ⟨hb101, hst100, hz102⟩
 have hs103 := (Stp.of_ext hs97 (some w2.heap.size)).trans' hst100
 obtain ⟨hx104, _⟩ := nb hx96 hst100
 replace hb4 := bb hb4 hst100
 clear hb11
 refine ⟨hs103, ?_⟩
 refine drs hs103 ?_
 intro hs105
 refine dw 5 H rfl (Stp.of_ext hs105 _) (op_assign H rfl rfl) ?_
 clear H A; intro A H
 refine dr_end (by kernel_rfl) ?_
 revert A; refine go ?_; intro A H
 refine retct H rfl rfl rfl U34 ti34 rfl hb101.cells ?_
 clear H A
 have hr := rn_err (d := d) c35 c76
 exact ret_mk hx104 ⟨v_d0, v_d1, v_d2, (tup2_eq (by rfl) (congrArg St (by rw [hr.2, ← hkc76]; rfl))), ((fi (h_d0.ext hx104)).cast (by rw [hr.1])), ((fi (h_d1.ext hx104)).cast (by rw [hr.1])), ((fi (h_d2.ext hx104)).cast (by rw [hr.1]))⟩
 rw [c70] at H
 revert A; refine go ?_; intro A H
 refine wv H (ls H U34 ti34 hb4.cells) ?_
 clear H A; refine go ?_; intro A H
 refine wc H cb110 (c_spec_l34Book (lo_d := lo_d) (hi_d := w61.heap.size) _ v_d0 v_d1 v_d2 d v20 ((pcW line)) v22 ((pcN line)) (fi (h_d0.ext hx65)) (fi (h_d1.ext hx65)) (fi (h_d2.ext hx65)) (by omega) (by omega) (ho21.rds pos_shStr) (ho23.rds pos_shI64) gf gf) ?_
 clear H A; rintro v110 w111 he112 ⟨u113, u115, u117, rfl, ho114, ho116, ho118⟩ A H
 obtain ⟨hx120, _⟩ := nx hx65 he112
 replace hb4 := hb4.ext he112
 replace hb11 := hb11.ext he112
 replace ho21 := ho21.ext he112
 replace ho23 := ho23.ext he112
 replace ho43 := ho43.ext he112
 replace ho45 := ho45.ext he112
 replace ho47 := ho47.ext he112
 replace hb63 := hb63.ext he112
 revert A; refine go ?_; intro A H
 refine ws H (op_storeAll' H rfl ti34 rfl rfl hb63 rfl rfl (o1 ho114.one (o1 ho116.one (o1 ho118.one o0))) rfl) ?_
 rintro w125 ⟨hb127, hst126, hz128⟩
 obtain ⟨hx129, _⟩ := nb hx120 hst126
 replace hb4 := bb hb4 hst126
 replace hb11 := bb hb11 hst126
 replace ho21 := ho21.stp hst126 (by intro q hq; cases hq; omega)
 replace ho23 := ho23.stp hst126 (by intro q hq; cases hq; omega)
 replace ho43 := ho43.stp hst126 (by intro q hq; cases hq; omega)
 replace ho45 := ho45.stp hst126 (by intro q hq; cases hq; omega)
 replace ho47 := ho47.stp hst126 (by intro q hq; cases hq; omega)
 replace ho114 := ob ho114 flat_shBin hb63 hst126
 replace ho116 := ob ho116 flat_shProm hb63 hst126
 replace ho118 := ob ho118 flat_shEnt hb63 hst126
 clear hb63
 clear ho43 ho45 ho47
 revert A; refine go ?_; intro A H
 rcases Bool.eq_false_or_eq_true (isK (gw ((pcW line)) 0)) with c135 | c135
 rw [c135] at H
 clear ho21 ho23
 revert A; refine go ?_; intro A H
 by_cases c138 : (kdC d ((pcW line)) ((pcN line)) : Int) = (0 : Int)
 rw [decide_eq_true c138] at H
 have hcbc138 := exM_code d (pcW line) (pcN line)
 have hkc138 : kdC d (pcW line) (pcN line) = rnC d line := if_pos c135
 rw [hkc138] at c138
 have hcb2c138 : 0 ≤ kdC d (pcW line) (pcN line) ∧ kdC d (pcW line) (pcN line) ≤ 9 := by rw [hkc138]; exact hcbc138
 clear hb4
 revert A; refine go ?_; intro A H
 refine wv H (ls H U34 ti34 hb127.cells) ?_
 clear H A; intro A H
 refine wv H (op_move H rfl rfl) ?_
 clear H A; intro A H
 refine ws H (op_storeAll' H rfl ti34 rfl rfl hb11 rfl rfl (o1 ho114.one (o1 ho116.one (o1 ho118.one o0))) rfl) ?_
 rintro w141 ⟨hb143, hst142, hz144⟩
 obtain ⟨hx145, _⟩ := nb hx129 hst142
 replace ho114 := ob ho114 flat_shBin hb11 hst142
 replace ho116 := ob ho116 flat_shProm hb11 hst142
 replace ho118 := ob ho118 flat_shEnt hb11 hst142
 replace hb127 := bb hb127 hst142
 clear hb11
 revert A; refine go ?_; intro A H
 refine retct H rfl rfl rfl U34 ti34 rfl hb143.cells ?_
 clear H A
 have hr := rn_ok (d := d) c35 c138
 exact ret_mk hx145 ⟨u113, u115, u117, (tup2_eq (by rfl) (congrArg St (by rw [hr.2]; exact (ex_ok (.inr c135) c138).symm))), ((fi ho114).cast (by rw [hr.1, kdD, if_pos c135])), ((fi ho116).cast (by rw [hr.1, kdD, if_pos c135])), ((fi ho118).cast (by rw [hr.1, kdD, if_pos c135]))⟩
 rw [decide_eq_false c138] at H
 have hcbc138 := exM_code d (pcW line) (pcN line)
 have hkc138 : kdC d (pcW line) (pcN line) = rnC d line := if_pos c135
 rw [hkc138] at c138
 have hcb2c138 : 0 ≤ kdC d (pcW line) (pcN line) ∧ kdC d (pcW line) (pcN line) ≤ 9 := by rw [hkc138]; exact hcbc138
 revert A; refine go ?_; intro A H
 clear ho114 ho116 ho118 hb127
 refine dre (fun wa_ wb_ => Stp wa_ wb_ (some w2.heap.size)) follows_mixed ?_
 intro w147 he148 hs150
 obtain ⟨hx149, _⟩ := nx hx129 he148
 replace hb4 := hb4.ext he148
 replace hb11 := hb11.ext he148
 refine dv 0 H rfl (Stp.of_ext hs150 _) (fun w' hw' => ls H U34 ti34 (hb4.stp hw' (by intro q hq; cases hq; omega)).cells) ?_
 clear H A; intro A H
 refine dw 1 H rfl (Stp.of_ext hs150 _) (op_move H rfl rfl) ?_
 clear H A; intro A H
 refine dr_one (i := 2) (by kernel_rfl) ?_
 refine pc H cb67 rfl (c_spec_l01Dec _ (kdC d ((pcW line)) ((pcN line)) : Int) gf gf) ?_
 clear H A; rintro v153 w154 he155 rfl A H
 have hs157 := hs150.trans' he155
 obtain ⟨hx158, _⟩ := nx hx149 he155
 refine ⟨(Stp.of_ext hs157 _), ?_⟩
 replace hb4 := hb4.ext hs157
 replace hb11 := hb11.ext hs157
 refine drs (Stp.of_ext hs157 _) ?_
 intro hs159
 refine dw 3 H rfl (Stp.of_ext hs159 _) (op_sadd H rfl rfl rfl (by exact es_l2 (by omega))) ?_
 clear H A; intro A H
 refine dr_one (i := 4) (by kernel_rfl) ?_
 replace hb4 := hb4.ext hs159
 replace hb11 := hb11.ext hs159
 refine po_effS H rfl rfl rfl (op_storeAll' H rfl ti34 rfl rfl hb11 rfl rfl (by intro u hu; have hu : u ∈ ([v_d0, v_d1, v_d2] : List Value) := hu; simp only [List.mem_cons, List.mem_nil_iff, or_false] at hu; rcases hu with rfl | rfl | rfl <;> first | exact (h_d0.ext hx158).one | exact (h_d1.ext hx158).one | exact (h_d2.ext hx158).one) rfl) ?_
 rintro w161 ⟨hb163, hst162, hz164⟩
 have hs165 := (Stp.of_ext hs159 (some w2.heap.size)).trans' hst162
 obtain ⟨hx166, _⟩ := nb hx158 hst162
 replace hb4 := bb hb4 hst162
 clear hb11
 refine ⟨hs165, ?_⟩
 refine drs hs165 ?_
 intro hs167
 refine dw 5 H rfl (Stp.of_ext hs167 _) (op_assign H rfl rfl) ?_
 clear H A; intro A H
 refine dr_end (by kernel_rfl) ?_
 revert A; refine go ?_; intro A H
 refine retct H rfl rfl rfl U34 ti34 rfl hb163.cells ?_
 clear H A
 have hr := rn_err (d := d) c35 c138
 exact ret_mk hx166 ⟨v_d0, v_d1, v_d2, (tup2_eq (by rfl) (congrArg St (by rw [hr.2, ← hkc138]; rfl))), ((fi (h_d0.ext hx166)).cast (by rw [hr.1])), ((fi (h_d1.ext hx166)).cast (by rw [hr.1])), ((fi (h_d2.ext hx166)).cast (by rw [hr.1]))⟩
 rw [c135] at H
 revert A; refine go ?_; intro A H
 refine wv H (ls H U34 ti34 hb4.cells) ?_
 clear H A; refine go ?_; intro A H
 refine wc H cb111 (c_spec_l34Ask _ v_d0 v_d1 v_d2 d v20 ((pcW line)) v22 ((pcN line)) ((h_d0.ext hx129).rds pos_shBin) ((h_d1.ext hx129).rds pos_shProm) ((h_d2.ext hx129).rds pos_shEnt) (ho21.rds pos_shStr) (ho23.rds pos_shI64) gf gf gf gf) ?_
 clear H A; rintro v172 w173 he174 rfl A H
 obtain ⟨hx176, _⟩ := nx hx129 he174
 replace hb4 := hb4.ext he174
 replace hb11 := hb11.ext he174
 replace ho21 := ho21.ext he174
 replace ho23 := ho23.ext he174
 replace ho114 := ho114.ext he174
 replace ho116 := ho116.ext he174
 replace ho118 := ho118.ext he174
 replace hb127 := hb127.ext he174
 clear ho21 ho23
 revert A; refine go ?_; intro A H
 by_cases c184 : ((exM d ((pcW line)) ((pcN line))).2.2 : Int) = (0 : Int)
 rw [decide_eq_true c184] at H
 have hcbc184 := exM_code d (pcW line) (pcN line)
 change rnC d line = 0 at c184
 clear hb4
 revert A; refine go ?_; intro A H
 refine wv H (ls H U34 ti34 hb127.cells) ?_
 clear H A; intro A H
 refine wv H (op_move H rfl rfl) ?_
 clear H A; intro A H
 refine ws H (op_storeAll' H rfl ti34 rfl rfl hb11 rfl rfl (o1 ho114.one (o1 ho116.one (o1 ho118.one o0))) rfl) ?_
 rintro w187 ⟨hb189, hst188, hz190⟩
 obtain ⟨hx191, _⟩ := nb hx176 hst188
 replace ho114 := ob ho114 flat_shBin hb11 hst188
 replace ho116 := ob ho116 flat_shProm hb11 hst188
 replace ho118 := ob ho118 flat_shEnt hb11 hst188
 replace hb127 := bb hb127 hst188
 clear hb11
 revert A; refine go ?_; intro A H
 refine retct H rfl rfl rfl U34 ti34 rfl hb189.cells ?_
 clear H A
 have hr := rn_ok (d := d) c35 c184
 exact ret_mk hx191 ⟨u113, u115, u117, (tup2_eq (by rfl) (congrArg St (by rw [hr.2]))), ((fi ho114).cast (by rw [hr.1, kdD, if_neg (by rw [c135]; decide), ex_ask c70 c135])), ((fi ho116).cast (by rw [hr.1, kdD, if_neg (by rw [c135]; decide), ex_ask c70 c135])), ((fi ho118).cast (by rw [hr.1, kdD, if_neg (by rw [c135]; decide), ex_ask c70 c135]))⟩
 rw [decide_eq_false c184] at H
 have hcbc184 := exM_code d (pcW line) (pcN line)
 change ¬ rnC d line = 0 at c184
 revert A; refine go ?_; intro A H
 clear ho114 ho116 ho118 hb127
 refine dre (fun wa_ wb_ => Stp wa_ wb_ (some w2.heap.size)) follows_mixed ?_
 intro w193 he194 hs196
 obtain ⟨hx195, _⟩ := nx hx176 he194
 replace hb4 := hb4.ext he194
 replace hb11 := hb11.ext he194
 refine dv 0 H rfl (Stp.of_ext hs196 _) (fun w' hw' => ls H U34 ti34 (hb4.stp hw' (by intro q hq; cases hq; omega)).cells) ?_
 clear H A; intro A H
 refine dw 1 H rfl (Stp.of_ext hs196 _) (op_move H rfl rfl) ?_
 clear H A; intro A H
 refine dr_one (i := 2) (by kernel_rfl) ?_
 refine pc H cb67 rfl (c_spec_l01Dec _ ((exM d ((pcW line)) ((pcN line))).2.2 : Int) gf gf) ?_
 clear H A; rintro v199 w200 he201 rfl A H
 have hs203 := hs196.trans' he201
 obtain ⟨hx204, _⟩ := nx hx195 he201
 refine ⟨(Stp.of_ext hs203 _), ?_⟩
 replace hb4 := hb4.ext hs203
 replace hb11 := hb11.ext hs203
 refine drs (Stp.of_ext hs203 _) ?_
 intro hs205
 refine dw 3 H rfl (Stp.of_ext hs205 _) (op_sadd H rfl rfl rfl (by exact es_l2 (by omega))) ?_
 clear H A; intro A H
 refine dr_one (i := 4) (by kernel_rfl) ?_
 replace hb4 := hb4.ext hs205
 replace hb11 := hb11.ext hs205
 refine po_effS H rfl rfl rfl (op_storeAll' H rfl ti34 rfl rfl hb11 rfl rfl (by intro u hu; have hu : u ∈ ([v_d0, v_d1, v_d2] : List Value) := hu; simp only [List.mem_cons, List.mem_nil_iff, or_false] at hu; rcases hu with rfl | rfl | rfl <;> first | exact (h_d0.ext hx204).one | exact (h_d1.ext hx204).one | exact (h_d2.ext hx204).one) rfl) ?_
 rintro w207 ⟨hb209, hst208, hz210⟩
 have hs211 := (Stp.of_ext hs205 (some w2.heap.size)).trans' hst208
 obtain ⟨hx212, _⟩ := nb hx204 hst208
 replace hb4 := bb hb4 hst208
 clear hb11
 refine ⟨hs211, ?_⟩
 refine drs hs211 ?_
 intro hs213
 refine dw 5 H rfl (Stp.of_ext hs213 _) (op_assign H rfl rfl) ?_
 clear H A; intro A H
 refine dr_end (by kernel_rfl) ?_
 revert A; refine go ?_; intro A H
 refine retct H rfl rfl rfl U34 ti34 rfl hb209.cells ?_
 clear H A
 have hr := rn_err (d := d) c35 c184
 exact ret_mk hx212 ⟨v_d0, v_d1, v_d2, (tup2_eq (by rfl) (congrArg St (by rw [hr.2]; rfl))), ((fi (h_d0.ext hx212)).cast (by rw [hr.1])), ((fi (h_d1.ext hx212)).cast (by rw [hr.1])), ((fi (h_d2.ext hx212)).cast (by rw [hr.1]))⟩
 rw [c35] at H
 revert A; refine go ?_; intro A H
 clear ho21 ho23
 refine dre (fun wa_ wb_ => Stp wa_ wb_ (some w2.heap.size)) follows_mixed ?_
 intro w215 he216 hs218
 obtain ⟨hx217, _⟩ := nx hx25 he216
 replace hb4 := hb4.ext he216
 replace hb11 := hb11.ext he216
 refine dv 0 H rfl (Stp.of_ext hs218 _) (fun w' hw' => ls H U34 ti34 (hb4.stp hw' (by intro q hq; cases hq; omega)).cells) ?_
 clear H A; intro A H
 refine dr_one (i := 1) (by kernel_rfl) ?_
 refine pc H cb67 rfl (c_spec_l01Dec _ (6 : Int) gf gf) ?_
 clear H A; rintro v220 w221 he222 rfl A H
 have hs224 := hs218.trans' he222
 obtain ⟨hx225, _⟩ := nx hx217 he222
 refine ⟨(Stp.of_ext hs224 _), ?_⟩
 replace hb4 := hb4.ext hs224
 replace hb11 := hb11.ext hs224
 refine drs (Stp.of_ext hs224 _) ?_
 intro hs226
 refine dw 2 H rfl (Stp.of_ext hs226 _) (op_sadd H rfl rfl rfl (by exact es_l2 (by omega))) ?_
 clear H A; intro A H
 refine dr_one (i := 3) (by kernel_rfl) ?_
 replace hb4 := hb4.ext hs226
 replace hb11 := hb11.ext hs226
 refine po_effS H rfl rfl rfl (op_storeAll' H rfl ti34 rfl rfl hb11 rfl rfl (by intro u hu; have hu : u ∈ ([v_d0, v_d1, v_d2] : List Value) := hu; simp only [List.mem_cons, List.mem_nil_iff, or_false] at hu; rcases hu with rfl | rfl | rfl <;> first | exact (h_d0.ext hx225).one | exact (h_d1.ext hx225).one | exact (h_d2.ext hx225).one) rfl) ?_
 rintro w228 ⟨hb230, hst229, hz231⟩
 have hs232 := (Stp.of_ext hs226 (some w2.heap.size)).trans' hst229
 obtain ⟨hx233, _⟩ := nb hx225 hst229
 replace hb4 := bb hb4 hst229
 clear hb11
 refine ⟨hs232, ?_⟩
 refine drs hs232 ?_
 intro hs234
 refine dw 4 H rfl (Stp.of_ext hs234 _) (op_assign H rfl rfl) ?_
 clear H A; intro A H
 refine dr_end (by kernel_rfl) ?_
 revert A; refine go ?_; intro A H
 refine retct H rfl rfl rfl U34 ti34 rfl hb230.cells ?_
 clear H A
 have hr := rn_no (d := d) c35
 exact ret_mk hx233 ⟨v_d0, v_d1, v_d2, (tup2_eq (by rfl) (congrArg St (by rw [hr.2]; rfl))), ((fi (h_d0.ext hx233)).cast (by rw [hr.1])), ((fi (h_d1.ext hx233)).cast (by rw [hr.1])), ((fi (h_d2.ext hx233)).cast (by rw [hr.1]))⟩



theorem c_spec_l34All (w0 : World) (v_lines : Value) (lines : List Str) {S_lines : Nat → Prop} (h_lines : Rds shStr S_lines w0 v_lines lines) (g0 : lines.length ≤ 40) (g1 : ∀ l ∈ lines, l.length ≤ 1048576) :
    Calls Tryz.prog 34 #[v_lines] w0 (Ret w0 (fun v w1 => ∃ r0_0 r0_1 r0_2 r1, v = .tuple #[.agg #[r0_0, r0_1, r0_2], r1] ∧ Own shBin 65 w0.heap.size w0.heap.size w1.heap.size w1 r0_0 ((lnD lines dk0).1) ∧ Own shProm 67 w0.heap.size w0.heap.size w1.heap.size w1 r0_1 ((lnD lines dk0).2.1) ∧ Own shEnt 69 w0.heap.size w0.heap.size w1.heap.size w1 r0_2 ((lnD lines dk0).2.2) ∧ Own shStr 9 w0.heap.size w0.heap.size w1.heap.size w1 r1 (lnT lines dk0))) := by
 refine enter (N := 33) Tryz.func34 rfl rfl rfl ?_
 intro A H
 have hx0 := Ext.rfl' w0
 have hl_lines := h_lines.length_le
 revert A; refine go ?_; intro A H
 refine we H (op_alloc' rfl ti34 rfl) ?_
 clear H A; rintro _ w2 ⟨rfl, he3, hb4, hz5⟩ A H
 obtain ⟨hx7, _⟩ := nx hx0 he3
 revert A; refine go ?_; intro A H
 refine wc H cb63 (c_spec_l34First _  ) ?_
 clear H A; rintro v9 w10 he11 ⟨u12, u14, u16, rfl, ho13, ho15, ho17⟩ A H
 obtain ⟨hx19, _⟩ := nx hx7 he11
 replace hb4 := hb4.ext he11
 refine we H (op_alloc' rfl ti34 rfl) ?_
 clear H A; rintro _ w21 ⟨rfl, he22, hb23, hz24⟩ A H
 obtain ⟨hx26, _⟩ := nx hx19 he22
 replace hb4 := hb4.ext he22
 replace ho13 := ho13.ext he22
 replace ho15 := ho15.ext he22
 replace ho17 := ho17.ext he22
 refine ws H (op_storeAll' H rfl ti34 rfl rfl hb23 rfl rfl (o1 ho13.one (o1 ho15.one (o1 ho17.one o0))) rfl) ?_
 rintro w27 ⟨hb29, hst28, hz30⟩
 obtain ⟨hx31, _⟩ := nb hx26 hst28
 replace hb4 := bb hb4 hst28
 replace ho13 := ho13.stp hst28 (by intro q hq; cases hq; omega)
 replace ho15 := ho15.stp hst28 (by intro q hq; cases hq; omega)
 replace ho17 := ho17.stp hst28 (by intro q hq; cases hq; omega)
 clear hb23
 revert A; refine go ?_; intro A H
 refine we H (op_b0 H pos_shStr U25 ti9) ?_
 clear H A; rintro v32 w33 ⟨ho34, he35, hob36⟩ A H
 obtain ⟨hx38, _⟩ := nx hx31 he35
 replace hb4 := hb4.ext he35
 replace ho13 := ho13.ext he35
 replace ho15 := ho15.ext he35
 replace ho17 := ho17.ext he35
 replace hb29 := hb29.ext he35
 revert A; refine go ?_; intro A H
 refine loop_inv (X := Nat × Value × (List Str) × Value × (List (Str × Int × Int × Int × Int)) × Value × (List (Str × Int × Int)) × Value × (List (Int × Int × Str × Int))) (fun ⟨i, vo, acc, v1, d1, v2, d2, v3, d3⟩ fr wl => Sl 33 fr [(0, v_lines), (2, .pointer (some (⟨w0.heap.size, 0, none⟩ : Addr))), (4, .pointer (some (⟨w10.heap.size, 0, none⟩ : Addr))), (5, vo), (6, .int .i64 ((i : Nat) : Int))] ∧ Ext w0 wl ∧ Box wl w0.heap.size 34 [.slice none 0 0, .slice none 0 0, .slice none 0 0] ∧ Own shBin 65 w0.heap.size w0.heap.size wl.heap.size wl v1 d1 ∧ Own shProm 67 w0.heap.size w0.heap.size wl.heap.size wl v2 d2 ∧ Own shEnt 69 w0.heap.size w0.heap.size wl.heap.size wl v3 d3 ∧ Box wl w10.heap.size 34 [v1, v2, v3] ∧ Own shStr 9 w27.heap.size w27.heap.size wl.heap.size wl vo acc ∧ w33.heap.size ≤ wl.heap.size ∧ (i ≤ lines.length) ∧ (lnD (lines.drop i) (d1, d2, d3) = lnD lines dk0) ∧ (acc ++ lnT (lines.drop i) (d1, d2, d3) = lnT lines dk0) ∧ (deskB (d1, d2, d3) = true) ∧ (acc.length ≤ i) ∧ (lines.length ≤ 40) ∧ (∀ l ∈ lines, l.length ≤ 1048576)) (fun ⟨i, vo, acc, v1, d1, v2, d2, v3, d3⟩ => lines.length - i) (0, v32, ([] : List Str), u12, ((dk0).1), u14, ((dk0).2.1), u16, ((dk0).2.2)) ?_ ?_
 exact ⟨(sl H), hx38, hb4, (fi ho13), (fi ho15), (fi ho17), hb29, (fi ho34), (by omega), (by omega), (by rfl), (by rfl), (by exact dk0_ok), (by simp), (by omega), (by assumption)⟩
 clear H A
 rintro ⟨i, vo, acc, v1, d1, v2, d2, v3, d3⟩ A w41 ⟨H, hx42, hf43, hf44, hf45, hf46, hf47, hf48, hzl50, hi, hD, hT, hdk, hal, hl40, hlm⟩
 have hzhx42 := hx42.size
 revert A; refine go ?_; intro A H
 refine wv H (ln H U25 h_lines) ?_
 clear H A; refine go ?_; intro A H
 by_cases c55 : ((i : Nat) : Int) < ((lines.length : Nat) : Int)
 rw [decide_eq_true c55] at H
 revert A; refine go ?_; intro A H
 refine dre Ext follows_mixed ?_
 intro w56 he57 hs59
 obtain ⟨hx58, _⟩ := nx hx42 he57
 replace hf43 := hf43.ext he57
 replace hf44 := hf44.ext he57
 replace hf45 := hf45.ext he57
 replace hf46 := hf46.ext he57
 replace hf47 := hf47.ext he57
 replace hf48 := hf48.ext he57
 refine dv 0 H rfl hs59 (fun w' hw' => ls H U34 ti34 (hf47.ext hw').cells) ?_
 clear H A; refine dgo [1, 2] hs59 ?_; intro A H
 obtain ⟨x65, hx65⟩ := get_ex (xs := lines) (j := i) (by omega)
 obtain ⟨p66, hi68, hc69, b72, hs71⟩ := at_shStr h_lines hx65
 have hbx65 := hlm _ (List.mem_of_getElem? hx65)
 refine dw 3 H rfl hs59 (ix H U25 ti9 hi68) ?_
 clear H A; intro A H
 refine dv 4 H rfl hs59 (fun w' hw' => lh H U9 (hc69.ext (hx58.trans' hw'))) ?_
 clear H A; intro A H
 refine dr_two (i := 5) (j := 9) (by kernel_rfl) ?_ ?_
 refine pc H cb64 rfl (c_spec_l34Run (lo_d := w0.heap.size) (hi_d := w56.heap.size) _ v1 v2 v3 ((d1, d2, d3)) x65 (fi hf44) (fi hf45) (fi hf46) (by omega) (by omega) gf gf) ?_
 clear H A; rintro v75 w76 he77 ⟨u78, u80, u82, rfl, ho79, ho81, ho83⟩ A H
 have hs85 := hs59.trans' he77
 obtain ⟨hx86, _⟩ := nx hx58 he77
 refine ⟨hs85, ?_⟩
 replace hf43 := hf43.ext hs85
 replace hf44 := hf44.ext hs85
 replace hf45 := hf45.ext hs85
 replace hf46 := hf46.ext hs85
 replace hf47 := hf47.ext hs85
 replace hf48 := hf48.ext hs85
 refine drn hs85 ?_
 intro hs87
 revert A; refine dgo [6, 7, 8] hs87 ?_; intro A H
 refine dr_one (i := 9) (by kernel_rfl) ?_
 refine pe H rfl (op_alloc' rfl ti34 rfl) ?_
 clear H A; rintro _ w91 ⟨rfl, he92, hb93, hz94⟩ A H
 have hs96 := hs87.trans' he92
 obtain ⟨hx97, _⟩ := nx hx86 he92
 refine ⟨hs96, ?_⟩
 replace hf43 := hf43.ext hs96
 replace hf44 := hf44.ext hs96
 replace hf45 := hf45.ext hs96
 replace hf46 := hf46.ext hs96
 replace hf47 := hf47.ext hs96
 replace hf48 := hf48.ext hs96
 replace ho79 := ho79.ext hs96
 replace ho81 := ho81.ext hs96
 replace ho83 := ho83.ext hs96
 refine dr_narrow (S' := fun w' => StpL w91 w' (fun i => i = w76.heap.size)) (fun w' h' => hs96.freshL h' (by intro i q; first | (right; omega))) _ _ _ _ ?_
 have hs98 : Ext w91 w91 := Ext.rfl' _
 refine dr_one (i := 10) (by kernel_rfl) ?_
 refine po_effS H rfl rfl rfl (op_storeAll' H rfl ti34 rfl rfl hb93 rfl rfl (o1 ho79.one (o1 ho81.one (o1 ho83.one o0))) rfl) ?_
 rintro w99 ⟨hb101, hst100, hz102⟩
 obtain ⟨hx103, _⟩ := nb hx97 hst100
 replace hf43 := bb hf43 hst100
 replace hf44 := hf44.stp hst100 (by intro q hq; cases hq; omega)
 replace hf45 := hf45.stp hst100 (by intro q hq; cases hq; omega)
 replace hf46 := hf46.stp hst100 (by intro q hq; cases hq; omega)
 replace hf47 := bb hf47 hst100
 replace hf48 := hf48.stp hst100 (by intro q hq; cases hq; omega)
 replace ho79 := ho79.stp hst100 (by intro q hq; cases hq; omega)
 replace ho81 := ho81.stp hst100 (by intro q hq; cases hq; omega)
 replace ho83 := ho83.stp hst100 (by intro q hq; cases hq; omega)
 clear hb93
 have hs104 := (StpL.of_ext (B := fun i => i = w76.heap.size) hs98).trans' (Stp.toL hst100 (by intro q hq; cases hq; exact rfl))
 refine ⟨hs104, ?_⟩
 refine drl hs104 ?_
 intro hs105
 refine dw 11 H rfl (StpL.of_ext hs105) (op_assign H rfl rfl) ?_
 clear H A; intro A H
 refine dr_end (by kernel_rfl) ?_
 revert A; refine go ?_; intro A H
 refine wv H (ls H U34 ti34 hb101.cells) ?_
 clear H A; intro A H
 refine ws H (op_storeAll' H rfl ti34 rfl rfl hf47 rfl rfl (o1 ho79.one (o1 ho81.one (o1 ho83.one o0))) rfl) ?_
 rintro w108 ⟨hb110, hst109, hz111⟩
 obtain ⟨hx112, _⟩ := nb hx103 hst109
 replace hf43 := bb hf43 hst109
 replace hf44 := ob hf44 flat_shBin hf47 hst109
 replace hf45 := ob hf45 flat_shProm hf47 hst109
 replace hf46 := ob hf46 flat_shEnt hf47 hst109
 replace hf48 := hf48.stp hst109 (by intro q hq; cases hq; omega)
 replace ho79 := ob ho79 flat_shBin hf47 hst109
 replace ho81 := ob ho81 flat_shProm hf47 hst109
 replace ho83 := ob ho83 flat_shEnt hf47 hst109
 replace hb101 := bb hb101 hst109
 clear hf47
 clear hf44 hf45 hf46 hb101
 revert A; refine go ?_; intro A H
 refine we H (op_b1 (mk_shStr ((rnT ((d1, d2, d3)) x65)) (by exact Nat.le_trans (rnT_len (by assumption) _) (by decide))) H pos_shStr U25 ti9) ?_
 clear H A; rintro v115 w116 ⟨ho117, he118, hob119⟩ A H
 obtain ⟨hx121, _⟩ := nx hx112 he118
 replace hf43 := hf43.ext he118
 replace hf48 := hf48.ext he118
 replace ho79 := ho79.ext he118
 replace ho81 := ho81.ext he118
 replace ho83 := ho83.ext he118
 replace hb110 := hb110.ext he118
 refine we H (op_ap (ts := #[]) H U25 ti9 pos_shStr hf48 (ho117.rds pos_shStr) flat_shStr) ?_
 clear H A; rintro v122 w123 ⟨ho124, hst125, hob126⟩ A H
 obtain ⟨hx128, _⟩ := no hx121 hf48 hst125
 replace hf43 := hf43.stp hst125 (by intro q hq; have hq0 := hf48.lt q hq; omega)
 replace ho79 := oo ho79 flat_shBin hf48 hst125
 replace ho81 := oo ho81 flat_shProm hf48 hst125
 replace ho83 := oo ho83 flat_shEnt hf48 hst125
 replace hb110 := hb110.stp hst125 (by intro q hq; have hq0 := hf48.lt q hq; omega)
 replace ho117 := ho117.stp hst125 (by intro q hq; have hq0 := hf48.lt q hq; omega)
 have hsp129 : ∀ q, Value.ownBlock v122 = some q → Value.ownBlock v115 ≠ some q := by intro q hq hb; have hq0 := ho117.lt q hb; rcases hob126 with h | h; (rw [h] at hq; first | (have hq1 := hf48.lt q hq; omega)); (rw [h] at hq; cases hq; omega)
 clear ho117
 revert A; refine go ?_; intro A H
 refine wv H ((op_add H rfl rfl rfl).int (IntWalk.i64_in _ (by omega))) ?_
 clear H A; refine go ?_; intro A H
 refine ⟨((i + 1), v122, (acc ++ [(rnT ((d1, d2, d3)) x65)]), u78, ((rnD ((d1, d2, d3)) x65).1), u80, ((rnD ((d1, d2, d3)) x65).2.1), u82, ((rnD ((d1, d2, d3)) x65).2.2)), ?_, ?_⟩
 refine ⟨(sl H), hx128, hf43, (fi ho79), (fi ho81), (fi ho83), hb110, (fi ho124), (by omega), (by omega), (by exact (ln_step hx65 hD hT rfl rfl).1), (by exact (ln_step hx65 hD hT rfl rfl).2), (by exact rnD_ok hdk x65), (by simp; omega), (by exact hl40), (by exact hlm)⟩
 show (lines.length - ((i + 1)) : Nat) < lines.length - i; omega
 refine pe H rfl (op_alloc' rfl ti34 rfl) ?_
 clear H A; rintro _ w134 ⟨rfl, he135, hb136, hz137⟩ A H
 have hs139 := hs59.trans' he135
 obtain ⟨hx140, _⟩ := nx hx58 he135
 refine ⟨hs139, ?_⟩
 replace hf43 := hf43.ext hs139
 replace hf44 := hf44.ext hs139
 replace hf45 := hf45.ext hs139
 replace hf46 := hf46.ext hs139
 replace hf47 := hf47.ext hs139
 replace hf48 := hf48.ext hs139
 refine dr_narrow (S' := fun w' => StpL w134 w' (fun i => i = w56.heap.size)) (fun w' h' => hs139.freshL h' (by intro i q; first | (right; omega))) _ _ _ _ ?_
 have hs141 : Ext w134 w134 := Ext.rfl' _
 refine dr_one (i := 5) (by kernel_rfl) ?_
 refine pc H cb64 rfl (c_spec_l34Run (lo_d := w0.heap.size) (hi_d := w134.heap.size) _ v1 v2 v3 ((d1, d2, d3)) x65 (fi hf44) (fi hf45) (fi hf46) (by omega) (by omega) gf gf) ?_
 clear H A; rintro v142 w143 he144 ⟨u145, u147, u149, rfl, ho146, ho148, ho150⟩ A H
 have hs152 := hs141.trans' he144
 obtain ⟨hx153, _⟩ := nx hx140 he144
 refine ⟨(StpL.of_ext hs152), ?_⟩
 replace hf43 := hf43.ext hs152
 replace hf44 := hf44.ext hs152
 replace hf45 := hf45.ext hs152
 replace hf46 := hf46.ext hs152
 replace hf47 := hf47.ext hs152
 replace hf48 := hf48.ext hs152
 replace hb136 := hb136.ext hs152
 refine drl (StpL.of_ext hs152) ?_
 intro hs154
 revert A; refine dgo [6, 7, 8] (StpL.of_ext hs154) ?_; intro A H
 refine dr_one (i := 10) (by kernel_rfl) ?_
 refine po_effS H rfl rfl rfl (op_storeAll' H rfl ti34 rfl rfl hb136 rfl rfl (o1 ho146.one (o1 ho148.one (o1 ho150.one o0))) rfl) ?_
 rintro w158 ⟨hb160, hst159, hz161⟩
 obtain ⟨hx162, _⟩ := nb hx153 hst159
 replace hf43 := bb hf43 hst159
 replace hf44 := hf44.stp hst159 (by intro q hq; cases hq; omega)
 replace hf45 := hf45.stp hst159 (by intro q hq; cases hq; omega)
 replace hf46 := hf46.stp hst159 (by intro q hq; cases hq; omega)
 replace hf47 := bb hf47 hst159
 replace hf48 := hf48.stp hst159 (by intro q hq; cases hq; omega)
 replace ho146 := ob ho146 flat_shBin hb136 hst159
 replace ho148 := ob ho148 flat_shProm hb136 hst159
 replace ho150 := ob ho150 flat_shEnt hb136 hst159
 clear hb136
 have hs163 := (StpL.of_ext (B := fun i => i = w56.heap.size) hs154).trans' (Stp.toL hst159 (by intro q hq; cases hq; exact rfl))
 refine ⟨hs163, ?_⟩
 refine drl hs163 ?_
 intro hs164
 refine dw 11 H rfl (StpL.of_ext hs164) (op_assign H rfl rfl) ?_
 clear H A; intro A H
 refine dr_end (by kernel_rfl) ?_
 revert A; refine go ?_; intro A H
 refine wv H (ls H U34 ti34 hb160.cells) ?_
 clear H A; intro A H
 refine ws H (op_storeAll' H rfl ti34 rfl rfl hf47 rfl rfl (o1 ho146.one (o1 ho148.one (o1 ho150.one o0))) rfl) ?_
 rintro w167 ⟨hb169, hst168, hz170⟩
 obtain ⟨hx171, _⟩ := nb hx162 hst168
 replace hf43 := bb hf43 hst168
 replace hf44 := ob hf44 flat_shBin hf47 hst168
 replace hf45 := ob hf45 flat_shProm hf47 hst168
 replace hf46 := ob hf46 flat_shEnt hf47 hst168
 replace hf48 := hf48.stp hst168 (by intro q hq; cases hq; omega)
 replace ho146 := ob ho146 flat_shBin hf47 hst168
 replace ho148 := ob ho148 flat_shProm hf47 hst168
 replace ho150 := ob ho150 flat_shEnt hf47 hst168
 replace hb160 := bb hb160 hst168
 clear hf47
 clear hf44 hf45 hf46 hb160
 revert A; refine go ?_; intro A H
 refine we H (op_b1 (mk_shStr ((rnT ((d1, d2, d3)) x65)) (by exact Nat.le_trans (rnT_len (by assumption) _) (by decide))) H pos_shStr U25 ti9) ?_
 clear H A; rintro v174 w175 ⟨ho176, he177, hob178⟩ A H
 obtain ⟨hx180, _⟩ := nx hx171 he177
 replace hf43 := hf43.ext he177
 replace hf48 := hf48.ext he177
 replace ho146 := ho146.ext he177
 replace ho148 := ho148.ext he177
 replace ho150 := ho150.ext he177
 replace hb169 := hb169.ext he177
 refine we H (op_ap (ts := #[]) H U25 ti9 pos_shStr hf48 (ho176.rds pos_shStr) flat_shStr) ?_
 clear H A; rintro v181 w182 ⟨ho183, hst184, hob185⟩ A H
 obtain ⟨hx187, _⟩ := no hx180 hf48 hst184
 replace hf43 := hf43.stp hst184 (by intro q hq; have hq0 := hf48.lt q hq; omega)
 replace ho146 := oo ho146 flat_shBin hf48 hst184
 replace ho148 := oo ho148 flat_shProm hf48 hst184
 replace ho150 := oo ho150 flat_shEnt hf48 hst184
 replace hb169 := hb169.stp hst184 (by intro q hq; have hq0 := hf48.lt q hq; omega)
 replace ho176 := ho176.stp hst184 (by intro q hq; have hq0 := hf48.lt q hq; omega)
 have hsp188 : ∀ q, Value.ownBlock v181 = some q → Value.ownBlock v174 ≠ some q := by intro q hq hb; have hq0 := ho176.lt q hb; rcases hob185 with h | h; (rw [h] at hq; first | (have hq1 := hf48.lt q hq; omega)); (rw [h] at hq; cases hq; omega)
 clear ho176
 revert A; refine go ?_; intro A H
 refine wv H ((op_add H rfl rfl rfl).int (IntWalk.i64_in _ (by omega))) ?_
 clear H A; refine go ?_; intro A H
 refine ⟨((i + 1), v181, (acc ++ [(rnT ((d1, d2, d3)) x65)]), u145, ((rnD ((d1, d2, d3)) x65).1), u147, ((rnD ((d1, d2, d3)) x65).2.1), u149, ((rnD ((d1, d2, d3)) x65).2.2)), ?_, ?_⟩
 refine ⟨(sl H), hx187, hf43, (fi ho146), (fi ho148), (fi ho150), hb169, (fi ho183), (by omega), (by omega), (by exact (ln_step hx65 hD hT rfl rfl).1), (by exact (ln_step hx65 hD hT rfl rfl).2), (by exact rnD_ok hdk x65), (by simp; omega), (by exact hl40), (by exact hlm)⟩
 show (lines.length - ((i + 1)) : Nat) < lines.length - i; omega
 rw [decide_eq_false c55] at H
 revert A; refine go ?_; intro A H
 refine wv H (ls H U34 ti34 hf47.cells) ?_
 clear H A; intro A H
 refine wv H (op_move H rfl rfl) ?_
 clear H A; intro A H
 refine ws H (op_storeAll' H rfl ti34 rfl rfl hf43 rfl rfl (o1 hf44.one (o1 hf45.one (o1 hf46.one o0))) rfl) ?_
 rintro w195 ⟨hb197, hst196, hz198⟩
 obtain ⟨hx199, _⟩ := nb hx42 hst196
 replace hf44 := ob hf44 flat_shBin hf43 hst196
 replace hf45 := ob hf45 flat_shProm hf43 hst196
 replace hf46 := ob hf46 flat_shEnt hf43 hst196
 replace hf47 := bb hf47 hst196
 replace hf48 := hf48.stp hst196 (by intro q hq; cases hq; omega)
 clear hf43
 revert A; refine go ?_; intro A H
 refine retct H rfl rfl rfl U34 ti34 rfl hb197.cells ?_
 clear H A
 rw [drop_nil (by omega), lnD] at hD
 rw [drop_nil (by omega), lnT, List.append_nil] at hT
 exact ret_mk hx199 ⟨v1, v2, v3, vo, (tup2_eq (by rfl) rfl), ((fi hf44).cast (by rw [← hD])), ((fi hf45).cast (by rw [← hD])), ((fi hf46).cast (by rw [← hD])), ((fi hf48).cast (by exact hT))⟩



theorem c_spec_l34Lines (w0 : World) (text : Str) (g0 : text.length ≤ 1048576) :
    Calls Tryz.prog 35 #[St text] w0 (Ret w0 (fun v w1 => Own shStr 9 w0.heap.size w0.heap.size w1.heap.size w1 v (liL text))) := by
 refine enter (N := 19) Tryz.func35 rfl rfl rfl ?_
 intro A H
 have hx0 := Ext.rfl' w0
 have hsp := spl_pos 10 text []
 have hsl := spl_len 10 text []
 have hll := liL_len text
 revert A; refine go ?_; intro A H
 refine wc H cb65 (c_spec_l01Split _ text (10 : UInt8) gf) ?_
 clear H A; rintro v3 w4 he5 ho6 A H
 obtain ⟨hx8, _⟩ := nx hx0 he5
 revert A; refine go ?_; intro A H
 refine wv H (ln H U25 (ho6.rds pos_shStr)) ?_
 clear H A; intro A H
 refine wv H ((op_sub H rfl rfl rfl).int (IntWalk.i64_in _ (by omega))) ?_
 clear H A; intro A H
 obtain ⟨x14, hx14⟩ := get_ex (xs := (spl (10 : UInt8) [] text)) (j := (((spl (10 : UInt8) [] text)).length - 1)) (by omega)
 obtain ⟨p15, hi17, hc18, b21, _, _⟩ := at_shStr (ho6.rds pos_shStr) hx14
 refine wv H (ix H U25 ti9 hi17) ?_
 clear H A; intro A H
 refine wv H (lh H U9 hc18) ?_
 clear H A; refine go ?_; intro A H
 by_cases c25 : x14 = ([] : Str)
 rw [decide_eq_true c25] at H
 clear hc18
 revert A; refine go ?_; intro A H
 refine wv H (ln H U25 (ho6.rds pos_shStr)) ?_
 clear H A; intro A H
 refine wv H ((op_sub H rfl rfl rfl).int (IntWalk.i64_in _ (by omega))) ?_
 clear H A; intro A H
 obtain ⟨u30, hu31, ho33⟩ := Own.head ho6 pos_shStr (by omega) U25 ti9 (some (.int .i64 ((((spl (10 : UInt8) [] text)).length - 1) : Nat))) ((((spl (10 : UInt8) [] text)).length - 1)) (.inr ⟨.i64, rfl⟩) (by omega)
 clear ho6
 refine wv H (op_slice_t (by omega) H rfl rfl rfl hu31) ?_
 clear H A; refine go ?_; intro A H
 refine ret1 H rfl rfl ?_
 clear H A
 refine ret_mk hx8 ?_
 refine (fi ho33).cast ?_
 exact (liL_yes hx14 c25).symm
 rw [decide_eq_false c25] at H
 clear hc18
 revert A; refine go ?_; intro A H
 refine ret1 H rfl rfl ?_
 clear H A
 refine ret_mk hx8 ?_
 refine (fi ho6).cast ?_
 exact (liL_no hx14 c25).symm



theorem c_spec_l34Fits (w0 : World) (text : Str) (g0 : text.length ≤ 1048576) :
    Calls Tryz.prog 33 #[St text] w0 (Ret w0 (fun v _ => v = .bool (fitB text))) := by
 refine enter (N := 12) Tryz.func33 rfl rfl rfl ?_
 intro A H
 have hx0 := Ext.rfl' w0
 have hsp := spl_pos 10 text []
 have hsl := spl_len 10 text []
 have hll := liL_len text
 revert A; refine go ?_; intro A H
 refine wv H (op_len_str H rfl U9 rfl) ?_
 clear H A; refine go ?_; intro A H
 by_cases c6 : ((text.length : Nat) : Int) ≤ (1500 : Int)
 rw [decide_eq_true c6] at H
 refine wv H (op_move H rfl rfl) ?_
 clear H A; intro A H
 refine wc H cb35 (c_spec_l34Lines _ text gf) ?_
 clear H A; rintro v8 w9 he10 ho11 A H
 obtain ⟨hx13, _⟩ := nx hx0 he10
 refine wv H (ln H U25 (ho11.rds pos_shStr)) ?_
 clear H A; refine go ?_; intro A H
 refine ret1 H rfl rfl ?_
 clear H A
 exact ret_mk hx13 (congrArg Value.bool (by rw [fit_c (by omega), Bool.eq_iff_iff]; simp only [decide_eq_true_eq]; omega))
 rw [decide_eq_false c6] at H
 revert A; refine go ?_; intro A H
 refine ret1 H rfl rfl ?_
 clear H A
 exact ret_mk hx0 (congrArg Value.bool (by rw [fit_no1 (by omega)]))



theorem c_spec_RunConsole (w0 : World) (text : Str) (g0 : text.length ≤ 1048576) :
    Calls Tryz.prog 10 #[St text] w0 (Ret w0 (fun v w1 => ∃ r0, v = .tuple #[r0, .int .i64 (rcC text)] ∧ Own shStr 9 w0.heap.size w0.heap.size w1.heap.size w1 r0 (rcL text))) := by
 refine enter (N := 16) Tryz.func10 rfl rfl rfl ?_
 intro A H
 have hx0 := Ext.rfl' w0
 have hsp := spl_pos 10 text []
 have hsl := spl_len 10 text []
 have hll := liL_len text
 revert A; refine go ?_; intro A H
 refine wc H cb33 (c_spec_l34Fits _ text (by exact gf)) ?_
 clear H A; rintro v4 w5 he6 rfl A H
 obtain ⟨hx8, _⟩ := nx hx0 he6
 revert A; refine go ?_; intro A H
 rcases Bool.eq_false_or_eq_true (fitB text) with c10 | c10
 rw [c10] at H
 have hftc10 := fit_bd c10
 revert A; refine go ?_; intro A H
 refine wc H cb35 (c_spec_l34Lines _ text (by exact gf)) ?_
 clear H A; rintro v12 w13 he14 ho15 A H
 obtain ⟨hx17, _⟩ := nx hx8 he14
 refine wc H cb34 (c_spec_l34All _ v12 ((liL text)) (ho15.rds pos_shStr) (by exact gf) (by exact fun l h => Nat.le_trans (liL_mem h) (by omega))) ?_
 clear H A; rintro v18 w19 he20 ⟨u21, u23, u25, u27, rfl, ho22, ho24, ho26, ho28⟩ A H
 obtain ⟨hx30, _⟩ := nx hx17 he20
 replace ho15 := ho15.ext he20
 revert A; refine go ?_; intro A H
 refine we H (op_alloc' rfl ti34 rfl) ?_
 clear H A; rintro _ w35 ⟨rfl, he36, hb37, hz38⟩ A H
 obtain ⟨hx40, _⟩ := nx hx30 he36
 replace ho15 := ho15.ext he36
 replace ho22 := ho22.ext he36
 replace ho24 := ho24.ext he36
 replace ho26 := ho26.ext he36
 replace ho28 := ho28.ext he36
 refine ws H (op_storeAll' H rfl ti34 rfl rfl hb37 rfl rfl (o1 ho22.one (o1 ho24.one (o1 ho26.one o0))) rfl) ?_
 rintro w41 ⟨hb43, hst42, hz44⟩
 obtain ⟨hx45, _⟩ := nb hx40 hst42
 replace ho15 := ho15.stp hst42 (by intro q hq; cases hq; omega)
 replace ho22 := ho22.stp hst42 (by intro q hq; cases hq; omega)
 replace ho24 := ho24.stp hst42 (by intro q hq; cases hq; omega)
 replace ho26 := ho26.stp hst42 (by intro q hq; cases hq; omega)
 replace ho28 := ho28.stp hst42 (by intro q hq; cases hq; omega)
 clear hb37
 clear ho15 ho22 ho24 ho26 hb43
 revert A; refine go ?_; intro A H
 refine ret2 H rfl rfl rfl ?_
 clear H A
 refine ret_mk hx45 ⟨u27, (tup2_eq rfl (int_eq (by unfold rcC; rw [c10]; rfl))), ?_⟩
 refine (fi ho28).cast ?_
 unfold rcL; rw [c10]; rfl
 rw [c10] at H
 revert A; refine go ?_; intro A H
 refine ret2 H rfl rfl rfl ?_
 clear H A
 refine ret_mk hx8 ⟨.slice none 0 0, (tup2_eq rfl (int_eq (by unfold rcC; rw [c10]; rfl))), ?_⟩
 refine Own.nil_ _ _ _ _ _ _ ?_
 unfold rcL; rw [c10]; rfl



theorem c_spec_DeskAfter (w0 : World) (text : Str) (g0 : text.length ≤ 1048576) :
    Calls Tryz.prog 15 #[St text] w0 (Ret w0 (fun v w1 => ∃ r0_0 r0_1 r0_2, v = .tuple #[.agg #[r0_0, r0_1, r0_2], .int .i64 (rcC text)] ∧ Own shBin 65 w0.heap.size w0.heap.size w1.heap.size w1 r0_0 ((rcD text).1) ∧ Own shProm 67 w0.heap.size w0.heap.size w1.heap.size w1 r0_1 ((rcD text).2.1) ∧ Own shEnt 69 w0.heap.size w0.heap.size w1.heap.size w1 r0_2 ((rcD text).2.2))) := by
 refine enter (N := 17) Tryz.func15 rfl rfl rfl ?_
 intro A H
 have hx0 := Ext.rfl' w0
 have hsp := spl_pos 10 text []
 have hsl := spl_len 10 text []
 have hll := liL_len text
 revert A; refine go ?_; intro A H
 refine we H (op_alloc' rfl ti34 rfl) ?_
 clear H A; rintro _ w2 ⟨rfl, he3, hb4, hz5⟩ A H
 obtain ⟨hx7, _⟩ := nx hx0 he3
 revert A; refine go ?_; intro A H
 refine wc H cb33 (c_spec_l34Fits _ text (by exact gf)) ?_
 clear H A; rintro v10 w11 he12 rfl A H
 obtain ⟨hx14, _⟩ := nx hx7 he12
 replace hb4 := hb4.ext he12
 revert A; refine go ?_; intro A H
 rcases Bool.eq_false_or_eq_true (fitB text) with c16 | c16
 rw [c16] at H
 have hftc16 := fit_bd c16
 revert A; refine go ?_; intro A H
 refine wc H cb35 (c_spec_l34Lines _ text (by exact gf)) ?_
 clear H A; rintro v18 w19 he20 ho21 A H
 obtain ⟨hx23, _⟩ := nx hx14 he20
 replace hb4 := hb4.ext he20
 refine wc H cb34 (c_spec_l34All _ v18 ((liL text)) (ho21.rds pos_shStr) (by exact gf) (by exact fun l h => Nat.le_trans (liL_mem h) (by omega))) ?_
 clear H A; rintro v24 w25 he26 ⟨u27, u29, u31, u33, rfl, ho28, ho30, ho32, ho34⟩ A H
 obtain ⟨hx36, _⟩ := nx hx23 he26
 replace hb4 := hb4.ext he26
 replace ho21 := ho21.ext he26
 revert A; refine go ?_; intro A H
 refine we H (op_alloc' rfl ti34 rfl) ?_
 clear H A; rintro _ w41 ⟨rfl, he42, hb43, hz44⟩ A H
 obtain ⟨hx46, _⟩ := nx hx36 he42
 replace hb4 := hb4.ext he42
 replace ho21 := ho21.ext he42
 replace ho28 := ho28.ext he42
 replace ho30 := ho30.ext he42
 replace ho32 := ho32.ext he42
 replace ho34 := ho34.ext he42
 refine ws H (op_storeAll' H rfl ti34 rfl rfl hb43 rfl rfl (o1 ho28.one (o1 ho30.one (o1 ho32.one o0))) rfl) ?_
 rintro w47 ⟨hb49, hst48, hz50⟩
 obtain ⟨hx51, _⟩ := nb hx46 hst48
 replace hb4 := bb hb4 hst48
 replace ho21 := ho21.stp hst48 (by intro q hq; cases hq; omega)
 replace ho28 := ho28.stp hst48 (by intro q hq; cases hq; omega)
 replace ho30 := ho30.stp hst48 (by intro q hq; cases hq; omega)
 replace ho32 := ho32.stp hst48 (by intro q hq; cases hq; omega)
 replace ho34 := ho34.stp hst48 (by intro q hq; cases hq; omega)
 clear hb43
 clear ho21 ho34
 revert A; refine go ?_; intro A H
 refine wv H (ls H U34 ti34 hb49.cells) ?_
 clear H A; intro A H
 refine ws H (op_storeAll' H rfl ti34 rfl rfl hb4 rfl rfl (o1 ho28.one (o1 ho30.one (o1 ho32.one o0))) rfl) ?_
 rintro w54 ⟨hb56, hst55, hz57⟩
 obtain ⟨hx58, _⟩ := nb hx51 hst55
 replace ho28 := ho28.stp hst55 (by intro q hq; cases hq; omega)
 replace ho30 := ho30.stp hst55 (by intro q hq; cases hq; omega)
 replace ho32 := ho32.stp hst55 (by intro q hq; cases hq; omega)
 replace hb49 := bb hb49 hst55
 clear hb4
 revert A; refine go ?_; intro A H
 refine retct H rfl rfl rfl U34 ti34 rfl hb56.cells ?_
 clear H A
 exact ret_mk hx58 ⟨u27, u29, u31, (tup2_eq (by rfl) (int_eq (by unfold rcC; rw [c16]; rfl))), ((fi ho28).cast (by unfold rcD; rw [c16]; rfl)), ((fi ho30).cast (by unfold rcD; rw [c16]; rfl)), ((fi ho32).cast (by unfold rcD; rw [c16]; rfl))⟩
 rw [c16] at H
 revert A; refine go ?_; intro A H
 refine wv H (op_build (vs := []) (cs := #[.slice none 0 0, .slice none 0 0, .slice none 0 0]) H rfl U34 ti34 bp34 rfl rfl) ?_
 clear H A; intro A H
 refine ws H (op_sa H ti34 hb4) ?_
 rintro w61 ⟨hb63, hst62, hz64⟩
 obtain ⟨hx65, _⟩ := nb hx14 hst62
 clear hb4
 revert A; refine go ?_; intro A H
 refine retct H rfl rfl rfl U34 ti34 rfl hb63.cells ?_
 clear H A
 exact ret_mk hx65 ⟨(.slice none 0 0), (.slice none 0 0), (.slice none 0 0), (tup2_eq (by rfl) (int_eq (by unfold rcC; rw [c16]; rfl))), (Own.nil_ _ _ _ _ _ _ (by unfold rcD; rw [c16]; rfl)), (Own.nil_ _ _ _ _ _ _ (by unfold rcD; rw [c16]; rfl)), (Own.nil_ _ _ _ _ _ _ (by unfold rcD; rw [c16]; rfl))⟩




end Go.Proofs.YthbehhhblchhhaaGreat
