/- Lines done by the program. -/
import Derived.Test.YthbehhhblchhhaaGreatX3
namespace Go.Proofs.YthbehhhblchhhaaGreat
open Go Go.RowKit
set_option maxHeartbeats 16000000

theorem c_impl_runLines (w0 : World) (text : Str) (g0 : text.length ≤ 1048576) :
    Calls Tryz.prog 32 #[St text] w0 (Ret w0 (fun v w1 => ∃ r0 r1_0 r1_1 r1_2, v = .tuple #[r0, .agg #[r1_0, r1_1, r1_2], .int .i64 (rcC text)] ∧ Own shStr 9 w0.heap.size w0.heap.size w1.heap.size w1 r0 (rcL text) ∧ Own shBin 65 w0.heap.size w0.heap.size w1.heap.size w1 r1_0 ((rcD text).1) ∧ Own shProm 67 w0.heap.size w0.heap.size w1.heap.size w1 r1_1 ((rcD text).2.1) ∧ Own shEnt 69 w0.heap.size w0.heap.size w1.heap.size w1 r1_2 ((rcD text).2.2))) := by
 refine enter (N := 81) Tryz.func32 rfl rfl rfl ?_
 intro A H
 have hx0 := Ext.rfl' w0
 have hsp := spl_pos 10 text []
 have hsl := spl_len 10 text []
 have hll := liL_len text
 revert A; refine go ?_; intro A H
 refine we H (op_alloc' rfl ti34 rfl) ?_
 clear H A; rintro _ w3 ⟨rfl, he4, hb5, hz6⟩ A H
 obtain ⟨hx8, _⟩ := nx hx0 he4
 revert A; refine go ?_; intro A H
 refine wv H (op_len_str H rfl U9 rfl) ?_
 clear H A; refine go ?_; intro A H
 by_cases c13 : (1500 : Int) < ((text.length : Nat) : Int)
 rw [decide_eq_true c13] at H
 revert A; refine go ?_; intro A H
 refine wv H (op_build (vs := []) (cs := #[.slice none 0 0, .slice none 0 0, .slice none 0 0]) H rfl U34 ti34 bp34 rfl rfl) ?_
 clear H A; intro A H
 refine wv H (op_assign H rfl rfl) ?_
 clear H A; intro A H
 refine ws H (op_sa H ti34 hb5) ?_
 rintro w16 ⟨hb18, hst17, hz19⟩
 obtain ⟨hx20, _⟩ := nb hx8 hst17
 clear hb5
 revert A; refine go ?_; intro A H
 refine ret_tct H rfl rfl rfl U34 ti34 rfl hb18.cells rfl ?_
 clear H A
 have hf : fitB text = false := fit_no1 (by omega)
 exact ret_mk hx20 ⟨(.slice none 0 0), (.slice none 0 0), (.slice none 0 0), (.slice none 0 0), (tup3_eq rfl (by rfl) (int_eq (by unfold rcC; rw [hf]; rfl))), (Own.nil_ _ _ _ _ _ _ (by unfold rcL; rw [hf]; rfl)), (Own.nil_ _ _ _ _ _ _ (by unfold rcD; rw [hf]; rfl)), (Own.nil_ _ _ _ _ _ _ (by unfold rcD; rw [hf]; rfl)), (Own.nil_ _ _ _ _ _ _ (by unfold rcD; rw [hf]; rfl))⟩
 rw [decide_eq_false c13] at H
 revert A; refine go ?_; intro A H
 refine wc H cb60 (c_impl_splitAt _ text (10 : UInt8) gf) ?_
 clear H A; rintro v23 w24 he25 ho26 A H
 obtain ⟨hx28, _⟩ := nx hx8 he25
 replace hb5 := hb5.ext he25
 refine wv H (op_assign H rfl rfl) ?_
 clear H A; intro A H
 refine wpList_nil ?_
 refine then_n ?_
 refine seq_mid (fun fr wl => ∃ (vl : Value) (lz : List Str), Sl 81 fr [(3, .pointer (some (⟨w0.heap.size, 0, none⟩ : Addr))), (5, vl)] ∧ Ext w0 wl ∧ Box wl w0.heap.size 34 [.slice none 0 0, .slice none 0 0, .slice none 0 0] ∧ Rds shStr ((Iv (min w3.heap.size w3.heap.size) w24.heap.size)) wl vl lz ∧ w24.heap.size ≤ wl.heap.size ∧ (lz = liL text) ∧ (text.length ≤ 1500)) ?_ ?_
 revert A; refine go ?_; intro A H
 refine wv H (ln H U25 (ho26.rds pos_shStr)) ?_
 clear H A; intro A H
 refine wv H ((op_sub H rfl rfl rfl).int (IntWalk.i64_in _ (by omega))) ?_
 clear H A; intro A H
 obtain ⟨x38, hx38⟩ := get_ex (xs := (spl (10 : UInt8) [] text)) (j := (((spl (10 : UInt8) [] text)).length - 1)) (by omega)
 obtain ⟨p39, hi41, hc42, b45, _, _⟩ := at_shStr (ho26.rds pos_shStr) hx38
 refine wv H (ix H U25 ti9 hi41) ?_
 clear H A; intro A H
 refine wv H (lh H U9 hc42) ?_
 clear H A; refine go ?_; intro A H
 by_cases c49 : x38 = ([] : Str)
 rw [decide_eq_true c49] at H
 clear hc42
 revert A; refine go ?_; intro A H
 refine wv H (ln H U25 (ho26.rds pos_shStr)) ?_
 clear H A; intro A H
 refine wv H ((op_sub H rfl rfl rfl).int (IntWalk.i64_in _ (by omega))) ?_
 clear H A; intro A H
 obtain ⟨u54, hu55, hr56⟩ := Rds.part (ho26.rds pos_shStr) U25 ti9 none (some (.int .i64 ((((spl (10 : UInt8) [] text)).length - 1) : Nat))) 0 ((((spl (10 : UInt8) [] text)).length - 1)) (.inl ⟨rfl, rfl⟩) (.inr ⟨.i64, rfl⟩) (by omega) (by omega)
 replace hr56 := hr56.cast (ys := ((spl (10 : UInt8) [] text)).take ((((spl (10 : UInt8) [] text)).length - 1))) (by simp)
 refine wv H (op_slice_t (by omega) H rfl rfl rfl hu55) ?_
 clear H A; refine go ?_; intro A H
 refine ⟨u54, ((spl (10 : UInt8) [] text)).take ((((spl (10 : UInt8) [] text)).length - 1)), (sl H), hx28, hb5, hr56, (by omega), (by exact (liL_yes hx38 c49).symm), (by omega)⟩
 rw [decide_eq_false c49] at H
 revert A; refine go ?_; intro A H
 refine ⟨v23, (spl (10 : UInt8) [] text), (sl H), hx28, hb5, (ho26.rds pos_shStr), (by omega), (by exact (liL_no hx38 c49).symm), (by omega)⟩
 clear H A
 rintro A w30 ⟨vl, lz, H, hx31, hf32, hf33, hzl60, hls, ht15⟩
 have hzhx31 := hx31.size
 revert A; refine go ?_; intro A H
 refine wv H (ln H U25 hf33) ?_
 clear H A; refine go ?_; intro A H
 by_cases c64 : (40 : Int) < ((lz.length : Nat) : Int)
 rw [decide_eq_true c64] at H
 clear hf33
 revert A; refine go ?_; intro A H
 refine wv H (op_build (vs := []) (cs := #[.slice none 0 0, .slice none 0 0, .slice none 0 0]) H rfl U34 ti34 bp34 rfl rfl) ?_
 clear H A; intro A H
 refine wv H (op_assign H rfl rfl) ?_
 clear H A; intro A H
 refine ws H (op_sa H ti34 hf32) ?_
 rintro w67 ⟨hb69, hst68, hz70⟩
 obtain ⟨hx71, _⟩ := nb hx31 hst68
 clear hf32
 revert A; refine go ?_; intro A H
 refine ret_tct H rfl rfl rfl U34 ti34 rfl hb69.cells rfl ?_
 clear H A
 have hf : fitB text = false := fit_no2 (by rw [← hls]; omega)
 exact ret_mk hx71 ⟨(.slice none 0 0), (.slice none 0 0), (.slice none 0 0), (.slice none 0 0), (tup3_eq rfl (by rfl) (int_eq (by unfold rcC; rw [hf]; rfl))), (Own.nil_ _ _ _ _ _ _ (by unfold rcL; rw [hf]; rfl)), (Own.nil_ _ _ _ _ _ _ (by unfold rcD; rw [hf]; rfl)), (Own.nil_ _ _ _ _ _ _ (by unfold rcD; rw [hf]; rfl)), (Own.nil_ _ _ _ _ _ _ (by unfold rcD; rw [hf]; rfl))⟩
 rw [decide_eq_false c64] at H
 revert A; refine go ?_; intro A H
 refine we H (op_alloc' rfl ti34 rfl) ?_
 clear H A; rintro _ w75 ⟨rfl, he76, hb77, hz78⟩ A H
 obtain ⟨hx80, _⟩ := nx hx31 he76
 replace hf32 := hf32.ext he76
 replace hf33 := hf33.ext pos_shStr he76
 revert A; refine go ?_; intro A H
 refine wv H (ln H U25 hf33) ?_
 clear H A; refine go ?_; intro A H
 refine loop_inv (X := Nat × Value × (List Str) × Value × (List (Str × Int × Int × Int × Int)) × Value × (List (Str × Int × Int)) × Value × (List (Int × Int × Str × Int))) (fun ⟨i, vo, acc, v1, d1, v2, d2, v3, d3⟩ fr wl => Sl 81 fr [(3, .pointer (some (⟨w0.heap.size, 0, none⟩ : Addr))), (6, vo), (7, .pointer (some (⟨w30.heap.size, 0, none⟩ : Addr))), (38, vl), (39, .int .i64 ((lz.length : Nat) : Int)), (40, .int .i64 ((i : Nat) : Int))] ∧ Ext w0 wl ∧ Box wl w0.heap.size 34 [.slice none 0 0, .slice none 0 0, .slice none 0 0] ∧ Rds shStr ((Iv (min w3.heap.size w3.heap.size) w24.heap.size)) wl vl lz ∧ Own shStr 9 w75.heap.size w75.heap.size wl.heap.size wl vo acc ∧ Own shBin 65 w0.heap.size w0.heap.size wl.heap.size wl v1 d1 ∧ Own shProm 67 w0.heap.size w0.heap.size wl.heap.size wl v2 d2 ∧ Own shEnt 69 w0.heap.size w0.heap.size wl.heap.size wl v3 d3 ∧ Box wl w30.heap.size 34 [v1, v2, v3] ∧ w75.heap.size ≤ wl.heap.size ∧ (i ≤ lz.length) ∧ (lnD (lz.drop i) (d1, d2, d3) = lnD lz dk0) ∧ (acc ++ lnT (lz.drop i) (d1, d2, d3) = lnT lz dk0) ∧ (deskB (d1, d2, d3) = true) ∧ (acc.length ≤ i) ∧ (lz.length ≤ 40) ∧ (∀ l ∈ lz, l.length ≤ 1048576)) (fun ⟨i, vo, acc, v1, d1, v2, d2, v3, d3⟩ => lz.length - i) (0, (.slice none 0 0), [], (.slice none 0 0), [], (.slice none 0 0), [], (.slice none 0 0), []) ?_ ?_
 exact ⟨(sl H), hx80, hf32, hf33, (Own.nil _ _ _ _ _ _), (Own.nil _ _ _ _ _ _), (Own.nil _ _ _ _ _ _), (Own.nil _ _ _ _ _ _), hb77, (by omega), (by omega), (by rfl), (by rfl), (by exact dk0_ok), (by simp), (by omega), (by rw [hls]; exact fun l h => Nat.le_trans (liL_mem h) (by omega))⟩
 clear H A
 rintro ⟨i, vo, acc, v1, d1, v2, d2, v3, d3⟩ A w84 ⟨H, hx85, hf86, hf92, hf87, hf88, hf89, hf90, hf91, hzl94, hi, hD, hT, hdk, hal, hl40, hlm⟩
 have hzhx85 := hx85.size
 revert A; refine go ?_; intro A H
 by_cases c96 : ((i : Nat) : Int) < ((lz.length : Nat) : Int)
 rw [decide_eq_true c96] at H
 revert A; refine go ?_; intro A H
 obtain ⟨x97, hx97⟩ := get_ex (xs := lz) (j := i) (by omega)
 obtain ⟨p98, hi100, hc101, b104, _, _⟩ := at_shStr hf92 hx97
 have hbx97 := hlm _ (List.mem_of_getElem? hx97)
 refine wv H (ix H U25 ti9 hi100) ?_
 clear H A; intro A H
 refine wv H (lh H U9 hc101) ?_
 clear H A; intro A H
 clear hc101
 revert A; refine go ?_; intro A H
 refine wc H cb39 (c_impl_commandOf _ x97 gf) ?_
 clear H A; rintro v109 w110 he111 ⟨v112, v114, rfl, ho113, ho115⟩ A H
 obtain ⟨hx117, _⟩ := nx hx85 he111
 replace hf86 := hf86.ext he111
 replace hf92 := hf92.ext pos_shStr he111
 replace hf87 := hf87.ext he111
 replace hf88 := hf88.ext he111
 replace hf89 := hf89.ext he111
 replace hf90 := hf90.ext he111
 replace hf91 := hf91.ext he111
 revert A; refine go ?_; intro A H
 rcases Bool.eq_false_or_eq_true ((pcO x97).isSome) with c127 | c127
 rw [c127] at H
 have hcm := cm_of c127 (by assumption)
 revert A; refine go ?_; intro A H
 refine wv H (ls H U34 ti34 hf91.cells) ?_
 clear H A; refine go ?_; intro A H
 refine wc H cb62 (c_impl_execute (lo_d := w0.heap.size) (hi_d := w110.heap.size) _ v1 v2 v3 ((d1, d2, d3)) v112 ((pcW x97)) v114 ((pcN x97)) (fi hf88) (fi hf89) (fi hf90) (by omega) (by omega) (ho113.rds pos_shStr) (ho115.rds pos_shI64) gf gf) ?_
 clear H A; rintro v131 w132 he133 ⟨u134, u136, u138, rfl, ho135, ho137, ho139⟩ A H
 obtain ⟨hx141, _⟩ := nx hx117 he133
 replace hf86 := hf86.ext he133
 replace hf92 := hf92.ext pos_shStr he133
 replace hf87 := hf87.ext he133
 replace hf88 := hf88.ext he133
 replace hf89 := hf89.ext he133
 replace hf90 := hf90.ext he133
 replace hf91 := hf91.ext he133
 replace ho113 := ho113.ext he133
 replace ho115 := ho115.ext he133
 revert A; refine go ?_; intro A H
 refine we H (op_alloc' rfl ti34 rfl) ?_
 clear H A; rintro _ w147 ⟨rfl, he148, hb149, hz150⟩ A H
 obtain ⟨hx152, _⟩ := nx hx141 he148
 replace hf86 := hf86.ext he148
 replace hf92 := hf92.ext pos_shStr he148
 replace hf87 := hf87.ext he148
 replace hf88 := hf88.ext he148
 replace hf89 := hf89.ext he148
 replace hf90 := hf90.ext he148
 replace hf91 := hf91.ext he148
 replace ho113 := ho113.ext he148
 replace ho115 := ho115.ext he148
 replace ho135 := ho135.ext he148
 replace ho137 := ho137.ext he148
 replace ho139 := ho139.ext he148
 refine ws H (op_storeAll' H rfl ti34 rfl rfl hb149 rfl rfl (o1 ho135.one (o1 ho137.one (o1 ho139.one o0))) rfl) ?_
 rintro w153 ⟨hb155, hst154, hz156⟩
 obtain ⟨hx157, _⟩ := nb hx152 hst154
 replace hf86 := bb hf86 hst154
 replace hf92 := hf92.stp pos_shStr hst154 (by intro q hq; cases hq; exact not_iv (by omega))
 replace hf87 := hf87.stp hst154 (by intro q hq; cases hq; omega)
 replace hf88 := hf88.stp hst154 (by intro q hq; cases hq; omega)
 replace hf89 := hf89.stp hst154 (by intro q hq; cases hq; omega)
 replace hf90 := hf90.stp hst154 (by intro q hq; cases hq; omega)
 replace hf91 := bb hf91 hst154
 replace ho113 := ho113.stp hst154 (by intro q hq; cases hq; omega)
 replace ho115 := ho115.stp hst154 (by intro q hq; cases hq; omega)
 replace ho135 := ho135.stp hst154 (by intro q hq; cases hq; omega)
 replace ho137 := ho137.stp hst154 (by intro q hq; cases hq; omega)
 replace ho139 := ho139.stp hst154 (by intro q hq; cases hq; omega)
 clear hb149
 clear ho113 ho115
 revert A; refine go ?_; intro A H
 by_cases c162 : ((exM ((d1, d2, d3)) ((pcW x97)) ((pcN x97))).2.2 : Int) = (0 : Int)
 rw [decide_eq_true c162] at H
 have hcbc162 : 0 ≤ (exM ((d1, d2, d3)) ((pcW x97)) ((pcN x97))).2.2 ∧ (exM ((d1, d2, d3)) ((pcW x97)) ((pcN x97))).2.2 ≤ 9 := exM_code _ _ _
 revert A; refine go ?_; intro A H
 refine wv H (ls H U34 ti34 hb155.cells) ?_
 clear H A; intro A H
 refine ws H (op_storeAll' H rfl ti34 rfl rfl hf91 rfl rfl (o1 ho135.one (o1 ho137.one (o1 ho139.one o0))) rfl) ?_
 rintro w164 ⟨hb166, hst165, hz167⟩
 obtain ⟨hx168, _⟩ := nb hx157 hst165
 replace hf86 := bb hf86 hst165
 replace hf92 := hf92.stp pos_shStr hst165 (by intro q hq; cases hq; exact not_iv (by omega))
 replace hf87 := hf87.stp hst165 (by intro q hq; cases hq; omega)
 replace hf88 := ob hf88 flat_shBin hf91 hst165
 replace hf89 := ob hf89 flat_shProm hf91 hst165
 replace hf90 := ob hf90 flat_shEnt hf91 hst165
 replace ho135 := ob ho135 flat_shBin hf91 hst165
 replace ho137 := ob ho137 flat_shProm hf91 hst165
 replace ho139 := ob ho139 flat_shEnt hf91 hst165
 replace hb155 := bb hb155 hst165
 clear hf91
 clear hf88 hf89 hf90 hb155
 revert A; refine go ?_; intro A H
 refine we H (op_b1 (mk_shStr (((exM ((d1, d2, d3)) ((pcW x97)) ((pcN x97))).2.1)) gf) H pos_shStr U25 ti9) ?_
 clear H A; rintro v171 w172 ⟨ho173, he174, hob175⟩ A H
 obtain ⟨hx177, _⟩ := nx hx168 he174
 replace hf86 := hf86.ext he174
 replace hf92 := hf92.ext pos_shStr he174
 replace hf87 := hf87.ext he174
 replace ho135 := ho135.ext he174
 replace ho137 := ho137.ext he174
 replace ho139 := ho139.ext he174
 replace hb166 := hb166.ext he174
 refine we H (op_ap (ts := #[]) H U25 ti9 pos_shStr hf87 (ho173.rds pos_shStr) flat_shStr) ?_
 clear H A; rintro v178 w179 ⟨ho180, hst181, hob182⟩ A H
 obtain ⟨hx184, _⟩ := no hx177 hf87 hst181
 replace hf86 := hf86.stp hst181 (by intro q hq; have hq0 := hf87.lt q hq; omega)
 replace hf92 := hf92.stp pos_shStr hst181 (by intro q hq; have hq0 := hf87.lt q hq; exact not_iv (by omega))
 replace ho135 := oo ho135 flat_shBin hf87 hst181
 replace ho137 := oo ho137 flat_shProm hf87 hst181
 replace ho139 := oo ho139 flat_shEnt hf87 hst181
 replace hb166 := hb166.stp hst181 (by intro q hq; have hq0 := hf87.lt q hq; omega)
 replace ho173 := ho173.stp hst181 (by intro q hq; have hq0 := hf87.lt q hq; omega)
 have hsp185 : ∀ q, Value.ownBlock v178 = some q → Value.ownBlock v171 ≠ some q := by intro q hq hb; have hq0 := ho173.lt q hb; rcases hob182 with h | h; (rw [h] at hq; first | (have hq1 := hf87.lt q hq; omega)); (rw [h] at hq; cases hq; omega)
 clear ho173
 revert A; refine go ?_; intro A H
 refine wv H ((op_add H rfl rfl rfl).int (IntWalk.i64_in _ (by omega))) ?_
 clear H A; refine go ?_; intro A H
 refine ⟨((i + 1), v178, (acc ++ [((exM ((d1, d2, d3)) ((pcW x97)) ((pcN x97))).2.1)]), u134, (((exM ((d1, d2, d3)) ((pcW x97)) ((pcN x97))).1).1), u136, (((exM ((d1, d2, d3)) ((pcW x97)) ((pcN x97))).1).2.1), u138, (((exM ((d1, d2, d3)) ((pcW x97)) ((pcN x97))).1).2.2)), ?_, ?_⟩
 refine ⟨(sl H), hx184, hf86, hf92, (fi ho180), (fi ho135), (fi ho137), (fi ho139), hb166, (by omega), (by omega), (by exact (ln_step hx97 hD hT (rn_ok (d := (d1, d2, d3)) c127 c162).1 (rn_ok (d := (d1, d2, d3)) c127 c162).2).1), (by exact (ln_step hx97 hD hT (rn_ok (d := (d1, d2, d3)) c127 c162).1 (rn_ok (d := (d1, d2, d3)) c127 c162).2).2), (by exact exM_desk hdk _ _), (by simp; omega), (by exact hl40), (by exact hlm)⟩
 show (lz.length - ((i + 1)) : Nat) < lz.length - i; omega
 rw [decide_eq_false c162] at H
 have hcbc162 : 0 ≤ (exM ((d1, d2, d3)) ((pcW x97)) ((pcN x97))).2.2 ∧ (exM ((d1, d2, d3)) ((pcW x97)) ((pcN x97))).2.2 ≤ 9 := exM_code _ _ _
 clear ho135 ho137 ho139 hb155
 revert A; refine go ?_; intro A H
 refine wc H cb61 (c_impl_decimal _ ((exM ((d1, d2, d3)) ((pcW x97)) ((pcN x97))).2.2 : Int) gf gf) ?_
 clear H A; rintro v191 w192 he193 rfl A H
 obtain ⟨hx195, _⟩ := nx hx157 he193
 replace hf86 := hf86.ext he193
 replace hf92 := hf92.ext pos_shStr he193
 replace hf87 := hf87.ext he193
 replace hf88 := hf88.ext he193
 replace hf89 := hf89.ext he193
 replace hf90 := hf90.ext he193
 replace hf91 := hf91.ext he193
 refine wv H (op_sadd H rfl rfl rfl (by exact es_l2 (by omega))) ?_
 clear H A; intro A H
 refine we H (op_b1 (mk_shStr ((([101, 114, 114, 111, 114, 32] : Str)) ++ ((decS ((exM ((d1, d2, d3)) ((pcW x97)) ((pcN x97))).2.2 : Int)))) gf) H pos_shStr U25 ti9) ?_
 clear H A; rintro v197 w198 ⟨ho199, he200, hob201⟩ A H
 obtain ⟨hx203, _⟩ := nx hx195 he200
 replace hf86 := hf86.ext he200
 replace hf92 := hf92.ext pos_shStr he200
 replace hf87 := hf87.ext he200
 replace hf88 := hf88.ext he200
 replace hf89 := hf89.ext he200
 replace hf90 := hf90.ext he200
 replace hf91 := hf91.ext he200
 refine we H (op_ap (ts := #[]) H U25 ti9 pos_shStr hf87 (ho199.rds pos_shStr) flat_shStr) ?_
 clear H A; rintro v204 w205 ⟨ho206, hst207, hob208⟩ A H
 obtain ⟨hx210, _⟩ := no hx203 hf87 hst207
 replace hf86 := hf86.stp hst207 (by intro q hq; have hq0 := hf87.lt q hq; omega)
 replace hf92 := hf92.stp pos_shStr hst207 (by intro q hq; have hq0 := hf87.lt q hq; exact not_iv (by omega))
 replace hf88 := oo hf88 flat_shBin hf87 hst207
 replace hf89 := oo hf89 flat_shProm hf87 hst207
 replace hf90 := oo hf90 flat_shEnt hf87 hst207
 replace hf91 := hf91.stp hst207 (by intro q hq; have hq0 := hf87.lt q hq; omega)
 replace ho199 := ho199.stp hst207 (by intro q hq; have hq0 := hf87.lt q hq; omega)
 have hsp211 : ∀ q, Value.ownBlock v204 = some q → Value.ownBlock v197 ≠ some q := by intro q hq hb; have hq0 := ho199.lt q hb; rcases hob208 with h | h; (rw [h] at hq; first | (have hq1 := hf87.lt q hq; omega)); (rw [h] at hq; cases hq; omega)
 clear ho199
 revert A; refine go ?_; intro A H
 refine wv H ((op_add H rfl rfl rfl).int (IntWalk.i64_in _ (by omega))) ?_
 clear H A; refine go ?_; intro A H
 refine ⟨((i + 1), v204, (acc ++ [(([101, 114, 114, 111, 114, 32] : Str)) ++ ((decS ((exM ((d1, d2, d3)) ((pcW x97)) ((pcN x97))).2.2 : Int)))]), v1, d1, v2, d2, v3, d3), ?_, ?_⟩
 refine ⟨(sl H), hx210, hf86, hf92, (fi ho206), (fi hf88), (fi hf89), (fi hf90), hf91, (by omega), (by omega), (by exact (ln_step hx97 hD hT (rn_err (d := (d1, d2, d3)) c127 c162).1 (rn_err (d := (d1, d2, d3)) c127 c162).2).1), (by exact (ln_step hx97 hD hT (rn_err (d := (d1, d2, d3)) c127 c162).1 (rn_err (d := (d1, d2, d3)) c127 c162).2).2), (by exact hdk), (by simp; omega), (by exact hl40), (by exact hlm)⟩
 show (lz.length - ((i + 1)) : Nat) < lz.length - i; omega
 rw [c127] at H
 clear ho113 ho115
 revert A; refine go ?_; intro A H
 refine wc H cb61 (c_impl_decimal _ (6 : Int) gf gf) ?_
 clear H A; rintro v216 w217 he218 rfl A H
 obtain ⟨hx220, _⟩ := nx hx117 he218
 replace hf86 := hf86.ext he218
 replace hf92 := hf92.ext pos_shStr he218
 replace hf87 := hf87.ext he218
 replace hf88 := hf88.ext he218
 replace hf89 := hf89.ext he218
 replace hf90 := hf90.ext he218
 replace hf91 := hf91.ext he218
 refine wv H (op_sadd H rfl rfl rfl (by exact es_l2 (by omega))) ?_
 clear H A; intro A H
 refine we H (op_b1 (mk_shStr ((([101, 114, 114, 111, 114, 32] : Str)) ++ ((decS (6 : Int)))) gf) H pos_shStr U25 ti9) ?_
 clear H A; rintro v222 w223 ⟨ho224, he225, hob226⟩ A H
 obtain ⟨hx228, _⟩ := nx hx220 he225
 replace hf86 := hf86.ext he225
 replace hf92 := hf92.ext pos_shStr he225
 replace hf87 := hf87.ext he225
 replace hf88 := hf88.ext he225
 replace hf89 := hf89.ext he225
 replace hf90 := hf90.ext he225
 replace hf91 := hf91.ext he225
 refine we H (op_ap (ts := #[]) H U25 ti9 pos_shStr hf87 (ho224.rds pos_shStr) flat_shStr) ?_
 clear H A; rintro v229 w230 ⟨ho231, hst232, hob233⟩ A H
 obtain ⟨hx235, _⟩ := no hx228 hf87 hst232
 replace hf86 := hf86.stp hst232 (by intro q hq; have hq0 := hf87.lt q hq; omega)
 replace hf92 := hf92.stp pos_shStr hst232 (by intro q hq; have hq0 := hf87.lt q hq; exact not_iv (by omega))
 replace hf88 := oo hf88 flat_shBin hf87 hst232
 replace hf89 := oo hf89 flat_shProm hf87 hst232
 replace hf90 := oo hf90 flat_shEnt hf87 hst232
 replace hf91 := hf91.stp hst232 (by intro q hq; have hq0 := hf87.lt q hq; omega)
 replace ho224 := ho224.stp hst232 (by intro q hq; have hq0 := hf87.lt q hq; omega)
 have hsp236 : ∀ q, Value.ownBlock v229 = some q → Value.ownBlock v222 ≠ some q := by intro q hq hb; have hq0 := ho224.lt q hb; rcases hob233 with h | h; (rw [h] at hq; first | (have hq1 := hf87.lt q hq; omega)); (rw [h] at hq; cases hq; omega)
 clear ho224
 revert A; refine go ?_; intro A H
 refine wv H ((op_add H rfl rfl rfl).int (IntWalk.i64_in _ (by omega))) ?_
 clear H A; refine go ?_; intro A H
 refine ⟨((i + 1), v229, (acc ++ [(([101, 114, 114, 111, 114, 32] : Str)) ++ ((decS (6 : Int)))]), v1, d1, v2, d2, v3, d3), ?_, ?_⟩
 refine ⟨(sl H), hx235, hf86, hf92, (fi ho231), (fi hf88), (fi hf89), (fi hf90), hf91, (by omega), (by omega), (by exact (ln_step hx97 hD hT (rn_no (d := (d1, d2, d3)) c127).1 (rn_no (d := (d1, d2, d3)) c127).2).1), (by exact (ln_step hx97 hD hT (rn_no (d := (d1, d2, d3)) c127).1 (rn_no (d := (d1, d2, d3)) c127).2).2), (by exact hdk), (by simp; omega), (by exact hl40), (by exact hlm)⟩
 show (lz.length - ((i + 1)) : Nat) < lz.length - i; omega
 rw [decide_eq_false c96] at H
 revert A; refine go ?_; intro A H
 clear hf92
 refine dre (fun wa_ wb_ => Stp wa_ wb_ (some w0.heap.size)) follows_mixed ?_
 intro w240 he241 hs243
 obtain ⟨hx242, _⟩ := nx hx85 he241
 replace hf86 := hf86.ext he241
 replace hf87 := hf87.ext he241
 replace hf88 := hf88.ext he241
 replace hf89 := hf89.ext he241
 replace hf90 := hf90.ext he241
 replace hf91 := hf91.ext he241
 refine dw 0 H rfl (Stp.of_ext hs243 _) (op_move H rfl rfl) ?_
 clear H A; intro A H
 refine dv 1 H rfl (Stp.of_ext hs243 _) (fun w' hw' => ls H U34 ti34 (hf91.stp hw' (by intro q hq; cases hq; omega)).cells) ?_
 clear H A; intro A H
 refine dw 2 H rfl (Stp.of_ext hs243 _) (op_assign H rfl rfl) ?_
 clear H A; intro A H
 refine dr_one (i := 3) (by kernel_rfl) ?_
 replace hf86 := hf86.ext hs243
 replace hf87 := hf87.ext hs243
 replace hf88 := hf88.ext hs243
 replace hf89 := hf89.ext hs243
 replace hf90 := hf90.ext hs243
 replace hf91 := hf91.ext hs243
 refine po_effS H rfl rfl rfl (op_storeAll' H rfl ti34 rfl rfl hf86 rfl rfl (o1 hf88.one (o1 hf89.one (o1 hf90.one o0))) rfl) ?_
 rintro w247 ⟨hb249, hst248, hz250⟩
 have hs251 := (Stp.of_ext hs243 (some w0.heap.size)).trans' hst248
 obtain ⟨hx252, _⟩ := nb hx242 hst248
 replace hf87 := hf87.stp hst248 (by intro q hq; cases hq; omega)
 replace hf88 := ob hf88 flat_shBin hf86 hst248
 replace hf89 := ob hf89 flat_shProm hf86 hst248
 replace hf90 := ob hf90 flat_shEnt hf86 hst248
 replace hf91 := bb hf91 hst248
 clear hf86
 refine ⟨hs251, ?_⟩
 refine drs hs251 ?_
 intro hs253
 refine dw 4 H rfl (Stp.of_ext hs253 _) (op_assign H rfl rfl) ?_
 clear H A; intro A H
 refine dr_end (by kernel_rfl) ?_
 revert A; refine go ?_; intro A H
 refine ret_tct H rfl rfl rfl U34 ti34 rfl hb249.cells rfl ?_
 clear H A
 rw [drop_nil (by omega), lnD] at hD
 rw [drop_nil (by omega), lnT, List.append_nil] at hT
 have hf : fitB text = true := fit_yes ht15 (by rw [← hls]; exact hl40)
 exact ret_mk hx252 ⟨vo, v1, v2, v3, (tup3_eq rfl (by rfl) (int_eq (by unfold rcC; rw [hf, if_pos rfl]))), ((fi hf87).cast (by unfold rcL; rw [hf, if_pos rfl, ← hls]; exact hT)), ((fi hf88).cast (by unfold rcD; rw [hf, if_pos rfl, ← hls, ← hD])), ((fi hf89).cast (by unfold rcD; rw [hf, if_pos rfl, ← hls, ← hD])), ((fi hf90).cast (by unfold rcD; rw [hf, if_pos rfl, ← hls, ← hD]))⟩



theorem c_impl_RunConsole (w0 : World) (text : Str) (g0 : text.length ≤ 1048576) :
    Calls Tryz.prog 9 #[St text] w0 (Ret w0 (fun v w1 => ∃ r0, v = .tuple #[r0, .int .i64 (rcC text)] ∧ Own shStr 9 w0.heap.size w0.heap.size w1.heap.size w1 r0 (rcL text))) := by
 refine enter (N := 15) Tryz.func9 rfl rfl rfl ?_
 intro A H
 have hx0 := Ext.rfl' w0
 revert A; refine go ?_; intro A H
 refine wc H cb32 (c_impl_runLines _ text gf) ?_
 clear H A; rintro v4 w5 he6 ⟨u7, u9, u11, u13, rfl, ho8, ho10, ho12, ho14⟩ A H
 obtain ⟨hx16, _⟩ := nx hx0 he6
 revert A; refine go ?_; intro A H
 refine we H (op_alloc' rfl ti34 rfl) ?_
 clear H A; rintro _ w22 ⟨rfl, he23, hb24, hz25⟩ A H
 obtain ⟨hx27, _⟩ := nx hx16 he23
 replace ho8 := ho8.ext he23
 replace ho10 := ho10.ext he23
 replace ho12 := ho12.ext he23
 replace ho14 := ho14.ext he23
 refine wv H (op_assign H rfl rfl) ?_
 clear H A; intro A H
 refine ws H (op_storeAll' H rfl ti34 rfl rfl hb24 rfl rfl (o1 ho10.one (o1 ho12.one (o1 ho14.one o0))) rfl) ?_
 rintro w29 ⟨hb31, hst30, hz32⟩
 obtain ⟨hx33, _⟩ := nb hx27 hst30
 replace ho8 := ho8.stp hst30 (by intro q hq; cases hq; omega)
 replace ho10 := ho10.stp hst30 (by intro q hq; cases hq; omega)
 replace ho12 := ho12.stp hst30 (by intro q hq; cases hq; omega)
 replace ho14 := ho14.stp hst30 (by intro q hq; cases hq; omega)
 clear hb24
 clear ho10 ho12 ho14 hb31
 revert A; refine go ?_; intro A H
 refine ret2 H rfl rfl rfl ?_
 clear H A
 refine ret_mk hx33 ⟨u7, (tup2_eq rfl (int_eq (by rfl))), ?_⟩
 refine (fi ho8).cast ?_
 rfl



theorem c_impl_DeskAfter (w0 : World) (text : Str) (g0 : text.length ≤ 1048576) :
    Calls Tryz.prog 16 #[St text] w0 (Ret w0 (fun v w1 => ∃ r0_0 r0_1 r0_2, v = .tuple #[.agg #[r0_0, r0_1, r0_2], .int .i64 (rcC text)] ∧ Own shBin 65 w0.heap.size w0.heap.size w1.heap.size w1 r0_0 ((rcD text).1) ∧ Own shProm 67 w0.heap.size w0.heap.size w1.heap.size w1 r0_1 ((rcD text).2.1) ∧ Own shEnt 69 w0.heap.size w0.heap.size w1.heap.size w1 r0_2 ((rcD text).2.2))) := by
 refine enter (N := 15) Tryz.func16 rfl rfl rfl ?_
 intro A H
 have hx0 := Ext.rfl' w0
 revert A; refine go ?_; intro A H
 refine we H (op_alloc' rfl ti34 rfl) ?_
 clear H A; rintro _ w2 ⟨rfl, he3, hb4, hz5⟩ A H
 obtain ⟨hx7, _⟩ := nx hx0 he3
 revert A; refine go ?_; intro A H
 refine wc H cb32 (c_impl_runLines _ text gf) ?_
 clear H A; rintro v10 w11 he12 ⟨u13, u15, u17, u19, rfl, ho14, ho16, ho18, ho20⟩ A H
 obtain ⟨hx22, _⟩ := nx hx7 he12
 replace hb4 := hb4.ext he12
 revert A; refine go ?_; intro A H
 refine we H (op_alloc' rfl ti34 rfl) ?_
 clear H A; rintro _ w28 ⟨rfl, he29, hb30, hz31⟩ A H
 obtain ⟨hx33, _⟩ := nx hx22 he29
 replace hb4 := hb4.ext he29
 replace ho14 := ho14.ext he29
 replace ho16 := ho16.ext he29
 replace ho18 := ho18.ext he29
 replace ho20 := ho20.ext he29
 refine wv H (op_assign H rfl rfl) ?_
 clear H A; intro A H
 refine ws H (op_storeAll' H rfl ti34 rfl rfl hb30 rfl rfl (o1 ho16.one (o1 ho18.one (o1 ho20.one o0))) rfl) ?_
 rintro w35 ⟨hb37, hst36, hz38⟩
 obtain ⟨hx39, _⟩ := nb hx33 hst36
 replace hb4 := bb hb4 hst36
 replace ho14 := ho14.stp hst36 (by intro q hq; cases hq; omega)
 replace ho16 := ho16.stp hst36 (by intro q hq; cases hq; omega)
 replace ho18 := ho18.stp hst36 (by intro q hq; cases hq; omega)
 replace ho20 := ho20.stp hst36 (by intro q hq; cases hq; omega)
 clear hb30
 clear ho14
 revert A; refine go ?_; intro A H
 refine wv H (ls H U34 ti34 hb37.cells) ?_
 clear H A; intro A H
 refine wv H (op_move H rfl rfl) ?_
 clear H A; intro A H
 refine ws H (op_storeAll' H rfl ti34 rfl rfl hb4 rfl rfl (o1 ho16.one (o1 ho18.one (o1 ho20.one o0))) rfl) ?_
 rintro w43 ⟨hb45, hst44, hz46⟩
 obtain ⟨hx47, _⟩ := nb hx39 hst44
 replace ho16 := ho16.stp hst44 (by intro q hq; cases hq; omega)
 replace ho18 := ho18.stp hst44 (by intro q hq; cases hq; omega)
 replace ho20 := ho20.stp hst44 (by intro q hq; cases hq; omega)
 replace hb37 := bb hb37 hst44
 clear hb4
 revert A; refine go ?_; intro A H
 refine retct H rfl rfl rfl U34 ti34 rfl hb45.cells ?_
 clear H A
 exact ret_mk hx47 ⟨u15, u17, u19, (tup2_eq (by rfl) (int_eq (by rfl))), ((fi ho16).cast (by rfl)), ((fi ho18).cast (by rfl)), ((fi ho20).cast (by rfl))⟩




end Go.Proofs.YthbehhhblchhhaaGreat
