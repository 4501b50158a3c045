/- Commands. -/
import Derived.Test.YthbehhhblchhhaaGreatK1
namespace Go.Proofs.YthbehhhblchhhaaGreat
open Go Go.RowKit
set_option maxHeartbeats 16000000

theorem c_impl_commandOf (w0 : World) (line : Str) (g0 : line.length ≤ 1048576) :
    Calls Tryz.prog 39 #[St line] w0 (Ret w0 (fun v w1 => ∃ r0 r1, v = .tuple #[r0, r1, .bool ((pcO line).isSome)] ∧ Own shStr 9 w0.heap.size w0.heap.size w1.heap.size w1 r0 (pcW line) ∧ Own shI64 2 w0.heap.size w0.heap.size w1.heap.size w1 r1 (pcN line))) := by
 refine enter (N := 69) Tryz.func39 rfl rfl rfl ?_
 intro A H
 have hx0 := Ext.rfl' w0
 have hsp := spl_pos 32 line []
 have hsl := spl_len 32 line []
 revert A; refine go ?_; intro A H
 refine wc H cb60 (c_impl_splitAt _ line (32 : UInt8) (by assumption)) ?_
 clear H A; rintro v5 w6 he7 ho8 A H
 obtain ⟨hx10, _⟩ := nx hx0 he7
 revert A; refine go ?_; intro A H
 obtain ⟨x13, hx13⟩ := get_ex (xs := (spl (32 : UInt8) [] line)) (j := 0) (by omega)
 obtain ⟨p14, hi16, hc17, b20, _, _⟩ := at_shStr (ho8.rds pos_shStr) hx13
 have hrbx13 := rdV_bd x13
 have hlbx13 := l01V_bd x13
 have hk1x13 := kdL_len x13
 have hk2x13 := kdS_len 116 105 x13
 have hk3x13 := kdP_len x13
 refine wv H (ix H U25 ti9 hi16) ?_
 clear H A; intro A H
 refine wv H (lh H U9 hc17) ?_
 clear H A; intro A H
 refine wc H cb68 (c_impl_commandShape _ x13 ) ?_
 clear H A; rintro v23 w24 he25 rfl A H
 obtain ⟨hx27, _⟩ := nx hx10 he25
 replace ho8 := ho8.ext he25
 replace hc17 := hc17.ext he25
 revert A; refine go ?_; intro A H
 rcases Bool.eq_false_or_eq_true ((kdO x13).isSome) with c36 | c36
 rw [c36] at H
 refine wv H (op_move H rfl rfl) ?_
 clear H A; intro A H
 refine wv H (ln H U25 (ho8.rds pos_shStr)) ?_
 clear H A; intro A H
 refine wv H (op_move H rfl rfl) ?_
 clear H A; intro A H
 refine wv H (op_len_str H rfl U9 rfl) ?_
 clear H A; intro A H
 refine wv H ((op_add H rfl rfl rfl).int (IntWalk.i64_in _ (by omega))) ?_
 clear H A; refine go ?_; intro A H
 by_cases c44 : ((((spl (32 : UInt8) [] line)).length : Nat) : Int) = (((((kdS 116 105 x13)).length : Nat) : Int) + (1 : Int))
 rw [decide_eq_true c44] at H
 revert A; refine go ?_; intro A H
 refine loop_inv (X := Nat × Value × (List Int)) (fun ⟨i, v, acc⟩ fr wl => Sl 69 fr [(5, v5), (6, St ((kdS 116 105 x13))), (8, v), (9, .int .i64 ((i : Nat) : Int))] ∧ Ext w0 wl ∧ Own shStr 9 w0.heap.size w0.heap.size w6.heap.size wl v5 ((spl (32 : UInt8) [] line)) ∧ Own shI64 2 w24.heap.size w24.heap.size wl.heap.size wl v acc ∧ w24.heap.size ≤ wl.heap.size ∧ (i ≤ (kdL x13).length) ∧ (acc.length ≤ i) ∧ ((nmO ((kdL x13).drop i) ((spl 32 [] line).drop (i + 1))).map (acc ++ ·) = pcO line) ∧ (((kdS 116 105 x13)).length = (kdL x13).length) ∧ ((spl 32 [] line).length = (kdL x13).length + 1) ∧ ((kdL x13).length ≤ 3)) (fun ⟨i, v, acc⟩ => (kdL x13).length - i) (0, (.slice none 0 0), []) ?_ ?_
 exact ⟨(sl H), hx27, ho8, (Own.nil _ _ _ _ _ _), (by omega), (by omega), (by exact Nat.zero_le _), (by rw [pcO_go hx13 c36 (by have h9 := kdS_len 116 105 x13; omega)]; simp), (by exact kdS_len _ _ _), (by have h9 := kdS_len 116 105 x13; omega), (by exact kdL_len _)⟩
 clear H A
 rintro ⟨i, v, acc⟩ A w47 ⟨H, hx48, hf49, hf50, hzl52, hi, hl, hF, hk1, hk2, hk3⟩
 have hzhx48 := hx48.size
 revert A; refine go ?_; intro A H
 refine wv H (op_len_str H rfl U9 rfl) ?_
 clear H A; refine go ?_; intro A H
 by_cases c57 : ((i : Nat) : Int) < ((((kdS 116 105 x13)).length : Nat) : Int)
 rw [decide_eq_true c57] at H
 revert A; refine go ?_; intro A H
 obtain ⟨b60, hb60⟩ := get_ex (xs := (kdS 116 105 x13)) (j := i) (by omega)
 have b60_lt := b60.toNat_lt
 refine wv H (op_index_str H rfl U9 rfl rfl (by omega) hb60) ?_
 clear H A; refine go ?_; intro A H
 by_cases c63 : (b60.toNat : Int) = (116 : Int)
 rw [decide_eq_true c63] at H
 revert A; refine go ?_; intro A H
 refine wv H ((op_add H rfl rfl rfl).int (IntWalk.i64_in _ (by omega))) ?_
 clear H A; refine go ?_; intro A H
 refine ⟨((i + 1), v, acc), ?_, ?_⟩
 refine ⟨(sl H), hx48, hf49, (fi hf50), (by omega), (by omega), (by omega), (by obtain ⟨wz, hwz⟩ := get_ex (xs := spl 32 [] line) (j := i + 1) (by omega); rw [nmO_t (kd_t (t := 116) (i := 105) (by decide) hb60 c63) hwz] at hF; exact hF), (by exact hk1), (by exact hk2), (by exact hk3)⟩
 show ((kdL x13).length - ((i + 1)) : Nat) < (kdL x13).length - i; omega
 rw [decide_eq_false c63] at H
 revert A; refine go ?_; intro A H
 refine wv H ((op_add H rfl rfl rfl).int (IntWalk.i64_in _ (by omega))) ?_
 clear H A; intro A H
 obtain ⟨x70, hx70⟩ := get_ex (xs := (spl (32 : UInt8) [] line)) (j := (i + 1)) (by omega)
 obtain ⟨p71, hi73, hc74, b77, _, _⟩ := at_shStr (hf49.rds pos_shStr) hx70
 have hrbx70 := rdV_bd x70
 have hlbx70 := l01V_bd x70
 have hk1x70 := kdL_len x70
 have hk2x70 := kdS_len 116 105 x70
 have hk3x70 := kdP_len x70
 refine wv H (ix H U25 ti9 hi73) ?_
 clear H A; intro A H
 refine wv H (lh H U9 hc74) ?_
 clear H A; refine go ?_; intro A H
 refine wc H cb69 (c_impl_readDecimal _ x70 (by assumption)) ?_
 clear H A; rintro v82 w83 he84 rfl A H
 obtain ⟨hx86, _⟩ := nx hx48 he84
 replace hf49 := hf49.ext he84
 replace hf50 := hf50.ext he84
 replace hc74 := hc74.ext he84
 revert A; refine go ?_; intro A H
 rcases Bool.eq_false_or_eq_true ((rdV x70).2) with c95 | c95
 rw [c95] at H
 revert A; refine go ?_; intro A H
 by_cases c100 : ((rdV x70).1 : Int) < (0 : Int)
 rw [decide_eq_true c100] at H
 revert A; refine go ?_; intro A H
 refine ret3 H rfl rfl rfl rfl ?_
 clear H A
 rw [nmO_x (kd_i (t := 116) (i := 105) hb60 c63) hx70 (l01V_no (by right; left; assumption))] at hF
 have hr : pcO line = none := hF.symm
 refine ret_mk hx86 ⟨.slice none 0 0, .slice none 0 0, (tup3_eq rfl rfl (congrArg Value.bool (by rw [hr]; rfl))), ?_, ?_⟩
 refine Own.nil_ _ _ _ _ _ _ ?_
 exact (pcO_nn hr).1.symm
 refine Own.nil_ _ _ _ _ _ _ ?_
 exact (pcO_nn hr).2.symm
 rw [decide_eq_false c100] at H
 refine wv H (op_move H rfl rfl) ?_
 clear H A; intro A H
 refine wv H (op_len_str H rfl U9 rfl) ?_
 clear H A; refine go ?_; intro A H
 by_cases c112 : (13 : Int) < ((x70.length : Nat) : Int)
 rw [decide_eq_true c112] at H
 revert A; refine go ?_; intro A H
 refine ret3 H rfl rfl rfl rfl ?_
 clear H A
 rw [nmO_x (kd_i (t := 116) (i := 105) hb60 c63) hx70 (l01V_no (by right; right; omega))] at hF
 have hr : pcO line = none := hF.symm
 refine ret_mk hx86 ⟨.slice none 0 0, .slice none 0 0, (tup3_eq rfl rfl (congrArg Value.bool (by rw [hr]; rfl))), ?_, ?_⟩
 refine Own.nil_ _ _ _ _ _ _ ?_
 exact (pcO_nn hr).1.symm
 refine Own.nil_ _ _ _ _ _ _ ?_
 exact (pcO_nn hr).2.symm
 rw [decide_eq_false c112] at H
 revert A; refine go ?_; intro A H
 refine we H (op_b1 (mk_shI64 (((rdV x70).1 : Int)) (by omega)) H pos_shI64 U55 ti2) ?_
 clear H A; rintro v118 w119 ⟨ho120, he121, hob122⟩ A H
 obtain ⟨hx124, _⟩ := nx hx86 he121
 replace hf49 := hf49.ext he121
 replace hf50 := hf50.ext he121
 replace hc74 := hc74.ext he121
 refine we H (op_ap (ts := #[]) H U55 ti2 pos_shI64 hf50 (ho120.rds pos_shI64) flat_shI64) ?_
 clear H A; rintro v125 w126 ⟨ho127, hst128, hob129⟩ A H
 obtain ⟨hx131, _⟩ := no hx124 hf50 hst128
 replace hf49 := hf49.stp hst128 (by intro q hq; have hq0 := hf50.lt q hq; omega)
 replace ho120 := ho120.stp hst128 (by intro q hq; have hq0 := hf50.lt q hq; omega)
 have hsp132 : ∀ q, Value.ownBlock v125 = some q → Value.ownBlock v118 ≠ some q := by intro q hq hb; have hq0 := ho120.lt q hb; rcases hob129 with h | h; (rw [h] at hq; first | (have hq1 := hf50.lt q hq; omega)); (rw [h] at hq; cases hq; omega)
 revert A; refine go ?_; intro A H
 refine wv H ((op_add H rfl rfl rfl).int (IntWalk.i64_in _ (by omega))) ?_
 clear H A; refine go ?_; intro A H
 refine ⟨((i + 1), v125, (acc ++ [((rdV x70).1 : Int)])), ?_, ?_⟩
 refine ⟨(sl H), hx131, hf49, (fi ho127), (by omega), (by omega), (by simp; omega), (by rw [nmO_f (kd_i (t := 116) (i := 105) hb60 c63) hx70 ((l01V_yes (by assumption) (by omega) (by omega)).1), map_app, (l01V_yes (by assumption) (by omega) (by omega)).2] at hF; exact hF), (by exact hk1), (by exact hk2), (by exact hk3)⟩
 show ((kdL x13).length - ((i + 1)) : Nat) < (kdL x13).length - i; omega
 rw [c95] at H
 revert A; refine go ?_; intro A H
 refine ret3 H rfl rfl rfl rfl ?_
 clear H A
 rw [nmO_x (kd_i (t := 116) (i := 105) hb60 c63) hx70 (l01V_no (by left; assumption))] at hF
 have hr : pcO line = none := hF.symm
 refine ret_mk hx86 ⟨.slice none 0 0, .slice none 0 0, (tup3_eq rfl rfl (congrArg Value.bool (by rw [hr]; rfl))), ?_, ?_⟩
 refine Own.nil_ _ _ _ _ _ _ ?_
 exact (pcO_nn hr).1.symm
 refine Own.nil_ _ _ _ _ _ _ ?_
 exact (pcO_nn hr).2.symm
 rw [decide_eq_false c57] at H
 revert A; refine go ?_; intro A H
 refine ret3 H rfl rfl rfl rfl ?_
 clear H A
 rw [drop_nil (xs := kdL x13) (by omega), nmO] at hF
 have hr : pcO line = some acc := by rw [← hF]; simp
 refine ret_mk hx48 ⟨v5, v, (tup3_eq rfl rfl (congrArg Value.bool (by rw [hr]; rfl))), ?_, ?_⟩
 refine (fi hf49).cast ?_
 exact (pcO_sm hr).1.symm
 refine (fi hf50).cast ?_
 exact (pcO_sm hr).2.symm
 rw [decide_eq_false c44] at H
 revert A; refine go ?_; intro A H
 refine ret3 H rfl rfl rfl rfl ?_
 clear H A
 have hr : pcO line = none := pcO_no hx13 (.inr (by have h9 := kdS_len 116 105 x13; omega))
 refine ret_mk hx27 ⟨.slice none 0 0, .slice none 0 0, (tup3_eq rfl rfl (congrArg Value.bool (by rw [hr]; rfl))), ?_, ?_⟩
 refine Own.nil_ _ _ _ _ _ _ ?_
 exact (pcO_nn hr).1.symm
 refine Own.nil_ _ _ _ _ _ _ ?_
 exact (pcO_nn hr).2.symm
 rw [c36] at H
 revert A; refine go ?_; intro A H
 refine ret3 H rfl rfl rfl rfl ?_
 clear H A
 have hr : pcO line = none := pcO_no hx13 (.inl (by simpa using c36))
 refine ret_mk hx27 ⟨.slice none 0 0, .slice none 0 0, (tup3_eq rfl rfl (congrArg Value.bool (by rw [hr]; rfl))), ?_, ?_⟩
 refine Own.nil_ _ _ _ _ _ _ ?_
 exact (pcO_nn hr).1.symm
 refine Own.nil_ _ _ _ _ _ _ ?_
 exact (pcO_nn hr).2.symm



theorem c_spec_l34Parse (w0 : World) (line : Str) (g0 : line.length ≤ 1048576) :
    Calls Tryz.prog 40 #[St line] w0 (Ret w0 (fun v w1 => ∃ r0 r1, v = .tuple #[r0, r1, .bool ((pcO line).isSome)] ∧ Own shStr 9 w0.heap.size w0.heap.size w1.heap.size w1 r0 (pcW line) ∧ Own shI64 2 w0.heap.size w0.heap.size w1.heap.size w1 r1 (pcN line))) := by
 refine enter (N := 55) Tryz.func40 rfl rfl rfl ?_
 intro A H
 have hx0 := Ext.rfl' w0
 have hsp := spl_pos 32 line []
 have hsl := spl_len 32 line []
 revert A; refine go ?_; intro A H
 refine wc H cb65 (c_spec_l01Split _ line (32 : UInt8) (by assumption)) ?_
 clear H A; rintro v5 w6 he7 ho8 A H
 obtain ⟨hx10, _⟩ := nx hx0 he7
 revert A; refine go ?_; intro A H
 obtain ⟨x13, hx13⟩ := get_ex (xs := (spl (32 : UInt8) [] line)) (j := 0) (by omega)
 obtain ⟨p14, hi16, hc17, b20, _, _⟩ := at_shStr (ho8.rds pos_shStr) hx13
 have hrbx13 := rdV_bd x13
 have hlbx13 := l01V_bd x13
 have hk1x13 := kdL_len x13
 have hk2x13 := kdS_len 116 105 x13
 have hk3x13 := kdP_len x13
 refine wv H (ix H U25 ti9 hi16) ?_
 clear H A; intro A H
 refine wv H (lh H U9 hc17) ?_
 clear H A; intro A H
 refine wc H cb70 (c_spec_l34Kind _ x13 ) ?_
 clear H A; rintro v23 w24 he25 rfl A H
 obtain ⟨hx27, _⟩ := nx hx10 he25
 replace ho8 := ho8.ext he25
 replace hc17 := hc17.ext he25
 revert A; refine go ?_; intro A H
 by_cases c32 : (kdP x13) = ([45] : Str)
 rw [decide_eq_true c32] at H
 revert A; refine go ?_; intro A H
 refine ret3 H rfl rfl rfl rfl ?_
 clear H A
 have hr : pcO line = none := pcO_no hx13 (.inl (kdP_no c32))
 refine ret_mk hx27 ⟨.slice none 0 0, .slice none 0 0, (tup3_eq rfl rfl (congrArg Value.bool (by rw [hr]; rfl))), ?_, ?_⟩
 refine Own.nil_ _ _ _ _ _ _ ?_
 exact (pcO_nn hr).1.symm
 refine Own.nil_ _ _ _ _ _ _ ?_
 exact (pcO_nn hr).2.symm
 rw [decide_eq_false c32] at H
 refine wv H (op_move H rfl rfl) ?_
 clear H A; intro A H
 refine wv H (ln H U25 (ho8.rds pos_shStr)) ?_
 clear H A; intro A H
 refine wv H (op_move H rfl rfl) ?_
 clear H A; intro A H
 refine wv H (op_len_str H rfl U9 rfl) ?_
 clear H A; intro A H
 refine wv H ((op_add H rfl rfl rfl).int (IntWalk.i64_in _ (by omega))) ?_
 clear H A; refine go ?_; intro A H
 by_cases c50 : ((((spl (32 : UInt8) [] line)).length : Nat) : Int) = (((((kdP x13)).length : Nat) : Int) + (1 : Int))
 rw [decide_eq_true c50] at H
 revert A; refine go ?_; intro A H
 refine we H (op_b0 H pos_shI64 U55 ti2) ?_
 clear H A; rintro v51 w52 ⟨ho53, he54, hob55⟩ A H
 obtain ⟨hx57, _⟩ := nx hx27 he54
 replace ho8 := ho8.ext he54
 replace hc17 := hc17.ext he54
 revert A; refine go ?_; intro A H
 refine loop_inv (X := Nat × Value × (List Int)) (fun ⟨i, v, acc⟩ fr wl => Sl 55 fr [(5, v5), (6, St ((kdP x13))), (7, v), (8, .int .i64 ((i : Nat) : Int))] ∧ Ext w0 wl ∧ Own shStr 9 w0.heap.size w0.heap.size w6.heap.size wl v5 ((spl (32 : UInt8) [] line)) ∧ Own shI64 2 w24.heap.size w24.heap.size wl.heap.size wl v acc ∧ w52.heap.size ≤ wl.heap.size ∧ (i ≤ (kdL x13).length) ∧ (acc.length ≤ i) ∧ ((nmO ((kdL x13).drop i) ((spl 32 [] line).drop (i + 1))).map (acc ++ ·) = pcO line) ∧ (((kdP x13)).length = (kdL x13).length) ∧ ((spl 32 [] line).length = (kdL x13).length + 1) ∧ ((kdL x13).length ≤ 3)) (fun ⟨i, v, acc⟩ => (kdL x13).length - i) (0, v51, ([] : List Int)) ?_ ?_
 exact ⟨(sl H), hx57, ho8, (fi ho53), (by omega), (by omega), (by exact Nat.zero_le _), (by rw [pcO_go hx13 (kdP_ok c32).1 (by have h9 := kdS_len 84 73 x13; rw [← (kdP_ok c32).2] at h9; omega)]; simp), (by rw [(kdP_ok c32).2]; exact kdS_len _ _ _), (by have h9 := kdS_len 84 73 x13; rw [← (kdP_ok c32).2] at h9; omega), (by exact kdL_len _)⟩
 clear H A
 rintro ⟨i, v, acc⟩ A w60 ⟨H, hx61, hf62, hf63, hzl65, hi, hl, hF, hk1, hk2, hk3⟩
 have hzhx61 := hx61.size
 revert A; refine go ?_; intro A H
 refine wv H (op_len_str H rfl U9 rfl) ?_
 clear H A; refine go ?_; intro A H
 by_cases c70 : ((i : Nat) : Int) < ((((kdP x13)).length : Nat) : Int)
 rw [decide_eq_true c70] at H
 revert A; refine go ?_; intro A H
 obtain ⟨b73, hb73⟩ := get_ex (xs := (kdP x13)) (j := i) (by omega)
 have b73_lt := b73.toNat_lt
 refine wv H (op_index_str H rfl U9 rfl rfl (by omega) hb73) ?_
 clear H A; refine go ?_; intro A H
 by_cases c76 : (b73.toNat : Int) = (84 : Int)
 rw [decide_eq_true c76] at H
 revert A; refine go ?_; intro A H
 refine wv H ((op_add H rfl rfl rfl).int (IntWalk.i64_in _ (by omega))) ?_
 clear H A; refine go ?_; intro A H
 refine ⟨((i + 1), v, acc), ?_, ?_⟩
 refine ⟨(sl H), hx61, hf62, (fi hf63), (by omega), (by omega), (by omega), (by obtain ⟨wz, hwz⟩ := get_ex (xs := spl 32 [] line) (j := i + 1) (by omega); rw [nmO_t (kd_t (t := 84) (i := 73) (by decide) ((kdP_ok c32).2 ▸ hb73) c76) hwz] at hF; exact hF), (by exact hk1), (by exact hk2), (by exact hk3)⟩
 show ((kdL x13).length - ((i + 1)) : Nat) < (kdL x13).length - i; omega
 rw [decide_eq_false c76] at H
 revert A; refine go ?_; intro A H
 refine wv H ((op_add H rfl rfl rfl).int (IntWalk.i64_in _ (by omega))) ?_
 clear H A; intro A H
 obtain ⟨x83, hx83⟩ := get_ex (xs := (spl (32 : UInt8) [] line)) (j := (i + 1)) (by omega)
 obtain ⟨p84, hi86, hc87, b90, _, _⟩ := at_shStr (hf62.rds pos_shStr) hx83
 have hrbx83 := rdV_bd x83
 have hlbx83 := l01V_bd x83
 have hk1x83 := kdL_len x83
 have hk2x83 := kdS_len 116 105 x83
 have hk3x83 := kdP_len x83
 refine wv H (ix H U25 ti9 hi86) ?_
 clear H A; intro A H
 refine wv H (lh H U9 hc87) ?_
 clear H A; intro A H
 refine wc H cb71 (c_spec_l01Value _ x83 ) ?_
 clear H A; rintro v93 w94 he95 rfl A H
 obtain ⟨hx97, _⟩ := nx hx61 he95
 replace hf62 := hf62.ext he95
 replace hf63 := hf63.ext he95
 replace hc87 := hc87.ext he95
 revert A; refine go ?_; intro A H
 rcases Bool.eq_false_or_eq_true ((l01V x83).2) with c105 | c105
 rw [c105] at H
 revert A; refine go ?_; intro A H
 refine we H (op_b1 (mk_shI64 (((l01V x83).1 : Int)) (by omega)) H pos_shI64 U55 ti2) ?_
 clear H A; rintro v108 w109 ⟨ho110, he111, hob112⟩ A H
 obtain ⟨hx114, _⟩ := nx hx97 he111
 replace hf62 := hf62.ext he111
 replace hf63 := hf63.ext he111
 replace hc87 := hc87.ext he111
 refine we H (op_ap (ts := #[]) H U55 ti2 pos_shI64 hf63 (ho110.rds pos_shI64) flat_shI64) ?_
 clear H A; rintro v115 w116 ⟨ho117, hst118, hob119⟩ A H
 obtain ⟨hx121, _⟩ := no hx114 hf63 hst118
 replace hf62 := hf62.stp hst118 (by intro q hq; have hq0 := hf63.lt q hq; omega)
 replace ho110 := ho110.stp hst118 (by intro q hq; have hq0 := hf63.lt q hq; omega)
 have hsp122 : ∀ q, Value.ownBlock v115 = some q → Value.ownBlock v108 ≠ some q := by intro q hq hb; have hq0 := ho110.lt q hb; rcases hob119 with h | h; (rw [h] at hq; first | (have hq1 := hf63.lt q hq; omega)); (rw [h] at hq; cases hq; omega)
 revert A; refine go ?_; intro A H
 refine wv H ((op_add H rfl rfl rfl).int (IntWalk.i64_in _ (by omega))) ?_
 clear H A; refine go ?_; intro A H
 refine ⟨((i + 1), v115, (acc ++ [((l01V x83).1 : Int)])), ?_, ?_⟩
 refine ⟨(sl H), hx121, hf62, (fi ho117), (by omega), (by omega), (by simp; omega), (by rw [nmO_f (kd_i (t := 84) (i := 73) ((kdP_ok c32).2 ▸ hb73) c76) hx83 (by assumption), map_app] at hF; exact hF), (by exact hk1), (by exact hk2), (by exact hk3)⟩
 show ((kdL x13).length - ((i + 1)) : Nat) < (kdL x13).length - i; omega
 rw [c105] at H
 revert A; refine go ?_; intro A H
 refine ret3 H rfl rfl rfl rfl ?_
 clear H A
 rw [nmO_x (kd_i (t := 84) (i := 73) ((kdP_ok c32).2 ▸ hb73) c76) hx83 (by assumption)] at hF
 have hr : pcO line = none := hF.symm
 refine ret_mk hx97 ⟨.slice none 0 0, .slice none 0 0, (tup3_eq rfl rfl (congrArg Value.bool (by rw [hr]; rfl))), ?_, ?_⟩
 refine Own.nil_ _ _ _ _ _ _ ?_
 exact (pcO_nn hr).1.symm
 refine Own.nil_ _ _ _ _ _ _ ?_
 exact (pcO_nn hr).2.symm
 rw [decide_eq_false c70] at H
 revert A; refine go ?_; intro A H
 refine ret3 H rfl rfl rfl rfl ?_
 clear H A
 rw [drop_nil (xs := kdL x13) (by omega), nmO] at hF
 have hr : pcO line = some acc := by rw [← hF]; simp
 refine ret_mk hx61 ⟨v5, v, (tup3_eq rfl rfl (congrArg Value.bool (by rw [hr]; rfl))), ?_, ?_⟩
 refine (fi hf62).cast ?_
 exact (pcO_sm hr).1.symm
 refine (fi hf63).cast ?_
 exact (pcO_sm hr).2.symm
 rw [decide_eq_false c50] at H
 revert A; refine go ?_; intro A H
 refine ret3 H rfl rfl rfl rfl ?_
 clear H A
 have hr : pcO line = none := pcO_no hx13 (.inr (by have h9 := kdS_len 84 73 x13; rw [← (kdP_ok c32).2] at h9; omega))
 refine ret_mk hx27 ⟨.slice none 0 0, .slice none 0 0, (tup3_eq rfl rfl (congrArg Value.bool (by rw [hr]; rfl))), ?_, ?_⟩
 refine Own.nil_ _ _ _ _ _ _ ?_
 exact (pcO_nn hr).1.symm
 refine Own.nil_ _ _ _ _ _ _ ?_
 exact (pcO_nn hr).2.symm



theorem c_impl_IsConsoleLine (w0 : World) (line : Str) (g0 : line.length ≤ 1048576) :
    Calls Tryz.prog 13 #[St line] w0 (Ret w0 (fun v _ => v = .bool ((pcO line).isSome))) := by
 refine enter (N := 13) Tryz.func13 rfl rfl rfl ?_
 intro A H
 have hx0 := Ext.rfl' w0
 revert A; refine go ?_; intro A H
 refine wc H cb39 (c_impl_commandOf _ line gd) ?_
 clear H A; rintro v3 w4 he5 ⟨v6, v8, rfl, ho7, ho9⟩ A H
 obtain ⟨hx11, _⟩ := nx hx0 he5
 revert A; refine go ?_; intro A H
 refine ret1 H rfl rfl ?_
 clear H A
 exact ret_mk hx11 (congrArg Value.bool (by rfl))



theorem c_spec_IsConsoleLine (w0 : World) (line : Str) (g0 : line.length ≤ 1048576) :
    Calls Tryz.prog 14 #[St line] w0 (Ret w0 (fun v _ => v = .bool ((pcO line).isSome))) := by
 refine enter (N := 13) Tryz.func14 rfl rfl rfl ?_
 intro A H
 have hx0 := Ext.rfl' w0
 revert A; refine go ?_; intro A H
 refine wc H cb40 (c_spec_l34Parse _ line gd) ?_
 clear H A; rintro v3 w4 he5 ⟨v6, v8, rfl, ho7, ho9⟩ A H
 obtain ⟨hx11, _⟩ := nx hx0 he5
 revert A; refine go ?_; intro A H
 refine ret1 H rfl rfl ?_
 clear H A
 exact ret_mk hx11 (congrArg Value.bool (by rfl))




end Go.Proofs.YthbehhhblchhhaaGreat
