/- Pieces reserved, released, used, filled. -/
import Derived.Test.YthbehhhblchhhaaGreatS2
namespace Go.Proofs.YthbehhhblchhhaaGreat
open Go Go.RowKit
set_option maxHeartbeats 16000000

theorem c_spec_l24Change (w0 : World) (v_list : Value) (list : List (Str × Int × Int × Int × Int)) {S_list : Nat → Prop} (k : Int) (amount : Int) (reserved : Int) (h_list : Rds shBin S_list w0 v_list list) (g0 : stB list = true) (g1 : 0 ≤ k ∧ k < list.length) (g2 : -100000 ≤ amount ∧ amount ≤ 100000) (g3 : -100000 ≤ reserved ∧ reserved ≤ 100000) :
    Calls Tryz.prog 147 #[v_list, .int .i64 k, .int .i64 amount, .int .i64 reserved] w0 (Ret w0 (fun v w1 => Own shBin 65 w0.heap.size w0.heap.size w1.heap.size w1 v (chL list (k).toNat amount reserved))) := by
 refine enter (N := 36) Tryz.func147 rfl rfl rfl ?_
 intro A H
 have hx0 := Ext.rfl' w0
 have hl_list := h_list.length_le
 have hlen := stB_len g0
 revert A; refine go ?_; intro A H
 refine we H (op_b0 H pos_shBin U30 ti65) ?_
 clear H A; rintro v2 w3 ⟨ho4, he5, hob6⟩ A H
 obtain ⟨hx8, _⟩ := nx hx0 he5
 refine wv H (op_move H rfl rfl) ?_
 clear H A; intro A H
 refine we H (op_ap (ts := #[]) H U30 ti65 pos_shBin ho4 (h_list.ext pos_shBin hx8) flat_shBin) ?_
 clear H A; rintro v10 w11 ⟨ho12, hst13, hob14⟩ A H
 replace ho12 := ho12.cast (List.nil_append _)
 obtain ⟨hx16, _⟩ := no hx8 ho4 hst13
 revert A; refine go ?_; intro A H
 obtain ⟨x22, hx22⟩ := get_ex (xs := list) (j := k.toNat) (by omega)
 obtain ⟨p23, hi25, hc26, b29, b30, b31, b32, b33, _, _⟩ := at_shBin (ho12.rds pos_shBin) hx22
 have hbx22 := stB_bd g0 hx22
 refine wv H (ix H U30 ti65 hi25) ?_
 clear H A; intro A H
 refine fl 1 H U65 ti2 U2 hc26 ?_
 clear H A; intro A H
 refine wv H (op_move H rfl rfl) ?_
 clear H A; intro A H
 refine wv H ((op_add H rfl rfl rfl).int (IntWalk.i64_in _ (by omega))) ?_
 clear H A; intro A H
 refine wv H (ix H U30 ti65 hi25) ?_
 clear H A; intro A H
 refine wv H (fa H U65 ti2) ?_
 clear H A; intro A H
 refine ws H (op_setCells (s := shBin) (off := 1) (ds := [.int .i64 (x22.2.1 + amount)]) (S' := fun _ => False) H rfl ti2 rfl rfl rfl rfl (by simp [Value.oneCell']) ho12 hi25 (by omega) (Nat.le_of_ble_eq_true rfl) hc26 rfl (mk_shBin ((x22.1, (x22.2.1 + amount), x22.2.2.1, x22.2.2.2.1, x22.2.2.2.2)) (by assumption) (by simp; omega) (by assumption) (by assumption) (by assumption)) (fun _ h => h.elim)) ?_
 rintro w41 ⟨ho43, hst42, hz44⟩
 obtain ⟨hx45, _⟩ := no hx16 ho12 hst42
 clear ho12
 have hlsho43 : ((list.set k.toNat ((x22.1, (x22.2.1 + amount), x22.2.2.1, x22.2.2.2.1, x22.2.2.2.2)))).length = list.length := List.length_set
 revert A; refine go ?_; intro A H
 obtain ⟨x50, hx50⟩ := get_ex (xs := (list.set k.toNat ((x22.1, (x22.2.1 + amount), x22.2.2.1, x22.2.2.2.1, x22.2.2.2.2)))) (j := k.toNat) (by omega)
 obtain ⟨p51, hi53, hc54, b57, b58, b59, b60, b61, _, _⟩ := at_shBin (ho43.rds pos_shBin) hx50
 have hqx50 := hx50
 rw [List.getElem?_set_self (by omega)] at hqx50
 have hzx50 := (Option.some.inj hqx50).symm
 have hz2x50 : x50.2.2.1 = x22.2.2.1 := by rw [hzx50]
 refine wv H (ix H U30 ti65 hi53) ?_
 clear H A; intro A H
 refine fl 2 H U65 ti2 U2 hc54 ?_
 clear H A; intro A H
 refine wv H (op_move H rfl rfl) ?_
 clear H A; intro A H
 refine wv H ((op_add H rfl rfl rfl).int (IntWalk.i64_in _ (by omega))) ?_
 clear H A; intro A H
 refine wv H (ix H U30 ti65 hi53) ?_
 clear H A; intro A H
 refine wv H (fa H U65 ti2) ?_
 clear H A; intro A H
 refine ws H (op_setCells (s := shBin) (off := 2) (ds := [.int .i64 (x50.2.2.1 + reserved)]) (S' := fun _ => False) H rfl ti2 rfl rfl rfl rfl (by simp [Value.oneCell']) ho43 hi53 (by omega) (Nat.le_of_ble_eq_true rfl) hc54 rfl (mk_shBin ((x50.1, x50.2.1, (x50.2.2.1 + reserved), x50.2.2.2.1, x50.2.2.2.2)) (by assumption) (by assumption) (by simp; omega) (by assumption) (by assumption)) (fun _ h => h.elim)) ?_
 rintro w69 ⟨ho71, hst70, hz72⟩
 obtain ⟨hx73, _⟩ := no hx45 ho43 hst70
 clear ho43
 have hlsho71 : ((((list.set k.toNat ((x22.1, (x22.2.1 + amount), x22.2.2.1, x22.2.2.2.1, x22.2.2.2.2)))).set k.toNat ((x50.1, x50.2.1, (x50.2.2.1 + reserved), x50.2.2.2.1, x50.2.2.2.2)))).length = ((list.set k.toNat ((x22.1, (x22.2.1 + amount), x22.2.2.1, x22.2.2.2.1, x22.2.2.2.2)))).length := List.length_set
 revert A; refine go ?_; intro A H
 refine ret1 H rfl rfl ?_
 clear H A
 refine ret_mk hx73 ?_
 refine (fi ho71).cast ?_
 rw [List.set_set]
 exact chL_set hx22 (bin_ext (by rw [hzx50]; rfl) (by rw [hzx50]; rfl) (by simp only [adB]; omega) (by rw [hzx50]; rfl) (by rw [hzx50]; rfl))



theorem c_spec_l24Held (w0 : World) (v_list : Value) (list : List (Str × Int × Int × Int × Int)) {S_list : Nat → Prop} (code : Str) (pieces : Int) (h_list : Rds shBin S_list w0 v_list list) :
    Calls Tryz.prog 149 #[v_list, St code, .int .i64 pieces] w0 (Ret w0 (fun v _ => v = .int .i64 (rlC list code pieces))) := by
 refine enter (N := 26) Tryz.func149 rfl rfl rfl ?_
 intro A H
 have hx0 := Ext.rfl' w0
 have hl_list := h_list.length_le
 have hfb := fnB_bd list code
 revert A; refine go ?_; intro A H
 refine wc H cb146 (c_spec_l24Code _ v_list list code pieces (h_list.ext pos_shBin hx0)) ?_
 clear H A; rintro v5 w6 he7 rfl A H
 obtain ⟨hx9, _⟩ := nx hx0 he7
 revert A; refine go ?_; intro A H
 by_cases c14 : (stC list code pieces : Int) = (0 : Int)
 rw [decide_eq_true c14] at H
 obtain ⟨hk1c14, hk2c14, hk3c14⟩ := stC_0 c14
 have hlenc14 := stB_len hk1c14
 obtain ⟨hboc14, hbic14⟩ := bo_ok c14
 have hblc14 := congrArg List.length hboc14
 revert A; refine go ?_; intro A H
 refine wc H cb145 (c_spec_l24Find _ v_list list code (h_list.ext pos_shBin hx9)) ?_
 clear H A; rintro v18 w19 he20 rfl A H
 obtain ⟨hx22, _⟩ := nx hx9 he20
 obtain ⟨x23, hx23⟩ := get_ex (xs := list) (j := ((fnB list code : Int)).toNat) (by omega)
 obtain ⟨p24, hi26, hc27, b30, b31, b32, b33, b34, hs29⟩ := at_shBin h_list hx23
 have hbx23 := stB_bd hk1c14 hx23
 have hnx23 := bnO_eq (c := code) hx23
 refine wv H (ix H U30 ti65 hi26) ?_
 clear H A; intro A H
 refine wv H (fa H U65 ti2) ?_
 clear H A; intro A H
 refine wv H (lf 2 H U2 (hc27.ext hx22)) ?_
 clear H A; refine go ?_; intro A H
 by_cases c41 : x23.2.2.1 < pieces
 rw [decide_eq_true c41] at H
 revert A; refine go ?_; intro A H
 refine ret1 H rfl rfl ?_
 clear H A
 exact ret_mk hx22 (int_eq (by simp [rlC, c14, c41, hnx23]))
 rw [decide_eq_false c41] at H
 revert A; refine go ?_; intro A H
 refine ret1 H rfl rfl ?_
 clear H A
 exact ret_mk hx22 (int_eq (by simp [rlC, c14, c41, hnx23]))
 rw [decide_eq_false c14] at H
 revert A; refine go ?_; intro A H
 refine ret1 H rfl rfl ?_
 clear H A
 exact ret_mk hx9 (int_eq (by simp [rlC, c14]))



theorem c_impl_ReservePieces (w0 : World) (v_list : Value) (list : List (Str × Int × Int × Int × Int)) {S_list : Nat → Prop} (code : Str) (pieces : Int) (h_list : Rds shBin S_list w0 v_list list) :
    Calls Tryz.prog 95 #[v_list, St code, .int .i64 pieces] w0 (Ret w0 (fun v w1 => ∃ r0, v = .tuple #[r0, .int .i64 (rsC list code pieces)] ∧ Own shBin 65 w0.heap.size w0.heap.size w1.heap.size w1 r0 (opL list code (rsC list code pieces) 0 pieces))) := by
 refine enter (N := 45) Tryz.func95 rfl rfl rfl ?_
 intro A H
 have hx0 := Ext.rfl' w0
 have hl_list := h_list.length_le
 have hfb := fnB_bd list code
 revert A; refine go ?_; intro A H
 refine wc H cb116 (c_impl_binOf _ v_list list code pieces (h_list.ext pos_shBin hx0)) ?_
 clear H A; rintro v6 w7 he8 ⟨v9, rfl, ho10⟩ A H
 obtain ⟨hx12, _⟩ := nx hx0 he8
 revert A; refine go ?_; intro A H
 by_cases c22 : (stC list code pieces : Int) = (0 : Int)
 rw [decide_eq_true c22] at H
 obtain ⟨hk1c22, hk2c22, hk3c22⟩ := stC_0 c22
 have hlenc22 := stB_len hk1c22
 obtain ⟨hboc22, hbic22⟩ := bo_ok c22
 have hblc22 := congrArg List.length hboc22
 revert A; refine go ?_; intro A H
 refine dre Ext follows_mixed ?_
 intro w23 he24 hs26
 obtain ⟨hx25, _⟩ := nx hx12 he24
 replace ho10 := ho10.ext he24
 revert A; refine dgo [0, 1] hs26 ?_; intro A H
 obtain ⟨x29, hx29⟩ := get_ex (xs := (boL list code pieces)) (j := ((biI list code pieces : Int)).toNat) (by omega)
 obtain ⟨p30, hi32, hc33, b36, b37, b38, b39, b40, _, _⟩ := at_shBin (ho10.rds pos_shBin) hx29
 have hqx29 := hx29
 rw [hboc22, hbic22] at hqx29
 have hbx29 := stB_bd hk1c22 hqx29
 have hnx29 := bnO_eq hqx29
 refine dw 2 H rfl hs26 (ix H U30 ti65 hi32) ?_
 clear H A; intro A H
 refine dw 3 H rfl hs26 (fa H U65 ti2) ?_
 clear H A; intro A H
 refine dv 4 H rfl hs26 (fun w' hw' => lf 1 H U2 (hc33.ext hw')) ?_
 clear H A; refine dgo [5, 6] hs26 ?_; intro A H
 refine dw 7 H rfl hs26 (ix H U30 ti65 hi32) ?_
 clear H A; intro A H
 refine dw 8 H rfl hs26 (fa H U65 ti2) ?_
 clear H A; intro A H
 refine dv 9 H rfl hs26 (fun w' hw' => lf 2 H U2 (hc33.ext hw')) ?_
 clear H A; intro A H
 refine dw 10 H rfl hs26 ((op_sub H rfl rfl rfl).int (IntWalk.i64_in _ (by omega))) ?_
 clear H A; refine dgo [11, 12] hs26 ?_; intro A H
 refine dr_end (by kernel_rfl) ?_
 replace ho10 := ho10.ext hs26
 replace hc33 := hc33.ext hs26
 refine then_n ?_
 by_cases c52 : (x29.2.1 - x29.2.2.1) < pieces
 rw [decide_eq_true c52] at H
 revert A; refine go ?_; intro A H
 refine ret2 H rfl rfl rfl ?_
 clear H A
 refine ret_mk hx25 ⟨.slice none 0 0, (tup2_eq rfl (int_eq (by simp [rsC, c22, c52, hnx29]))), ?_⟩
 refine Own.nil_ _ _ _ _ _ _ ?_
 exact (opL_no (by simp [rsC, c22, c52, hnx29])).symm
 rw [decide_eq_false c52] at H
 revert A; refine go ?_; intro A H
 refine wv H (ix H U30 ti65 hi32) ?_
 clear H A; intro A H
 refine fl 2 H U65 ti2 U2 hc33 ?_
 clear H A; intro A H
 refine wv H (op_move H rfl rfl) ?_
 clear H A; intro A H
 refine wv H ((op_add H rfl rfl rfl).int (IntWalk.i64_in _ (by omega))) ?_
 clear H A; intro A H
 refine wv H (ix H U30 ti65 hi32) ?_
 clear H A; intro A H
 refine wv H (fa H U65 ti2) ?_
 clear H A; intro A H
 refine ws H (op_setCells (s := shBin) (off := 2) (ds := [.int .i64 (x29.2.2.1 + pieces)]) (S' := fun _ => False) H rfl ti2 rfl rfl rfl rfl (by simp [Value.oneCell']) ho10 hi32 (by omega) (Nat.le_of_ble_eq_true rfl) hc33 rfl (mk_shBin ((x29.1, x29.2.1, (x29.2.2.1 + pieces), x29.2.2.2.1, x29.2.2.2.2)) (by assumption) (by assumption) (by simp; omega) (by assumption) (by assumption)) (fun _ h => h.elim)) ?_
 rintro w64 ⟨ho66, hst65, hz67⟩
 obtain ⟨hx68, _⟩ := no hx25 ho10 hst65
 clear ho10
 have hlsho66 : ((((boL list code pieces)).set (((biI list code pieces : Int)).toNat) ((x29.1, x29.2.1, (x29.2.2.1 + pieces), x29.2.2.2.1, x29.2.2.2.2)))).length = ((boL list code pieces)).length := List.length_set
 revert A; refine go ?_; intro A H
 refine ret2 H rfl rfl rfl ?_
 clear H A
 refine ret_mk hx68 ⟨v9, (tup2_eq rfl (int_eq (by simp [rsC, c22, c52, hnx29]))), ?_⟩
 refine (fi ho66).cast ?_
 have hr : rsC list code pieces = 0 := by (simp [rsC, c22, c52, hnx29]; done)
 rw [opL_ok hr, hboc22, hbic22]
 exact chL_set hqx29 (bin_ext rfl (by simp only [adB]; omega) (by simp only [adB]) rfl rfl)
 rw [decide_eq_false c22] at H
 revert A; refine go ?_; intro A H
 refine ret2 H rfl rfl rfl ?_
 clear H A
 refine ret_mk hx12 ⟨.slice none 0 0, (tup2_eq rfl (int_eq (by simp [rsC, c22]))), ?_⟩
 refine Own.nil_ _ _ _ _ _ _ ?_
 exact (opL_no (by simp [rsC, c22])).symm



theorem c_spec_ReservePieces (w0 : World) (v_list : Value) (list : List (Str × Int × Int × Int × Int)) {S_list : Nat → Prop} (code : Str) (pieces : Int) (h_list : Rds shBin S_list w0 v_list list) :
    Calls Tryz.prog 129 #[v_list, St code, .int .i64 pieces] w0 (Ret w0 (fun v w1 => ∃ r0, v = .tuple #[r0, .int .i64 (rsC list code pieces)] ∧ Own shBin 65 w0.heap.size w0.heap.size w1.heap.size w1 r0 (opL list code (rsC list code pieces) 0 pieces))) := by
 refine enter (N := 35) Tryz.func129 rfl rfl rfl ?_
 intro A H
 have hx0 := Ext.rfl' w0
 have hl_list := h_list.length_le
 have hfb := fnB_bd list code
 revert A; refine go ?_; intro A H
 refine wc H cb146 (c_spec_l24Code _ v_list list code pieces (h_list.ext pos_shBin hx0)) ?_
 clear H A; rintro v6 w7 he8 rfl A H
 obtain ⟨hx10, _⟩ := nx hx0 he8
 revert A; refine go ?_; intro A H
 refine wc H cb145 (c_spec_l24Find _ v_list list code (h_list.ext pos_shBin hx10)) ?_
 clear H A; rintro v14 w15 he16 rfl A H
 obtain ⟨hx18, _⟩ := nx hx10 he16
 revert A; refine go ?_; intro A H
 by_cases c23 : (stC list code pieces : Int) = (0 : Int)
 rw [decide_eq_true c23] at H
 obtain ⟨hk1c23, hk2c23, hk3c23⟩ := stC_0 c23
 have hlenc23 := stB_len hk1c23
 obtain ⟨hboc23, hbic23⟩ := bo_ok c23
 have hblc23 := congrArg List.length hboc23
 revert A; refine go ?_; intro A H
 obtain ⟨x26, hx26⟩ := get_ex (xs := list) (j := ((fnB list code : Int)).toNat) (by omega)
 obtain ⟨p27, hi29, hc30, b33, b34, b35, b36, b37, hs32⟩ := at_shBin h_list hx26
 have hbx26 := stB_bd hk1c23 hx26
 have hnx26 := bnO_eq (c := code) hx26
 refine wv H (ix H U30 ti65 hi29) ?_
 clear H A; intro A H
 refine wv H (ls H U65 ti65 (hc30.ext hx18)) ?_
 clear H A; intro A H
 refine wc H cb148 (c_spec_l24Free _ x26 (by omega) (by omega)) ?_
 clear H A; rintro v40 w41 he42 rfl A H
 obtain ⟨hx44, _⟩ := nx hx18 he42
 revert A; refine go ?_; intro A H
 by_cases c48 : (x26.2.1 - x26.2.2.1 : Int) < pieces
 rw [decide_eq_true c48] at H
 have c52 : ¬ ((5 : Int) = (0 : Int)) := by decide
 revert A; refine go ?_; intro A H
 refine ret2 H rfl rfl rfl ?_
 clear H A
 refine ret_mk hx44 ⟨.slice none 0 0, (tup2_eq rfl (int_eq (by simp [rsC, c23, c48, hnx26]))), ?_⟩
 refine Own.nil_ _ _ _ _ _ _ ?_
 exact (opL_no (by simp [rsC, c23, c48, c52, hnx26])).symm
 rw [decide_eq_false c48] at H
 revert A; refine go ?_; intro A H
 rw [decide_eq_true c23] at H
 revert A; refine go ?_; intro A H
 refine wc H cb147 (c_spec_l24Change _ v_list list (fnB list code : Int) (0 : Int) pieces (h_list.ext pos_shBin hx44) (by assumption) (by omega) (by omega) (by omega)) ?_
 clear H A; rintro v61 w62 he63 ho64 A H
 obtain ⟨hx66, _⟩ := nx hx44 he63
 revert A; refine go ?_; intro A H
 refine ret2 H rfl rfl rfl ?_
 clear H A
 refine ret_mk hx66 ⟨v61, (tup2_eq rfl (int_eq (by simp [rsC, c23, c48, hnx26]))), ?_⟩
 refine (fi ho64).cast ?_
 have hr : rsC list code pieces = 0 := by (simp [rsC, c23, c48, hnx26]; done)
 exact (opL_ok hr).symm
 rw [decide_eq_false c23] at H
 revert A; refine go ?_; intro A H
 rw [decide_eq_false c23] at H
 revert A; refine go ?_; intro A H
 refine ret2 H rfl rfl rfl ?_
 clear H A
 refine ret_mk hx18 ⟨.slice none 0 0, (tup2_eq rfl (int_eq (by simp [rsC, c23]))), ?_⟩
 refine Own.nil_ _ _ _ _ _ _ ?_
 exact (opL_no (by simp [rsC, c23])).symm



theorem c_impl_ReleasePieces (w0 : World) (v_list : Value) (list : List (Str × Int × Int × Int × Int)) {S_list : Nat → Prop} (code : Str) (pieces : Int) (h_list : Rds shBin S_list w0 v_list list) :
    Calls Tryz.prog 96 #[v_list, St code, .int .i64 pieces] w0 (Ret w0 (fun v w1 => ∃ r0, v = .tuple #[r0, .int .i64 (rlC list code pieces)] ∧ Own shBin 65 w0.heap.size w0.heap.size w1.heap.size w1 r0 (opL list code (rlC list code pieces) 0 (0 - pieces)))) := by
 refine enter (N := 39) Tryz.func96 rfl rfl rfl ?_
 intro A H
 have hx0 := Ext.rfl' w0
 have hl_list := h_list.length_le
 have hfb := fnB_bd list code
 revert A; refine go ?_; intro A H
 refine wc H cb116 (c_impl_binOf _ v_list list code pieces (h_list.ext pos_shBin hx0)) ?_
 clear H A; rintro v6 w7 he8 ⟨v9, rfl, ho10⟩ A H
 obtain ⟨hx12, _⟩ := nx hx0 he8
 revert A; refine go ?_; intro A H
 by_cases c22 : (stC list code pieces : Int) = (0 : Int)
 rw [decide_eq_true c22] at H
 obtain ⟨hk1c22, hk2c22, hk3c22⟩ := stC_0 c22
 have hlenc22 := stB_len hk1c22
 obtain ⟨hboc22, hbic22⟩ := bo_ok c22
 have hblc22 := congrArg List.length hboc22
 revert A; refine go ?_; intro A H
 obtain ⟨x25, hx25⟩ := get_ex (xs := (boL list code pieces)) (j := ((biI list code pieces : Int)).toNat) (by omega)
 obtain ⟨p26, hi28, hc29, b32, b33, b34, b35, b36, _, _⟩ := at_shBin (ho10.rds pos_shBin) hx25
 have hqx25 := hx25
 rw [hboc22, hbic22] at hqx25
 have hbx25 := stB_bd hk1c22 hqx25
 have hnx25 := bnO_eq hqx25
 refine wv H (ix H U30 ti65 hi28) ?_
 clear H A; intro A H
 refine fl 2 H U65 ti2 U2 hc29 ?_
 clear H A; refine go ?_; intro A H
 by_cases c42 : x25.2.2.1 < pieces
 rw [decide_eq_true c42] at H
 revert A; refine go ?_; intro A H
 refine ret2 H rfl rfl rfl ?_
 clear H A
 refine ret_mk hx12 ⟨.slice none 0 0, (tup2_eq rfl (int_eq (by simp [rlC, c22, c42, hnx25]))), ?_⟩
 refine Own.nil_ _ _ _ _ _ _ ?_
 exact (opL_no (by simp [rlC, c22, c42, hnx25])).symm
 rw [decide_eq_false c42] at H
 revert A; refine go ?_; intro A H
 refine wv H (ix H U30 ti65 hi28) ?_
 clear H A; intro A H
 refine fl 2 H U65 ti2 U2 hc29 ?_
 clear H A; intro A H
 refine wv H (op_move H rfl rfl) ?_
 clear H A; intro A H
 refine wv H ((op_sub H rfl rfl rfl).int (IntWalk.i64_in _ (by omega))) ?_
 clear H A; intro A H
 refine wv H (ix H U30 ti65 hi28) ?_
 clear H A; intro A H
 refine wv H (fa H U65 ti2) ?_
 clear H A; intro A H
 refine ws H (op_setCells (s := shBin) (off := 2) (ds := [.int .i64 (x25.2.2.1 - pieces)]) (S' := fun _ => False) H rfl ti2 rfl rfl rfl rfl (by simp [Value.oneCell']) ho10 hi28 (by omega) (Nat.le_of_ble_eq_true rfl) hc29 rfl (mk_shBin ((x25.1, x25.2.1, (x25.2.2.1 - pieces), x25.2.2.2.1, x25.2.2.2.2)) (by assumption) (by assumption) (by simp; omega) (by assumption) (by assumption)) (fun _ h => h.elim)) ?_
 rintro w54 ⟨ho56, hst55, hz57⟩
 obtain ⟨hx58, _⟩ := no hx12 ho10 hst55
 clear ho10
 have hlsho56 : ((((boL list code pieces)).set (((biI list code pieces : Int)).toNat) ((x25.1, x25.2.1, (x25.2.2.1 - pieces), x25.2.2.2.1, x25.2.2.2.2)))).length = ((boL list code pieces)).length := List.length_set
 revert A; refine go ?_; intro A H
 refine ret2 H rfl rfl rfl ?_
 clear H A
 refine ret_mk hx58 ⟨v9, (tup2_eq rfl (int_eq (by simp [rlC, c22, c42, hnx25]))), ?_⟩
 refine (fi ho56).cast ?_
 have hr : rlC list code pieces = 0 := by (simp [rlC, c22, c42, hnx25]; done)
 rw [opL_ok hr, hboc22, hbic22]
 exact chL_set hqx25 (bin_ext rfl (by simp only [adB]; omega) (by simp only [adB]; omega) rfl rfl)
 rw [decide_eq_false c22] at H
 revert A; refine go ?_; intro A H
 refine ret2 H rfl rfl rfl ?_
 clear H A
 refine ret_mk hx12 ⟨.slice none 0 0, (tup2_eq rfl (int_eq (by simp [rlC, c22]))), ?_⟩
 refine Own.nil_ _ _ _ _ _ _ ?_
 exact (opL_no (by simp [rlC, c22])).symm



theorem c_spec_ReleasePieces (w0 : World) (v_list : Value) (list : List (Str × Int × Int × Int × Int)) {S_list : Nat → Prop} (code : Str) (pieces : Int) (h_list : Rds shBin S_list w0 v_list list) :
    Calls Tryz.prog 130 #[v_list, St code, .int .i64 pieces] w0 (Ret w0 (fun v w1 => ∃ r0, v = .tuple #[r0, .int .i64 (rlC list code pieces)] ∧ Own shBin 65 w0.heap.size w0.heap.size w1.heap.size w1 r0 (opL list code (rlC list code pieces) 0 (0 - pieces)))) := by
 refine enter (N := 23) Tryz.func130 rfl rfl rfl ?_
 intro A H
 have hx0 := Ext.rfl' w0
 have hl_list := h_list.length_le
 have hfb := fnB_bd list code
 revert A; refine go ?_; intro A H
 refine wc H cb149 (c_spec_l24Held _ v_list list code pieces (h_list.ext pos_shBin hx0)) ?_
 clear H A; rintro v6 w7 he8 rfl A H
 obtain ⟨hx10, _⟩ := nx hx0 he8
 revert A; refine go ?_; intro A H
 by_cases c14 : (rlC list code pieces : Int) = (0 : Int)
 rw [decide_eq_true c14] at H
 obtain ⟨hk0c14, hk1c14, hk2c14, hk3c14, hk4c14⟩ := rl_know c14
 have hopc14 := opL_ok (xs := list) (c := code) (x := 0) (y := 0 - pieces) c14
 have hofc14 : fnB (opL list code (rlC list code pieces) 0 (0 - pieces)) code = fnB list code := by rw [hopc14]; exact fnB_ch hk3c14 _ _
 have holc14 := (congrArg List.length hopc14).trans (chL_len _ _ _ _)
 revert A; refine go ?_; intro A H
 refine wc H cb145 (c_spec_l24Find _ v_list list code (h_list.ext pos_shBin hx10)) ?_
 clear H A; rintro v18 w19 he20 rfl A H
 obtain ⟨hx22, _⟩ := nx hx10 he20
 refine wv H (op_move H rfl rfl) ?_
 clear H A; intro A H
 refine wv H ((op_neg H rfl rfl).int (IntWalk.i64_in _ (by omega))) ?_
 clear H A; intro A H
 refine wc H cb147 (c_spec_l24Change _ v_list list (fnB list code : Int) (0 : Int) (0 - pieces) (h_list.ext pos_shBin hx22) (by assumption) (by omega) (by omega) (by omega)) ?_
 clear H A; rintro v25 w26 he27 ho28 A H
 obtain ⟨hx30, _⟩ := nx hx22 he27
 revert A; refine go ?_; intro A H
 refine ret2 H rfl rfl rfl ?_
 clear H A
 refine ret_mk hx30 ⟨v25, (tup2_eq rfl (int_eq (by simp [rlC]; omega))), ?_⟩
 refine (fi ho28).cast ?_
 have hr : rlC list code pieces = 0 := by (simp [rlC]; omega)
 exact (opL_ok hr).symm
 rw [decide_eq_false c14] at H
 revert A; refine go ?_; intro A H
 refine ret2 H rfl rfl rfl ?_
 clear H A
 refine ret_mk hx10 ⟨.slice none 0 0, (tup2_eq rfl (int_eq (by simp [rlC]))), ?_⟩
 refine Own.nil_ _ _ _ _ _ _ ?_
 exact (opL_no (by simp_all [rlC])).symm



theorem c_impl_FillBin (w0 : World) (v_list : Value) (list : List (Str × Int × Int × Int × Int)) {S_list : Nat → Prop} (code : Str) (pieces : Int) (h_list : Rds shBin S_list w0 v_list list) :
    Calls Tryz.prog 94 #[v_list, St code, .int .i64 pieces] w0 (Ret w0 (fun v w1 => ∃ r0, v = .tuple #[r0, .int .i64 (flC list code pieces)] ∧ Own shBin 65 w0.heap.size w0.heap.size w1.heap.size w1 r0 (opL list code (flC list code pieces) pieces 0))) := by
 refine enter (N := 38) Tryz.func94 rfl rfl rfl ?_
 intro A H
 have hx0 := Ext.rfl' w0
 have hl_list := h_list.length_le
 have hfb := fnB_bd list code
 revert A; refine go ?_; intro A H
 refine wc H cb116 (c_impl_binOf _ v_list list code pieces (h_list.ext pos_shBin hx0)) ?_
 clear H A; rintro v6 w7 he8 ⟨v9, rfl, ho10⟩ A H
 obtain ⟨hx12, _⟩ := nx hx0 he8
 revert A; refine go ?_; intro A H
 by_cases c22 : (stC list code pieces : Int) = (0 : Int)
 rw [decide_eq_true c22] at H
 obtain ⟨hk1c22, hk2c22, hk3c22⟩ := stC_0 c22
 have hlenc22 := stB_len hk1c22
 obtain ⟨hboc22, hbic22⟩ := bo_ok c22
 have hblc22 := congrArg List.length hboc22
 revert A; refine go ?_; intro A H
 obtain ⟨x25, hx25⟩ := get_ex (xs := (boL list code pieces)) (j := ((biI list code pieces : Int)).toNat) (by omega)
 obtain ⟨p26, hi28, hc29, b32, b33, b34, b35, b36, _, _⟩ := at_shBin (ho10.rds pos_shBin) hx25
 have hqx25 := hx25
 rw [hboc22, hbic22] at hqx25
 have hbx25 := stB_bd hk1c22 hqx25
 have hnx25 := bnO_eq hqx25
 refine wv H (ix H U30 ti65 hi28) ?_
 clear H A; intro A H
 refine fl 1 H U65 ti2 U2 hc29 ?_
 clear H A; intro A H
 refine wv H (op_move H rfl rfl) ?_
 clear H A; intro A H
 refine wv H ((op_add H rfl rfl rfl).int (IntWalk.i64_in _ (by omega))) ?_
 clear H A; intro A H
 refine wv H (ix H U30 ti65 hi28) ?_
 clear H A; intro A H
 refine wv H (fa H U65 ti2) ?_
 clear H A; intro A H
 refine ws H (op_setCells (s := shBin) (off := 1) (ds := [.int .i64 (x25.2.1 + pieces)]) (S' := fun _ => False) H rfl ti2 rfl rfl rfl rfl (by simp [Value.oneCell']) ho10 hi28 (by omega) (Nat.le_of_ble_eq_true rfl) hc29 rfl (mk_shBin ((x25.1, (x25.2.1 + pieces), x25.2.2.1, x25.2.2.2.1, x25.2.2.2.2)) (by assumption) (by simp; omega) (by assumption) (by assumption) (by assumption)) (fun _ h => h.elim)) ?_
 rintro w44 ⟨ho46, hst45, hz47⟩
 obtain ⟨hx48, _⟩ := no hx12 ho10 hst45
 clear ho10
 have hlsho46 : ((((boL list code pieces)).set (((biI list code pieces : Int)).toNat) ((x25.1, (x25.2.1 + pieces), x25.2.2.1, x25.2.2.2.1, x25.2.2.2.2)))).length = ((boL list code pieces)).length := List.length_set
 revert A; refine go ?_; intro A H
 obtain ⟨x51, hx51⟩ := get_ex (xs := (((boL list code pieces)).set (((biI list code pieces : Int)).toNat) ((x25.1, (x25.2.1 + pieces), x25.2.2.1, x25.2.2.2.1, x25.2.2.2.2)))) (j := ((biI list code pieces : Int)).toNat) (by omega)
 obtain ⟨p52, hi54, hc55, b58, b59, b60, b61, b62, _, _⟩ := at_shBin (ho46.rds pos_shBin) hx51
 have hqx51 := hx51
 rw [hboc22, hbic22, List.getElem?_set_self (by omega)] at hqx51
 have hzx51 := (Option.some.inj hqx51).symm
 have hz2x51 : x51.2.1 = x25.2.1 + pieces := by rw [hzx51]
 refine wv H (ix H U30 ti65 hi54) ?_
 clear H A; intro A H
 refine fl 1 H U65 ti2 U2 hc55 ?_
 clear H A; refine go ?_; intro A H
 by_cases c67 : (100000 : Int) < x51.2.1
 rw [decide_eq_true c67] at H
 revert A; refine go ?_; intro A H
 refine ret2 H rfl rfl rfl ?_
 clear H A
 refine ret_mk hx48 ⟨.slice none 0 0, (tup2_eq rfl (int_eq (by simp [flC, c22, hnx25]; omega))), ?_⟩
 refine Own.nil_ _ _ _ _ _ _ ?_
 exact (opL_no (by simp [flC, c22, hnx25]; omega)).symm
 rw [decide_eq_false c67] at H
 revert A; refine go ?_; intro A H
 refine ret2 H rfl rfl rfl ?_
 clear H A
 refine ret_mk hx48 ⟨v9, (tup2_eq rfl (int_eq (by simp [flC, c22, hnx25]; omega))), ?_⟩
 refine (fi ho46).cast ?_
 have hr : flC list code pieces = 0 := by (simp [flC, c22, hnx25]; omega)
 rw [opL_ok hr, hboc22, hbic22]
 exact chL_set hqx25 (bin_ext rfl (by simp only [adB]) (by simp only [adB]; omega) rfl rfl)
 rw [decide_eq_false c22] at H
 revert A; refine go ?_; intro A H
 refine ret2 H rfl rfl rfl ?_
 clear H A
 refine ret_mk hx12 ⟨.slice none 0 0, (tup2_eq rfl (int_eq (by simp [flC, c22]))), ?_⟩
 refine Own.nil_ _ _ _ _ _ _ ?_
 exact (opL_no (by simp [flC, c22])).symm



theorem c_spec_FillBin (w0 : World) (v_list : Value) (list : List (Str × Int × Int × Int × Int)) {S_list : Nat → Prop} (code : Str) (pieces : Int) (h_list : Rds shBin S_list w0 v_list list) :
    Calls Tryz.prog 128 #[v_list, St code, .int .i64 pieces] w0 (Ret w0 (fun v w1 => ∃ r0, v = .tuple #[r0, .int .i64 (flC list code pieces)] ∧ Own shBin 65 w0.heap.size w0.heap.size w1.heap.size w1 r0 (opL list code (flC list code pieces) pieces 0))) := by
 refine enter (N := 27) Tryz.func128 rfl rfl rfl ?_
 intro A H
 have hx0 := Ext.rfl' w0
 have hl_list := h_list.length_le
 have hfb := fnB_bd list code
 revert A; refine go ?_; intro A H
 refine wc H cb146 (c_spec_l24Code _ v_list list code pieces (h_list.ext pos_shBin hx0)) ?_
 clear H A; rintro v6 w7 he8 rfl A H
 obtain ⟨hx10, _⟩ := nx hx0 he8
 revert A; refine go ?_; intro A H
 by_cases c14 : (stC list code pieces : Int) = (0 : Int)
 rw [decide_eq_true c14] at H
 obtain ⟨hk1c14, hk2c14, hk3c14⟩ := stC_0 c14
 have hlenc14 := stB_len hk1c14
 obtain ⟨hboc14, hbic14⟩ := bo_ok c14
 have hblc14 := congrArg List.length hboc14
 revert A; refine go ?_; intro A H
 refine wc H cb145 (c_spec_l24Find _ v_list list code (h_list.ext pos_shBin hx10)) ?_
 clear H A; rintro v18 w19 he20 rfl A H
 obtain ⟨hx22, _⟩ := nx hx10 he20
 refine wv H (op_move H rfl rfl) ?_
 clear H A; intro A H
 refine wc H cb147 (c_spec_l24Change _ v_list list (fnB list code : Int) pieces (0 : Int) (h_list.ext pos_shBin hx22) (by assumption) (by omega) (by omega) (by omega)) ?_
 clear H A; rintro v24 w25 he26 ho27 A H
 obtain ⟨hx29, _⟩ := nx hx22 he26
 revert A; refine go ?_; intro A H
 refine wc H cb56 (c_spec_IsStock _ v24 ((chL list ((fnB list code : Int)).toNat pieces (0 : Int))) (ho27.rds pos_shBin)) ?_
 clear H A; rintro v32 w33 he34 rfl A H
 obtain ⟨hx36, _⟩ := nx hx29 he34
 replace ho27 := ho27.ext he34
 revert A; refine go ?_; intro A H
 rcases Bool.eq_false_or_eq_true (stB ((chL list ((fnB list code : Int)).toNat pieces (0 : Int)))) with c38 | c38
 rw [c38] at H
 have hsfc38 : (bnO list code).2.1 + pieces ≤ 100000 := by have h9 := c38; rw [stB_fill c14] at h9; exact of_decide_eq_true h9
 revert A; refine go ?_; intro A H
 refine ret2 H rfl rfl rfl ?_
 clear H A
 refine ret_mk hx36 ⟨v24, (tup2_eq rfl (int_eq (by simp [flC, c14, hsfc38]))), ?_⟩
 refine (fi ho27).cast ?_
 have hr : flC list code pieces = 0 := by (simp [flC, c14, hsfc38]; done)
 exact (opL_ok hr).symm
 rw [c38] at H
 have hsfc38 : ¬ (bnO list code).2.1 + pieces ≤ 100000 := by have h9 := c38; rw [stB_fill c14] at h9; exact of_decide_eq_false h9
 revert A; refine go ?_; intro A H
 refine ret2 H rfl rfl rfl ?_
 clear H A
 refine ret_mk hx36 ⟨.slice none 0 0, (tup2_eq rfl (int_eq (by simp [flC, c14, hsfc38]))), ?_⟩
 refine Own.nil_ _ _ _ _ _ _ ?_
 exact (opL_no (by simp [flC, c14, hsfc38])).symm
 rw [decide_eq_false c14] at H
 revert A; refine go ?_; intro A H
 refine ret2 H rfl rfl rfl ?_
 clear H A
 refine ret_mk hx10 ⟨.slice none 0 0, (tup2_eq rfl (int_eq (by simp [flC, c14]))), ?_⟩
 refine Own.nil_ _ _ _ _ _ _ ?_
 exact (opL_no (by simp [flC, c14])).symm



theorem c_impl_UsePieces (w0 : World) (v_list : Value) (list : List (Str × Int × Int × Int × Int)) {S_list : Nat → Prop} (code : Str) (pieces : Int) (h_list : Rds shBin S_list w0 v_list list) :
    Calls Tryz.prog 97 #[v_list, St code, .int .i64 pieces] w0 (Ret w0 (fun v w1 => ∃ r0, v = .tuple #[r0, .int .i64 (rlC list code pieces)] ∧ Own shBin 65 w0.heap.size w0.heap.size w1.heap.size w1 r0 (opL list code (rlC list code pieces) (0 - pieces) (0 - pieces)))) := by
 refine enter (N := 32) Tryz.func97 rfl rfl rfl ?_
 intro A H
 have hx0 := Ext.rfl' w0
 have hl_list := h_list.length_le
 have hfb := fnB_bd list code
 revert A; refine go ?_; intro A H
 refine wc H cb96 (c_impl_ReleasePieces _ v_list list code pieces (h_list.ext pos_shBin hx0)) ?_
 clear H A; rintro v6 w7 he8 ⟨v9, rfl, ho10⟩ A H
 obtain ⟨hx12, _⟩ := nx hx0 he8
 revert A; refine go ?_; intro A H
 by_cases c20 : (rlC list code pieces : Int) = (0 : Int)
 rw [decide_eq_true c20] at H
 obtain ⟨hk0c20, hk1c20, hk2c20, hk3c20, hk4c20⟩ := rl_know c20
 have hopc20 := opL_ok (xs := list) (c := code) (x := 0) (y := 0 - pieces) c20
 have hofc20 : fnB (opL list code (rlC list code pieces) 0 (0 - pieces)) code = fnB list code := by rw [hopc20]; exact fnB_ch hk3c20 _ _
 have holc20 := (congrArg List.length hopc20).trans (chL_len _ _ _ _)
 revert A; refine go ?_; intro A H
 refine wc H cb115 (c_impl_findBin _ v9 ((opL list code (rlC list code pieces) 0 (0 - pieces))) code (ho10.rds pos_shBin)) ?_
 clear H A; rintro v24 w25 he26 rfl A H
 obtain ⟨hx28, _⟩ := nx hx12 he26
 replace ho10 := ho10.ext he26
 obtain ⟨x29, hx29⟩ := get_ex (xs := (opL list code (rlC list code pieces) 0 (0 - pieces))) (j := ((fnB ((opL list code (rlC list code pieces) 0 (0 - pieces))) code : Int)).toNat) (by omega)
 obtain ⟨p30, hi32, hc33, b36, b37, b38, b39, b40, _, _⟩ := at_shBin (ho10.rds pos_shBin) hx29
 obtain ⟨yx29, hyx29, _⟩ := fnB_at hk3c20
 have hqx29 := hx29
 rw [hofc20, hopc20, chL_eq hyx29, List.getElem?_set_self (by omega)] at hqx29
 have hzx29 := (Option.some.inj hqx29).symm
 have hbx29 := stB_bd hk1c20 hyx29
 have hnx29 := bnO_eq hyx29
 have hz2x29 : x29.2.1 = yx29.2.1 + 0 := by rw [hzx29]; rfl
 refine wv H (ix H U30 ti65 hi32) ?_
 clear H A; intro A H
 refine fl 1 H U65 ti2 U2 hc33 ?_
 clear H A; intro A H
 refine wv H (op_move H rfl rfl) ?_
 clear H A; intro A H
 refine wv H ((op_sub H rfl rfl rfl).int (IntWalk.i64_in _ (by omega))) ?_
 clear H A; intro A H
 refine wv H (ix H U30 ti65 hi32) ?_
 clear H A; intro A H
 refine wv H (fa H U65 ti2) ?_
 clear H A; intro A H
 refine ws H (op_setCells (s := shBin) (off := 1) (ds := [.int .i64 (x29.2.1 - pieces)]) (S' := fun _ => False) H rfl ti2 rfl rfl rfl rfl (by simp [Value.oneCell']) ho10 hi32 (by omega) (Nat.le_of_ble_eq_true rfl) hc33 rfl (mk_shBin ((x29.1, (x29.2.1 - pieces), x29.2.2.1, x29.2.2.2.1, x29.2.2.2.2)) (by assumption) (by simp; omega) (by assumption) (by assumption) (by assumption)) (fun _ h => h.elim)) ?_
 rintro w48 ⟨ho50, hst49, hz51⟩
 obtain ⟨hx52, _⟩ := no hx28 ho10 hst49
 clear ho10
 have hlsho50 : ((((opL list code (rlC list code pieces) 0 (0 - pieces))).set (((fnB ((opL list code (rlC list code pieces) 0 (0 - pieces))) code : Int)).toNat) ((x29.1, (x29.2.1 - pieces), x29.2.2.1, x29.2.2.2.1, x29.2.2.2.2)))).length = ((opL list code (rlC list code pieces) 0 (0 - pieces))).length := List.length_set
 revert A; refine go ?_; intro A H
 refine ret2 H rfl rfl rfl ?_
 clear H A
 refine ret_mk hx52 ⟨v9, (tup2_eq rfl (int_eq (by simp_all [rlC]))), ?_⟩
 refine (fi ho50).cast ?_
 have hr : rlC list code pieces = 0 := by (simp_all [rlC]; done)
 rw [hofc20, hopc20, opL_ok hr, chL_eq hyx29, List.set_set]
 exact chL_set hyx29 (bin_ext (by rw [hzx29]; rfl) (by rw [hzx29]; (simp only [adB]; omega)) (by rw [hzx29]; (simp only [adB]; done)) (by rw [hzx29]; rfl) (by rw [hzx29]; rfl))
 rw [decide_eq_false c20] at H
 revert A; refine go ?_; intro A H
 refine ret2 H rfl rfl rfl ?_
 clear H A
 refine ret_mk hx12 ⟨.slice none 0 0, (tup2_eq rfl (int_eq (by simp [rlC]))), ?_⟩
 refine Own.nil_ _ _ _ _ _ _ ?_
 exact (opL_no (by simp_all [rlC])).symm



theorem c_spec_UsePieces (w0 : World) (v_list : Value) (list : List (Str × Int × Int × Int × Int)) {S_list : Nat → Prop} (code : Str) (pieces : Int) (h_list : Rds shBin S_list w0 v_list list) :
    Calls Tryz.prog 131 #[v_list, St code, .int .i64 pieces] w0 (Ret w0 (fun v w1 => ∃ r0, v = .tuple #[r0, .int .i64 (rlC list code pieces)] ∧ Own shBin 65 w0.heap.size w0.heap.size w1.heap.size w1 r0 (opL list code (rlC list code pieces) (0 - pieces) (0 - pieces)))) := by
 refine enter (N := 25) Tryz.func131 rfl rfl rfl ?_
 intro A H
 have hx0 := Ext.rfl' w0
 have hl_list := h_list.length_le
 have hfb := fnB_bd list code
 revert A; refine go ?_; intro A H
 refine wc H cb149 (c_spec_l24Held _ v_list list code pieces (h_list.ext pos_shBin hx0)) ?_
 clear H A; rintro v6 w7 he8 rfl A H
 obtain ⟨hx10, _⟩ := nx hx0 he8
 revert A; refine go ?_; intro A H
 by_cases c14 : (rlC list code pieces : Int) = (0 : Int)
 rw [decide_eq_true c14] at H
 obtain ⟨hk0c14, hk1c14, hk2c14, hk3c14, hk4c14⟩ := rl_know c14
 have hopc14 := opL_ok (xs := list) (c := code) (x := 0) (y := 0 - pieces) c14
 have hofc14 : fnB (opL list code (rlC list code pieces) 0 (0 - pieces)) code = fnB list code := by rw [hopc14]; exact fnB_ch hk3c14 _ _
 have holc14 := (congrArg List.length hopc14).trans (chL_len _ _ _ _)
 revert A; refine go ?_; intro A H
 refine wc H cb145 (c_spec_l24Find _ v_list list code (h_list.ext pos_shBin hx10)) ?_
 clear H A; rintro v18 w19 he20 rfl A H
 obtain ⟨hx22, _⟩ := nx hx10 he20
 refine wv H (op_move H rfl rfl) ?_
 clear H A; intro A H
 refine wv H ((op_neg H rfl rfl).int (IntWalk.i64_in _ (by omega))) ?_
 clear H A; intro A H
 refine wv H (op_move H rfl rfl) ?_
 clear H A; intro A H
 refine wv H ((op_neg H rfl rfl).int (IntWalk.i64_in _ (by omega))) ?_
 clear H A; intro A H
 refine wc H cb147 (c_spec_l24Change _ v_list list (fnB list code : Int) (0 - pieces) (0 - pieces) (h_list.ext pos_shBin hx22) (by assumption) (by omega) (by omega) (by omega)) ?_
 clear H A; rintro v27 w28 he29 ho30 A H
 obtain ⟨hx32, _⟩ := nx hx22 he29
 revert A; refine go ?_; intro A H
 refine ret2 H rfl rfl rfl ?_
 clear H A
 refine ret_mk hx32 ⟨v27, (tup2_eq rfl (int_eq (by simp [rlC]; omega))), ?_⟩
 refine (fi ho30).cast ?_
 have hr : rlC list code pieces = 0 := by (simp [rlC]; omega)
 exact (opL_ok hr).symm
 rw [decide_eq_false c14] at H
 revert A; refine go ?_; intro A H
 refine ret2 H rfl rfl rfl ?_
 clear H A
 refine ret_mk hx10 ⟨.slice none 0 0, (tup2_eq rfl (int_eq (by simp [rlC]))), ?_⟩
 refine Own.nil_ _ _ _ _ _ _ ?_
 exact (opL_no (by simp_all [rlC])).symm




end Go.Proofs.YthbehhhblchhhaaGreat
