/- Commands drawn. -/
import Derived.Test.YthbehhhblchhhaaGreatR1
import Derived.Test.YthbehhhblchhhaaGreatD1
namespace Go.Proofs.YthbehhhblchhhaaGreat
open Go Go.RowKit
set_option maxHeartbeats 16000000

def nm16 : List Str := [[97, 110, 99, 104, 111, 114], [98, 111, 108, 116], [99, 114, 97, 110, 107], [102, 111, 114, 107], [102, 114, 97, 109, 101], [104, 101, 97, 100, 115, 101, 116], [112, 111, 115, 116], [115, 97, 100, 100, 108, 101]]
theorem nm16_len : nm16.length = 8 := rfl

theorem c_spec_l16Names (w0 : World)   :
    Calls Tryz.prog 66 #[] w0 (Ret w0 (fun v w1 => Own shStr 9 w0.heap.size w0.heap.size w1.heap.size w1 v (nm16))) := by
 refine enter (N := 2) Tryz.func66 rfl rfl rfl ?_
 intro A H
 have hx0 := Ext.rfl' w0
 revert A; refine go ?_; intro A H
 refine we H (op_buildSlice (s := shStr) (xs := [([97, 110, 99, 104, 111, 114] : Str), ([98, 111, 108, 116] : Str), ([99, 114, 97, 110, 107] : Str), ([102, 111, 114, 107] : Str), ([102, 114, 97, 109, 101] : Str), ([104, 101, 97, 100, 115, 101, 116] : Str), ([112, 111, 115, 116] : Str), ([115, 97, 100, 100, 108, 101] : Str)]) (cs := [St (([97, 110, 99, 104, 111, 114] : Str)), St (([98, 111, 108, 116] : Str)), St (([99, 114, 97, 110, 107] : Str)), St (([102, 111, 114, 107] : Str)), St (([102, 114, 97, 109, 101] : Str)), St (([104, 101, 97, 100, 115, 101, 116] : Str)), St (([112, 111, 115, 116] : Str)), St (([115, 97, 100, 100, 108, 101] : Str))]) (vs := [(0, St (([97, 110, 99, 104, 111, 114] : Str))), (1, St (([98, 111, 108, 116] : Str))), (2, St (([99, 114, 97, 110, 107] : Str))), (3, St (([102, 111, 114, 107] : Str))), (4, St (([102, 114, 97, 109, 101] : Str))), (5, St (([104, 101, 97, 100, 115, 101, 116] : Str))), (6, St (([112, 111, 115, 116] : Str))), (7, St (([115, 97, 100, 100, 108, 101] : Str)))]) (S := fun _ => False) (le := w0.heap.size) H rfl pos_shStr U25 ti9 rfl rfl (by decide) (by kernel_rfl) ⟨mk_shStr (([97, 110, 99, 104, 111, 114] : Str)) (by decide), mk_shStr (([98, 111, 108, 116] : Str)) (by decide), mk_shStr (([99, 114, 97, 110, 107] : Str)) (by decide), mk_shStr (([102, 111, 114, 107] : Str)) (by decide), mk_shStr (([102, 114, 97, 109, 101] : Str)) (by decide), mk_shStr (([104, 101, 97, 100, 115, 101, 116] : Str)) (by decide), mk_shStr (([112, 111, 115, 116] : Str)) (by decide), mk_shStr (([115, 97, 100, 100, 108, 101] : Str)) (by decide), rfl⟩ (fun _ h => h.elim)) ?_
 clear H A; rintro v2 w3 ⟨ho4, he5, hob6⟩ A H
 obtain ⟨hx8, _⟩ := nx hx0 he5
 revert A; refine go ?_; intro A H
 refine ret1 H rfl rfl ?_
 clear H A
 refine ret_mk hx8 ?_
 refine (fi ho4).cast ?_
 rfl



theorem c_spec_l34Command (w0 : World) (g_s b_s : Nat) (h_s : Src w0 g_s b_s 75) :
    Calls Tryz.prog 36 #[.pointer (some (⟨g_s, 0, none⟩ : Addr))] w0 (RetS w0 (some g_s) (fun v w1 => Src w1 g_s b_s 75 ∧ (fun v w1 => ∃ (d : Str), (d.length ≤ 90) ∧ (fun v _ => v = St (d)) v w1) v w1)) := by
 refine enter (N := 142) Tryz.func36 rfl rfl rfl ?_
 intro A H
 have hx0 := Stp.rfl' w0 (some g_s)
 have hgl_s := h_s.lt
 have hn16 := nm16_len
 revert A; refine go ?_; intro A H
 refine wc H cb66 (c_spec_l16Names _  ) ?_
 clear H A; rintro v2 w3 he4 ho5 A H
 obtain ⟨hx7, _⟩ := nxe hx0 he4
 replace h_s := h_s.ext he4
 refine wv H (op_move H rfl rfl) ?_
 clear H A; intro A H
 refine wl_callS H rfl rfl rfl (op_call H rfl cb37 rfl) (c_spec_l01Next _ g_s b_s (3 : Int) h_s) ?_
 clear H A; rintro v9 w10 he11 ⟨hS12, ⟨q13, hq14, hq15, hq16, rfl⟩⟩ A H
 obtain ⟨hx18, _⟩ := nxs hx7 he11
 replace ho5 := ho5.stp he11 (by intro q hq; cases hq; omega)
 have hSlhS12 := hS12.lt
 obtain ⟨x19, hx19⟩ := get_ex (xs := (nm16)) (j := ((q13 : Int)).toNat) (by omega)
 obtain ⟨p20, hi22, hc23, b26, _, _⟩ := at_shStr (ho5.rds pos_shStr) hx19
 have hdlx19 := el_len 17 (xs := nm16) (by rfl) hx19
 refine wv H (ix H U25 ti9 hi22) ?_
 clear H A; intro A H
 refine wv H (lh H U9 hc23) ?_
 clear H A; intro A H
 clear ho5 hc23
 revert A; refine go ?_; intro A H
 refine we H (op_lits [([97, 100, 97] : Str), ([98, 111] : Str), ([99, 121] : Str)] H U25 ti9) ?_
 clear H A; rintro v30 w31 ⟨ho32, he33, hob34⟩ A H
 obtain ⟨hx36, _⟩ := nxe hx18 he33
 replace hS12 := hS12.ext he33
 refine wv H (op_move H rfl rfl) ?_
 clear H A; intro A H
 refine wl_callS H rfl rfl rfl (op_call H rfl cb37 rfl) (c_spec_l01Next _ g_s b_s (3 : Int) hS12) ?_
 clear H A; rintro v38 w39 he40 ⟨hS41, ⟨q42, hq43, hq44, hq45, rfl⟩⟩ A H
 obtain ⟨hx47, _⟩ := nxs hx36 he40
 replace ho32 := ho32.stp he40 (by intro q hq; cases hq; omega)
 clear hS12
 have hSlhS41 := hS41.lt
 obtain ⟨x48, hx48⟩ := get_ex (xs := [([97, 100, 97] : Str), ([98, 111] : Str), ([99, 121] : Str)]) (j := ((q42 : Int)).toNat) (by simp only [List.length_cons, List.length_nil]; omega)
 obtain ⟨p49, hi51, hc52, b55, _, _⟩ := at_shStr (ho32.rds pos_shStr) hx48
 have hdlx48 := el_len 17 (by rfl) hx48
 refine wv H (ix H U25 ti9 hi51) ?_
 clear H A; intro A H
 refine wv H (lh H U9 hc52) ?_
 clear H A; intro A H
 clear ho32 hc52
 revert A; refine go ?_; intro A H
 refine wl_callS H rfl rfl rfl (op_call H rfl cb37 rfl) (c_spec_l01Next _ g_s b_s (14 : Int) hS41) ?_
 clear H A; rintro v60 w61 he62 ⟨hS63, ⟨q64, hq65, hq66, hq67, rfl⟩⟩ A H
 obtain ⟨hx69, _⟩ := nxs hx47 he62
 clear hS41
 have hSlhS63 := hS63.lt
 refine wpList_nil ?_
 refine then_n ?_
 refine wp_block ?_
 refine seq_mid (fun fr wl => ∃ (bq : Bool), Sl 142 fr [(0, .pointer (some (⟨g_s, 0, none⟩ : Addr))), (3, St x19), (4, St x48), (16, .int .i64 (q64 : Int)), (17, .bool (bq))] ∧ Stp w0 wl (some g_s) ∧ Src wl g_s b_s 75 ∧ w61.heap.size ≤ wl.heap.size) ?_ ?_
 revert A; refine go ?_; intro A H
 by_cases c75 : (q64 : Int) = (0 : Int)
 rw [decide_eq_true c75] at H
 revert A; refine go ?_; intro A H
 refine ⟨true, (sl H), hx69, hS63, (by omega)⟩
 rw [decide_eq_false c75] at H
 revert A; refine go ?_; intro A H
 refine ⟨decide ((q64 : Int) = (1 : Int)), (sl H), hx69, hS63, (by omega)⟩
 clear H A
 rintro A w70 ⟨bq, H, hx71, hf72, hzl79⟩
 have hzhx71 := hx71.size
 have hgl80 := hf72.lt
 rcases Bool.eq_false_or_eq_true (bq) with c81 | c81
 rw [c81] at H
 revert A; refine go ?_; intro A H
 refine wv H (op_sadd H rfl rfl rfl (by (try simp only [List.length_cons, List.length_nil]); omega)) ?_
 clear H A; intro A H
 refine wv H (op_sadd H rfl rfl rfl (by (try simp only [List.length_append, List.length_cons, List.length_nil]); omega)) ?_
 clear H A; intro A H
 refine wv H (op_move H rfl rfl) ?_
 clear H A; intro A H
 refine wl_callS H rfl rfl rfl (op_call H rfl cb37 rfl) (c_spec_l01Next _ g_s b_s (6 : Int) hf72) ?_
 clear H A; rintro v86 w87 he88 ⟨hS89, ⟨q90, hq91, hq92, hq93, rfl⟩⟩ A H
 obtain ⟨hx95, _⟩ := nxs hx71 he88
 clear hf72
 have hSlhS89 := hS89.lt
 refine wc H cb67 (c_spec_l01Dec _ (q90 : Int) (by assumption) (by omega)) ?_
 clear H A; rintro v96 w97 he98 rfl A H
 obtain ⟨hx100, _⟩ := nxe hx95 he98
 replace hS89 := hS89.ext he98
 refine wv H (op_sadd H rfl rfl rfl (by have hL0 := decS_len (n := (q90 : Int)) (by omega); (try simp only [List.length_append, List.length_cons, List.length_nil]); omega)) ?_
 clear H A; intro A H
 refine wv H (op_sadd H rfl rfl rfl (by have hL0 := decS_len (n := (q90 : Int)) (by omega); (try simp only [List.length_append, List.length_cons, List.length_nil]); omega)) ?_
 clear H A; intro A H
 refine wv H (op_move H rfl rfl) ?_
 clear H A; intro A H
 refine wl_callS H rfl rfl rfl (op_call H rfl cb37 rfl) (c_spec_l01Next _ g_s b_s (5 : Int) hS89) ?_
 clear H A; rintro v104 w105 he106 ⟨hS107, ⟨q108, hq109, hq110, hq111, rfl⟩⟩ A H
 obtain ⟨hx113, _⟩ := nxs hx100 he106
 clear hS89
 have hSlhS107 := hS107.lt
 refine wv H ((op_add H rfl rfl rfl).int (IntWalk.i64_in _ (by omega))) ?_
 clear H A; intro A H
 refine wc H cb67 (c_spec_l01Dec _ ((1 : Int) + (q108 : Int)) (by omega) (by omega)) ?_
 clear H A; rintro v115 w116 he117 rfl A H
 obtain ⟨hx119, _⟩ := nxe hx113 he117
 replace hS107 := hS107.ext he117
 refine wv H (op_sadd H rfl rfl rfl (by have hL0 := decS_len (n := (q90 : Int)) (by omega); have hL1 := decS_len (n := ((1 : Int) + (q108 : Int))) (by omega); (try simp only [List.length_append, List.length_cons, List.length_nil]); omega)) ?_
 clear H A; refine go ?_; intro A H
 refine ret1 H rfl rfl ?_
 clear H A
 refine ret_mkS hx119 ⟨hS107, ?_⟩
 refine ⟨((((((([98, 105, 110, 32] : Str)) ++ x19) ++ (([32] : Str))) ++ ((decS (q90 : Int)))) ++ (([32] : Str))) ++ ((decS ((1 : Int) + (q108 : Int)))) : Str), (by have hL0 := decS_len (n := (q90 : Int)) (by omega); have hL1 := decS_len (n := ((1 : Int) + (q108 : Int))) (by omega); (try simp only [List.length_append, List.length_cons, List.length_nil]); omega), ?_⟩
 exact (congrArg St (by rfl))
 rw [c81] at H
 refine cond_f H rfl ?_
 refine seq_mid (fun fr wl => ∃ (bq : Bool), Sl 142 fr [(0, .pointer (some (⟨g_s, 0, none⟩ : Addr))), (3, St x19), (4, St x48), (16, .int .i64 (q64 : Int)), (33, .bool (bq))] ∧ Stp w0 wl (some g_s) ∧ Src wl g_s b_s 75 ∧ w70.heap.size ≤ wl.heap.size) ?_ ?_
 revert A; refine go ?_; intro A H
 by_cases c127 : (q64 : Int) = (2 : Int)
 rw [decide_eq_true c127] at H
 revert A; refine go ?_; intro A H
 refine ⟨true, (sl H), hx71, hf72, (by omega)⟩
 rw [decide_eq_false c127] at H
 revert A; refine go ?_; intro A H
 refine ⟨decide ((q64 : Int) = (3 : Int)), (sl H), hx71, hf72, (by omega)⟩
 clear H A
 rintro A w122 ⟨bq, H, hx123, hf124, hzl131⟩
 have hzhx123 := hx123.size
 have hgl132 := hf124.lt
 rcases Bool.eq_false_or_eq_true (bq) with c133 | c133
 rw [c133] at H
 revert A; refine go ?_; intro A H
 refine wv H (op_sadd H rfl rfl rfl (by (try simp only [List.length_cons, List.length_nil]); omega)) ?_
 clear H A; intro A H
 refine wv H (op_sadd H rfl rfl rfl (by (try simp only [List.length_append, List.length_cons, List.length_nil]); omega)) ?_
 clear H A; intro A H
 refine wv H (op_move H rfl rfl) ?_
 clear H A; intro A H
 refine wl_callS H rfl rfl rfl (op_call H rfl cb37 rfl) (c_spec_l01Next _ g_s b_s (9 : Int) hf124) ?_
 clear H A; rintro v138 w139 he140 ⟨hS141, ⟨q142, hq143, hq144, hq145, rfl⟩⟩ A H
 obtain ⟨hx147, _⟩ := nxs hx123 he140
 clear hf124
 have hSlhS141 := hS141.lt
 refine wv H ((op_add H rfl rfl rfl).int (IntWalk.i64_in _ (by omega))) ?_
 clear H A; intro A H
 refine wc H cb67 (c_spec_l01Dec _ ((1 : Int) + (q142 : Int)) (by omega) (by omega)) ?_
 clear H A; rintro v149 w150 he151 rfl A H
 obtain ⟨hx153, _⟩ := nxe hx147 he151
 replace hS141 := hS141.ext he151
 refine wv H (op_sadd H rfl rfl rfl (by have hL0 := decS_len (n := ((1 : Int) + (q142 : Int))) (by omega); (try simp only [List.length_append, List.length_cons, List.length_nil]); omega)) ?_
 clear H A; refine go ?_; intro A H
 refine ret1 H rfl rfl ?_
 clear H A
 refine ret_mkS hx153 ⟨hS141, ?_⟩
 refine ⟨((((([102, 105, 108, 108, 32] : Str)) ++ x19) ++ (([32] : Str))) ++ ((decS ((1 : Int) + (q142 : Int)))) : Str), (by have hL0 := decS_len (n := ((1 : Int) + (q142 : Int))) (by omega); (try simp only [List.length_append, List.length_cons, List.length_nil]); omega), ?_⟩
 exact (congrArg St (by rfl))
 rw [c133] at H
 refine cond_f H rfl ?_
 refine seq_mid (fun fr wl => ∃ (bq : Bool), Sl 142 fr [(0, .pointer (some (⟨g_s, 0, none⟩ : Addr))), (3, St x19), (4, St x48), (16, .int .i64 (q64 : Int)), (44, .bool (bq))] ∧ Stp w0 wl (some g_s) ∧ Src wl g_s b_s 75 ∧ w122.heap.size ≤ wl.heap.size) ?_ ?_
 revert A; refine go ?_; intro A H
 by_cases c161 : (q64 : Int) = (4 : Int)
 rw [decide_eq_true c161] at H
 revert A; refine go ?_; intro A H
 refine ⟨true, (sl H), hx123, hf124, (by omega)⟩
 rw [decide_eq_false c161] at H
 revert A; refine go ?_; intro A H
 refine ⟨decide ((q64 : Int) = (5 : Int)), (sl H), hx123, hf124, (by omega)⟩
 clear H A
 rintro A w156 ⟨bq, H, hx157, hf158, hzl165⟩
 have hzhx157 := hx157.size
 have hgl166 := hf158.lt
 rcases Bool.eq_false_or_eq_true (bq) with c167 | c167
 rw [c167] at H
 revert A; refine go ?_; intro A H
 refine dre (fun wa_ wb_ => Stp wa_ wb_ (some g_s)) follows_mixed ?_
 intro w168 he169 hs171
 obtain ⟨hx170, _⟩ := nxe hx157 he169
 replace hf158 := hf158.ext he169
 refine dr_share (fun fr wl S => ∃ (q172 : Str) (q173 : Int), S = (fun w' => Stp wl w' (some g_s)) ∧ Sl 142 fr [(0, .pointer (some (⟨g_s, 0, none⟩ : Addr))), (54, St ((q172 ++ x19) ++ (([32] : Str)))), (57, .int .i64 ((1 : Int) + (q173 : Int)))] ∧ Stp w0 wl (some g_s) ∧ Src wl g_s b_s 75 ∧ (q172.length ≤ 17) ∧ ((0 : Int) ≤ q173) ∧ (q173 ≤ (1000 : Int)) ∧ (0 ≤ q173) ∧ ((4 : Int) ≤ 1 → q173 = 0) ∧ (1 < (4 : Int) → q173 < (4 : Int)) ∧ w168.heap.size ≤ wl.heap.size) 3 #[true, true, true, true, true, true, true, true, true, true, true, false, false, false] ?_ ?_
 clear H A
 rintro A w174 _ ⟨q172, q173, rfl, H, hx175, hf176, hg178, hg179, hg180, hg181, hg182, hg183, hzl177⟩
 have hzhx175 := hx175.size
 have hgl184 := hf176.lt
 have hs186 : Ext w174 w174 := Ext.rfl' _
 refine dr_one (i := 11) (by kernel_rfl) ?_
 refine pc H cb67 rfl (c_spec_l01Dec _ ((1 : Int) + (q173 : Int)) (by omega) (by omega)) ?_
 clear H A; rintro v187 w188 he189 rfl A H
 have hs191 := hs186.trans' he189
 obtain ⟨hx192, _⟩ := nxe hx175 he189
 refine ⟨(Stp.of_ext hs191 _), ?_⟩
 replace hf176 := hf176.ext hs191
 refine drs (Stp.of_ext hs191 _) ?_
 intro hs193
 refine dw 12 H rfl (Stp.of_ext hs193 _) (op_sadd H rfl rfl rfl (by have hL0 := decS_len (n := ((1 : Int) + (q173 : Int))) (by omega); (try simp only [List.length_append, List.length_cons, List.length_nil]); omega)) ?_
 clear H A; intro A H
 refine dw 13 H rfl (Stp.of_ext hs193 _) (op_assign H rfl rfl) ?_
 clear H A; intro A H
 refine dr_end (by kernel_rfl) ?_
 revert A; refine go ?_; intro A H
 refine ret1 H rfl rfl ?_
 clear H A
 refine ret_mkS hx192 ⟨hf176, ?_⟩
 refine ⟨(((q172 ++ x19) ++ (([32] : Str))) ++ ((decS ((1 : Int) + (q173 : Int)))) : Str), (by have hL0 := decS_len (n := ((1 : Int) + (q173 : Int))) (by omega); (try simp only [List.length_append, List.length_cons, List.length_nil]); omega), ?_⟩
 exact (congrArg St (by rfl))
 intro hk196
 refine dr_share (fun fr wl S => ∃ (q197 : Str), S = (fun w' => Stp wl w' (some g_s)) ∧ Sl 142 fr [(0, .pointer (some (⟨g_s, 0, none⟩ : Addr))), (54, St ((q197 ++ x19) ++ (([32] : Str)))), (55, .pointer (some (⟨g_s, 0, none⟩ : Addr)))] ∧ Stp w0 wl (some g_s) ∧ Src wl g_s b_s 75 ∧ (q197.length ≤ 17) ∧ w168.heap.size ≤ wl.heap.size) 5 #[true, true, true, true, true, true, true, true, true, false, false, false, false, false] ?_ ?_
 clear H A
 rintro A w198 _ ⟨q197, rfl, H, hx199, hf200, hg202, hzl201⟩
 have hzhx199 := hx199.size
 have hgl203 := hf200.lt
 have hs205 : Ext w198 w198 := Ext.rfl' _
 refine dr_one (i := 9) (by kernel_rfl) ?_
 refine po_callS H rfl rfl rfl rfl (op_call H rfl cb37 rfl) (c_spec_l01Next _ g_s b_s (4 : Int) hf200) ?_
 clear H A; rintro v206 w207 he208 ⟨hS209, ⟨q210, hq211, hq212, hq213, rfl⟩⟩ A H
 obtain ⟨hx215, _⟩ := nxs hx199 he208
 clear hf200
 have hSlhS209 := hS209.lt
 have hs216 := (Stp.of_ext hs205 (some g_s)).trans' he208
 refine ⟨hs216, ?_⟩
 refine drs hs216 ?_
 intro hs217
 refine dw 10 H rfl (Stp.of_ext hs217 _) ((op_add H rfl rfl rfl).int (IntWalk.i64_in _ (by omega))) ?_
 clear H A; intro A H
 exact dr_listed (by kernel_rfl) (hk196 _ _ _ ⟨q197, q210, rfl, (sl H), hx215, hS209, (by omega), (by omega), (by omega), (by omega), (by assumption), (by omega), (by omega)⟩)
 intro hk219
 revert A; refine dgo [1, 5, 8] (Stp.of_ext hs171 _) ?_; intro A H
 refine dr_two (i := 0) (j := 2) (by kernel_rfl) ?_ ?_
 refine pe H rfl (op_lits [([114, 101, 115, 101, 114, 118, 101, 32] : Str), ([114, 101, 108, 101, 97, 115, 101, 32] : Str), ([117, 115, 101, 32] : Str)] H U25 ti9) ?_
 clear H A; rintro v223 w224 ⟨ho225, he226, hob227⟩ A H
 have hs229 := hs171.trans' he226
 obtain ⟨hx230, _⟩ := nxe hx170 he226
 refine ⟨(Stp.of_ext hs229 _), ?_⟩
 replace hf158 := hf158.ext hs229
 refine drs (Stp.of_ext hs229 _) ?_
 intro hs231
 refine dr_one (i := 2) (by kernel_rfl) ?_
 refine po_callS H rfl rfl rfl rfl (op_call H rfl cb37 rfl) (c_spec_l01Next _ g_s b_s (3 : Int) hf158) ?_
 clear H A; rintro v232 w233 he234 ⟨hS235, ⟨q236, hq237, hq238, hq239, rfl⟩⟩ A H
 obtain ⟨hx241, _⟩ := nxs hx230 he234
 replace ho225 := ho225.stp he234 (by intro q hq; cases hq; omega)
 clear hf158
 have hSlhS235 := hS235.lt
 have hs242 := (Stp.of_ext hs231 (some g_s)).trans' he234
 refine ⟨hs242, ?_⟩
 refine drs hs242 ?_
 intro hs243
 obtain ⟨x244, hx244⟩ := get_ex (xs := [([114, 101, 115, 101, 114, 118, 101, 32] : Str), ([114, 101, 108, 101, 97, 115, 101, 32] : Str), ([117, 115, 101, 32] : Str)]) (j := ((q236 : Int)).toNat) (by simp only [List.length_cons, List.length_nil]; omega)
 obtain ⟨p245, hi247, hc248, b251, _, _⟩ := at_shStr (ho225.rds pos_shStr) hx244
 have hdlx244 := el_len 17 (by rfl) hx244
 refine dw 3 H rfl (Stp.of_ext hs243 _) (ix H U25 ti9 hi247) ?_
 clear H A; intro A H
 refine dv 4 H rfl (Stp.of_ext hs243 _) (fun w' hw' => lh H U9 (hc248.stp hw' (by intro q hq; cases hq; omega))) ?_
 clear H A; intro A H
 refine dw 6 H rfl (Stp.of_ext hs243 _) (op_sadd H rfl rfl rfl (by (try simp only [List.length_append, List.length_cons, List.length_nil]); omega)) ?_
 clear H A; intro A H
 refine dw 7 H rfl (Stp.of_ext hs243 _) (op_sadd H rfl rfl rfl (by (try simp only [List.length_append, List.length_cons, List.length_nil]); omega)) ?_
 clear H A; intro A H
 exact dr_listed (by kernel_rfl) (hk219 _ _ _ ⟨x244, rfl, (sl H), hx241, hS235, (by omega), (by omega)⟩)
 refine po_callS H rfl rfl rfl rfl (op_call H rfl cb37 rfl) (c_spec_l01Next _ g_s b_s (3 : Int) hf158) ?_
 clear H A; rintro v256 w257 he258 ⟨hS259, ⟨q260, hq261, hq262, hq263, rfl⟩⟩ A H
 obtain ⟨hx265, _⟩ := nxs hx170 he258
 clear hf158
 have hSlhS259 := hS259.lt
 have hs266 := (Stp.of_ext hs171 (some g_s)).trans' he258
 refine ⟨hs266, ?_⟩
 refine drs hs266 ?_
 intro hs267
 refine dr_two (i := 0) (j := 9) (by kernel_rfl) ?_ ?_
 refine pe H rfl (op_lits [([114, 101, 115, 101, 114, 118, 101, 32] : Str), ([114, 101, 108, 101, 97, 115, 101, 32] : Str), ([117, 115, 101, 32] : Str)] H U25 ti9) ?_
 clear H A; rintro v268 w269 ⟨ho270, he271, hob272⟩ A H
 have hs274 := hs267.trans' he271
 obtain ⟨hx275, _⟩ := nxe hx265 he271
 refine ⟨(Stp.of_ext hs274 _), ?_⟩
 replace hS259 := hS259.ext hs274
 refine drs (Stp.of_ext hs274 _) ?_
 intro hs276
 obtain ⟨x277, hx277⟩ := get_ex (xs := [([114, 101, 115, 101, 114, 118, 101, 32] : Str), ([114, 101, 108, 101, 97, 115, 101, 32] : Str), ([117, 115, 101, 32] : Str)]) (j := ((q260 : Int)).toNat) (by simp only [List.length_cons, List.length_nil]; omega)
 obtain ⟨p278, hi280, hc281, b284, _, _⟩ := at_shStr (ho270.rds pos_shStr) hx277
 have hdlx277 := el_len 17 (by rfl) hx277
 refine dw 3 H rfl (Stp.of_ext hs276 _) (ix H U25 ti9 hi280) ?_
 clear H A; intro A H
 refine dv 4 H rfl (Stp.of_ext hs276 _) (fun w' hw' => lh H U9 (hc281.stp hw' (by intro q hq; cases hq; omega))) ?_
 clear H A; intro A H
 refine dw 6 H rfl (Stp.of_ext hs276 _) (op_sadd H rfl rfl rfl (by (try simp only [List.length_append, List.length_cons, List.length_nil]); omega)) ?_
 clear H A; intro A H
 refine dw 7 H rfl (Stp.of_ext hs276 _) (op_sadd H rfl rfl rfl (by (try simp only [List.length_append, List.length_cons, List.length_nil]); omega)) ?_
 clear H A; intro A H
 exact dr_listed (by kernel_rfl) (hk219 _ _ _ ⟨x277, rfl, (sl H), hx275, hS259, (by omega), (by omega)⟩)
 refine po_callS H rfl rfl rfl rfl (op_call H rfl cb37 rfl) (c_spec_l01Next _ g_s b_s (4 : Int) hS259) ?_
 clear H A; rintro v289 w290 he291 ⟨hS292, ⟨q293, hq294, hq295, hq296, rfl⟩⟩ A H
 obtain ⟨hx298, _⟩ := nxs hx265 he291
 clear hS259
 have hSlhS292 := hS292.lt
 have hs299 := (Stp.of_ext hs267 (some g_s)).trans' he291
 refine ⟨hs299, ?_⟩
 refine drs hs299 ?_
 intro hs300
 refine dw 10 H rfl (Stp.of_ext hs300 _) ((op_add H rfl rfl rfl).int (IntWalk.i64_in _ (by omega))) ?_
 clear H A; intro A H
 refine dr_two (i := 0) (j := 11) (by kernel_rfl) ?_ ?_
 refine pe H rfl (op_lits [([114, 101, 115, 101, 114, 118, 101, 32] : Str), ([114, 101, 108, 101, 97, 115, 101, 32] : Str), ([117, 115, 101, 32] : Str)] H U25 ti9) ?_
 clear H A; rintro v302 w303 ⟨ho304, he305, hob306⟩ A H
 have hs308 := hs300.trans' he305
 obtain ⟨hx309, _⟩ := nxe hx298 he305
 refine ⟨(Stp.of_ext hs308 _), ?_⟩
 replace hS292 := hS292.ext hs308
 refine drs (Stp.of_ext hs308 _) ?_
 intro hs310
 obtain ⟨x311, hx311⟩ := get_ex (xs := [([114, 101, 115, 101, 114, 118, 101, 32] : Str), ([114, 101, 108, 101, 97, 115, 101, 32] : Str), ([117, 115, 101, 32] : Str)]) (j := ((q260 : Int)).toNat) (by simp only [List.length_cons, List.length_nil]; omega)
 obtain ⟨p312, hi314, hc315, b318, _, _⟩ := at_shStr (ho304.rds pos_shStr) hx311
 have hdlx311 := el_len 17 (by rfl) hx311
 refine dw 3 H rfl (Stp.of_ext hs310 _) (ix H U25 ti9 hi314) ?_
 clear H A; intro A H
 refine dv 4 H rfl (Stp.of_ext hs310 _) (fun w' hw' => lh H U9 (hc315.stp hw' (by intro q hq; cases hq; omega))) ?_
 clear H A; intro A H
 refine dw 6 H rfl (Stp.of_ext hs310 _) (op_sadd H rfl rfl rfl (by (try simp only [List.length_append, List.length_cons, List.length_nil]); omega)) ?_
 clear H A; intro A H
 refine dw 7 H rfl (Stp.of_ext hs310 _) (op_sadd H rfl rfl rfl (by (try simp only [List.length_append, List.length_cons, List.length_nil]); omega)) ?_
 clear H A; intro A H
 exact dr_listed (by kernel_rfl) (hk196 _ _ _ ⟨x311, q293, rfl, (sl H), hx309, hS292, (by omega), (by omega), (by omega), (by omega), (by assumption), (by omega), (by omega)⟩)
 refine pc H cb67 rfl (c_spec_l01Dec _ ((1 : Int) + (q293 : Int)) (by omega) (by omega)) ?_
 clear H A; rintro v323 w324 he325 rfl A H
 have hs327 := hs300.trans' he325
 obtain ⟨hx328, _⟩ := nxe hx298 he325
 refine ⟨(Stp.of_ext hs327 _), ?_⟩
 replace hS292 := hS292.ext hs327
 refine drs (Stp.of_ext hs327 _) ?_
 intro hs329
 refine dr_one (i := 0) (by kernel_rfl) ?_
 refine pe H rfl (op_lits [([114, 101, 115, 101, 114, 118, 101, 32] : Str), ([114, 101, 108, 101, 97, 115, 101, 32] : Str), ([117, 115, 101, 32] : Str)] H U25 ti9) ?_
 clear H A; rintro v330 w331 ⟨ho332, he333, hob334⟩ A H
 have hs336 := hs329.trans' he333
 obtain ⟨hx337, _⟩ := nxe hx328 he333
 refine ⟨(Stp.of_ext hs336 _), ?_⟩
 replace hS292 := hS292.ext hs336
 refine drs (Stp.of_ext hs336 _) ?_
 intro hs338
 obtain ⟨x339, hx339⟩ := get_ex (xs := [([114, 101, 115, 101, 114, 118, 101, 32] : Str), ([114, 101, 108, 101, 97, 115, 101, 32] : Str), ([117, 115, 101, 32] : Str)]) (j := ((q260 : Int)).toNat) (by simp only [List.length_cons, List.length_nil]; omega)
 obtain ⟨p340, hi342, hc343, b346, _, _⟩ := at_shStr (ho332.rds pos_shStr) hx339
 have hdlx339 := el_len 17 (by rfl) hx339
 refine dw 3 H rfl (Stp.of_ext hs338 _) (ix H U25 ti9 hi342) ?_
 clear H A; intro A H
 refine dv 4 H rfl (Stp.of_ext hs338 _) (fun w' hw' => lh H U9 (hc343.stp hw' (by intro q hq; cases hq; omega))) ?_
 clear H A; intro A H
 refine dw 6 H rfl (Stp.of_ext hs338 _) (op_sadd H rfl rfl rfl (by have hL0 := decS_len (n := ((1 : Int) + (q293 : Int))) (by omega); (try simp only [List.length_append, List.length_cons, List.length_nil]); omega)) ?_
 clear H A; intro A H
 refine dw 7 H rfl (Stp.of_ext hs338 _) (op_sadd H rfl rfl rfl (by have hL0 := decS_len (n := ((1 : Int) + (q293 : Int))) (by omega); (try simp only [List.length_append, List.length_cons, List.length_nil]); omega)) ?_
 clear H A; intro A H
 refine dw 12 H rfl (Stp.of_ext hs338 _) (op_sadd H rfl rfl rfl (by have hL0 := decS_len (n := ((1 : Int) + (q293 : Int))) (by omega); (try simp only [List.length_append, List.length_cons, List.length_nil]); omega)) ?_
 clear H A; intro A H
 refine dw 13 H rfl (Stp.of_ext hs338 _) (op_assign H rfl rfl) ?_
 clear H A; intro A H
 refine dr_end (by kernel_rfl) ?_
 revert A; refine go ?_; intro A H
 refine ret1 H rfl rfl ?_
 clear H A
 refine ret_mkS hx337 ⟨hS292, ?_⟩
 refine ⟨(((x339 ++ x19) ++ (([32] : Str))) ++ ((decS ((1 : Int) + (q293 : Int)))) : Str), (by have hL0 := decS_len (n := ((1 : Int) + (q293 : Int))) (by omega); (try simp only [List.length_append, List.length_cons, List.length_nil]); omega), ?_⟩
 exact (congrArg St (by rfl))
 rw [c167] at H
 revert A; refine go ?_; intro A H
 by_cases c355 : (q64 : Int) = (6 : Int)
 rw [decide_eq_true c355] at H
 revert A; refine go ?_; intro A H
 refine wv H (op_sadd H rfl rfl rfl (by (try simp only [List.length_cons, List.length_nil]); omega)) ?_
 clear H A; intro A H
 refine wv H (op_move H rfl rfl) ?_
 clear H A; intro A H
 refine wv H (op_sadd H rfl rfl rfl (by (try simp only [List.length_cons, List.length_nil]); omega)) ?_
 clear H A; intro A H
 refine we H (op_lits [(([102, 114, 101, 101, 32] : Str)) ++ x19, ([111, 114, 100, 101, 114] : Str), ([107, 101, 112, 116] : Str), (([111, 119, 101, 115, 32] : Str)) ++ x48] H U25 ti9) ?_
 clear H A; rintro v360 w361 ⟨ho362, he363, hob364⟩ A H
 obtain ⟨hx366, _⟩ := nxe hx157 he363
 replace hf158 := hf158.ext he363
 refine wv H (op_move H rfl rfl) ?_
 clear H A; intro A H
 refine wl_callS H rfl rfl rfl (op_call H rfl cb37 rfl) (c_spec_l01Next _ g_s b_s (4 : Int) hf158) ?_
 clear H A; rintro v368 w369 he370 ⟨hS371, ⟨q372, hq373, hq374, hq375, rfl⟩⟩ A H
 obtain ⟨hx377, _⟩ := nxs hx366 he370
 replace ho362 := ho362.stp he370 (by intro q hq; cases hq; omega)
 clear hf158
 have hSlhS371 := hS371.lt
 obtain ⟨x378, hx378⟩ := get_ex (xs := [(([102, 114, 101, 101, 32] : Str)) ++ x19, ([111, 114, 100, 101, 114] : Str), ([107, 101, 112, 116] : Str), (([111, 119, 101, 115, 32] : Str)) ++ x48]) (j := ((q372 : Int)).toNat) (by simp only [List.length_cons, List.length_nil]; omega)
 obtain ⟨p379, hi381, hc382, b385, _, _⟩ := at_shStr (ho362.rds pos_shStr) hx378
 have hdlx378 : x378.length ≤ 40 := by have h9 := List.mem_of_getElem? hx378; simp only [List.mem_cons, List.not_mem_nil, or_false] at h9; rcases h9 with h9 | h9 | h9 | h9 <;> (subst h9; simp only [List.length_append, List.length_cons, List.length_nil]; omega)
 refine wv H (ix H U25 ti9 hi381) ?_
 clear H A; intro A H
 refine wv H (lh H U9 hc382) ?_
 clear H A; refine go ?_; intro A H
 refine ret1 H rfl rfl ?_
 clear H A
 refine ret_mkS hx377 ⟨hS371, ?_⟩
 refine ⟨(x378 : Str), (by (try simp only [List.length_append, List.length_cons, List.length_nil]); omega), ?_⟩
 exact (congrArg St (by rfl))
 rw [decide_eq_false c355] at H
 refine cond_f H rfl ?_
 refine seq_mid (fun fr wl => ∃ (bq : Bool), Sl 142 fr [(0, .pointer (some (⟨g_s, 0, none⟩ : Addr))), (4, St x48), (16, .int .i64 (q64 : Int)), (71, .bool (bq))] ∧ Stp w0 wl (some g_s) ∧ Src wl g_s b_s 75 ∧ w156.heap.size ≤ wl.heap.size) ?_ ?_
 revert A; refine go ?_; intro A H
 by_cases c394 : (q64 : Int) = (7 : Int)
 rw [decide_eq_true c394] at H
 revert A; refine go ?_; intro A H
 refine ⟨true, (sl H), hx157, hf158, (by omega)⟩
 rw [decide_eq_false c394] at H
 revert A; refine go ?_; intro A H
 refine ⟨decide ((q64 : Int) = (8 : Int)), (sl H), hx157, hf158, (by omega)⟩
 clear H A
 rintro A w389 ⟨bq, H, hx390, hf391, hzl398⟩
 have hzhx390 := hx390.size
 have hgl399 := hf391.lt
 rcases Bool.eq_false_or_eq_true (bq) with c400 | c400
 rw [c400] at H
 revert A; refine go ?_; intro A H
 refine dre (fun wa_ wb_ => Stp wa_ wb_ (some g_s)) follows_mixed ?_
 intro w401 he402 hs404
 obtain ⟨hx403, _⟩ := nxe hx390 he402
 replace hf391 := hf391.ext he402
 refine dr_share (fun fr wl S => ∃ (q405 : Str) (q406 : Int) (q407 : Int), S = (fun w' => Stp wl w' (some g_s)) ∧ Sl 142 fr [(0, .pointer (some (⟨g_s, 0, none⟩ : Addr))), (86, St (((((([112, 114, 111, 109, 105, 115, 101, 32] : Str)) ++ q405) ++ (([32] : Str))) ++ ((decS ((1 : Int) + (q406 : Int))))) ++ (([32] : Str)))), (89, .int .i64 ((100 : Int) + (q407 : Int)))] ∧ Stp w0 wl (some g_s) ∧ Src wl g_s b_s 75 ∧ (q405.length ≤ 17) ∧ ((0 : Int) ≤ q406) ∧ (q406 ≤ (1000 : Int)) ∧ ((0 : Int) ≤ q407) ∧ (q407 ≤ (1000 : Int)) ∧ (0 ≤ q406) ∧ ((3 : Int) ≤ 1 → q406 = 0) ∧ (1 < (3 : Int) → q406 < (3 : Int)) ∧ (0 ≤ q407) ∧ ((300 : Int) ≤ 1 → q407 = 0) ∧ (1 < (300 : Int) → q407 < (300 : Int)) ∧ w401.heap.size ≤ wl.heap.size) 3 #[true, true, true, true, true, true, true, true, true, true, true, true, true, true, true, true, false, false, false] ?_ ?_
 clear H A
 rintro A w408 _ ⟨q405, q406, q407, rfl, H, hx409, hf410, hg412, hg413, hg414, hg415, hg416, hg417, hg418, hg419, hg420, hg421, hg422, hzl411⟩
 have hzhx409 := hx409.size
 have hgl423 := hf410.lt
 have hs425 : Ext w408 w408 := Ext.rfl' _
 refine dr_one (i := 16) (by kernel_rfl) ?_
 refine pc H cb67 rfl (c_spec_l01Dec _ ((100 : Int) + (q407 : Int)) (by omega) (by omega)) ?_
 clear H A; rintro v426 w427 he428 rfl A H
 have hs430 := hs425.trans' he428
 obtain ⟨hx431, _⟩ := nxe hx409 he428
 refine ⟨(Stp.of_ext hs430 _), ?_⟩
 replace hf410 := hf410.ext hs430
 refine drs (Stp.of_ext hs430 _) ?_
 intro hs432
 refine dw 17 H rfl (Stp.of_ext hs432 _) (op_sadd H rfl rfl rfl (by have hL0 := decS_len (n := ((1 : Int) + (q406 : Int))) (by omega); have hL1 := decS_len (n := ((100 : Int) + (q407 : Int))) (by omega); (try simp only [List.length_append, List.length_cons, List.length_nil]); omega)) ?_
 clear H A; intro A H
 refine dw 18 H rfl (Stp.of_ext hs432 _) (op_assign H rfl rfl) ?_
 clear H A; intro A H
 refine dr_end (by kernel_rfl) ?_
 revert A; refine go ?_; intro A H
 refine ret1 H rfl rfl ?_
 clear H A
 refine ret_mkS hx431 ⟨hf410, ?_⟩
 refine ⟨((((((([112, 114, 111, 109, 105, 115, 101, 32] : Str)) ++ q405) ++ (([32] : Str))) ++ ((decS ((1 : Int) + (q406 : Int))))) ++ (([32] : Str))) ++ ((decS ((100 : Int) + (q407 : Int)))) : Str), (by have hL0 := decS_len (n := ((1 : Int) + (q406 : Int))) (by omega); have hL1 := decS_len (n := ((100 : Int) + (q407 : Int))) (by omega); (try simp only [List.length_append, List.length_cons, List.length_nil]); omega), ?_⟩
 exact (congrArg St (by rfl))
 intro hk435
 refine dr_share (fun fr wl S => ∃ (q436 : Str) (q437 : Int), S = (fun w' => Stp wl w' (some g_s)) ∧ Sl 142 fr [(0, .pointer (some (⟨g_s, 0, none⟩ : Addr))), (86, St (((((([112, 114, 111, 109, 105, 115, 101, 32] : Str)) ++ q436) ++ (([32] : Str))) ++ ((decS ((1 : Int) + (q437 : Int))))) ++ (([32] : Str)))), (87, .pointer (some (⟨g_s, 0, none⟩ : Addr)))] ∧ Stp w0 wl (some g_s) ∧ Src wl g_s b_s 75 ∧ (q436.length ≤ 17) ∧ ((0 : Int) ≤ q437) ∧ (q437 ≤ (1000 : Int)) ∧ (0 ≤ q437) ∧ ((3 : Int) ≤ 1 → q437 = 0) ∧ (1 < (3 : Int) → q437 < (3 : Int)) ∧ w401.heap.size ≤ wl.heap.size) 5 #[true, true, true, true, true, true, true, true, true, true, true, true, true, true, false, false, false, false, false] ?_ ?_
 clear H A
 rintro A w438 _ ⟨q436, q437, rfl, H, hx439, hf440, hg442, hg443, hg444, hg445, hg446, hg447, hzl441⟩
 have hzhx439 := hx439.size
 have hgl448 := hf440.lt
 have hs450 : Ext w438 w438 := Ext.rfl' _
 refine dr_one (i := 14) (by kernel_rfl) ?_
 refine po_callS H rfl rfl rfl rfl (op_call H rfl cb37 rfl) (c_spec_l01Next _ g_s b_s (300 : Int) hf440) ?_
 clear H A; rintro v451 w452 he453 ⟨hS454, ⟨q455, hq456, hq457, hq458, rfl⟩⟩ A H
 obtain ⟨hx460, _⟩ := nxs hx439 he453
 clear hf440
 have hSlhS454 := hS454.lt
 have hs461 := (Stp.of_ext hs450 (some g_s)).trans' he453
 refine ⟨hs461, ?_⟩
 refine drs hs461 ?_
 intro hs462
 refine dw 15 H rfl (Stp.of_ext hs462 _) ((op_add H rfl rfl rfl).int (IntWalk.i64_in _ (by omega))) ?_
 clear H A; intro A H
 exact dr_listed (by kernel_rfl) (hk435 _ _ _ ⟨q436, q437, q455, rfl, (sl H), hx460, hS454, (by omega), (by omega), (by omega), (by omega), (by omega), (by omega), (by assumption), (by omega), (by omega), (by assumption), (by omega), (by omega)⟩)
 intro hk464
 refine dr_share (fun fr wl S => ∃ (q465 : Str) (q466 : Int), S = (fun w' => Stp wl w' (some g_s)) ∧ Sl 142 fr [(0, .pointer (some (⟨g_s, 0, none⟩ : Addr))), (80, St (((([112, 114, 111, 109, 105, 115, 101, 32] : Str)) ++ q465) ++ (([32] : Str)))), (83, .int .i64 ((1 : Int) + (q466 : Int))), (87, .pointer (some (⟨g_s, 0, none⟩ : Addr)))] ∧ Stp w0 wl (some g_s) ∧ Src wl g_s b_s 75 ∧ (q465.length ≤ 17) ∧ ((0 : Int) ≤ q466) ∧ (q466 ≤ (1000 : Int)) ∧ (0 ≤ q466) ∧ ((3 : Int) ≤ 1 → q466 = 0) ∧ (1 < (3 : Int) → q466 < (3 : Int)) ∧ w401.heap.size ≤ wl.heap.size) 8 #[true, true, true, true, true, true, true, true, true, true, false, false, false, true, false, false, false, false, false] ?_ ?_
 clear H A
 rintro A w467 _ ⟨q465, q466, rfl, H, hx468, hf469, hg471, hg472, hg473, hg474, hg475, hg476, hzl470⟩
 have hzhx468 := hx468.size
 have hgl477 := hf469.lt
 have hs479 : Ext w467 w467 := Ext.rfl' _
 refine dr_one (i := 10) (by kernel_rfl) ?_
 refine pc H cb67 rfl (c_spec_l01Dec _ ((1 : Int) + (q466 : Int)) (by omega) (by omega)) ?_
 clear H A; rintro v480 w481 he482 rfl A H
 have hs484 := hs479.trans' he482
 obtain ⟨hx485, _⟩ := nxe hx468 he482
 refine ⟨(Stp.of_ext hs484 _), ?_⟩
 replace hf469 := hf469.ext hs484
 refine drs (Stp.of_ext hs484 _) ?_
 intro hs486
 refine dw 11 H rfl (Stp.of_ext hs486 _) (op_sadd H rfl rfl rfl (by have hL0 := decS_len (n := ((1 : Int) + (q466 : Int))) (by omega); (try simp only [List.length_append, List.length_cons, List.length_nil]); omega)) ?_
 clear H A; intro A H
 refine dw 12 H rfl (Stp.of_ext hs486 _) (op_sadd H rfl rfl rfl (by have hL0 := decS_len (n := ((1 : Int) + (q466 : Int))) (by omega); (try simp only [List.length_append, List.length_cons, List.length_nil]); omega)) ?_
 clear H A; intro A H
 exact dr_listed (by kernel_rfl) (hk464 _ _ _ ⟨q465, q466, rfl, (sl H), hx485, hf469, (by omega), (by omega), (by omega), (by omega), (by assumption), (by omega), (by omega)⟩)
 intro hk489
 refine dr_share (fun fr wl S => ∃ (q490 : Str), S = (fun w' => Stp wl w' (some g_s)) ∧ Sl 142 fr [(0, .pointer (some (⟨g_s, 0, none⟩ : Addr))), (80, St (((([112, 114, 111, 109, 105, 115, 101, 32] : Str)) ++ q490) ++ (([32] : Str)))), (81, .pointer (some (⟨g_s, 0, none⟩ : Addr))), (87, .pointer (some (⟨g_s, 0, none⟩ : Addr)))] ∧ Stp w0 wl (some g_s) ∧ Src wl g_s b_s 75 ∧ (q490.length ≤ 17) ∧ w401.heap.size ≤ wl.heap.size) 10 #[true, true, true, true, true, true, true, true, false, false, false, false, false, true, false, false, false, false, false] ?_ ?_
 clear H A
 rintro A w491 _ ⟨q490, rfl, H, hx492, hf493, hg495, hzl494⟩
 have hzhx492 := hx492.size
 have hgl496 := hf493.lt
 have hs498 : Ext w491 w491 := Ext.rfl' _
 refine dr_one (i := 8) (by kernel_rfl) ?_
 refine po_callS H rfl rfl rfl rfl (op_call H rfl cb37 rfl) (c_spec_l01Next _ g_s b_s (3 : Int) hf493) ?_
 clear H A; rintro v499 w500 he501 ⟨hS502, ⟨q503, hq504, hq505, hq506, rfl⟩⟩ A H
 obtain ⟨hx508, _⟩ := nxs hx492 he501
 clear hf493
 have hSlhS502 := hS502.lt
 have hs509 := (Stp.of_ext hs498 (some g_s)).trans' he501
 refine ⟨hs509, ?_⟩
 refine drs hs509 ?_
 intro hs510
 refine dw 9 H rfl (Stp.of_ext hs510 _) ((op_add H rfl rfl rfl).int (IntWalk.i64_in _ (by omega))) ?_
 clear H A; intro A H
 exact dr_listed (by kernel_rfl) (hk489 _ _ _ ⟨q490, q503, rfl, (sl H), hx508, hS502, (by omega), (by omega), (by omega), (by omega), (by assumption), (by omega), (by omega)⟩)
 intro hk512
 revert A; refine dgo [1, 7, 13] (Stp.of_ext hs404 _) ?_; intro A H
 refine dr_two (i := 0) (j := 2) (by kernel_rfl) ?_ ?_
 refine pe H rfl (op_lits [([106, 105, 109] : Str), ([107, 97, 121] : Str), ([108, 111, 117] : Str)] H U25 ti9) ?_
 clear H A; rintro v516 w517 ⟨ho518, he519, hob520⟩ A H
 have hs522 := hs404.trans' he519
 obtain ⟨hx523, _⟩ := nxe hx403 he519
 refine ⟨(Stp.of_ext hs522 _), ?_⟩
 replace hf391 := hf391.ext hs522
 refine drs (Stp.of_ext hs522 _) ?_
 intro hs524
 refine dr_one (i := 2) (by kernel_rfl) ?_
 refine po_callS H rfl rfl rfl rfl (op_call H rfl cb37 rfl) (c_spec_l01Next _ g_s b_s (3 : Int) hf391) ?_
 clear H A; rintro v525 w526 he527 ⟨hS528, ⟨q529, hq530, hq531, hq532, rfl⟩⟩ A H
 obtain ⟨hx534, _⟩ := nxs hx523 he527
 replace ho518 := ho518.stp he527 (by intro q hq; cases hq; omega)
 clear hf391
 have hSlhS528 := hS528.lt
 have hs535 := (Stp.of_ext hs524 (some g_s)).trans' he527
 refine ⟨hs535, ?_⟩
 refine drs hs535 ?_
 intro hs536
 obtain ⟨x537, hx537⟩ := get_ex (xs := [([106, 105, 109] : Str), ([107, 97, 121] : Str), ([108, 111, 117] : Str)]) (j := ((q529 : Int)).toNat) (by simp only [List.length_cons, List.length_nil]; omega)
 obtain ⟨p538, hi540, hc541, b544, _, _⟩ := at_shStr (ho518.rds pos_shStr) hx537
 have hdlx537 := el_len 17 (by rfl) hx537
 refine dw 3 H rfl (Stp.of_ext hs536 _) (ix H U25 ti9 hi540) ?_
 clear H A; intro A H
 refine dv 4 H rfl (Stp.of_ext hs536 _) (fun w' hw' => lh H U9 (hc541.stp hw' (by intro q hq; cases hq; omega))) ?_
 clear H A; intro A H
 refine dw 5 H rfl (Stp.of_ext hs536 _) (op_sadd H rfl rfl rfl (by (try simp only [List.length_cons, List.length_nil]); omega)) ?_
 clear H A; intro A H
 refine dw 6 H rfl (Stp.of_ext hs536 _) (op_sadd H rfl rfl rfl (by (try simp only [List.length_append, List.length_cons, List.length_nil]); omega)) ?_
 clear H A; intro A H
 exact dr_listed (by kernel_rfl) (hk512 _ _ _ ⟨x537, rfl, (sl H), hx534, hS528, (by omega), (by omega)⟩)
 refine po_callS H rfl rfl rfl rfl (op_call H rfl cb37 rfl) (c_spec_l01Next _ g_s b_s (3 : Int) hf391) ?_
 clear H A; rintro v549 w550 he551 ⟨hS552, ⟨q553, hq554, hq555, hq556, rfl⟩⟩ A H
 obtain ⟨hx558, _⟩ := nxs hx403 he551
 clear hf391
 have hSlhS552 := hS552.lt
 have hs559 := (Stp.of_ext hs404 (some g_s)).trans' he551
 refine ⟨hs559, ?_⟩
 refine drs hs559 ?_
 intro hs560
 refine dr_two (i := 0) (j := 8) (by kernel_rfl) ?_ ?_
 refine pe H rfl (op_lits [([106, 105, 109] : Str), ([107, 97, 121] : Str), ([108, 111, 117] : Str)] H U25 ti9) ?_
 clear H A; rintro v561 w562 ⟨ho563, he564, hob565⟩ A H
 have hs567 := hs560.trans' he564
 obtain ⟨hx568, _⟩ := nxe hx558 he564
 refine ⟨(Stp.of_ext hs567 _), ?_⟩
 replace hS552 := hS552.ext hs567
 refine drs (Stp.of_ext hs567 _) ?_
 intro hs569
 obtain ⟨x570, hx570⟩ := get_ex (xs := [([106, 105, 109] : Str), ([107, 97, 121] : Str), ([108, 111, 117] : Str)]) (j := ((q553 : Int)).toNat) (by simp only [List.length_cons, List.length_nil]; omega)
 obtain ⟨p571, hi573, hc574, b577, _, _⟩ := at_shStr (ho563.rds pos_shStr) hx570
 have hdlx570 := el_len 17 (by rfl) hx570
 refine dw 3 H rfl (Stp.of_ext hs569 _) (ix H U25 ti9 hi573) ?_
 clear H A; intro A H
 refine dv 4 H rfl (Stp.of_ext hs569 _) (fun w' hw' => lh H U9 (hc574.stp hw' (by intro q hq; cases hq; omega))) ?_
 clear H A; intro A H
 refine dw 5 H rfl (Stp.of_ext hs569 _) (op_sadd H rfl rfl rfl (by (try simp only [List.length_cons, List.length_nil]); omega)) ?_
 clear H A; intro A H
 refine dw 6 H rfl (Stp.of_ext hs569 _) (op_sadd H rfl rfl rfl (by (try simp only [List.length_append, List.length_cons, List.length_nil]); omega)) ?_
 clear H A; intro A H
 exact dr_listed (by kernel_rfl) (hk512 _ _ _ ⟨x570, rfl, (sl H), hx568, hS552, (by omega), (by omega)⟩)
 refine po_callS H rfl rfl rfl rfl (op_call H rfl cb37 rfl) (c_spec_l01Next _ g_s b_s (3 : Int) hS552) ?_
 clear H A; rintro v582 w583 he584 ⟨hS585, ⟨q586, hq587, hq588, hq589, rfl⟩⟩ A H
 obtain ⟨hx591, _⟩ := nxs hx558 he584
 clear hS552
 have hSlhS585 := hS585.lt
 have hs592 := (Stp.of_ext hs560 (some g_s)).trans' he584
 refine ⟨hs592, ?_⟩
 refine drs hs592 ?_
 intro hs593
 refine dw 9 H rfl (Stp.of_ext hs593 _) ((op_add H rfl rfl rfl).int (IntWalk.i64_in _ (by omega))) ?_
 clear H A; intro A H
 refine dr_two (i := 0) (j := 10) (by kernel_rfl) ?_ ?_
 refine pe H rfl (op_lits [([106, 105, 109] : Str), ([107, 97, 121] : Str), ([108, 111, 117] : Str)] H U25 ti9) ?_
 clear H A; rintro v595 w596 ⟨ho597, he598, hob599⟩ A H
 have hs601 := hs593.trans' he598
 obtain ⟨hx602, _⟩ := nxe hx591 he598
 refine ⟨(Stp.of_ext hs601 _), ?_⟩
 replace hS585 := hS585.ext hs601
 refine drs (Stp.of_ext hs601 _) ?_
 intro hs603
 obtain ⟨x604, hx604⟩ := get_ex (xs := [([106, 105, 109] : Str), ([107, 97, 121] : Str), ([108, 111, 117] : Str)]) (j := ((q553 : Int)).toNat) (by simp only [List.length_cons, List.length_nil]; omega)
 obtain ⟨p605, hi607, hc608, b611, _, _⟩ := at_shStr (ho597.rds pos_shStr) hx604
 have hdlx604 := el_len 17 (by rfl) hx604
 refine dw 3 H rfl (Stp.of_ext hs603 _) (ix H U25 ti9 hi607) ?_
 clear H A; intro A H
 refine dv 4 H rfl (Stp.of_ext hs603 _) (fun w' hw' => lh H U9 (hc608.stp hw' (by intro q hq; cases hq; omega))) ?_
 clear H A; intro A H
 refine dw 5 H rfl (Stp.of_ext hs603 _) (op_sadd H rfl rfl rfl (by (try simp only [List.length_cons, List.length_nil]); omega)) ?_
 clear H A; intro A H
 refine dw 6 H rfl (Stp.of_ext hs603 _) (op_sadd H rfl rfl rfl (by (try simp only [List.length_append, List.length_cons, List.length_nil]); omega)) ?_
 clear H A; intro A H
 exact dr_listed (by kernel_rfl) (hk489 _ _ _ ⟨x604, q586, rfl, (sl H), hx602, hS585, (by omega), (by omega), (by omega), (by omega), (by assumption), (by omega), (by omega)⟩)
 refine pc H cb67 rfl (c_spec_l01Dec _ ((1 : Int) + (q586 : Int)) (by omega) (by omega)) ?_
 clear H A; rintro v616 w617 he618 rfl A H
 have hs620 := hs593.trans' he618
 obtain ⟨hx621, _⟩ := nxe hx591 he618
 refine ⟨(Stp.of_ext hs620 _), ?_⟩
 replace hS585 := hS585.ext hs620
 refine drs (Stp.of_ext hs620 _) ?_
 intro hs622
 refine dr_two (i := 0) (j := 14) (by kernel_rfl) ?_ ?_
 refine pe H rfl (op_lits [([106, 105, 109] : Str), ([107, 97, 121] : Str), ([108, 111, 117] : Str)] H U25 ti9) ?_
 clear H A; rintro v623 w624 ⟨ho625, he626, hob627⟩ A H
 have hs629 := hs622.trans' he626
 obtain ⟨hx630, _⟩ := nxe hx621 he626
 refine ⟨(Stp.of_ext hs629 _), ?_⟩
 replace hS585 := hS585.ext hs629
 refine drs (Stp.of_ext hs629 _) ?_
 intro hs631
 obtain ⟨x632, hx632⟩ := get_ex (xs := [([106, 105, 109] : Str), ([107, 97, 121] : Str), ([108, 111, 117] : Str)]) (j := ((q553 : Int)).toNat) (by simp only [List.length_cons, List.length_nil]; omega)
 obtain ⟨p633, hi635, hc636, b639, _, _⟩ := at_shStr (ho625.rds pos_shStr) hx632
 have hdlx632 := el_len 17 (by rfl) hx632
 refine dw 3 H rfl (Stp.of_ext hs631 _) (ix H U25 ti9 hi635) ?_
 clear H A; intro A H
 refine dv 4 H rfl (Stp.of_ext hs631 _) (fun w' hw' => lh H U9 (hc636.stp hw' (by intro q hq; cases hq; omega))) ?_
 clear H A; intro A H
 refine dw 5 H rfl (Stp.of_ext hs631 _) (op_sadd H rfl rfl rfl (by have hL0 := decS_len (n := ((1 : Int) + (q586 : Int))) (by omega); (try simp only [List.length_cons, List.length_nil]); omega)) ?_
 clear H A; intro A H
 refine dw 6 H rfl (Stp.of_ext hs631 _) (op_sadd H rfl rfl rfl (by have hL0 := decS_len (n := ((1 : Int) + (q586 : Int))) (by omega); (try simp only [List.length_append, List.length_cons, List.length_nil]); omega)) ?_
 clear H A; intro A H
 refine dw 11 H rfl (Stp.of_ext hs631 _) (op_sadd H rfl rfl rfl (by have hL0 := decS_len (n := ((1 : Int) + (q586 : Int))) (by omega); (try simp only [List.length_append, List.length_cons, List.length_nil]); omega)) ?_
 clear H A; intro A H
 refine dw 12 H rfl (Stp.of_ext hs631 _) (op_sadd H rfl rfl rfl (by have hL0 := decS_len (n := ((1 : Int) + (q586 : Int))) (by omega); (try simp only [List.length_append, List.length_cons, List.length_nil]); omega)) ?_
 clear H A; intro A H
 exact dr_listed (by kernel_rfl) (hk464 _ _ _ ⟨x632, q586, rfl, (sl H), hx630, hS585, (by omega), (by omega), (by omega), (by omega), (by assumption), (by omega), (by omega)⟩)
 refine po_callS H rfl rfl rfl rfl (op_call H rfl cb37 rfl) (c_spec_l01Next _ g_s b_s (300 : Int) hS585) ?_
 clear H A; rintro v646 w647 he648 ⟨hS649, ⟨q650, hq651, hq652, hq653, rfl⟩⟩ A H
 obtain ⟨hx655, _⟩ := nxs hx621 he648
 clear hS585
 have hSlhS649 := hS649.lt
 have hs656 := (Stp.of_ext hs622 (some g_s)).trans' he648
 refine ⟨hs656, ?_⟩
 refine drs hs656 ?_
 intro hs657
 refine dw 15 H rfl (Stp.of_ext hs657 _) ((op_add H rfl rfl rfl).int (IntWalk.i64_in _ (by omega))) ?_
 clear H A; intro A H
 refine dr_two (i := 0) (j := 16) (by kernel_rfl) ?_ ?_
 refine pe H rfl (op_lits [([106, 105, 109] : Str), ([107, 97, 121] : Str), ([108, 111, 117] : Str)] H U25 ti9) ?_
 clear H A; rintro v659 w660 ⟨ho661, he662, hob663⟩ A H
 have hs665 := hs657.trans' he662
 obtain ⟨hx666, _⟩ := nxe hx655 he662
 refine ⟨(Stp.of_ext hs665 _), ?_⟩
 replace hS649 := hS649.ext hs665
 refine drs (Stp.of_ext hs665 _) ?_
 intro hs667
 obtain ⟨x668, hx668⟩ := get_ex (xs := [([106, 105, 109] : Str), ([107, 97, 121] : Str), ([108, 111, 117] : Str)]) (j := ((q553 : Int)).toNat) (by simp only [List.length_cons, List.length_nil]; omega)
 obtain ⟨p669, hi671, hc672, b675, _, _⟩ := at_shStr (ho661.rds pos_shStr) hx668
 have hdlx668 := el_len 17 (by rfl) hx668
 refine dw 3 H rfl (Stp.of_ext hs667 _) (ix H U25 ti9 hi671) ?_
 clear H A; intro A H
 refine dv 4 H rfl (Stp.of_ext hs667 _) (fun w' hw' => lh H U9 (hc672.stp hw' (by intro q hq; cases hq; omega))) ?_
 clear H A; intro A H
 refine dw 5 H rfl (Stp.of_ext hs667 _) (op_sadd H rfl rfl rfl (by have hL0 := decS_len (n := ((1 : Int) + (q586 : Int))) (by omega); (try simp only [List.length_cons, List.length_nil]); omega)) ?_
 clear H A; intro A H
 refine dw 6 H rfl (Stp.of_ext hs667 _) (op_sadd H rfl rfl rfl (by have hL0 := decS_len (n := ((1 : Int) + (q586 : Int))) (by omega); (try simp only [List.length_append, List.length_cons, List.length_nil]); omega)) ?_
 clear H A; intro A H
 refine dw 11 H rfl (Stp.of_ext hs667 _) (op_sadd H rfl rfl rfl (by have hL0 := decS_len (n := ((1 : Int) + (q586 : Int))) (by omega); (try simp only [List.length_append, List.length_cons, List.length_nil]); omega)) ?_
 clear H A; intro A H
 refine dw 12 H rfl (Stp.of_ext hs667 _) (op_sadd H rfl rfl rfl (by have hL0 := decS_len (n := ((1 : Int) + (q586 : Int))) (by omega); (try simp only [List.length_append, List.length_cons, List.length_nil]); omega)) ?_
 clear H A; intro A H
 exact dr_listed (by kernel_rfl) (hk435 _ _ _ ⟨x668, q586, q650, rfl, (sl H), hx666, hS649, (by omega), (by omega), (by omega), (by omega), (by omega), (by omega), (by assumption), (by omega), (by omega), (by assumption), (by omega), (by omega)⟩)
 refine pc H cb67 rfl (c_spec_l01Dec _ ((100 : Int) + (q650 : Int)) (by omega) (by omega)) ?_
 clear H A; rintro v682 w683 he684 rfl A H
 have hs686 := hs657.trans' he684
 obtain ⟨hx687, _⟩ := nxe hx655 he684
 refine ⟨(Stp.of_ext hs686 _), ?_⟩
 replace hS649 := hS649.ext hs686
 refine drs (Stp.of_ext hs686 _) ?_
 intro hs688
 refine dr_one (i := 0) (by kernel_rfl) ?_
 refine pe H rfl (op_lits [([106, 105, 109] : Str), ([107, 97, 121] : Str), ([108, 111, 117] : Str)] H U25 ti9) ?_
 clear H A; rintro v689 w690 ⟨ho691, he692, hob693⟩ A H
 have hs695 := hs688.trans' he692
 obtain ⟨hx696, _⟩ := nxe hx687 he692
 refine ⟨(Stp.of_ext hs695 _), ?_⟩
 replace hS649 := hS649.ext hs695
 refine drs (Stp.of_ext hs695 _) ?_
 intro hs697
 obtain ⟨x698, hx698⟩ := get_ex (xs := [([106, 105, 109] : Str), ([107, 97, 121] : Str), ([108, 111, 117] : Str)]) (j := ((q553 : Int)).toNat) (by simp only [List.length_cons, List.length_nil]; omega)
 obtain ⟨p699, hi701, hc702, b705, _, _⟩ := at_shStr (ho691.rds pos_shStr) hx698
 have hdlx698 := el_len 17 (by rfl) hx698
 refine dw 3 H rfl (Stp.of_ext hs697 _) (ix H U25 ti9 hi701) ?_
 clear H A; intro A H
 refine dv 4 H rfl (Stp.of_ext hs697 _) (fun w' hw' => lh H U9 (hc702.stp hw' (by intro q hq; cases hq; omega))) ?_
 clear H A; intro A H
 refine dw 5 H rfl (Stp.of_ext hs697 _) (op_sadd H rfl rfl rfl (by have hL0 := decS_len (n := ((1 : Int) + (q586 : Int))) (by omega); have hL1 := decS_len (n := ((100 : Int) + (q650 : Int))) (by omega); (try simp only [List.length_cons, List.length_nil]); omega)) ?_
 clear H A; intro A H
 refine dw 6 H rfl (Stp.of_ext hs697 _) (op_sadd H rfl rfl rfl (by have hL0 := decS_len (n := ((1 : Int) + (q586 : Int))) (by omega); have hL1 := decS_len (n := ((100 : Int) + (q650 : Int))) (by omega); (try simp only [List.length_append, List.length_cons, List.length_nil]); omega)) ?_
 clear H A; intro A H
 refine dw 11 H rfl (Stp.of_ext hs697 _) (op_sadd H rfl rfl rfl (by have hL0 := decS_len (n := ((1 : Int) + (q586 : Int))) (by omega); have hL1 := decS_len (n := ((100 : Int) + (q650 : Int))) (by omega); (try simp only [List.length_append, List.length_cons, List.length_nil]); omega)) ?_
 clear H A; intro A H
 refine dw 12 H rfl (Stp.of_ext hs697 _) (op_sadd H rfl rfl rfl (by have hL0 := decS_len (n := ((1 : Int) + (q586 : Int))) (by omega); have hL1 := decS_len (n := ((100 : Int) + (q650 : Int))) (by omega); (try simp only [List.length_append, List.length_cons, List.length_nil]); omega)) ?_
 clear H A; intro A H
 refine dw 17 H rfl (Stp.of_ext hs697 _) (op_sadd H rfl rfl rfl (by have hL0 := decS_len (n := ((1 : Int) + (q586 : Int))) (by omega); have hL1 := decS_len (n := ((100 : Int) + (q650 : Int))) (by omega); (try simp only [List.length_append, List.length_cons, List.length_nil]); omega)) ?_
 clear H A; intro A H
 refine dw 18 H rfl (Stp.of_ext hs697 _) (op_assign H rfl rfl) ?_
 clear H A; intro A H
 refine dr_end (by kernel_rfl) ?_
 revert A; refine go ?_; intro A H
 refine ret1 H rfl rfl ?_
 clear H A
 refine ret_mkS hx696 ⟨hS649, ?_⟩
 refine ⟨((((((([112, 114, 111, 109, 105, 115, 101, 32] : Str)) ++ x698) ++ (([32] : Str))) ++ ((decS ((1 : Int) + (q586 : Int))))) ++ (([32] : Str))) ++ ((decS ((100 : Int) + (q650 : Int)))) : Str), (by have hL0 := decS_len (n := ((1 : Int) + (q586 : Int))) (by omega); have hL1 := decS_len (n := ((100 : Int) + (q650 : Int))) (by omega); (try simp only [List.length_append, List.length_cons, List.length_nil]); omega), ?_⟩
 exact (congrArg St (by rfl))
 rw [c400] at H
 revert A; refine go ?_; intro A H
 by_cases c716 : (q64 : Int) = (9 : Int)
 rw [decide_eq_true c716] at H
 revert A; refine go ?_; intro A H
 refine dre (fun wa_ wb_ => Stp wa_ wb_ (some g_s)) follows_mixed ?_
 intro w717 he718 hs720
 obtain ⟨hx719, _⟩ := nxe hx390 he718
 replace hf391 := hf391.ext he718
 refine dr_share (fun fr wl S => ∃ (q721 : Str) (q722 : Int), S = (fun w' => Stp wl w' (some g_s)) ∧ Sl 142 fr [(0, .pointer (some (⟨g_s, 0, none⟩ : Addr))), (98, St q721), (101, .int .i64 ((1 : Int) + (q722 : Int)))] ∧ Stp w0 wl (some g_s) ∧ Src wl g_s b_s 75 ∧ (q721.length ≤ 17) ∧ ((0 : Int) ≤ q722) ∧ (q722 ≤ (1000 : Int)) ∧ (0 ≤ q722) ∧ ((900 : Int) ≤ 1 → q722 = 0) ∧ (1 < (900 : Int) → q722 < (900 : Int)) ∧ w717.heap.size ≤ wl.heap.size) 3 #[true, true, true, true, true, true, true, true, false, false, false] ?_ ?_
 clear H A
 rintro A w723 _ ⟨q721, q722, rfl, H, hx724, hf725, hg727, hg728, hg729, hg730, hg731, hg732, hzl726⟩
 have hzhx724 := hx724.size
 have hgl733 := hf725.lt
 have hs735 : Ext w723 w723 := Ext.rfl' _
 refine dr_one (i := 8) (by kernel_rfl) ?_
 refine pc H cb67 rfl (c_spec_l01Dec _ ((1 : Int) + (q722 : Int)) (by omega) (by omega)) ?_
 clear H A; rintro v736 w737 he738 rfl A H
 have hs740 := hs735.trans' he738
 obtain ⟨hx741, _⟩ := nxe hx724 he738
 refine ⟨(Stp.of_ext hs740 _), ?_⟩
 replace hf725 := hf725.ext hs740
 refine drs (Stp.of_ext hs740 _) ?_
 intro hs742
 refine dw 9 H rfl (Stp.of_ext hs742 _) (op_sadd H rfl rfl rfl (by have hL0 := decS_len (n := ((1 : Int) + (q722 : Int))) (by omega); (try simp only [List.length_append, List.length_cons, List.length_nil]); omega)) ?_
 clear H A; intro A H
 refine dw 10 H rfl (Stp.of_ext hs742 _) (op_assign H rfl rfl) ?_
 clear H A; intro A H
 refine dr_end (by kernel_rfl) ?_
 revert A; refine go ?_; intro A H
 refine ret1 H rfl rfl ?_
 clear H A
 refine ret_mkS hx741 ⟨hf725, ?_⟩
 refine ⟨(q721 ++ ((decS ((1 : Int) + (q722 : Int)))) : Str), (by have hL0 := decS_len (n := ((1 : Int) + (q722 : Int))) (by omega); (try simp only [List.length_append]); omega), ?_⟩
 exact (congrArg St (by rfl))
 intro hk745
 refine dr_share (fun fr wl S => ∃ (q746 : Str), S = (fun w' => Stp wl w' (some g_s)) ∧ Sl 142 fr [(0, .pointer (some (⟨g_s, 0, none⟩ : Addr))), (98, St q746), (99, .pointer (some (⟨g_s, 0, none⟩ : Addr)))] ∧ Stp w0 wl (some g_s) ∧ Src wl g_s b_s 75 ∧ (q746.length ≤ 17) ∧ w717.heap.size ≤ wl.heap.size) 5 #[true, true, true, true, true, true, false, false, false, false, false] ?_ ?_
 clear H A
 rintro A w747 _ ⟨q746, rfl, H, hx748, hf749, hg751, hzl750⟩
 have hzhx748 := hx748.size
 have hgl752 := hf749.lt
 have hs754 : Ext w747 w747 := Ext.rfl' _
 refine dr_one (i := 6) (by kernel_rfl) ?_
 refine po_callS H rfl rfl rfl rfl (op_call H rfl cb37 rfl) (c_spec_l01Next _ g_s b_s (900 : Int) hf749) ?_
 clear H A; rintro v755 w756 he757 ⟨hS758, ⟨q759, hq760, hq761, hq762, rfl⟩⟩ A H
 obtain ⟨hx764, _⟩ := nxs hx748 he757
 clear hf749
 have hSlhS758 := hS758.lt
 have hs765 := (Stp.of_ext hs754 (some g_s)).trans' he757
 refine ⟨hs765, ?_⟩
 refine drs hs765 ?_
 intro hs766
 refine dw 7 H rfl (Stp.of_ext hs766 _) ((op_add H rfl rfl rfl).int (IntWalk.i64_in _ (by omega))) ?_
 clear H A; intro A H
 exact dr_listed (by kernel_rfl) (hk745 _ _ _ ⟨q746, q759, rfl, (sl H), hx764, hS758, (by omega), (by omega), (by omega), (by omega), (by assumption), (by omega), (by omega)⟩)
 intro hk768
 revert A; refine dgo [1, 5] (Stp.of_ext hs720 _) ?_; intro A H
 refine dr_two (i := 0) (j := 2) (by kernel_rfl) ?_ ?_
 refine pe H rfl (op_lits [([119, 104, 101, 110, 32] : Str), ([99, 97, 115, 104, 32] : Str), ([109, 109, 32] : Str)] H U25 ti9) ?_
 clear H A; rintro v771 w772 ⟨ho773, he774, hob775⟩ A H
 have hs777 := hs720.trans' he774
 obtain ⟨hx778, _⟩ := nxe hx719 he774
 refine ⟨(Stp.of_ext hs777 _), ?_⟩
 replace hf391 := hf391.ext hs777
 refine drs (Stp.of_ext hs777 _) ?_
 intro hs779
 refine dr_one (i := 2) (by kernel_rfl) ?_
 refine po_callS H rfl rfl rfl rfl (op_call H rfl cb37 rfl) (c_spec_l01Next _ g_s b_s (3 : Int) hf391) ?_
 clear H A; rintro v780 w781 he782 ⟨hS783, ⟨q784, hq785, hq786, hq787, rfl⟩⟩ A H
 obtain ⟨hx789, _⟩ := nxs hx778 he782
 replace ho773 := ho773.stp he782 (by intro q hq; cases hq; omega)
 clear hf391
 have hSlhS783 := hS783.lt
 have hs790 := (Stp.of_ext hs779 (some g_s)).trans' he782
 refine ⟨hs790, ?_⟩
 refine drs hs790 ?_
 intro hs791
 obtain ⟨x792, hx792⟩ := get_ex (xs := [([119, 104, 101, 110, 32] : Str), ([99, 97, 115, 104, 32] : Str), ([109, 109, 32] : Str)]) (j := ((q784 : Int)).toNat) (by simp only [List.length_cons, List.length_nil]; omega)
 obtain ⟨p793, hi795, hc796, b799, _, _⟩ := at_shStr (ho773.rds pos_shStr) hx792
 have hdlx792 := el_len 17 (by rfl) hx792
 refine dw 3 H rfl (Stp.of_ext hs791 _) (ix H U25 ti9 hi795) ?_
 clear H A; intro A H
 refine dv 4 H rfl (Stp.of_ext hs791 _) (fun w' hw' => lh H U9 (hc796.stp hw' (by intro q hq; cases hq; omega))) ?_
 clear H A; intro A H
 exact dr_listed (by kernel_rfl) (hk768 _ _ _ ⟨x792, rfl, (sl H), hx789, hS783, (by omega), (by omega)⟩)
 refine po_callS H rfl rfl rfl rfl (op_call H rfl cb37 rfl) (c_spec_l01Next _ g_s b_s (3 : Int) hf391) ?_
 clear H A; rintro v802 w803 he804 ⟨hS805, ⟨q806, hq807, hq808, hq809, rfl⟩⟩ A H
 obtain ⟨hx811, _⟩ := nxs hx719 he804
 clear hf391
 have hSlhS805 := hS805.lt
 have hs812 := (Stp.of_ext hs720 (some g_s)).trans' he804
 refine ⟨hs812, ?_⟩
 refine drs hs812 ?_
 intro hs813
 refine dr_two (i := 0) (j := 6) (by kernel_rfl) ?_ ?_
 refine pe H rfl (op_lits [([119, 104, 101, 110, 32] : Str), ([99, 97, 115, 104, 32] : Str), ([109, 109, 32] : Str)] H U25 ti9) ?_
 clear H A; rintro v814 w815 ⟨ho816, he817, hob818⟩ A H
 have hs820 := hs813.trans' he817
 obtain ⟨hx821, _⟩ := nxe hx811 he817
 refine ⟨(Stp.of_ext hs820 _), ?_⟩
 replace hS805 := hS805.ext hs820
 refine drs (Stp.of_ext hs820 _) ?_
 intro hs822
 obtain ⟨x823, hx823⟩ := get_ex (xs := [([119, 104, 101, 110, 32] : Str), ([99, 97, 115, 104, 32] : Str), ([109, 109, 32] : Str)]) (j := ((q806 : Int)).toNat) (by simp only [List.length_cons, List.length_nil]; omega)
 obtain ⟨p824, hi826, hc827, b830, _, _⟩ := at_shStr (ho816.rds pos_shStr) hx823
 have hdlx823 := el_len 17 (by rfl) hx823
 refine dw 3 H rfl (Stp.of_ext hs822 _) (ix H U25 ti9 hi826) ?_
 clear H A; intro A H
 refine dv 4 H rfl (Stp.of_ext hs822 _) (fun w' hw' => lh H U9 (hc827.stp hw' (by intro q hq; cases hq; omega))) ?_
 clear H A; intro A H
 exact dr_listed (by kernel_rfl) (hk768 _ _ _ ⟨x823, rfl, (sl H), hx821, hS805, (by omega), (by omega)⟩)
 refine po_callS H rfl rfl rfl rfl (op_call H rfl cb37 rfl) (c_spec_l01Next _ g_s b_s (900 : Int) hS805) ?_
 clear H A; rintro v833 w834 he835 ⟨hS836, ⟨q837, hq838, hq839, hq840, rfl⟩⟩ A H
 obtain ⟨hx842, _⟩ := nxs hx811 he835
 clear hS805
 have hSlhS836 := hS836.lt
 have hs843 := (Stp.of_ext hs813 (some g_s)).trans' he835
 refine ⟨hs843, ?_⟩
 refine drs hs843 ?_
 intro hs844
 refine dw 7 H rfl (Stp.of_ext hs844 _) ((op_add H rfl rfl rfl).int (IntWalk.i64_in _ (by omega))) ?_
 clear H A; intro A H
 refine dr_two (i := 0) (j := 8) (by kernel_rfl) ?_ ?_
 refine pe H rfl (op_lits [([119, 104, 101, 110, 32] : Str), ([99, 97, 115, 104, 32] : Str), ([109, 109, 32] : Str)] H U25 ti9) ?_
 clear H A; rintro v846 w847 ⟨ho848, he849, hob850⟩ A H
 have hs852 := hs844.trans' he849
 obtain ⟨hx853, _⟩ := nxe hx842 he849
 refine ⟨(Stp.of_ext hs852 _), ?_⟩
 replace hS836 := hS836.ext hs852
 refine drs (Stp.of_ext hs852 _) ?_
 intro hs854
 obtain ⟨x855, hx855⟩ := get_ex (xs := [([119, 104, 101, 110, 32] : Str), ([99, 97, 115, 104, 32] : Str), ([109, 109, 32] : Str)]) (j := ((q806 : Int)).toNat) (by simp only [List.length_cons, List.length_nil]; omega)
 obtain ⟨p856, hi858, hc859, b862, _, _⟩ := at_shStr (ho848.rds pos_shStr) hx855
 have hdlx855 := el_len 17 (by rfl) hx855
 refine dw 3 H rfl (Stp.of_ext hs854 _) (ix H U25 ti9 hi858) ?_
 clear H A; intro A H
 refine dv 4 H rfl (Stp.of_ext hs854 _) (fun w' hw' => lh H U9 (hc859.stp hw' (by intro q hq; cases hq; omega))) ?_
 clear H A; intro A H
 exact dr_listed (by kernel_rfl) (hk745 _ _ _ ⟨x855, q837, rfl, (sl H), hx853, hS836, (by omega), (by omega), (by omega), (by omega), (by assumption), (by omega), (by omega)⟩)
 refine pc H cb67 rfl (c_spec_l01Dec _ ((1 : Int) + (q837 : Int)) (by omega) (by omega)) ?_
 clear H A; rintro v865 w866 he867 rfl A H
 have hs869 := hs844.trans' he867
 obtain ⟨hx870, _⟩ := nxe hx842 he867
 refine ⟨(Stp.of_ext hs869 _), ?_⟩
 replace hS836 := hS836.ext hs869
 refine drs (Stp.of_ext hs869 _) ?_
 intro hs871
 refine dr_one (i := 0) (by kernel_rfl) ?_
 refine pe H rfl (op_lits [([119, 104, 101, 110, 32] : Str), ([99, 97, 115, 104, 32] : Str), ([109, 109, 32] : Str)] H U25 ti9) ?_
 clear H A; rintro v872 w873 ⟨ho874, he875, hob876⟩ A H
 have hs878 := hs871.trans' he875
 obtain ⟨hx879, _⟩ := nxe hx870 he875
 refine ⟨(Stp.of_ext hs878 _), ?_⟩
 replace hS836 := hS836.ext hs878
 refine drs (Stp.of_ext hs878 _) ?_
 intro hs880
 obtain ⟨x881, hx881⟩ := get_ex (xs := [([119, 104, 101, 110, 32] : Str), ([99, 97, 115, 104, 32] : Str), ([109, 109, 32] : Str)]) (j := ((q806 : Int)).toNat) (by simp only [List.length_cons, List.length_nil]; omega)
 obtain ⟨p882, hi884, hc885, b888, _, _⟩ := at_shStr (ho874.rds pos_shStr) hx881
 have hdlx881 := el_len 17 (by rfl) hx881
 refine dw 3 H rfl (Stp.of_ext hs880 _) (ix H U25 ti9 hi884) ?_
 clear H A; intro A H
 refine dv 4 H rfl (Stp.of_ext hs880 _) (fun w' hw' => lh H U9 (hc885.stp hw' (by intro q hq; cases hq; omega))) ?_
 clear H A; intro A H
 refine dw 9 H rfl (Stp.of_ext hs880 _) (op_sadd H rfl rfl rfl (by have hL0 := decS_len (n := ((1 : Int) + (q837 : Int))) (by omega); (try simp only [List.length_append, List.length_cons, List.length_nil]); omega)) ?_
 clear H A; intro A H
 refine dw 10 H rfl (Stp.of_ext hs880 _) (op_assign H rfl rfl) ?_
 clear H A; intro A H
 refine dr_end (by kernel_rfl) ?_
 revert A; refine go ?_; intro A H
 refine ret1 H rfl rfl ?_
 clear H A
 refine ret_mkS hx879 ⟨hS836, ?_⟩
 refine ⟨(x881 ++ ((decS ((1 : Int) + (q837 : Int)))) : Str), (by have hL0 := decS_len (n := ((1 : Int) + (q837 : Int))) (by omega); (try simp only [List.length_append]); omega), ?_⟩
 exact (congrArg St (by rfl))
 rw [decide_eq_false c716] at H
 refine cond_f H rfl ?_
 refine seq_mid (fun fr wl => ∃ (bq : Bool), Sl 142 fr [(0, .pointer (some (⟨g_s, 0, none⟩ : Addr))), (4, St x48), (16, .int .i64 (q64 : Int)), (104, .bool (bq))] ∧ Stp w0 wl (some g_s) ∧ Src wl g_s b_s 75 ∧ w389.heap.size ≤ wl.heap.size) ?_ ?_
 revert A; refine go ?_; intro A H
 by_cases c898 : (q64 : Int) = (10 : Int)
 rw [decide_eq_true c898] at H
 revert A; refine go ?_; intro A H
 refine ⟨true, (sl H), hx390, hf391, (by omega)⟩
 rw [decide_eq_false c898] at H
 revert A; refine go ?_; intro A H
 refine ⟨decide ((q64 : Int) = (11 : Int)), (sl H), hx390, hf391, (by omega)⟩
 clear H A
 rintro A w893 ⟨bq, H, hx894, hf895, hzl902⟩
 have hzhx894 := hx894.size
 have hgl903 := hf895.lt
 rcases Bool.eq_false_or_eq_true (bq) with c904 | c904
 rw [c904] at H
 revert A; refine go ?_; intro A H
 refine dre (fun wa_ wb_ => Stp wa_ wb_ (some g_s)) follows_mixed ?_
 intro w905 he906 hs908
 obtain ⟨hx907, _⟩ := nxe hx894 he906
 replace hf895 := hf895.ext he906
 refine dr_share (fun fr wl S => ∃ (q909 : Str) (q910 : Int) (q911 : Int), S = (fun w' => Stp wl w' (some g_s)) ∧ Sl 142 fr [(0, .pointer (some (⟨g_s, 0, none⟩ : Addr))), (119, St ((((q909 ++ x48) ++ (([32] : Str))) ++ ((decS (q910 : Int)))) ++ (([32] : Str)))), (123, .int .i64 ((100 : Int) * ((1 : Int) + (q911 : Int))))] ∧ Stp w0 wl (some g_s) ∧ Src wl g_s b_s 75 ∧ (q909.length ≤ 17) ∧ ((0 : Int) ≤ q910) ∧ (q910 ≤ (1000 : Int)) ∧ ((0 : Int) ≤ q911) ∧ (q911 ≤ (1000 : Int)) ∧ (0 ≤ q910) ∧ ((6 : Int) ≤ 1 → q910 = 0) ∧ (1 < (6 : Int) → q910 < (6 : Int)) ∧ (0 ≤ q911) ∧ ((5 : Int) ≤ 1 → q911 = 0) ∧ (1 < (5 : Int) → q911 < (5 : Int)) ∧ w905.heap.size ≤ wl.heap.size) 3 #[true, true, true, true, true, true, true, true, true, true, true, true, true, true, true, true, true, false, false, false] ?_ ?_
 clear H A
 rintro A w912 _ ⟨q909, q910, q911, rfl, H, hx913, hf914, hg916, hg917, hg918, hg919, hg920, hg921, hg922, hg923, hg924, hg925, hg926, hzl915⟩
 have hzhx913 := hx913.size
 have hgl927 := hf914.lt
 have hs929 : Ext w912 w912 := Ext.rfl' _
 refine dr_one (i := 17) (by kernel_rfl) ?_
 refine pc H cb67 rfl (c_spec_l01Dec _ ((100 : Int) * ((1 : Int) + (q911 : Int))) (by omega) (by omega)) ?_
 clear H A; rintro v930 w931 he932 rfl A H
 have hs934 := hs929.trans' he932
 obtain ⟨hx935, _⟩ := nxe hx913 he932
 refine ⟨(Stp.of_ext hs934 _), ?_⟩
 replace hf914 := hf914.ext hs934
 refine drs (Stp.of_ext hs934 _) ?_
 intro hs936
 refine dw 18 H rfl (Stp.of_ext hs936 _) (op_sadd H rfl rfl rfl (by have hL0 := decS_len (n := (q910 : Int)) (by omega); have hL1 := decS_len (n := ((100 : Int) * ((1 : Int) + (q911 : Int)))) (by omega); (try simp only [List.length_append, List.length_cons, List.length_nil]); omega)) ?_
 clear H A; intro A H
 refine dw 19 H rfl (Stp.of_ext hs936 _) (op_assign H rfl rfl) ?_
 clear H A; intro A H
 refine dr_end (by kernel_rfl) ?_
 revert A; refine go ?_; intro A H
 refine ret1 H rfl rfl ?_
 clear H A
 refine ret_mkS hx935 ⟨hf914, ?_⟩
 refine ⟨(((((q909 ++ x48) ++ (([32] : Str))) ++ ((decS (q910 : Int)))) ++ (([32] : Str))) ++ ((decS ((100 : Int) * ((1 : Int) + (q911 : Int))))) : Str), (by have hL0 := decS_len (n := (q910 : Int)) (by omega); have hL1 := decS_len (n := ((100 : Int) * ((1 : Int) + (q911 : Int)))) (by omega); (try simp only [List.length_append, List.length_cons, List.length_nil]); omega), ?_⟩
 exact (congrArg St (by rfl))
 intro hk939
 refine dr_share (fun fr wl S => ∃ (q940 : Str) (q941 : Int), S = (fun w' => Stp wl w' (some g_s)) ∧ Sl 142 fr [(0, .pointer (some (⟨g_s, 0, none⟩ : Addr))), (119, St ((((q940 ++ x48) ++ (([32] : Str))) ++ ((decS (q941 : Int)))) ++ (([32] : Str)))), (120, .pointer (some (⟨g_s, 0, none⟩ : Addr)))] ∧ Stp w0 wl (some g_s) ∧ Src wl g_s b_s 75 ∧ (q940.length ≤ 17) ∧ ((0 : Int) ≤ q941) ∧ (q941 ≤ (1000 : Int)) ∧ (0 ≤ q941) ∧ ((6 : Int) ≤ 1 → q941 = 0) ∧ (1 < (6 : Int) → q941 < (6 : Int)) ∧ w905.heap.size ≤ wl.heap.size) 6 #[true, true, true, true, true, true, true, true, true, true, true, true, true, true, false, false, false, false, false, false] ?_ ?_
 clear H A
 rintro A w942 _ ⟨q940, q941, rfl, H, hx943, hf944, hg946, hg947, hg948, hg949, hg950, hg951, hzl945⟩
 have hzhx943 := hx943.size
 have hgl952 := hf944.lt
 have hs954 : Ext w942 w942 := Ext.rfl' _
 refine dr_one (i := 14) (by kernel_rfl) ?_
 refine po_callS H rfl rfl rfl rfl (op_call H rfl cb37 rfl) (c_spec_l01Next _ g_s b_s (5 : Int) hf944) ?_
 clear H A; rintro v955 w956 he957 ⟨hS958, ⟨q959, hq960, hq961, hq962, rfl⟩⟩ A H
 obtain ⟨hx964, _⟩ := nxs hx943 he957
 clear hf944
 have hSlhS958 := hS958.lt
 have hs965 := (Stp.of_ext hs954 (some g_s)).trans' he957
 refine ⟨hs965, ?_⟩
 refine drs hs965 ?_
 intro hs966
 refine dw 15 H rfl (Stp.of_ext hs966 _) ((op_add H rfl rfl rfl).int (IntWalk.i64_in _ (by omega))) ?_
 clear H A; intro A H
 refine dw 16 H rfl (Stp.of_ext hs966 _) ((op_mul H rfl rfl rfl).int (IntWalk.i64_in _ (by omega))) ?_
 clear H A; intro A H
 exact dr_listed (by kernel_rfl) (hk939 _ _ _ ⟨q940, q941, q959, rfl, (sl H), hx964, hS958, (by omega), (by omega), (by omega), (by omega), (by omega), (by omega), (by assumption), (by omega), (by omega), (by assumption), (by omega), (by omega)⟩)
 intro hk969
 refine dr_share (fun fr wl S => ∃ (q970 : Str) (q971 : Int), S = (fun w' => Stp wl w' (some g_s)) ∧ Sl 142 fr [(0, .pointer (some (⟨g_s, 0, none⟩ : Addr))), (114, St ((q970 ++ x48) ++ (([32] : Str)))), (116, .int .i64 (q971 : Int)), (120, .pointer (some (⟨g_s, 0, none⟩ : Addr)))] ∧ Stp w0 wl (some g_s) ∧ Src wl g_s b_s 75 ∧ (q970.length ≤ 17) ∧ ((0 : Int) ≤ q971) ∧ (q971 ≤ (1000 : Int)) ∧ (0 ≤ q971) ∧ ((6 : Int) ≤ 1 → q971 = 0) ∧ (1 < (6 : Int) → q971 < (6 : Int)) ∧ w905.heap.size ≤ wl.heap.size) 9 #[true, true, true, true, true, true, true, true, true, true, false, false, false, true, false, false, false, false, false, false] ?_ ?_
 clear H A
 rintro A w972 _ ⟨q970, q971, rfl, H, hx973, hf974, hg976, hg977, hg978, hg979, hg980, hg981, hzl975⟩
 have hzhx973 := hx973.size
 have hgl982 := hf974.lt
 have hs984 : Ext w972 w972 := Ext.rfl' _
 refine dr_one (i := 10) (by kernel_rfl) ?_
 refine pc H cb67 rfl (c_spec_l01Dec _ (q971 : Int) (by assumption) (by omega)) ?_
 clear H A; rintro v985 w986 he987 rfl A H
 have hs989 := hs984.trans' he987
 obtain ⟨hx990, _⟩ := nxe hx973 he987
 refine ⟨(Stp.of_ext hs989 _), ?_⟩
 replace hf974 := hf974.ext hs989
 refine drs (Stp.of_ext hs989 _) ?_
 intro hs991
 refine dw 11 H rfl (Stp.of_ext hs991 _) (op_sadd H rfl rfl rfl (by have hL0 := decS_len (n := (q971 : Int)) (by omega); (try simp only [List.length_append, List.length_cons, List.length_nil]); omega)) ?_
 clear H A; intro A H
 refine dw 12 H rfl (Stp.of_ext hs991 _) (op_sadd H rfl rfl rfl (by have hL0 := decS_len (n := (q971 : Int)) (by omega); (try simp only [List.length_append, List.length_cons, List.length_nil]); omega)) ?_
 clear H A; intro A H
 exact dr_listed (by kernel_rfl) (hk969 _ _ _ ⟨q970, q971, rfl, (sl H), hx990, hf974, (by omega), (by omega), (by omega), (by omega), (by assumption), (by omega), (by omega)⟩)
 intro hk994
 refine dr_share (fun fr wl S => ∃ (q995 : Str), S = (fun w' => Stp wl w' (some g_s)) ∧ Sl 142 fr [(0, .pointer (some (⟨g_s, 0, none⟩ : Addr))), (114, St ((q995 ++ x48) ++ (([32] : Str)))), (115, .pointer (some (⟨g_s, 0, none⟩ : Addr))), (120, .pointer (some (⟨g_s, 0, none⟩ : Addr)))] ∧ Stp w0 wl (some g_s) ∧ Src wl g_s b_s 75 ∧ (q995.length ≤ 17) ∧ w905.heap.size ≤ wl.heap.size) 10 #[true, true, true, true, true, true, true, true, true, false, false, false, false, true, false, false, false, false, false, false] ?_ ?_
 clear H A
 rintro A w996 _ ⟨q995, rfl, H, hx997, hf998, hg1000, hzl999⟩
 have hzhx997 := hx997.size
 have hgl1001 := hf998.lt
 have hs1003 : Ext w996 w996 := Ext.rfl' _
 refine dr_one (i := 9) (by kernel_rfl) ?_
 refine po_callS H rfl rfl rfl rfl (op_call H rfl cb37 rfl) (c_spec_l01Next _ g_s b_s (6 : Int) hf998) ?_
 clear H A; rintro v1004 w1005 he1006 ⟨hS1007, ⟨q1008, hq1009, hq1010, hq1011, rfl⟩⟩ A H
 obtain ⟨hx1013, _⟩ := nxs hx997 he1006
 clear hf998
 have hSlhS1007 := hS1007.lt
 have hs1014 := (Stp.of_ext hs1003 (some g_s)).trans' he1006
 refine ⟨hs1014, ?_⟩
 refine drs hs1014 ?_
 intro hs1015
 exact dr_listed (by kernel_rfl) (hk994 _ _ _ ⟨q995, q1008, rfl, (sl H), hx1013, hS1007, (by omega), (by omega), (by omega), (by omega), (by assumption), (by omega), (by omega)⟩)
 intro hk1016
 revert A; refine dgo [1, 5, 8, 13] (Stp.of_ext hs908 _) ?_; intro A H
 refine dr_two (i := 0) (j := 2) (by kernel_rfl) ?_ ?_
 refine pe H rfl (op_lits [([115, 97, 108, 101, 32] : Str), ([115, 97, 108, 101, 32] : Str), ([112, 97, 121, 32] : Str), ([98, 117, 121, 32] : Str)] H U25 ti9) ?_
 clear H A; rintro v1021 w1022 ⟨ho1023, he1024, hob1025⟩ A H
 have hs1027 := hs908.trans' he1024
 obtain ⟨hx1028, _⟩ := nxe hx907 he1024
 refine ⟨(Stp.of_ext hs1027 _), ?_⟩
 replace hf895 := hf895.ext hs1027
 refine drs (Stp.of_ext hs1027 _) ?_
 intro hs1029
 refine dr_one (i := 2) (by kernel_rfl) ?_
 refine po_callS H rfl rfl rfl rfl (op_call H rfl cb37 rfl) (c_spec_l01Next _ g_s b_s (4 : Int) hf895) ?_
 clear H A; rintro v1030 w1031 he1032 ⟨hS1033, ⟨q1034, hq1035, hq1036, hq1037, rfl⟩⟩ A H
 obtain ⟨hx1039, _⟩ := nxs hx1028 he1032
 replace ho1023 := ho1023.stp he1032 (by intro q hq; cases hq; omega)
 clear hf895
 have hSlhS1033 := hS1033.lt
 have hs1040 := (Stp.of_ext hs1029 (some g_s)).trans' he1032
 refine ⟨hs1040, ?_⟩
 refine drs hs1040 ?_
 intro hs1041
 obtain ⟨x1042, hx1042⟩ := get_ex (xs := [([115, 97, 108, 101, 32] : Str), ([115, 97, 108, 101, 32] : Str), ([112, 97, 121, 32] : Str), ([98, 117, 121, 32] : Str)]) (j := ((q1034 : Int)).toNat) (by simp only [List.length_cons, List.length_nil]; omega)
 obtain ⟨p1043, hi1045, hc1046, b1049, _, _⟩ := at_shStr (ho1023.rds pos_shStr) hx1042
 have hdlx1042 := el_len 17 (by rfl) hx1042
 refine dw 3 H rfl (Stp.of_ext hs1041 _) (ix H U25 ti9 hi1045) ?_
 clear H A; intro A H
 refine dv 4 H rfl (Stp.of_ext hs1041 _) (fun w' hw' => lh H U9 (hc1046.stp hw' (by intro q hq; cases hq; omega))) ?_
 clear H A; intro A H
 refine dw 6 H rfl (Stp.of_ext hs1041 _) (op_sadd H rfl rfl rfl (by (try simp only [List.length_append, List.length_cons, List.length_nil]); omega)) ?_
 clear H A; intro A H
 refine dw 7 H rfl (Stp.of_ext hs1041 _) (op_sadd H rfl rfl rfl (by (try simp only [List.length_append, List.length_cons, List.length_nil]); omega)) ?_
 clear H A; intro A H
 exact dr_listed (by kernel_rfl) (hk1016 _ _ _ ⟨x1042, rfl, (sl H), hx1039, hS1033, (by omega), (by omega)⟩)
 refine po_callS H rfl rfl rfl rfl (op_call H rfl cb37 rfl) (c_spec_l01Next _ g_s b_s (4 : Int) hf895) ?_
 clear H A; rintro v1054 w1055 he1056 ⟨hS1057, ⟨q1058, hq1059, hq1060, hq1061, rfl⟩⟩ A H
 obtain ⟨hx1063, _⟩ := nxs hx907 he1056
 clear hf895
 have hSlhS1057 := hS1057.lt
 have hs1064 := (Stp.of_ext hs908 (some g_s)).trans' he1056
 refine ⟨hs1064, ?_⟩
 refine drs hs1064 ?_
 intro hs1065
 refine dr_two (i := 0) (j := 9) (by kernel_rfl) ?_ ?_
 refine pe H rfl (op_lits [([115, 97, 108, 101, 32] : Str), ([115, 97, 108, 101, 32] : Str), ([112, 97, 121, 32] : Str), ([98, 117, 121, 32] : Str)] H U25 ti9) ?_
 clear H A; rintro v1066 w1067 ⟨ho1068, he1069, hob1070⟩ A H
 have hs1072 := hs1065.trans' he1069
 obtain ⟨hx1073, _⟩ := nxe hx1063 he1069
 refine ⟨(Stp.of_ext hs1072 _), ?_⟩
 replace hS1057 := hS1057.ext hs1072
 refine drs (Stp.of_ext hs1072 _) ?_
 intro hs1074
 obtain ⟨x1075, hx1075⟩ := get_ex (xs := [([115, 97, 108, 101, 32] : Str), ([115, 97, 108, 101, 32] : Str), ([112, 97, 121, 32] : Str), ([98, 117, 121, 32] : Str)]) (j := ((q1058 : Int)).toNat) (by simp only [List.length_cons, List.length_nil]; omega)
 obtain ⟨p1076, hi1078, hc1079, b1082, _, _⟩ := at_shStr (ho1068.rds pos_shStr) hx1075
 have hdlx1075 := el_len 17 (by rfl) hx1075
 refine dw 3 H rfl (Stp.of_ext hs1074 _) (ix H U25 ti9 hi1078) ?_
 clear H A; intro A H
 refine dv 4 H rfl (Stp.of_ext hs1074 _) (fun w' hw' => lh H U9 (hc1079.stp hw' (by intro q hq; cases hq; omega))) ?_
 clear H A; intro A H
 refine dw 6 H rfl (Stp.of_ext hs1074 _) (op_sadd H rfl rfl rfl (by (try simp only [List.length_append, List.length_cons, List.length_nil]); omega)) ?_
 clear H A; intro A H
 refine dw 7 H rfl (Stp.of_ext hs1074 _) (op_sadd H rfl rfl rfl (by (try simp only [List.length_append, List.length_cons, List.length_nil]); omega)) ?_
 clear H A; intro A H
 exact dr_listed (by kernel_rfl) (hk1016 _ _ _ ⟨x1075, rfl, (sl H), hx1073, hS1057, (by omega), (by omega)⟩)
 refine po_callS H rfl rfl rfl rfl (op_call H rfl cb37 rfl) (c_spec_l01Next _ g_s b_s (6 : Int) hS1057) ?_
 clear H A; rintro v1087 w1088 he1089 ⟨hS1090, ⟨q1091, hq1092, hq1093, hq1094, rfl⟩⟩ A H
 obtain ⟨hx1096, _⟩ := nxs hx1063 he1089
 clear hS1057
 have hSlhS1090 := hS1090.lt
 have hs1097 := (Stp.of_ext hs1065 (some g_s)).trans' he1089
 refine ⟨hs1097, ?_⟩
 refine drs hs1097 ?_
 intro hs1098
 refine dr_two (i := 0) (j := 10) (by kernel_rfl) ?_ ?_
 refine pe H rfl (op_lits [([115, 97, 108, 101, 32] : Str), ([115, 97, 108, 101, 32] : Str), ([112, 97, 121, 32] : Str), ([98, 117, 121, 32] : Str)] H U25 ti9) ?_
 clear H A; rintro v1099 w1100 ⟨ho1101, he1102, hob1103⟩ A H
 have hs1105 := hs1098.trans' he1102
 obtain ⟨hx1106, _⟩ := nxe hx1096 he1102
 refine ⟨(Stp.of_ext hs1105 _), ?_⟩
 replace hS1090 := hS1090.ext hs1105
 refine drs (Stp.of_ext hs1105 _) ?_
 intro hs1107
 obtain ⟨x1108, hx1108⟩ := get_ex (xs := [([115, 97, 108, 101, 32] : Str), ([115, 97, 108, 101, 32] : Str), ([112, 97, 121, 32] : Str), ([98, 117, 121, 32] : Str)]) (j := ((q1058 : Int)).toNat) (by simp only [List.length_cons, List.length_nil]; omega)
 obtain ⟨p1109, hi1111, hc1112, b1115, _, _⟩ := at_shStr (ho1101.rds pos_shStr) hx1108
 have hdlx1108 := el_len 17 (by rfl) hx1108
 refine dw 3 H rfl (Stp.of_ext hs1107 _) (ix H U25 ti9 hi1111) ?_
 clear H A; intro A H
 refine dv 4 H rfl (Stp.of_ext hs1107 _) (fun w' hw' => lh H U9 (hc1112.stp hw' (by intro q hq; cases hq; omega))) ?_
 clear H A; intro A H
 refine dw 6 H rfl (Stp.of_ext hs1107 _) (op_sadd H rfl rfl rfl (by (try simp only [List.length_append, List.length_cons, List.length_nil]); omega)) ?_
 clear H A; intro A H
 refine dw 7 H rfl (Stp.of_ext hs1107 _) (op_sadd H rfl rfl rfl (by (try simp only [List.length_append, List.length_cons, List.length_nil]); omega)) ?_
 clear H A; intro A H
 exact dr_listed (by kernel_rfl) (hk994 _ _ _ ⟨x1108, q1091, rfl, (sl H), hx1106, hS1090, (by omega), (by omega), (by omega), (by omega), (by assumption), (by omega), (by omega)⟩)
 refine pc H cb67 rfl (c_spec_l01Dec _ (q1091 : Int) (by assumption) (by omega)) ?_
 clear H A; rintro v1120 w1121 he1122 rfl A H
 have hs1124 := hs1098.trans' he1122
 obtain ⟨hx1125, _⟩ := nxe hx1096 he1122
 refine ⟨(Stp.of_ext hs1124 _), ?_⟩
 replace hS1090 := hS1090.ext hs1124
 refine drs (Stp.of_ext hs1124 _) ?_
 intro hs1126
 refine dr_two (i := 0) (j := 14) (by kernel_rfl) ?_ ?_
 refine pe H rfl (op_lits [([115, 97, 108, 101, 32] : Str), ([115, 97, 108, 101, 32] : Str), ([112, 97, 121, 32] : Str), ([98, 117, 121, 32] : Str)] H U25 ti9) ?_
 clear H A; rintro v1127 w1128 ⟨ho1129, he1130, hob1131⟩ A H
 have hs1133 := hs1126.trans' he1130
 obtain ⟨hx1134, _⟩ := nxe hx1125 he1130
 refine ⟨(Stp.of_ext hs1133 _), ?_⟩
 replace hS1090 := hS1090.ext hs1133
 refine drs (Stp.of_ext hs1133 _) ?_
 intro hs1135
 obtain ⟨x1136, hx1136⟩ := get_ex (xs := [([115, 97, 108, 101, 32] : Str), ([115, 97, 108, 101, 32] : Str), ([112, 97, 121, 32] : Str), ([98, 117, 121, 32] : Str)]) (j := ((q1058 : Int)).toNat) (by simp only [List.length_cons, List.length_nil]; omega)
 obtain ⟨p1137, hi1139, hc1140, b1143, _, _⟩ := at_shStr (ho1129.rds pos_shStr) hx1136
 have hdlx1136 := el_len 17 (by rfl) hx1136
 refine dw 3 H rfl (Stp.of_ext hs1135 _) (ix H U25 ti9 hi1139) ?_
 clear H A; intro A H
 refine dv 4 H rfl (Stp.of_ext hs1135 _) (fun w' hw' => lh H U9 (hc1140.stp hw' (by intro q hq; cases hq; omega))) ?_
 clear H A; intro A H
 refine dw 6 H rfl (Stp.of_ext hs1135 _) (op_sadd H rfl rfl rfl (by have hL0 := decS_len (n := (q1091 : Int)) (by omega); (try simp only [List.length_append, List.length_cons, List.length_nil]); omega)) ?_
 clear H A; intro A H
 refine dw 7 H rfl (Stp.of_ext hs1135 _) (op_sadd H rfl rfl rfl (by have hL0 := decS_len (n := (q1091 : Int)) (by omega); (try simp only [List.length_append, List.length_cons, List.length_nil]); omega)) ?_
 clear H A; intro A H
 refine dw 11 H rfl (Stp.of_ext hs1135 _) (op_sadd H rfl rfl rfl (by have hL0 := decS_len (n := (q1091 : Int)) (by omega); (try simp only [List.length_append, List.length_cons, List.length_nil]); omega)) ?_
 clear H A; intro A H
 refine dw 12 H rfl (Stp.of_ext hs1135 _) (op_sadd H rfl rfl rfl (by have hL0 := decS_len (n := (q1091 : Int)) (by omega); (try simp only [List.length_append, List.length_cons, List.length_nil]); omega)) ?_
 clear H A; intro A H
 exact dr_listed (by kernel_rfl) (hk969 _ _ _ ⟨x1136, q1091, rfl, (sl H), hx1134, hS1090, (by omega), (by omega), (by omega), (by omega), (by assumption), (by omega), (by omega)⟩)
 refine po_callS H rfl rfl rfl rfl (op_call H rfl cb37 rfl) (c_spec_l01Next _ g_s b_s (5 : Int) hS1090) ?_
 clear H A; rintro v1150 w1151 he1152 ⟨hS1153, ⟨q1154, hq1155, hq1156, hq1157, rfl⟩⟩ A H
 obtain ⟨hx1159, _⟩ := nxs hx1125 he1152
 clear hS1090
 have hSlhS1153 := hS1153.lt
 have hs1160 := (Stp.of_ext hs1126 (some g_s)).trans' he1152
 refine ⟨hs1160, ?_⟩
 refine drs hs1160 ?_
 intro hs1161
 refine dw 15 H rfl (Stp.of_ext hs1161 _) ((op_add H rfl rfl rfl).int (IntWalk.i64_in _ (by omega))) ?_
 clear H A; intro A H
 refine dw 16 H rfl (Stp.of_ext hs1161 _) ((op_mul H rfl rfl rfl).int (IntWalk.i64_in _ (by omega))) ?_
 clear H A; intro A H
 refine dr_two (i := 0) (j := 17) (by kernel_rfl) ?_ ?_
 refine pe H rfl (op_lits [([115, 97, 108, 101, 32] : Str), ([115, 97, 108, 101, 32] : Str), ([112, 97, 121, 32] : Str), ([98, 117, 121, 32] : Str)] H U25 ti9) ?_
 clear H A; rintro v1164 w1165 ⟨ho1166, he1167, hob1168⟩ A H
 have hs1170 := hs1161.trans' he1167
 obtain ⟨hx1171, _⟩ := nxe hx1159 he1167
 refine ⟨(Stp.of_ext hs1170 _), ?_⟩
 replace hS1153 := hS1153.ext hs1170
 refine drs (Stp.of_ext hs1170 _) ?_
 intro hs1172
 obtain ⟨x1173, hx1173⟩ := get_ex (xs := [([115, 97, 108, 101, 32] : Str), ([115, 97, 108, 101, 32] : Str), ([112, 97, 121, 32] : Str), ([98, 117, 121, 32] : Str)]) (j := ((q1058 : Int)).toNat) (by simp only [List.length_cons, List.length_nil]; omega)
 obtain ⟨p1174, hi1176, hc1177, b1180, _, _⟩ := at_shStr (ho1166.rds pos_shStr) hx1173
 have hdlx1173 := el_len 17 (by rfl) hx1173
 refine dw 3 H rfl (Stp.of_ext hs1172 _) (ix H U25 ti9 hi1176) ?_
 clear H A; intro A H
 refine dv 4 H rfl (Stp.of_ext hs1172 _) (fun w' hw' => lh H U9 (hc1177.stp hw' (by intro q hq; cases hq; omega))) ?_
 clear H A; intro A H
 refine dw 6 H rfl (Stp.of_ext hs1172 _) (op_sadd H rfl rfl rfl (by have hL0 := decS_len (n := (q1091 : Int)) (by omega); (try simp only [List.length_append, List.length_cons, List.length_nil]); omega)) ?_
 clear H A; intro A H
 refine dw 7 H rfl (Stp.of_ext hs1172 _) (op_sadd H rfl rfl rfl (by have hL0 := decS_len (n := (q1091 : Int)) (by omega); (try simp only [List.length_append, List.length_cons, List.length_nil]); omega)) ?_
 clear H A; intro A H
 refine dw 11 H rfl (Stp.of_ext hs1172 _) (op_sadd H rfl rfl rfl (by have hL0 := decS_len (n := (q1091 : Int)) (by omega); (try simp only [List.length_append, List.length_cons, List.length_nil]); omega)) ?_
 clear H A; intro A H
 refine dw 12 H rfl (Stp.of_ext hs1172 _) (op_sadd H rfl rfl rfl (by have hL0 := decS_len (n := (q1091 : Int)) (by omega); (try simp only [List.length_append, List.length_cons, List.length_nil]); omega)) ?_
 clear H A; intro A H
 exact dr_listed (by kernel_rfl) (hk939 _ _ _ ⟨x1173, q1091, q1154, rfl, (sl H), hx1171, hS1153, (by omega), (by omega), (by omega), (by omega), (by omega), (by omega), (by assumption), (by omega), (by omega), (by assumption), (by omega), (by omega)⟩)
 refine pc H cb67 rfl (c_spec_l01Dec _ ((100 : Int) * ((1 : Int) + (q1154 : Int))) (by omega) (by omega)) ?_
 clear H A; rintro v1187 w1188 he1189 rfl A H
 have hs1191 := hs1161.trans' he1189
 obtain ⟨hx1192, _⟩ := nxe hx1159 he1189
 refine ⟨(Stp.of_ext hs1191 _), ?_⟩
 replace hS1153 := hS1153.ext hs1191
 refine drs (Stp.of_ext hs1191 _) ?_
 intro hs1193
 refine dr_one (i := 0) (by kernel_rfl) ?_
 refine pe H rfl (op_lits [([115, 97, 108, 101, 32] : Str), ([115, 97, 108, 101, 32] : Str), ([112, 97, 121, 32] : Str), ([98, 117, 121, 32] : Str)] H U25 ti9) ?_
 clear H A; rintro v1194 w1195 ⟨ho1196, he1197, hob1198⟩ A H
 have hs1200 := hs1193.trans' he1197
 obtain ⟨hx1201, _⟩ := nxe hx1192 he1197
 refine ⟨(Stp.of_ext hs1200 _), ?_⟩
 replace hS1153 := hS1153.ext hs1200
 refine drs (Stp.of_ext hs1200 _) ?_
 intro hs1202
 obtain ⟨x1203, hx1203⟩ := get_ex (xs := [([115, 97, 108, 101, 32] : Str), ([115, 97, 108, 101, 32] : Str), ([112, 97, 121, 32] : Str), ([98, 117, 121, 32] : Str)]) (j := ((q1058 : Int)).toNat) (by simp only [List.length_cons, List.length_nil]; omega)
 obtain ⟨p1204, hi1206, hc1207, b1210, _, _⟩ := at_shStr (ho1196.rds pos_shStr) hx1203
 have hdlx1203 := el_len 17 (by rfl) hx1203
 refine dw 3 H rfl (Stp.of_ext hs1202 _) (ix H U25 ti9 hi1206) ?_
 clear H A; intro A H
 refine dv 4 H rfl (Stp.of_ext hs1202 _) (fun w' hw' => lh H U9 (hc1207.stp hw' (by intro q hq; cases hq; omega))) ?_
 clear H A; intro A H
 refine dw 6 H rfl (Stp.of_ext hs1202 _) (op_sadd H rfl rfl rfl (by have hL0 := decS_len (n := (q1091 : Int)) (by omega); have hL1 := decS_len (n := ((100 : Int) * ((1 : Int) + (q1154 : Int)))) (by omega); (try simp only [List.length_append, List.length_cons, List.length_nil]); omega)) ?_
 clear H A; intro A H
 refine dw 7 H rfl (Stp.of_ext hs1202 _) (op_sadd H rfl rfl rfl (by have hL0 := decS_len (n := (q1091 : Int)) (by omega); have hL1 := decS_len (n := ((100 : Int) * ((1 : Int) + (q1154 : Int)))) (by omega); (try simp only [List.length_append, List.length_cons, List.length_nil]); omega)) ?_
 clear H A; intro A H
 refine dw 11 H rfl (Stp.of_ext hs1202 _) (op_sadd H rfl rfl rfl (by have hL0 := decS_len (n := (q1091 : Int)) (by omega); have hL1 := decS_len (n := ((100 : Int) * ((1 : Int) + (q1154 : Int)))) (by omega); (try simp only [List.length_append, List.length_cons, List.length_nil]); omega)) ?_
 clear H A; intro A H
 refine dw 12 H rfl (Stp.of_ext hs1202 _) (op_sadd H rfl rfl rfl (by have hL0 := decS_len (n := (q1091 : Int)) (by omega); have hL1 := decS_len (n := ((100 : Int) * ((1 : Int) + (q1154 : Int)))) (by omega); (try simp only [List.length_append, List.length_cons, List.length_nil]); omega)) ?_
 clear H A; intro A H
 refine dw 18 H rfl (Stp.of_ext hs1202 _) (op_sadd H rfl rfl rfl (by have hL0 := decS_len (n := (q1091 : Int)) (by omega); have hL1 := decS_len (n := ((100 : Int) * ((1 : Int) + (q1154 : Int)))) (by omega); (try simp only [List.length_append, List.length_cons, List.length_nil]); omega)) ?_
 clear H A; intro A H
 refine dw 19 H rfl (Stp.of_ext hs1202 _) (op_assign H rfl rfl) ?_
 clear H A; intro A H
 refine dr_end (by kernel_rfl) ?_
 revert A; refine go ?_; intro A H
 refine ret1 H rfl rfl ?_
 clear H A
 refine ret_mkS hx1201 ⟨hS1153, ?_⟩
 refine ⟨(((((x1203 ++ x48) ++ (([32] : Str))) ++ ((decS (q1091 : Int)))) ++ (([32] : Str))) ++ ((decS ((100 : Int) * ((1 : Int) + (q1154 : Int))))) : Str), (by have hL0 := decS_len (n := (q1091 : Int)) (by omega); have hL1 := decS_len (n := ((100 : Int) * ((1 : Int) + (q1154 : Int)))) (by omega); (try simp only [List.length_append, List.length_cons, List.length_nil]); omega), ?_⟩
 exact (congrArg St (by rfl))
 rw [c904] at H
 revert A; refine go ?_; intro A H
 by_cases c1221 : (q64 : Int) = (12 : Int)
 rw [decide_eq_true c1221] at H
 revert A; refine go ?_; intro A H
 refine wl_callS H rfl rfl rfl (op_call H rfl cb37 rfl) (c_spec_l01Next _ g_s b_s (6 : Int) hf895) ?_
 clear H A; rintro v1223 w1224 he1225 ⟨hS1226, ⟨q1227, hq1228, hq1229, hq1230, rfl⟩⟩ A H
 obtain ⟨hx1232, _⟩ := nxs hx894 he1225
 clear hf895
 have hSlhS1226 := hS1226.lt
 refine wc H cb67 (c_spec_l01Dec _ (q1227 : Int) (by assumption) (by omega)) ?_
 clear H A; rintro v1233 w1234 he1235 rfl A H
 obtain ⟨hx1237, _⟩ := nxe hx1232 he1235
 replace hS1226 := hS1226.ext he1235
 refine wv H (op_sadd H rfl rfl rfl (by have hL0 := decS_len (n := (q1227 : Int)) (by omega); (try simp only [List.length_cons, List.length_nil]); omega)) ?_
 clear H A; refine go ?_; intro A H
 refine ret1 H rfl rfl ?_
 clear H A
 refine ret_mkS hx1237 ⟨hS1226, ?_⟩
 refine ⟨((([99, 108, 111, 115, 101, 32] : Str)) ++ ((decS (q1227 : Int))) : Str), (by have hL0 := decS_len (n := (q1227 : Int)) (by omega); (try simp only [List.length_append, List.length_cons, List.length_nil]); omega), ?_⟩
 exact (congrArg St (by rfl))
 rw [decide_eq_false c1221] at H
 revert A; refine go ?_; intro A H
 refine wl_callS H rfl rfl rfl (op_call H rfl cb37 rfl) (c_spec_l01Next _ g_s b_s (40 : Int) hf895) ?_
 clear H A; rintro v1241 w1242 he1243 ⟨hS1244, ⟨q1245, hq1246, hq1247, hq1248, rfl⟩⟩ A H
 obtain ⟨hx1250, _⟩ := nxs hx894 he1243
 clear hf895
 have hSlhS1244 := hS1244.lt
 refine wv H ((op_add H rfl rfl rfl).int (IntWalk.i64_in _ (by omega))) ?_
 clear H A; intro A H
 refine wc H cb67 (c_spec_l01Dec _ ((20 : Int) + (q1245 : Int)) (by omega) (by omega)) ?_
 clear H A; rintro v1252 w1253 he1254 rfl A H
 obtain ⟨hx1256, _⟩ := nxe hx1250 he1254
 replace hS1244 := hS1244.ext he1254
 refine wv H (op_sadd H rfl rfl rfl (by have hL0 := decS_len (n := ((20 : Int) + (q1245 : Int))) (by omega); (try simp only [List.length_cons, List.length_nil]); omega)) ?_
 clear H A; intro A H
 refine wv H (op_sadd H rfl rfl rfl (by have hL0 := decS_len (n := ((20 : Int) + (q1245 : Int))) (by omega); (try simp only [List.length_append, List.length_cons, List.length_nil]); omega)) ?_
 clear H A; intro A H
 refine wv H (op_move H rfl rfl) ?_
 clear H A; intro A H
 refine wl_callS H rfl rfl rfl (op_call H rfl cb37 rfl) (c_spec_l01Next _ g_s b_s (40 : Int) hS1244) ?_
 clear H A; rintro v1260 w1261 he1262 ⟨hS1263, ⟨q1264, hq1265, hq1266, hq1267, rfl⟩⟩ A H
 obtain ⟨hx1269, _⟩ := nxs hx1256 he1262
 clear hS1244
 have hSlhS1263 := hS1263.lt
 refine wc H cb67 (c_spec_l01Dec _ (q1264 : Int) (by assumption) (by omega)) ?_
 clear H A; rintro v1270 w1271 he1272 rfl A H
 obtain ⟨hx1274, _⟩ := nxe hx1269 he1272
 replace hS1263 := hS1263.ext he1272
 refine wv H (op_sadd H rfl rfl rfl (by have hL0 := decS_len (n := ((20 : Int) + (q1245 : Int))) (by omega); have hL1 := decS_len (n := (q1264 : Int)) (by omega); (try simp only [List.length_append, List.length_cons, List.length_nil]); omega)) ?_
 clear H A; refine go ?_; intro A H
 refine ret1 H rfl rfl ?_
 clear H A
 refine ret_mkS hx1274 ⟨hS1263, ?_⟩
 refine ⟨((((([103, 101, 97, 114, 32] : Str)) ++ ((decS ((20 : Int) + (q1245 : Int))))) ++ (([32] : Str))) ++ ((decS (q1264 : Int))) : Str), (by have hL0 := decS_len (n := ((20 : Int) + (q1245 : Int))) (by omega); have hL1 := decS_len (n := (q1264 : Int)) (by omega); (try simp only [List.length_append, List.length_cons, List.length_nil]); omega), ?_⟩
 exact (congrArg St (by rfl))



theorem c_spec_l01Damage (w0 : World) (g_s b_s : Nat) (t : Str) (h_s : Src w0 g_s b_s 75) (g0 : t.length ≤ 1048576) :
    Calls Tryz.prog 38 #[.pointer (some (⟨g_s, 0, none⟩ : Addr)), St t] w0 (RetS w0 (some g_s) (fun v w1 => Src w1 g_s b_s 75 ∧ (fun v w1 => ∃ (d : Str), (d.length ≤ t.length + 1) ∧ (fun v _ => v = St (d)) v w1) v w1)) := by
 refine enter (N := 48) Tryz.func38 rfl rfl rfl ?_
 intro A H
 have hx0 := Stp.rfl' w0 (some g_s)
 have hgl_s := h_s.lt
 revert A; refine go ?_; intro A H
 refine wv H (op_len_str H rfl U9 rfl) ?_
 clear H A; intro A H
 refine wv H ((op_add H rfl rfl rfl).int (IntWalk.i64_in _ (by omega))) ?_
 clear H A; intro A H
 refine wl_callS H rfl rfl rfl (op_call H rfl cb37 rfl) (c_spec_l01Next _ g_s b_s (((t.length : Nat) : Int) + (1 : Int)) h_s) ?_
 clear H A; rintro v6 w7 he8 ⟨hS9, ⟨q10, hq11, hq12, hq13, rfl⟩⟩ A H
 obtain ⟨hx15, _⟩ := nxs hx0 he8
 have hSlhS9 := hS9.lt
 revert A; refine go ?_; intro A H
 refine wl_callS H rfl rfl rfl (op_call H rfl cb37 rfl) (c_spec_l01Next _ g_s b_s (8 : Int) hS9) ?_
 clear H A; rintro v18 w19 he20 ⟨hS21, ⟨q22, hq23, hq24, hq25, rfl⟩⟩ A H
 obtain ⟨hx27, _⟩ := nxs hx15 he20
 clear hS9
 have hSlhS21 := hS21.lt
 revert A; refine go ?_; intro A H
 by_cases c30 : (q22 : Int) = (0 : Int)
 rw [decide_eq_true c30] at H
 revert A; refine go ?_; intro A H
 refine wv H (op_slice_str_t (j := ((q10 : Int)).toNat) (by omega) H rfl U9 rfl rfl (by omega)) ?_
 clear H A; refine go ?_; intro A H
 refine ret1 H rfl rfl ?_
 clear H A
 refine ret_mkS hx27 ⟨hS21, ?_⟩
 refine ⟨(t.take (((q10 : Int)).toNat) : Str), (by simp; omega), ?_⟩
 exact (congrArg St (by rfl))
 rw [decide_eq_false c30] at H
 revert A; refine go ?_; intro A H
 by_cases c37 : (q22 : Int) = (1 : Int)
 rw [decide_eq_true c37] at H
 revert A; refine go ?_; intro A H
 refine dre (fun wa_ wb_ => Stp wa_ wb_ (some g_s)) follows_mixed ?_
 intro w38 he39 hs41
 obtain ⟨hx40, _⟩ := nxe hx27 he39
 replace hS21 := hS21.ext he39
 revert A; refine dgo [0, 1] (Stp.of_ext hs41 _) ?_; intro A H
 refine dw 2 H rfl (Stp.of_ext hs41 _) (op_slice_str_t (j := ((q10 : Int)).toNat) (by omega) H rfl U9 rfl rfl (by omega)) ?_
 clear H A; refine dgo [4, 9, 10] (Stp.of_ext hs41 _) ?_; intro A H
 refine dw 11 H rfl (Stp.of_ext hs41 _) (op_slice_str_f (i := ((q10 : Int)).toNat) (by omega) H rfl U9 rfl rfl (by omega)) ?_
 clear H A; intro A H
 refine dr_two (i := 3) (j := 5) (by kernel_rfl) ?_ ?_
 refine pe H rfl (op_lits [([48] : Str), ([35] : Str), ([46] : Str), ([47] : Str), ([32] : Str), ([97] : Str), ([45] : Str), ([10] : Str)] H U25 ti9) ?_
 clear H A; rintro v49 w50 ⟨ho51, he52, hob53⟩ A H
 have hs55 := hs41.trans' he52
 obtain ⟨hx56, _⟩ := nxe hx40 he52
 refine ⟨(Stp.of_ext hs55 _), ?_⟩
 refine dr_one (i := 5) (by kernel_rfl) ?_
 replace hS21 := hS21.ext hs55
 refine po_callS H rfl rfl rfl rfl (op_call H rfl cb37 rfl) (c_spec_l01Next _ g_s b_s (8 : Int) hS21) ?_
 clear H A; rintro v57 w58 he59 ⟨hS60, ⟨q61, hq62, hq63, hq64, rfl⟩⟩ A H
 obtain ⟨hx66, _⟩ := nxs hx56 he59
 replace ho51 := ho51.stp he59 (by intro q hq; cases hq; omega)
 clear hS21
 have hSlhS60 := hS60.lt
 have hs67 := (Stp.of_ext hs55 (some g_s)).trans' he59
 refine ⟨hs67, ?_⟩
 obtain ⟨x68, hx68⟩ := get_ex (xs := [([48] : Str), ([35] : Str), ([46] : Str), ([47] : Str), ([32] : Str), ([97] : Str), ([45] : Str), ([10] : Str)]) (j := ((q61 : Int)).toNat) (by simp only [List.length_cons, List.length_nil]; omega)
 obtain ⟨p69, hi71, hc72, b75, _, _⟩ := at_shStr (ho51.rds pos_shStr) hx68
 have hdlx68 := el_len 1 (by rfl) hx68
 refine dw 6 H rfl hs67 (ix H U25 ti9 hi71) ?_
 clear H A; intro A H
 refine dr_one (i := 7) (by kernel_rfl) ?_
 refine po_to H rfl rfl rfl rfl (lh H U9 hc72) ?_
 clear H A; intro A H
 refine ⟨hs67, ?_⟩
 refine dw 8 H rfl hs67 (op_sadd H rfl rfl rfl (by simp; omega)) ?_
 clear H A; intro A H
 refine dw 12 H rfl hs67 (op_sadd H rfl rfl rfl (by simp; omega)) ?_
 clear H A; intro A H
 refine dw 13 H rfl hs67 (op_assign H rfl rfl) ?_
 clear H A; intro A H
 refine dr_end (by kernel_rfl) ?_
 revert A; refine go ?_; intro A H
 refine ret1 H rfl rfl ?_
 clear H A
 refine ret_mkS hx66 ⟨hS60, ?_⟩
 refine ⟨(((t.take (((q10 : Int)).toNat)) ++ x68) ++ (t.drop (((q10 : Int)).toNat)) : Str), (by simp; omega), ?_⟩
 exact (congrArg St (by rfl))
 replace hS21 := hS21.ext hs41
 refine po_callS H rfl rfl rfl rfl (op_call H rfl cb37 rfl) (c_spec_l01Next _ g_s b_s (8 : Int) hS21) ?_
 clear H A; rintro v81 w82 he83 ⟨hS84, ⟨q85, hq86, hq87, hq88, rfl⟩⟩ A H
 obtain ⟨hx90, _⟩ := nxs hx40 he83
 clear hS21
 have hSlhS84 := hS84.lt
 have hs91 := (Stp.of_ext hs41 (some g_s)).trans' he83
 refine ⟨hs91, ?_⟩
 refine dr_one (i := 3) (by kernel_rfl) ?_
 refine pe H rfl (op_lits [([48] : Str), ([35] : Str), ([46] : Str), ([47] : Str), ([32] : Str), ([97] : Str), ([45] : Str), ([10] : Str)] H U25 ti9) ?_
 clear H A; rintro v92 w93 ⟨ho94, he95, hob96⟩ A H
 have hs98 := hs91.trans' (Stp.of_ext he95 _)
 obtain ⟨hx99, _⟩ := nxe hx90 he95
 replace hS84 := hS84.ext he95
 refine ⟨hs98, ?_⟩
 obtain ⟨x100, hx100⟩ := get_ex (xs := [([48] : Str), ([35] : Str), ([46] : Str), ([47] : Str), ([32] : Str), ([97] : Str), ([45] : Str), ([10] : Str)]) (j := ((q85 : Int)).toNat) (by simp only [List.length_cons, List.length_nil]; omega)
 obtain ⟨p101, hi103, hc104, b107, _, _⟩ := at_shStr (ho94.rds pos_shStr) hx100
 have hdlx100 := el_len 1 (by rfl) hx100
 refine dw 6 H rfl hs98 (ix H U25 ti9 hi103) ?_
 clear H A; intro A H
 refine dr_one (i := 7) (by kernel_rfl) ?_
 refine po_to H rfl rfl rfl rfl (lh H U9 hc104) ?_
 clear H A; intro A H
 refine ⟨hs98, ?_⟩
 refine dw 8 H rfl hs98 (op_sadd H rfl rfl rfl (by simp; omega)) ?_
 clear H A; intro A H
 refine dw 12 H rfl hs98 (op_sadd H rfl rfl rfl (by simp; omega)) ?_
 clear H A; intro A H
 refine dw 13 H rfl hs98 (op_assign H rfl rfl) ?_
 clear H A; intro A H
 refine dr_end (by kernel_rfl) ?_
 revert A; refine go ?_; intro A H
 refine ret1 H rfl rfl ?_
 clear H A
 refine ret_mkS hx99 ⟨hS84, ?_⟩
 refine ⟨(((t.take (((q10 : Int)).toNat)) ++ x100) ++ (t.drop (((q10 : Int)).toNat)) : Str), (by simp; omega), ?_⟩
 exact (congrArg St (by rfl))
 rw [decide_eq_false c37] at H
 revert A; refine go ?_; intro A H
 by_cases c115 : (q22 : Int) = (2 : Int)
 rw [decide_eq_true c115] at H
 revert A; refine go ?_; intro A H
 refine wv H (op_len_str H rfl U9 rfl) ?_
 clear H A; refine go ?_; intro A H
 by_cases c120 : (q10 : Int) < ((t.length : Nat) : Int)
 rw [decide_eq_true c120] at H
 revert A; refine go ?_; intro A H
 refine dre Ext follows_mixed ?_
 intro w121 he122 hs124
 obtain ⟨hx123, _⟩ := nxe hx27 he122
 replace hS21 := hS21.ext he122
 revert A; refine dgo [0, 1] hs124 ?_; intro A H
 refine dw 2 H rfl hs124 (op_slice_str_t (j := ((q10 : Int)).toNat) (by omega) H rfl U9 rfl rfl (by omega)) ?_
 clear H A; refine dgo [3, 4] hs124 ?_; intro A H
 refine dw 5 H rfl hs124 ((op_add H rfl rfl rfl).int (IntWalk.i64_in _ (by omega))) ?_
 clear H A; intro A H
 refine dw 6 H rfl hs124 (op_slice_str_f (i := (((q10 : Int)).toNat + 1)) (by omega) H rfl U9 rfl rfl (by omega)) ?_
 clear H A; intro A H
 refine dw 7 H rfl hs124 (op_sadd H rfl rfl rfl (by simp; omega)) ?_
 clear H A; intro A H
 refine dw 8 H rfl hs124 (op_assign H rfl rfl) ?_
 clear H A; intro A H
 refine dr_end (by kernel_rfl) ?_
 replace hS21 := hS21.ext hs124
 revert A; refine go ?_; intro A H
 refine ret1 H rfl rfl ?_
 clear H A
 refine ret_mkS hx123 ⟨hS21, ?_⟩
 refine ⟨((t.take (((q10 : Int)).toNat)) ++ (t.drop ((((q10 : Int)).toNat + 1))) : Str), (by simp; omega), ?_⟩
 exact (congrArg St (by rfl))
 rw [decide_eq_false c120] at H
 revert A; refine go ?_; intro A H
 refine ret1 H rfl rfl ?_
 clear H A
 refine ret_mkS hx27 ⟨hS21, ?_⟩
 refine ⟨(t : Str), (by omega), ?_⟩
 exact (congrArg St (by rfl))
 rw [decide_eq_false c115] at H
 revert A; refine go ?_; intro A H
 refine ret1 H rfl rfl ?_
 clear H A
 refine ret_mkS hx27 ⟨hS21, ?_⟩
 refine ⟨(t : Str), (by omega), ?_⟩
 exact (congrArg St (by rfl))



theorem c_spec_l34Draw (w0 : World) (g_s b_s : Nat) (h_s : Src w0 g_s b_s 75) :
    Calls Tryz.prog 30 #[.pointer (some (⟨g_s, 0, none⟩ : Addr))] w0 (RetS w0 (some g_s) (fun v w1 => Src w1 g_s b_s 75 ∧ (fun v w1 => ∃ (d : Str), (d.length ≤ 3000) ∧ (fun v _ => v = St (d)) v w1) v w1)) := by
 refine enter (N := 40) Tryz.func30 rfl rfl rfl ?_
 intro A H
 have hx0 := Stp.rfl' w0 (some g_s)
 have hgl_s := h_s.lt
 revert A; refine go ?_; intro A H
 refine wl_callS H rfl rfl rfl (op_call H rfl cb37 rfl) (c_spec_l01Next _ g_s b_s (16 : Int) h_s) ?_
 clear H A; rintro v4 w5 he6 ⟨hS7, ⟨q8, hq9, hq10, hq11, rfl⟩⟩ A H
 obtain ⟨hx13, _⟩ := nxs hx0 he6
 have hSlhS7 := hS7.lt
 revert A; refine go ?_; intro A H
 refine loop_inv (X := Int × Str) (fun ⟨m, tx⟩ fr wl => Sl 40 fr [(0, .pointer (some (⟨g_s, 0, none⟩ : Addr))), (3, St tx), (4, .int .i64 m)] ∧ Stp w0 wl (some g_s) ∧ Src wl g_s b_s 75 ∧ w5.heap.size ≤ wl.heap.size ∧ (0 ≤ m ∧ m ≤ 16) ∧ ((tx.length : Int) + 92 * m ≤ 1472)) (fun ⟨m, tx⟩ => m.toNat) ((q8 : Int), ([] : Str)) ?_ ?_
 exact ⟨(sl H), hx13, hS7, (by omega), (by omega), (by simp only [List.length_nil]; omega)⟩
 clear H A
 rintro ⟨m, tx⟩ A w15 ⟨H, hx16, hf17, hzl19, hm, htx⟩
 have hzhx16 := hx16.size
 have hgl20 := hf17.lt
 revert A; refine go ?_; intro A H
 by_cases c23 : (0 : Int) < m
 rw [decide_eq_true c23] at H
 revert A; refine go ?_; intro A H
 refine wl_callS H rfl rfl rfl (op_call H rfl cb36 rfl) (c_spec_l34Command _ g_s b_s hf17) ?_
 clear H A; rintro v25 w26 he27 ⟨hS28, ⟨q29, hq30, rfl⟩⟩ A H
 obtain ⟨hx32, _⟩ := nxs hx16 he27
 clear hf17
 have hSlhS28 := hS28.lt
 refine wv H (op_assign H rfl rfl) ?_
 clear H A; intro A H
 refine wpList_nil ?_
 refine then_n ?_
 refine seq_mid (fun fr wl => ∃ (ln : Str), Sl 40 fr [(0, .pointer (some (⟨g_s, 0, none⟩ : Addr))), (3, St tx), (4, .int .i64 m), (5, St ln)] ∧ Stp w0 wl (some g_s) ∧ Src wl g_s b_s 75 ∧ w26.heap.size ≤ wl.heap.size ∧ (ln.length ≤ 91)) ?_ ?_
 revert A; refine go ?_; intro A H
 refine wl_callS H rfl rfl rfl (op_call H rfl cb37 rfl) (c_spec_l01Next _ g_s b_s (16 : Int) hS28) ?_
 clear H A; rintro v38 w39 he40 ⟨hS41, ⟨q42, hq43, hq44, hq45, rfl⟩⟩ A H
 obtain ⟨hx47, _⟩ := nxs hx32 he40
 clear hS28
 have hSlhS41 := hS41.lt
 revert A; refine go ?_; intro A H
 by_cases c49 : (q42 : Int) = (0 : Int)
 rw [decide_eq_true c49] at H
 revert A; refine go ?_; intro A H
 refine wl_callS H rfl rfl rfl (op_call H rfl cb38 rfl) (c_spec_l01Damage _ g_s b_s ((q29)) hS41 (by omega)) ?_
 clear H A; rintro v52 w53 he54 ⟨hS55, ⟨q56, hq57, rfl⟩⟩ A H
 obtain ⟨hx59, _⟩ := nxs hx47 he54
 clear hS41
 have hSlhS55 := hS55.lt
 revert A; refine go ?_; intro A H
 refine ⟨(q56), (sl H), hx59, hS55, (by omega), (by omega)⟩
 rw [decide_eq_false c49] at H
 revert A; refine go ?_; intro A H
 refine ⟨(q29), (sl H), hx47, hS41, (by omega), (by omega)⟩
 clear H A
 rintro A w34 ⟨ln, H, hx35, hf36, hzl62, hln⟩
 have hzhx35 := hx35.size
 have hgl63 := hf36.lt
 revert A; refine go ?_; intro A H
 refine wv H (op_sadd H rfl rfl rfl (by omega)) ?_
 clear H A; intro A H
 refine wv H (op_sadd H rfl rfl rfl (by simp only [List.length_append, List.length_cons, List.length_nil]; omega)) ?_
 clear H A; refine go ?_; intro A H
 refine wv H ((op_sub H rfl rfl rfl).int (IntWalk.i64_in _ (by omega))) ?_
 clear H A; refine go ?_; intro A H
 refine ⟨((m - (1 : Int)), (tx ++ ln) ++ (([10] : Str))), ?_, ?_⟩
 refine ⟨(sl H), hx35, hf36, (by omega), (by omega), (by simp only [List.length_append, List.length_cons, List.length_nil]; omega)⟩
 show (((m - (1 : Int))).toNat : Nat) < m.toNat; omega
 rw [decide_eq_false c23] at H
 revert A; refine go ?_; intro A H
 refine wl_callS H rfl rfl rfl (op_call H rfl cb37 rfl) (c_spec_l01Next _ g_s b_s (40 : Int) hf17) ?_
 clear H A; rintro v73 w74 he75 ⟨hS76, ⟨q77, hq78, hq79, hq80, rfl⟩⟩ A H
 obtain ⟨hx82, _⟩ := nxs hx16 he75
 clear hf17
 have hSlhS76 := hS76.lt
 revert A; refine go ?_; intro A H
 by_cases c85 : (q77 : Int) = (0 : Int)
 rw [decide_eq_true c85] at H
 revert A; refine go ?_; intro A H
 refine loop_inv (X := Nat × Str) (fun ⟨k, tx⟩ fr wl => Sl 40 fr [(0, .pointer (some (⟨g_s, 0, none⟩ : Addr))), (3, St tx), (6, .int .i64 ((k : Nat) : Int))] ∧ Stp w0 wl (some g_s) ∧ Src wl g_s b_s 75 ∧ w74.heap.size ≤ wl.heap.size ∧ (k ≤ 36) ∧ (tx.length ≤ 1472 + 6 * k)) (fun ⟨k, tx⟩ => 36 - k) (0, tx) ?_ ?_
 exact ⟨(sl H), hx82, hS76, (by omega), (by omega), (by omega)⟩
 clear H A
 rintro ⟨k, tx⟩ A w87 ⟨H, hx88, hf89, hzl91, hk, htx2⟩
 have hzhx88 := hx88.size
 have hgl92 := hf89.lt
 revert A; refine go ?_; intro A H
 by_cases c95 : ((k : Nat) : Int) < (36 : Int)
 rw [decide_eq_true c95] at H
 revert A; refine go ?_; intro A H
 refine wv H (op_sadd H rfl rfl rfl (by simp only [List.length_cons, List.length_nil]; omega)) ?_
 clear H A; refine go ?_; intro A H
 refine wv H ((op_add H rfl rfl rfl).int (IntWalk.i64_in _ (by omega))) ?_
 clear H A; refine go ?_; intro A H
 refine ⟨((k + 1), tx ++ (([111, 114, 100, 101, 114, 10] : Str))), ?_, ?_⟩
 refine ⟨(sl H), hx88, hf89, (by omega), (by omega), (by simp only [List.length_append, List.length_cons, List.length_nil]; omega)⟩
 show (36 - ((k + 1)) : Nat) < 36 - k; omega
 rw [decide_eq_false c95] at H
 revert A; refine go ?_; intro A H
 refine ret1 H rfl rfl ?_
 clear H A
 refine ret_mkS hx88 ⟨hf89, ?_⟩
 refine ⟨(tx : Str), (by omega), ?_⟩
 exact (congrArg St (by rfl))
 rw [decide_eq_false c85] at H
 revert A; refine go ?_; intro A H
 by_cases c106 : (q77 : Int) = (1 : Int)
 rw [decide_eq_true c106] at H
 revert A; refine go ?_; intro A H
 refine wv H (op_sadd H rfl rfl rfl (by simp only [List.length_cons, List.length_nil]; omega)) ?_
 clear H A; refine go ?_; intro A H
 refine ret1 H rfl rfl ?_
 clear H A
 refine ret_mkS hx82 ⟨hS76, ?_⟩
 refine ⟨(tx ++ (([107, 101, 112, 116] : Str)) : Str), (by simp only [List.length_append, List.length_cons, List.length_nil]; omega), ?_⟩
 exact (congrArg St (by rfl))
 rw [decide_eq_false c106] at H
 revert A; refine go ?_; intro A H
 refine ret1 H rfl rfl ?_
 clear H A
 refine ret_mkS hx82 ⟨hS76, ?_⟩
 refine ⟨(tx : Str), (by omega), ?_⟩
 exact (congrArg St (by rfl))



theorem c_spec_DrawRunConsole (w0 : World) (v_code : Value) (code : List UInt8) {S_code : Nat → Prop} (h_code : Rds shU8 S_code w0 v_code code) :
    Calls Tryz.prog 8 #[v_code] w0 (Ret w0 (fun v w1 => ∃ (d : Str), (d.length ≤ 3000) ∧ (fun v _ => v = St (d)) v w1)) := by
 refine enter (N := 6) Tryz.func8 rfl rfl rfl ?_
 intro A H
 have hx0 := Ext.rfl' w0
 have hl_code := h_code.length_le
 revert A; refine go ?_; intro A H
 refine wc H cb31 (c_spec_l01From _ v_code code (h_code.low pos_shU8 hx0 (Nat.le_refl _)) (by omega)) ?_
 clear H A; rintro v3 w4 he5 ⟨g6, rfl, hg7, hS8⟩ A H
 obtain ⟨hx10, _⟩ := nx hx0 he5
 have hSlhS8 := hS8.lt
 refine wl_callS H rfl rfl rfl (op_call H rfl cb30 rfl) (c_spec_l34Draw _ g6 w0.heap.size hS8) ?_
 clear H A; rintro v11 w12 he13 ⟨hS14, ⟨q15, hq16, rfl⟩⟩ A H
 obtain ⟨hx18, _⟩ := nb hx10 he13
 clear hS8
 have hSlhS14 := hS14.lt
 revert A; refine go ?_; intro A H
 refine ret1 H rfl rfl ?_
 clear H A
 refine ret_mk hx18 ?_
 refine ⟨((q15) : Str), (by omega), ?_⟩
 exact (congrArg St (by rfl))



theorem c_spec_DrawDeskAfter (w0 : World) (v_code : Value) (code : List UInt8) {S_code : Nat → Prop} (h_code : Rds shU8 S_code w0 v_code code) :
    Calls Tryz.prog 20 #[v_code] w0 (Ret w0 (fun v w1 => ∃ (d : Str), (d.length ≤ 3000) ∧ (fun v _ => v = St (d)) v w1)) := by
 refine enter (N := 6) Tryz.func20 rfl rfl rfl ?_
 intro A H
 have hx0 := Ext.rfl' w0
 have hl_code := h_code.length_le
 revert A; refine go ?_; intro A H
 refine wc H cb31 (c_spec_l01From _ v_code code (h_code.low pos_shU8 hx0 (Nat.le_refl _)) (by omega)) ?_
 clear H A; rintro v3 w4 he5 ⟨g6, rfl, hg7, hS8⟩ A H
 obtain ⟨hx10, _⟩ := nx hx0 he5
 have hSlhS8 := hS8.lt
 refine wl_callS H rfl rfl rfl (op_call H rfl cb30 rfl) (c_spec_l34Draw _ g6 w0.heap.size hS8) ?_
 clear H A; rintro v11 w12 he13 ⟨hS14, ⟨q15, hq16, rfl⟩⟩ A H
 obtain ⟨hx18, _⟩ := nb hx10 he13
 clear hS8
 have hSlhS14 := hS14.lt
 revert A; refine go ?_; intro A H
 refine ret1 H rfl rfl ?_
 clear H A
 refine ret_mk hx18 ?_
 refine ⟨((q15) : Str), (by omega), ?_⟩
 exact (congrArg St (by rfl))



theorem c_spec_DrawIsConsoleLine (w0 : World) (v_code : Value) (code : List UInt8) {S_code : Nat → Prop} (h_code : Rds shU8 S_code w0 v_code code) :
    Calls Tryz.prog 11 #[v_code] w0 (Ret w0 (fun v w1 => ∃ (d : Str), (d.length ≤ 100) ∧ (fun v _ => v = St (d)) v w1)) := by
 refine enter (N := 16) Tryz.func11 rfl rfl rfl ?_
 intro A H
 have hx0 := Ext.rfl' w0
 have hl_code := h_code.length_le
 revert A; refine go ?_; intro A H
 refine wc H cb31 (c_spec_l01From _ v_code code (h_code.low pos_shU8 hx0 (Nat.le_refl _)) (by omega)) ?_
 clear H A; rintro v3 w4 he5 ⟨g6, rfl, hg7, hS8⟩ A H
 obtain ⟨hx10, _⟩ := nx hx0 he5
 have hSlhS8 := hS8.lt
 revert A; refine go ?_; intro A H
 refine wl_callS H rfl rfl rfl (op_call H rfl cb36 rfl) (c_spec_l34Command _ g6 w0.heap.size hS8) ?_
 clear H A; rintro v13 w14 he15 ⟨hS16, ⟨q17, hq18, rfl⟩⟩ A H
 obtain ⟨hx20, _⟩ := nb hx10 he15
 clear hS8
 have hSlhS16 := hS16.lt
 revert A; refine go ?_; intro A H
 refine wl_callS H rfl rfl rfl (op_call H rfl cb37 rfl) (c_spec_l01Next _ g6 w0.heap.size (2 : Int) hS16) ?_
 clear H A; rintro v23 w24 he25 ⟨hS26, ⟨q27, hq28, hq29, hq30, rfl⟩⟩ A H
 obtain ⟨hx32, _⟩ := nb hx20 he25
 clear hS16
 have hSlhS26 := hS26.lt
 revert A; refine go ?_; intro A H
 by_cases c34 : (q27 : Int) = (0 : Int)
 rw [decide_eq_true c34] at H
 revert A; refine go ?_; intro A H
 refine wl_callS H rfl rfl rfl (op_call H rfl cb38 rfl) (c_spec_l01Damage _ g6 w0.heap.size ((q17)) hS26 (by omega)) ?_
 clear H A; rintro v37 w38 he39 ⟨hS40, ⟨q41, hq42, rfl⟩⟩ A H
 obtain ⟨hx44, _⟩ := nb hx32 he39
 clear hS26
 have hSlhS40 := hS40.lt
 revert A; refine go ?_; intro A H
 refine ret1 H rfl rfl ?_
 clear H A
 refine ret_mk hx44 ?_
 refine ⟨((q41) : Str), (by omega), ?_⟩
 exact (congrArg St (by rfl))
 rw [decide_eq_false c34] at H
 revert A; refine go ?_; intro A H
 refine ret1 H rfl rfl ?_
 clear H A
 refine ret_mk hx32 ?_
 refine ⟨((q17) : Str), (by omega), ?_⟩
 exact (congrArg St (by rfl))




end Go.Proofs.YthbehhhblchhhaaGreat
