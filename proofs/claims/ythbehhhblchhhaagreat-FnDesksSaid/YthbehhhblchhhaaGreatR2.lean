/- Words and day books drawn. -/
import Derived.Test.YthbehhhblchhhaaGreatR1
import Derived.Test.YthbehhhblchhhaaGreatB1
namespace Go.Proofs.YthbehhhblchhhaaGreat
open Go Go.RowKit
set_option maxHeartbeats 16000000

theorem ret_tc {fn : Func} {R : Ending → World → Prop} {N : Nat} {a : Act} {w : World} {l : List (Nat × Value)} {P : Program} {t0 : Tmp} {v0 : Value} {t1 : Tmp} {e1 : TypeId} {fs1 : Array Field} {p1 : Addr} {cs1 : List Value} {sz1 by1 : Nat} {z1 : Value}
    (ha : Sl N a l) (hr : fn.results = #[.tmp t0, .cell t1 e1]) (x0 : lk l t0 = some v0) (x1 : lk l t1 = some (.pointer (some p1))) (T1 : P.underlying e1 = some (.struct fs1)) (E1 : TI P e1 sz1 by1 z1) (l1 : cs1.length = sz1) (c1 : CellsAt w p1 cs1)
    (h : R (.returned (.tuple #[v0, .agg cs1.toArray])) w) : bodyPost P fn R .ret a w := by
  subst l1
  have e0' := ha.get t0 _ x0
  have e1' := ha.get t1 _ x1
  rw [Array.getD_eq_getD_getElem?] at e0' e1'
  refine ⟨ha.defers, _, ?_, h⟩
  simp [results, hr, e0', e1', asAddr, loadVar, isAgg, run_underlying T1, E1.sizeOf, run_loadCells_list w p1 cs1 (fun j v hv => c1 j v hv)]

theorem add_ok {xs : List Ent} {e : Ent} (h : addC xs e = 0) : dbB xs = true ∧ xs.length < 60 ∧ dbB (xs ++ [e]) = true ∧ addL xs e = xs ++ [e] := by
  unfold addC at h
  split at h
  · rename_i h1
    have hl := dbB_len h1
    split at h
    · cases h
    · rename_i h2
      split at h
      · rename_i h3
        refine ⟨h1, by omega, h3, ?_⟩
        unfold addL; rw [if_pos h1, if_neg h2, if_pos h3]
      · cases h
  · cases h
theorem add_db {xs : List Ent} {e : Ent} (h : addC xs e = 0) : dbB (addL xs e) = true := by
  have h1 := add_ok h; rw [h1.2.2.2]; exact h1.2.2.1

theorem c_spec_l01Good (w0 : World) (g_s b_s : Nat) (h_s : Src w0 g_s b_s 75) :
    Calls Tryz.prog 113 #[.pointer (some (⟨g_s, 0, none⟩ : Addr))] w0 (RetS w0 (some g_s) (fun v w1 => Src w1 g_s b_s 75 ∧ (fun v w1 => ∃ (d : Str), (d.length ≤ 17) ∧ (fun v _ => v = St (d)) v w1) v w1)) := by
 refine enter (N := 8) Tryz.func113 rfl rfl rfl ?_
 intro A H
 have hx0 := Stp.rfl' w0 (some g_s)
 have hgl_s := h_s.lt
 revert A; refine go ?_; intro A H
 refine we H (op_buildSlice (s := shStr) (xs := [([97, 100, 97] : Str), ([98, 114, 117, 110, 111] : Str), ([99, 108, 97, 114, 97] : Str), ([100, 111, 114, 97] : Str), ([101, 109, 105, 108] : Str), ([102, 114, 105, 100, 97] : Str), ([103, 117, 115, 116, 97, 118] : Str), ([104, 97, 110, 110, 97] : Str), ([105, 118, 97, 110] : Str), ([106, 97, 110, 97] : Str), ([107, 97, 114, 108] : Str), ([108, 101, 110, 97] : Str)]) (cs := [St (([97, 100, 97] : Str)), St (([98, 114, 117, 110, 111] : Str)), St (([99, 108, 97, 114, 97] : Str)), St (([100, 111, 114, 97] : Str)), St (([101, 109, 105, 108] : Str)), St (([102, 114, 105, 100, 97] : Str)), St (([103, 117, 115, 116, 97, 118] : Str)), St (([104, 97, 110, 110, 97] : Str)), St (([105, 118, 97, 110] : Str)), St (([106, 97, 110, 97] : Str)), St (([107, 97, 114, 108] : Str)), St (([108, 101, 110, 97] : Str))]) (vs := [(0, St (([97, 100, 97] : Str))), (1, St (([98, 114, 117, 110, 111] : Str))), (2, St (([99, 108, 97, 114, 97] : Str))), (3, St (([100, 111, 114, 97] : Str))), (4, St (([101, 109, 105, 108] : Str))), (5, St (([102, 114, 105, 100, 97] : Str))), (6, St (([103, 117, 115, 116, 97, 118] : Str))), (7, St (([104, 97, 110, 110, 97] : Str))), (8, St (([105, 118, 97, 110] : Str))), (9, St (([106, 97, 110, 97] : Str))), (10, St (([107, 97, 114, 108] : Str))), (11, St (([108, 101, 110, 97] : Str)))]) (S := fun _ => False) (le := w0.heap.size) H rfl pos_shStr U25 ti9 rfl rfl (by decide) (by kernel_rfl) ⟨mk_shStr (([97, 100, 97] : Str)) (by simp), mk_shStr (([98, 114, 117, 110, 111] : Str)) (by simp), mk_shStr (([99, 108, 97, 114, 97] : Str)) (by simp), mk_shStr (([100, 111, 114, 97] : Str)) (by simp), mk_shStr (([101, 109, 105, 108] : Str)) (by simp), mk_shStr (([102, 114, 105, 100, 97] : Str)) (by simp), mk_shStr (([103, 117, 115, 116, 97, 118] : Str)) (by simp), mk_shStr (([104, 97, 110, 110, 97] : Str)) (by simp), mk_shStr (([105, 118, 97, 110] : Str)) (by simp), mk_shStr (([106, 97, 110, 97] : Str)) (by simp), mk_shStr (([107, 97, 114, 108] : Str)) (by simp), mk_shStr (([108, 101, 110, 97] : Str)) (by simp), rfl⟩ (fun _ h => h.elim)) ?_
 clear H A; rintro v2 w3 ⟨ho4, he5, hob6⟩ A H
 obtain ⟨hx8, _⟩ := nxe hx0 he5
 replace h_s := h_s.ext he5
 refine wv H (op_move H rfl rfl) ?_
 clear H A; intro A H
 refine wl_callS H rfl rfl rfl (op_call H rfl cb37 rfl) (c_spec_l01Next _ g_s b_s (12 : Int) h_s) ?_
 clear H A; rintro v10 w11 he12 ⟨hS13, ⟨q14, hq15, hq16, hq17, rfl⟩⟩ A H
 obtain ⟨hx19, _⟩ := nxs hx8 he12
 replace ho4 := ho4.stp he12 (by intro q hq; cases hq; omega)
 have hSlhS13 := hS13.lt
 obtain ⟨x20, hx20⟩ := get_ex (xs := [([97, 100, 97] : Str), ([98, 114, 117, 110, 111] : Str), ([99, 108, 97, 114, 97] : Str), ([100, 111, 114, 97] : Str), ([101, 109, 105, 108] : Str), ([102, 114, 105, 100, 97] : Str), ([103, 117, 115, 116, 97, 118] : Str), ([104, 97, 110, 110, 97] : Str), ([105, 118, 97, 110] : Str), ([106, 97, 110, 97] : Str), ([107, 97, 114, 108] : Str), ([108, 101, 110, 97] : Str)]) (j := ((q14 : Int)).toNat) (by simp only [List.length_cons, List.length_nil]; omega)
 obtain ⟨p21, hi23, hc24, b27, _, _⟩ := at_shStr (ho4.rds pos_shStr) hx20
 have hdlx20 := el_len 17 (by rfl) hx20
 refine wv H (ix H U25 ti9 hi23) ?_
 clear H A; intro A H
 refine wv H (lh H U9 hc24) ?_
 clear H A; refine go ?_; intro A H
 refine ret1 H rfl rfl ?_
 clear H A
 refine ret_mkS hx19 ⟨hS13, ?_⟩
 refine ⟨(x20 : Str), (by omega), ?_⟩
 exact (congrArg St (by rfl))



theorem c_spec_l01DrawWord (w0 : World) (g_s b_s : Nat) (h_s : Src w0 g_s b_s 75) :
    Calls Tryz.prog 79 #[.pointer (some (⟨g_s, 0, none⟩ : Addr))] w0 (RetS w0 (some g_s) (fun v w1 => Src w1 g_s b_s 75 ∧ (fun v w1 => ∃ (d : Str), (d.length ≤ 17) ∧ (fun v _ => v = St (d)) v w1) v w1)) := by
 refine enter (N := 13) Tryz.func79 rfl rfl rfl ?_
 intro A H
 have hx0 := Stp.rfl' w0 (some g_s)
 have hgl_s := h_s.lt
 revert A; refine go ?_; intro A H
 refine wl_callS H rfl rfl rfl (op_call H rfl cb37 rfl) (c_spec_l01Next _ g_s b_s (24 : Int) h_s) ?_
 clear H A; rintro v3 w4 he5 ⟨hS6, ⟨q7, hq8, hq9, hq10, rfl⟩⟩ A H
 obtain ⟨hx12, _⟩ := nxs hx0 he5
 have hSlhS6 := hS6.lt
 revert A; refine go ?_; intro A H
 by_cases c14 : (q7 : Int) = (0 : Int)
 rw [decide_eq_true c14] at H
 revert A; refine go ?_; intro A H
 refine we H (op_buildSlice (s := shStr) (xs := [([] : Str), ([65, 100, 97] : Str), ([97, 49] : Str), ([97, 98, 99, 100, 101, 102, 103, 104, 105, 106, 107, 108, 109, 110, 111, 112] : Str), ([97, 98, 99, 100, 101, 102, 103, 104, 105, 106, 107, 108, 109, 110, 111, 112, 113] : Str), ([97, 32, 98] : Str)]) (cs := [St (([] : Str)), St (([65, 100, 97] : Str)), St (([97, 49] : Str)), St (([97, 98, 99, 100, 101, 102, 103, 104, 105, 106, 107, 108, 109, 110, 111, 112] : Str)), St (([97, 98, 99, 100, 101, 102, 103, 104, 105, 106, 107, 108, 109, 110, 111, 112, 113] : Str)), St (([97, 32, 98] : Str))]) (vs := [(0, St (([] : Str))), (1, St (([65, 100, 97] : Str))), (2, St (([97, 49] : Str))), (3, St (([97, 98, 99, 100, 101, 102, 103, 104, 105, 106, 107, 108, 109, 110, 111, 112] : Str))), (4, St (([97, 98, 99, 100, 101, 102, 103, 104, 105, 106, 107, 108, 109, 110, 111, 112, 113] : Str))), (5, St (([97, 32, 98] : Str)))]) (S := fun _ => False) (le := w4.heap.size) H rfl pos_shStr U25 ti9 rfl rfl (by decide) (by kernel_rfl) ⟨mk_shStr (([] : Str)) (by simp), mk_shStr (([65, 100, 97] : Str)) (by simp), mk_shStr (([97, 49] : Str)) (by simp), mk_shStr (([97, 98, 99, 100, 101, 102, 103, 104, 105, 106, 107, 108, 109, 110, 111, 112] : Str)) (by simp), mk_shStr (([97, 98, 99, 100, 101, 102, 103, 104, 105, 106, 107, 108, 109, 110, 111, 112, 113] : Str)) (by simp), mk_shStr (([97, 32, 98] : Str)) (by simp), rfl⟩ (fun _ h => h.elim)) ?_
 clear H A; rintro v15 w16 ⟨ho17, he18, hob19⟩ A H
 obtain ⟨hx21, _⟩ := nxe hx12 he18
 replace hS6 := hS6.ext he18
 refine wv H (op_move H rfl rfl) ?_
 clear H A; intro A H
 refine wl_callS H rfl rfl rfl (op_call H rfl cb37 rfl) (c_spec_l01Next _ g_s b_s (6 : Int) hS6) ?_
 clear H A; rintro v23 w24 he25 ⟨hS26, ⟨q27, hq28, hq29, hq30, rfl⟩⟩ A H
 obtain ⟨hx32, _⟩ := nxs hx21 he25
 replace ho17 := ho17.stp he25 (by intro q hq; cases hq; omega)
 clear hS6
 have hSlhS26 := hS26.lt
 obtain ⟨x33, hx33⟩ := get_ex (xs := [([] : Str), ([65, 100, 97] : Str), ([97, 49] : Str), ([97, 98, 99, 100, 101, 102, 103, 104, 105, 106, 107, 108, 109, 110, 111, 112] : Str), ([97, 98, 99, 100, 101, 102, 103, 104, 105, 106, 107, 108, 109, 110, 111, 112, 113] : Str), ([97, 32, 98] : Str)]) (j := ((q27 : Int)).toNat) (by simp only [List.length_cons, List.length_nil]; omega)
 obtain ⟨p34, hi36, hc37, b40, _, _⟩ := at_shStr (ho17.rds pos_shStr) hx33
 have hdlx33 := el_len 17 (by rfl) hx33
 refine wv H (ix H U25 ti9 hi36) ?_
 clear H A; intro A H
 refine wv H (lh H U9 hc37) ?_
 clear H A; refine go ?_; intro A H
 refine ret1 H rfl rfl ?_
 clear H A
 refine ret_mkS hx32 ⟨hS26, ?_⟩
 refine ⟨(x33 : Str), (by omega), ?_⟩
 exact (congrArg St (by rfl))
 rw [decide_eq_false c14] at H
 revert A; refine go ?_; intro A H
 refine wl_callS H rfl rfl rfl (op_call H rfl cb113 rfl) (c_spec_l01Good _ g_s b_s hS6) ?_
 clear H A; rintro v45 w46 he47 ⟨hS48, ⟨q49, hq50, rfl⟩⟩ A H
 obtain ⟨hx52, _⟩ := nxs hx12 he47
 clear hS6
 have hSlhS48 := hS48.lt
 revert A; refine go ?_; intro A H
 refine ret1 H rfl rfl ?_
 clear H A
 refine ret_mkS hx52 ⟨hS48, ?_⟩
 refine ⟨((q49) : Str), (by omega), ?_⟩
 exact (congrArg St (by rfl))



theorem c_spec_l33Good (w0 : World) (g_s b_s : Nat) (h_s : Src w0 g_s b_s 75) :
    Calls Tryz.prog 78 #[.pointer (some (⟨g_s, 0, none⟩ : Addr))] w0 (RetS w0 (some g_s) (fun v w1 => Src w1 g_s b_s 75 ∧ (fun v w1 => ∃ (l : List Ent), (dbB l = true) ∧ (fun v w1 => Own shEnt 69 w0.heap.size w0.heap.size w1.heap.size w1 v (l)) v w1) v w1)) := by
 refine enter (N := 72) Tryz.func78 rfl rfl rfl ?_
 intro A H
 have hx0 := Stp.rfl' w0 (some g_s)
 have hgl_s := h_s.lt
 revert A; refine go ?_; intro A H
 refine we H (op_b0 H pos_shEnt U32 ti69) ?_
 clear H A; rintro v2 w3 ⟨ho4, he5, hob6⟩ A H
 obtain ⟨hx8, _⟩ := nxe hx0 he5
 replace h_s := h_s.ext he5
 revert A; refine go ?_; intro A H
 refine wl_callS H rfl rfl rfl (op_call H rfl cb37 rfl) (c_spec_l01Next _ g_s b_s (20 : Int) h_s) ?_
 clear H A; rintro v11 w12 he13 ⟨hS14, ⟨q15, hq16, hq17, hq18, rfl⟩⟩ A H
 obtain ⟨hx20, _⟩ := nxs hx8 he13
 replace ho4 := ho4.stp he13 (by intro q hq; cases hq; omega)
 have hSlhS14 := hS14.lt
 revert A; refine go ?_; intro A H
 refine wl_callS H rfl rfl rfl (op_call H rfl cb37 rfl) (c_spec_l01Next _ g_s b_s (12 : Int) hS14) ?_
 clear H A; rintro v23 w24 he25 ⟨hS26, ⟨q27, hq28, hq29, hq30, rfl⟩⟩ A H
 obtain ⟨hx32, _⟩ := nxs hx20 he25
 replace ho4 := ho4.stp he25 (by intro q hq; cases hq; omega)
 clear hS14
 have hSlhS26 := hS26.lt
 revert A; refine go ?_; intro A H
 refine loop_inv (X := Int × Int × Value × (List Ent)) (fun ⟨m, d, v, xs⟩ fr wl => Sl 72 fr [(0, .pointer (some (⟨g_s, 0, none⟩ : Addr))), (3, v), (4, .int .i64 d), (5, .int .i64 m)] ∧ Stp w0 wl (some g_s) ∧ Src wl g_s b_s 75 ∧ Own shEnt 69 w0.heap.size w0.heap.size wl.heap.size wl v xs ∧ w24.heap.size ≤ wl.heap.size ∧ (0 ≤ m) ∧ (m ≤ 12) ∧ (0 ≤ d) ∧ (d + 2 * m ≤ 100) ∧ (dbB xs = true)) (fun ⟨m, d, v, xs⟩ => m.toNat) ((q27 : Int), (q15 : Int), v2, ([] : List (Int × Int × Str × Int))) ?_ ?_
 exact ⟨(sl H), hx32, hS26, (fi ho4), (by omega), (by omega), (by omega), (by omega), (by omega), (by rfl)⟩
 clear H A
 rintro ⟨m, d, v, xs⟩ A w34 ⟨H, hx35, hf36, hf37, hzl39, hm0, hm1, hd0, hd1, hV⟩
 have hzhx35 := hx35.size
 have hgl40 := hf36.lt
 have hlv := dbB_len hV
 have hev := dbB_ent hV
 revert A; refine go ?_; intro A H
 by_cases c43 : (0 : Int) < m
 rw [decide_eq_true c43] at H
 refine cond_t H rfl ?_
 refine wp_skip ?_
 refine then_n ?_
 refine wp_seq ?_
 refine wp_block ?_
 refine seq_mid (fun fr wl => ∃ (g44 : Nat) (q45 : Int) (q46 : Str) (q47 : Int), Sl 72 fr [(0, .pointer (some (⟨g_s, 0, none⟩ : Addr))), (3, v), (4, .int .i64 d), (5, .int .i64 m), (6, .pointer (some (⟨g44, 0, none⟩ : Addr)))] ∧ Stp w0 wl (some g_s) ∧ Src wl g_s b_s 75 ∧ Own shEnt 69 w0.heap.size w0.heap.size w34.heap.size wl v xs ∧ Box wl g44 69 [.int .i64 d, .int .i64 (q45 : Int), St q46, .int .i64 ((100 : Int) * ((1 : Int) + (q47 : Int)))] ∧ w34.heap.size ≤ g44 ∧ (0 : Int) ≤ q45 ∧ q45 ≤ (100 : Int) ∧ q46.length ≤ 17 ∧ (0 : Int) ≤ q47 ∧ q47 ≤ (100 : Int) ∧ w34.heap.size ≤ wl.heap.size) ?_ ?_
 refine dre (fun wa_ wb_ => Stp wa_ wb_ (some g_s)) follows_mixed ?_
 intro w53 he54 hs56
 obtain ⟨hx55, _⟩ := nxe hx35 he54
 replace hf36 := hf36.ext he54
 replace hf37 := hf37.ext he54
 refine dr_share (fun fr wl S => ∃ (g57 : Nat) (q58 : Int) (q59 : Str) (q60 : Int), S = (fun w' => StpL wl w' (fun i => i = g_s ∨ i = g57)) ∧ Sl 72 fr [(0, .pointer (some (⟨g_s, 0, none⟩ : Addr))), (3, v), (4, .int .i64 d), (5, .int .i64 m), (6, .pointer (some (⟨g57, 0, none⟩ : Addr))), (32, .agg #[.int .i64 d, .int .i64 (q58 : Int), St q59, .int .i64 ((100 : Int) * ((1 : Int) + (q60 : Int)))])] ∧ Stp w0 wl (some g_s) ∧ Src wl g_s b_s 75 ∧ Own shEnt 69 w0.heap.size w0.heap.size w34.heap.size wl v xs ∧ Box wl g57 69 [.int .i64 (0 : Int), .int .i64 (0 : Int), St (([] : Str)), .int .i64 (0 : Int)] ∧ (w53.heap.size ≤ g57) ∧ ((0 : Int) ≤ q58) ∧ (q58 ≤ (100 : Int)) ∧ (q59.length ≤ 17) ∧ ((0 : Int) ≤ q60) ∧ (q60 ≤ (100 : Int)) ∧ (q58 ∈ ([(0 : Int), (0 : Int), (1 : Int), (2 : Int), (3 : Int)])) ∧ (0 ≤ q60) ∧ ((30 : Int) ≤ 1 → q60 = 0) ∧ (1 < (30 : Int) → q60 < (30 : Int)) ∧ w53.heap.size ≤ wl.heap.size) 1 #[true, true, true, true, true, true, true, true, true, true, true, true, true, true, true, false] ?_ ?_
 clear H A
 rintro A w61 _ ⟨g57, q58, q59, q60, rfl, H, hx62, hf63, hf64, hf65, hg67, hg68, hg69, hg70, hg71, hg72, hg73, hg74, hg75, hg76, hzl66⟩
 try simp only [List.mem_cons, List.not_mem_nil, or_false] at hg73
 have hzhx62 := hx62.size
 have hgl77 := hf63.lt
 have hgl78 := hf65.lt
 have hs80 : Ext w61 w61 := Ext.rfl' _
 refine dr_one (i := 15) (by kernel_rfl) ?_
 refine po_effS H rfl rfl rfl (op_sa H ti69 hf65) ?_
 rintro w81 ⟨hb83, hst82, hz84⟩
 have hx85 := hx62.fresh hst82 (by intro q hq; cases hq; exact (by omega))
 have hzhx85 := hst82.size
 replace hf63 := hf63.stp hst82 (by intro q hq; cases hq; omega)
 replace hf64 := hf64.stp hst82 (by intro q hq; cases hq; omega)
 clear hf65
 have hs86 := (StpL.of_ext (B := fun i => i = g_s ∨ i = g57) hs80).trans' (Stp.toL hst82 (by intro q hq; cases hq; exact Or.inr (rfl)))
 refine ⟨hs86, ?_⟩
 refine drl hs86 ?_
 intro hs87
 refine dr_end (by kernel_rfl) ?_
 refine then_n ?_
 exact ⟨g57, q58, q59, q60, (sl H), hx85, hf63, (fi hf64), hb83, (by omega), (by omega), (by omega), (by omega), (by omega), (by omega), (by omega)⟩
 intro hk88
 refine dr_share (fun fr wl S => ∃ (q89 : Int) (q90 : Str) (q91 : Int), S = (fun w' => Stp wl w' (some g_s)) ∧ Sl 72 fr [(0, .pointer (some (⟨g_s, 0, none⟩ : Addr))), (3, v), (4, .int .i64 d), (5, .int .i64 m), (32, .agg #[.int .i64 d, .int .i64 (q89 : Int), St q90, .int .i64 ((100 : Int) * ((1 : Int) + (q91 : Int)))])] ∧ Stp w0 wl (some g_s) ∧ Src wl g_s b_s 75 ∧ Own shEnt 69 w0.heap.size w0.heap.size w34.heap.size wl v xs ∧ ((0 : Int) ≤ q89) ∧ (q89 ≤ (100 : Int)) ∧ (q90.length ≤ 17) ∧ ((0 : Int) ≤ q91) ∧ (q91 ≤ (100 : Int)) ∧ (q89 ∈ ([(0 : Int), (0 : Int), (1 : Int), (2 : Int), (3 : Int)])) ∧ (0 ≤ q91) ∧ ((30 : Int) ≤ 1 → q91 = 0) ∧ (1 < (30 : Int) → q91 < (30 : Int)) ∧ w53.heap.size ≤ wl.heap.size) 2 #[true, true, true, true, true, true, true, true, true, true, true, true, true, true, false, false] ?_ ?_
 clear H A
 rintro A w92 _ ⟨q89, q90, q91, rfl, H, hx93, hf94, hf95, hg97, hg98, hg99, hg100, hg101, hg102, hg103, hg104, hg105, hzl96⟩
 try simp only [List.mem_cons, List.not_mem_nil, or_false] at hg102
 have hzhx93 := hx93.size
 have hgl106 := hf94.lt
 have hs108 : Ext w92 w92 := Ext.rfl' _
 refine dr_one (i := 14) (by kernel_rfl) ?_
 refine pe H rfl (op_alloc' rfl ti69 rfl) ?_
 clear H A; rintro _ w109 ⟨rfl, he110, hb111, hz112⟩ A H
 have hs114 := hs108.trans' he110
 obtain ⟨hx115, _⟩ := nxe hx93 he110
 refine ⟨(Stp.of_ext hs114 _), ?_⟩
 replace hf94 := hf94.ext hs114
 replace hf95 := hf95.ext hs114
 refine dr_narrow (S' := fun w' => StpL w109 w' (fun i => i = g_s ∨ i = w92.heap.size)) (fun w' h' => ((Stp.of_ext hs114 _)).freshL h' (by rintro i (q | q) <;> first | (exact Or.inl (congrArg some q.symm)) | (right; omega))) _ _ _ _ ?_
 have hs116 : Ext w109 w109 := Ext.rfl' _
 exact dr_listed (by kernel_rfl) (hk88 _ _ _ ⟨w92.heap.size, q89, q90, q91, rfl, (sl H), hx115, hf94, (fi hf95), hb111, (by omega), (by omega), (by omega), (by omega), (by omega), (by omega), (by simp only [List.mem_cons, List.not_mem_nil, or_false]; omega), (by omega), (by assumption), (by omega), (by omega)⟩)
 intro hk117
 refine dr_share (fun fr wl S => ∃ (g118 : Nat) (q119 : Int) (q120 : Str), S = (fun w' => StpL wl w' (fun i => i = g_s ∨ i = g118)) ∧ Sl 72 fr [(0, .pointer (some (⟨g_s, 0, none⟩ : Addr))), (3, v), (4, .int .i64 d), (5, .int .i64 m), (6, .pointer (some (⟨g118, 0, none⟩ : Addr))), (19, .int .i64 d), (22, .int .i64 (q119 : Int)), (27, St q120), (28, .pointer (some (⟨g_s, 0, none⟩ : Addr)))] ∧ Stp w0 wl (some g_s) ∧ Src wl g_s b_s 75 ∧ Own shEnt 69 w0.heap.size w0.heap.size w34.heap.size wl v xs ∧ Box wl g118 69 [.int .i64 (0 : Int), .int .i64 (0 : Int), St (([] : Str)), .int .i64 (0 : Int)] ∧ (w53.heap.size ≤ g118) ∧ ((0 : Int) ≤ q119) ∧ (q119 ≤ (100 : Int)) ∧ (q120.length ≤ 17) ∧ (q119 ∈ ([(0 : Int), (0 : Int), (1 : Int), (2 : Int), (3 : Int)])) ∧ w53.heap.size ≤ wl.heap.size) 5 #[true, true, true, true, true, true, true, true, true, true, false, false, false, false, true, false] ?_ ?_
 clear H A
 rintro A w121 _ ⟨g118, q119, q120, rfl, H, hx122, hf123, hf124, hf125, hg127, hg128, hg129, hg130, hg131, hzl126⟩
 try simp only [List.mem_cons, List.not_mem_nil, or_false] at hg131
 have hzhx122 := hx122.size
 have hgl132 := hf123.lt
 have hgl133 := hf125.lt
 have hs135 : Ext w121 w121 := Ext.rfl' _
 refine dr_one (i := 10) (by kernel_rfl) ?_
 refine po_callS H rfl rfl rfl rfl (op_call H rfl cb37 rfl) (c_spec_l01Next _ g_s b_s (30 : Int) hf123) ?_
 clear H A; rintro v136 w137 he138 ⟨hS139, ⟨q140, hq141, hq142, hq143, rfl⟩⟩ A H
 obtain ⟨hx145, _⟩ := nxs hx122 he138
 replace hf124 := hf124.stp he138 (by intro q hq; cases hq; omega)
 replace hf125 := bb hf125 he138
 clear hf123
 have hSlhS139 := hS139.lt
 have hs146 := (StpL.of_ext (B := fun i => i = g_s ∨ i = g118) hs135).trans' (Stp.toL he138 (by intro q hq; cases hq; exact Or.inl rfl))
 refine ⟨hs146, ?_⟩
 refine drl hs146 ?_
 intro hs147
 refine dw 11 H rfl (StpL.of_ext hs147) ((op_add H rfl rfl rfl).int (IntWalk.i64_in _ (by omega))) ?_
 clear H A; intro A H
 refine dw 12 H rfl (StpL.of_ext hs147) ((op_mul H rfl rfl rfl).int (IntWalk.i64_in _ (by omega))) ?_
 clear H A; intro A H
 refine dw 13 H rfl (StpL.of_ext hs147) (op_build (vs := [(0, .int .i64 d), (1, .int .i64 (q119 : Int)), (2, St q120), (3, .int .i64 ((100 : Int) * ((1 : Int) + (q140 : Int))))]) (cs := #[.int .i64 d, .int .i64 (q119 : Int), St q120, .int .i64 ((100 : Int) * ((1 : Int) + (q140 : Int)))]) H rfl U69 ti69 bp69 rfl rfl) ?_
 clear H A; intro A H
 exact dr_listed (by kernel_rfl) (hk88 _ _ _ ⟨g118, q119, q120, q140, rfl, (sl H), hx145, hS139, (fi hf124), hf125, (by omega), (by omega), (by omega), (by omega), (by omega), (by omega), (by simp only [List.mem_cons, List.not_mem_nil, or_false]; omega), (by omega), (by assumption), (by omega), (by omega)⟩)
 intro hk151
 refine dr_share (fun fr wl S => ∃ (g152 : Nat) (q153 : Int) (q154 : Int) (q155 : Int), S = (fun w' => StpL wl w' (fun i => i = g_s ∨ i = g152)) ∧ Sl 72 fr [(0, .pointer (some (⟨g_s, 0, none⟩ : Addr))), (3, v), (4, .int .i64 d), (5, .int .i64 m), (6, .pointer (some (⟨g152, 0, none⟩ : Addr))), (19, .int .i64 d), (22, .int .i64 (q153 : Int)), (25, .int .i64 (q154 : Int)), (31, .int .i64 ((100 : Int) * ((1 : Int) + (q155 : Int))))] ∧ Stp w0 wl (some g_s) ∧ Src wl g_s b_s 75 ∧ Own shEnt 69 w0.heap.size w0.heap.size w34.heap.size wl v xs ∧ Box wl g152 69 [.int .i64 (0 : Int), .int .i64 (0 : Int), St (([] : Str)), .int .i64 (0 : Int)] ∧ (w53.heap.size ≤ g152) ∧ ((0 : Int) ≤ q153) ∧ (q153 ≤ (100 : Int)) ∧ ((0 : Int) ≤ q154) ∧ (q154 ≤ (100 : Int)) ∧ ((0 : Int) ≤ q155) ∧ (q155 ≤ (100 : Int)) ∧ (q153 ∈ ([(0 : Int), (0 : Int), (1 : Int), (2 : Int), (3 : Int)])) ∧ (0 ≤ q154) ∧ ((3 : Int) ≤ 1 → q154 = 0) ∧ (1 < (3 : Int) → q154 < (3 : Int)) ∧ (0 ≤ q155) ∧ ((30 : Int) ≤ 1 → q155 = 0) ∧ (1 < (30 : Int) → q155 < (30 : Int)) ∧ w53.heap.size ≤ wl.heap.size) 5 #[true, true, true, true, false, true, true, false, false, true, true, true, true, false, true, false] ?_ ?_
 clear H A
 rintro A w156 _ ⟨g152, q153, q154, q155, rfl, H, hx157, hf158, hf159, hf160, hg162, hg163, hg164, hg165, hg166, hg167, hg168, hg169, hg170, hg171, hg172, hg173, hg174, hg175, hzl161⟩
 try simp only [List.mem_cons, List.not_mem_nil, or_false] at hg169
 have hzhx157 := hx157.size
 have hgl176 := hf158.lt
 have hgl177 := hf160.lt
 have hs179 : Ext w156 w156 := Ext.rfl' _
 refine dr_one (i := 4) (by kernel_rfl) ?_
 refine pe H rfl (op_buildSlice (s := shStr) (xs := [([97, 100, 97] : Str), ([98, 111] : Str), ([99, 121] : Str)]) (cs := [St (([97, 100, 97] : Str)), St (([98, 111] : Str)), St (([99, 121] : Str))]) (vs := [(0, St (([97, 100, 97] : Str))), (1, St (([98, 111] : Str))), (2, St (([99, 121] : Str)))]) (S := fun _ => False) (le := w156.heap.size) H rfl pos_shStr U25 ti9 rfl rfl (by decide) (by kernel_rfl) ⟨mk_shStr (([97, 100, 97] : Str)) (by simp), mk_shStr (([98, 111] : Str)) (by simp), mk_shStr (([99, 121] : Str)) (by simp), rfl⟩ (fun _ h => h.elim)) ?_
 clear H A; rintro v180 w181 ⟨ho182, he183, hob184⟩ A H
 have hs186 := hs179.trans' he183
 obtain ⟨hx187, _⟩ := nxe hx157 he183
 refine ⟨(StpL.of_ext hs186), ?_⟩
 replace hf158 := hf158.ext hs186
 replace hf159 := hf159.ext hs186
 replace hf160 := hf160.ext hs186
 refine drl (StpL.of_ext hs186) ?_
 intro hs188
 obtain ⟨x189, hx189⟩ := get_ex (xs := [([97, 100, 97] : Str), ([98, 111] : Str), ([99, 121] : Str)]) (j := ((q154 : Int)).toNat) (by simp only [List.length_cons, List.length_nil]; omega)
 obtain ⟨p190, hi192, hc193, b196, _, _⟩ := at_shStr (ho182.rds pos_shStr) hx189
 have hdlx189 := el_len 17 (by rfl) hx189
 refine dw 7 H rfl (StpL.of_ext hs188) (ix H U25 ti9 hi192) ?_
 clear H A; intro A H
 refine dv 8 H rfl (StpL.of_ext hs188) (fun w' hw' => lh H U9 (hc193.stpL hw' (by rintro (q | q) <;> first | omega))) ?_
 clear H A; intro A H
 refine dw 13 H rfl (StpL.of_ext hs188) (op_build (vs := [(0, .int .i64 d), (1, .int .i64 (q153 : Int)), (2, St x189), (3, .int .i64 ((100 : Int) * ((1 : Int) + (q155 : Int))))]) (cs := #[.int .i64 d, .int .i64 (q153 : Int), St x189, .int .i64 ((100 : Int) * ((1 : Int) + (q155 : Int)))]) H rfl U69 ti69 bp69 rfl rfl) ?_
 clear H A; intro A H
 exact dr_listed (by kernel_rfl) (hk88 _ _ _ ⟨g152, q153, x189, q155, rfl, (sl H), hx187, hf158, (fi hf159), hf160, (by omega), (by omega), (by omega), (by omega), (by omega), (by omega), (by simp only [List.mem_cons, List.not_mem_nil, or_false]; omega), (by omega), (by assumption), (by omega), (by omega)⟩)
 intro hk200
 refine dr_share (fun fr wl S => ∃ (q201 : Int) (q202 : Str), S = (fun w' => Stp wl w' (some g_s)) ∧ Sl 72 fr [(0, .pointer (some (⟨g_s, 0, none⟩ : Addr))), (3, v), (4, .int .i64 d), (5, .int .i64 m), (19, .int .i64 d), (22, .int .i64 (q201 : Int)), (27, St q202), (28, .pointer (some (⟨g_s, 0, none⟩ : Addr)))] ∧ Stp w0 wl (some g_s) ∧ Src wl g_s b_s 75 ∧ Own shEnt 69 w0.heap.size w0.heap.size w34.heap.size wl v xs ∧ ((0 : Int) ≤ q201) ∧ (q201 ≤ (100 : Int)) ∧ (q202.length ≤ 17) ∧ (q201 ∈ ([(0 : Int), (0 : Int), (1 : Int), (2 : Int), (3 : Int)])) ∧ w53.heap.size ≤ wl.heap.size) 6 #[true, true, true, true, true, true, true, true, true, true, false, false, false, false, false, false] ?_ ?_
 clear H A
 rintro A w203 _ ⟨q201, q202, rfl, H, hx204, hf205, hf206, hg208, hg209, hg210, hg211, hzl207⟩
 try simp only [List.mem_cons, List.not_mem_nil, or_false] at hg211
 have hzhx204 := hx204.size
 have hgl212 := hf205.lt
 have hs214 : Ext w203 w203 := Ext.rfl' _
 refine dr_two (i := 10) (j := 14) (by kernel_rfl) ?_ ?_
 refine po_callS H rfl rfl rfl rfl (op_call H rfl cb37 rfl) (c_spec_l01Next _ g_s b_s (30 : Int) hf205) ?_
 clear H A; rintro v215 w216 he217 ⟨hS218, ⟨q219, hq220, hq221, hq222, rfl⟩⟩ A H
 obtain ⟨hx224, _⟩ := nxs hx204 he217
 replace hf206 := hf206.stp he217 (by intro q hq; cases hq; omega)
 clear hf205
 have hSlhS218 := hS218.lt
 have hs225 := (Stp.of_ext hs214 (some g_s)).trans' he217
 refine ⟨hs225, ?_⟩
 refine drs hs225 ?_
 intro hs226
 refine dw 11 H rfl (Stp.of_ext hs226 _) ((op_add H rfl rfl rfl).int (IntWalk.i64_in _ (by omega))) ?_
 clear H A; intro A H
 refine dw 12 H rfl (Stp.of_ext hs226 _) ((op_mul H rfl rfl rfl).int (IntWalk.i64_in _ (by omega))) ?_
 clear H A; intro A H
 refine dw 13 H rfl (Stp.of_ext hs226 _) (op_build (vs := [(0, .int .i64 d), (1, .int .i64 (q201 : Int)), (2, St q202), (3, .int .i64 ((100 : Int) * ((1 : Int) + (q219 : Int))))]) (cs := #[.int .i64 d, .int .i64 (q201 : Int), St q202, .int .i64 ((100 : Int) * ((1 : Int) + (q219 : Int)))]) H rfl U69 ti69 bp69 rfl rfl) ?_
 clear H A; intro A H
 exact dr_listed (by kernel_rfl) (hk117 _ _ _ ⟨q201, q202, q219, rfl, (sl H), hx224, hS218, (fi hf206), (by omega), (by omega), (by omega), (by omega), (by omega), (by simp only [List.mem_cons, List.not_mem_nil, or_false]; omega), (by omega), (by assumption), (by omega), (by omega)⟩)
 refine pe H rfl (op_alloc' rfl ti69 rfl) ?_
 clear H A; rintro _ w230 ⟨rfl, he231, hb232, hz233⟩ A H
 have hs235 := hs214.trans' he231
 obtain ⟨hx236, _⟩ := nxe hx204 he231
 refine ⟨(Stp.of_ext hs235 _), ?_⟩
 replace hf205 := hf205.ext hs235
 replace hf206 := hf206.ext hs235
 refine dr_narrow (S' := fun w' => StpL w230 w' (fun i => i = g_s ∨ i = w203.heap.size)) (fun w' h' => ((Stp.of_ext hs235 _)).freshL h' (by rintro i (q | q) <;> first | (exact Or.inl (congrArg some q.symm)) | (right; omega))) _ _ _ _ ?_
 have hs237 : Ext w230 w230 := Ext.rfl' _
 exact dr_listed (by kernel_rfl) (hk151 _ _ _ ⟨w203.heap.size, q201, q202, rfl, (sl H), hx236, hf205, (fi hf206), hb232, (by omega), (by omega), (by omega), (by omega), (by simp only [List.mem_cons, List.not_mem_nil, or_false]; omega), (by omega)⟩)
 intro hk238
 refine dr_share (fun fr wl S => ∃ (g239 : Nat) (q240 : Int) (q241 : Value) (n244 n245 : Nat), S = (fun w' => StpL wl w' (fun i => i = g_s ∨ i = g239)) ∧ Sl 72 fr [(0, .pointer (some (⟨g_s, 0, none⟩ : Addr))), (3, v), (4, .int .i64 d), (5, .int .i64 m), (6, .pointer (some (⟨g239, 0, none⟩ : Addr))), (19, .int .i64 d), (22, .int .i64 (q240 : Int)), (23, q241), (24, .pointer (some (⟨g_s, 0, none⟩ : Addr))), (28, .pointer (some (⟨g_s, 0, none⟩ : Addr)))] ∧ Stp w0 wl (some g_s) ∧ Src wl g_s b_s 75 ∧ Own shEnt 69 w0.heap.size w0.heap.size w34.heap.size wl v xs ∧ Box wl g239 69 [.int .i64 (0 : Int), .int .i64 (0 : Int), St (([] : Str)), .int .i64 (0 : Int)] ∧ Own shStr 9 n244 n244 n245 wl q241 ([([97, 100, 97] : Str), ([98, 111] : Str), ([99, 121] : Str)]) ∧ (w53.heap.size ≤ g239) ∧ ((0 : Int) ≤ q240) ∧ (q240 ≤ (100 : Int)) ∧ (q240 ∈ ([(0 : Int), (0 : Int), (1 : Int), (2 : Int), (3 : Int)])) ∧ (w53.heap.size ≤ n244) ∧ (n245 ≤ wl.heap.size) ∧ (g239 < n244 ∨ n245 ≤ g239) ∧ w53.heap.size ≤ wl.heap.size) 8 #[true, true, true, true, true, true, false, false, false, true, false, false, false, false, true, false] ?_ ?_
 clear H A
 rintro A w242 _ ⟨g239, q240, q241, n244, n245, rfl, H, hx243, hf246, hf247, hf248, hf249, hg251, hg252, hg253, hg254, hg255, hg256, hg257, hzl250⟩
 try simp only [List.mem_cons, List.not_mem_nil, or_false] at hg254
 have hzhx243 := hx243.size
 have hgl258 := hf246.lt
 have hgl259 := hf248.lt
 have hs261 : Ext w242 w242 := Ext.rfl' _
 refine dr_one (i := 6) (by kernel_rfl) ?_
 refine po_callS H rfl rfl rfl rfl (op_call H rfl cb37 rfl) (c_spec_l01Next _ g_s b_s (3 : Int) hf246) ?_
 clear H A; rintro v262 w263 he264 ⟨hS265, ⟨q266, hq267, hq268, hq269, rfl⟩⟩ A H
 obtain ⟨hx271, _⟩ := nxs hx243 he264
 replace hf247 := hf247.stp he264 (by intro q hq; cases hq; omega)
 replace hf248 := bb hf248 he264
 replace hf249 := hf249.stp he264 (by intro q hq; cases hq; omega)
 clear hf246
 have hSlhS265 := hS265.lt
 have hs272 := (StpL.of_ext (B := fun i => i = g_s ∨ i = g239) hs261).trans' (Stp.toL he264 (by intro q hq; cases hq; exact Or.inl rfl))
 refine ⟨hs272, ?_⟩
 refine drl hs272 ?_
 intro hs273
 obtain ⟨x274, hx274⟩ := get_ex (xs := [([97, 100, 97] : Str), ([98, 111] : Str), ([99, 121] : Str)]) (j := ((q266 : Int)).toNat) (by simp only [List.length_cons, List.length_nil]; omega)
 obtain ⟨p275, hi277, hc278, b281, _, _⟩ := at_shStr (hf249.rds pos_shStr) hx274
 have hdlx274 := el_len 17 (by rfl) hx274
 refine dw 7 H rfl (StpL.of_ext hs273) (ix H U25 ti9 hi277) ?_
 clear H A; intro A H
 refine dv 8 H rfl (StpL.of_ext hs273) (fun w' hw' => lh H U9 (hc278.stpL hw' (by rintro (q | q) <;> first | omega))) ?_
 clear H A; intro A H
 exact dr_listed (by kernel_rfl) (hk151 _ _ _ ⟨g239, q240, x274, rfl, (sl H), hx271, hS265, (fi hf247), hf248, (by omega), (by omega), (by omega), (by omega), (by simp only [List.mem_cons, List.not_mem_nil, or_false]; omega), (by omega)⟩)
 intro hk284
 refine dr_share (fun fr wl S => ∃ (g285 : Nat) (q286 : Int) (q287 : Int), S = (fun w' => StpL wl w' (fun i => i = g_s ∨ i = g285)) ∧ Sl 72 fr [(0, .pointer (some (⟨g_s, 0, none⟩ : Addr))), (3, v), (4, .int .i64 d), (5, .int .i64 m), (6, .pointer (some (⟨g285, 0, none⟩ : Addr))), (19, .int .i64 d), (22, .int .i64 (q286 : Int)), (25, .int .i64 (q287 : Int)), (28, .pointer (some (⟨g_s, 0, none⟩ : Addr)))] ∧ Stp w0 wl (some g_s) ∧ Src wl g_s b_s 75 ∧ Own shEnt 69 w0.heap.size w0.heap.size w34.heap.size wl v xs ∧ Box wl g285 69 [.int .i64 (0 : Int), .int .i64 (0 : Int), St (([] : Str)), .int .i64 (0 : Int)] ∧ (w53.heap.size ≤ g285) ∧ ((0 : Int) ≤ q286) ∧ (q286 ≤ (100 : Int)) ∧ ((0 : Int) ≤ q287) ∧ (q287 ≤ (100 : Int)) ∧ (q286 ∈ ([(0 : Int), (0 : Int), (1 : Int), (2 : Int), (3 : Int)])) ∧ (0 ≤ q287) ∧ ((3 : Int) ≤ 1 → q287 = 0) ∧ (1 < (3 : Int) → q287 < (3 : Int)) ∧ w53.heap.size ≤ wl.heap.size) 8 #[true, true, true, true, false, true, true, false, false, true, false, false, false, false, true, false] ?_ ?_
 clear H A
 rintro A w288 _ ⟨g285, q286, q287, rfl, H, hx289, hf290, hf291, hf292, hg294, hg295, hg296, hg297, hg298, hg299, hg300, hg301, hg302, hzl293⟩
 try simp only [List.mem_cons, List.not_mem_nil, or_false] at hg299
 have hzhx289 := hx289.size
 have hgl303 := hf290.lt
 have hgl304 := hf292.lt
 have hs306 : Ext w288 w288 := Ext.rfl' _
 refine dr_two (i := 4) (j := 10) (by kernel_rfl) ?_ ?_
 refine pe H rfl (op_buildSlice (s := shStr) (xs := [([97, 100, 97] : Str), ([98, 111] : Str), ([99, 121] : Str)]) (cs := [St (([97, 100, 97] : Str)), St (([98, 111] : Str)), St (([99, 121] : Str))]) (vs := [(0, St (([97, 100, 97] : Str))), (1, St (([98, 111] : Str))), (2, St (([99, 121] : Str)))]) (S := fun _ => False) (le := w288.heap.size) H rfl pos_shStr U25 ti9 rfl rfl (by decide) (by kernel_rfl) ⟨mk_shStr (([97, 100, 97] : Str)) (by simp), mk_shStr (([98, 111] : Str)) (by simp), mk_shStr (([99, 121] : Str)) (by simp), rfl⟩ (fun _ h => h.elim)) ?_
 clear H A; rintro v307 w308 ⟨ho309, he310, hob311⟩ A H
 have hs313 := hs306.trans' he310
 obtain ⟨hx314, _⟩ := nxe hx289 he310
 refine ⟨(StpL.of_ext hs313), ?_⟩
 replace hf290 := hf290.ext hs313
 replace hf291 := hf291.ext hs313
 replace hf292 := hf292.ext hs313
 refine drl (StpL.of_ext hs313) ?_
 intro hs315
 obtain ⟨x316, hx316⟩ := get_ex (xs := [([97, 100, 97] : Str), ([98, 111] : Str), ([99, 121] : Str)]) (j := ((q287 : Int)).toNat) (by simp only [List.length_cons, List.length_nil]; omega)
 obtain ⟨p317, hi319, hc320, b323, _, _⟩ := at_shStr (ho309.rds pos_shStr) hx316
 have hdlx316 := el_len 17 (by rfl) hx316
 refine dw 7 H rfl (StpL.of_ext hs315) (ix H U25 ti9 hi319) ?_
 clear H A; intro A H
 refine dv 8 H rfl (StpL.of_ext hs315) (fun w' hw' => lh H U9 (hc320.stpL hw' (by rintro (q | q) <;> first | omega))) ?_
 clear H A; intro A H
 exact dr_listed (by kernel_rfl) (hk151 _ _ _ ⟨g285, q286, x316, rfl, (sl H), hx314, hf290, (fi hf291), hf292, (by omega), (by omega), (by omega), (by omega), (by simp only [List.mem_cons, List.not_mem_nil, or_false]; omega), (by omega)⟩)
 refine po_callS H rfl rfl rfl rfl (op_call H rfl cb37 rfl) (c_spec_l01Next _ g_s b_s (30 : Int) hf290) ?_
 clear H A; rintro v326 w327 he328 ⟨hS329, ⟨q330, hq331, hq332, hq333, rfl⟩⟩ A H
 obtain ⟨hx335, _⟩ := nxs hx289 he328
 replace hf291 := hf291.stp he328 (by intro q hq; cases hq; omega)
 replace hf292 := bb hf292 he328
 clear hf290
 have hSlhS329 := hS329.lt
 have hs336 := (StpL.of_ext (B := fun i => i = g_s ∨ i = g285) hs306).trans' (Stp.toL he328 (by intro q hq; cases hq; exact Or.inl rfl))
 refine ⟨hs336, ?_⟩
 refine drl hs336 ?_
 intro hs337
 refine dw 11 H rfl (StpL.of_ext hs337) ((op_add H rfl rfl rfl).int (IntWalk.i64_in _ (by omega))) ?_
 clear H A; intro A H
 refine dw 12 H rfl (StpL.of_ext hs337) ((op_mul H rfl rfl rfl).int (IntWalk.i64_in _ (by omega))) ?_
 clear H A; intro A H
 exact dr_listed (by kernel_rfl) (hk200 _ _ _ ⟨g285, q286, q287, q330, rfl, (sl H), hx335, hS329, (fi hf291), hf292, (by omega), (by omega), (by omega), (by omega), (by omega), (by omega), (by omega), (by simp only [List.mem_cons, List.not_mem_nil, or_false]; omega), (by omega), (by assumption), (by omega), (by omega), (by assumption), (by omega), (by omega)⟩)
 intro hk340
 refine dr_share (fun fr wl S => ∃ (q341 : Int) (q342 : Value) (n345 n346 : Nat), S = (fun w' => Stp wl w' (some g_s)) ∧ Sl 72 fr [(0, .pointer (some (⟨g_s, 0, none⟩ : Addr))), (3, v), (4, .int .i64 d), (5, .int .i64 m), (19, .int .i64 d), (22, .int .i64 (q341 : Int)), (23, q342), (24, .pointer (some (⟨g_s, 0, none⟩ : Addr))), (28, .pointer (some (⟨g_s, 0, none⟩ : Addr)))] ∧ Stp w0 wl (some g_s) ∧ Src wl g_s b_s 75 ∧ Own shEnt 69 w0.heap.size w0.heap.size w34.heap.size wl v xs ∧ Own shStr 9 n345 n345 n346 wl q342 ([([97, 100, 97] : Str), ([98, 111] : Str), ([99, 121] : Str)]) ∧ ((0 : Int) ≤ q341) ∧ (q341 ≤ (100 : Int)) ∧ (q341 ∈ ([(0 : Int), (0 : Int), (1 : Int), (2 : Int), (3 : Int)])) ∧ (w53.heap.size ≤ n345) ∧ (n346 ≤ wl.heap.size) ∧ w53.heap.size ≤ wl.heap.size) 9 #[true, true, true, true, true, true, false, false, false, true, false, false, false, false, false, false] ?_ ?_
 clear H A
 rintro A w343 _ ⟨q341, q342, n345, n346, rfl, H, hx344, hf347, hf348, hf349, hg351, hg352, hg353, hg354, hg355, hzl350⟩
 try simp only [List.mem_cons, List.not_mem_nil, or_false] at hg353
 have hzhx344 := hx344.size
 have hgl356 := hf347.lt
 have hs358 : Ext w343 w343 := Ext.rfl' _
 refine dr_two (i := 6) (j := 14) (by kernel_rfl) ?_ ?_
 refine po_callS H rfl rfl rfl rfl (op_call H rfl cb37 rfl) (c_spec_l01Next _ g_s b_s (3 : Int) hf347) ?_
 clear H A; rintro v359 w360 he361 ⟨hS362, ⟨q363, hq364, hq365, hq366, rfl⟩⟩ A H
 obtain ⟨hx368, _⟩ := nxs hx344 he361
 replace hf348 := hf348.stp he361 (by intro q hq; cases hq; omega)
 replace hf349 := hf349.stp he361 (by intro q hq; cases hq; omega)
 clear hf347
 have hSlhS362 := hS362.lt
 have hs369 := (Stp.of_ext hs358 (some g_s)).trans' he361
 refine ⟨hs369, ?_⟩
 refine drs hs369 ?_
 intro hs370
 obtain ⟨x371, hx371⟩ := get_ex (xs := [([97, 100, 97] : Str), ([98, 111] : Str), ([99, 121] : Str)]) (j := ((q363 : Int)).toNat) (by simp only [List.length_cons, List.length_nil]; omega)
 obtain ⟨p372, hi374, hc375, b378, _, _⟩ := at_shStr (hf349.rds pos_shStr) hx371
 have hdlx371 := el_len 17 (by rfl) hx371
 refine dw 7 H rfl (Stp.of_ext hs370 _) (ix H U25 ti9 hi374) ?_
 clear H A; intro A H
 refine dv 8 H rfl (Stp.of_ext hs370 _) (fun w' hw' => lh H U9 (hc375.stp hw' (by intro q hq; cases hq; omega))) ?_
 clear H A; intro A H
 exact dr_listed (by kernel_rfl) (hk238 _ _ _ ⟨q341, x371, rfl, (sl H), hx368, hS362, (fi hf348), (by omega), (by omega), (by omega), (by simp only [List.mem_cons, List.not_mem_nil, or_false]; omega), (by omega)⟩)
 refine pe H rfl (op_alloc' rfl ti69 rfl) ?_
 clear H A; rintro _ w381 ⟨rfl, he382, hb383, hz384⟩ A H
 have hs386 := hs358.trans' he382
 obtain ⟨hx387, _⟩ := nxe hx344 he382
 refine ⟨(Stp.of_ext hs386 _), ?_⟩
 replace hf347 := hf347.ext hs386
 replace hf348 := hf348.ext hs386
 replace hf349 := hf349.ext hs386
 refine dr_narrow (S' := fun w' => StpL w381 w' (fun i => i = g_s ∨ i = w343.heap.size)) (fun w' h' => ((Stp.of_ext hs386 _)).freshL h' (by rintro i (q | q) <;> first | (exact Or.inl (congrArg some q.symm)) | (right; omega))) _ _ _ _ ?_
 have hs388 : Ext w381 w381 := Ext.rfl' _
 exact dr_listed (by kernel_rfl) (hk284 _ _ _ ⟨w343.heap.size, q341, q342, n345, n346, rfl, (sl H), hx387, hf347, (fi hf348), hb383, hf349, (by omega), (by omega), (by omega), (by simp only [List.mem_cons, List.not_mem_nil, or_false]; omega), (by omega), (by omega), (by omega), (by omega)⟩)
 intro hk389
 refine dr_share (fun fr wl S => ∃ (g390 : Nat) (q391 : Int), S = (fun w' => StpL wl w' (fun i => i = g_s ∨ i = g390)) ∧ Sl 72 fr [(0, .pointer (some (⟨g_s, 0, none⟩ : Addr))), (3, v), (4, .int .i64 d), (5, .int .i64 m), (6, .pointer (some (⟨g390, 0, none⟩ : Addr))), (19, .int .i64 d), (22, .int .i64 (q391 : Int)), (24, .pointer (some (⟨g_s, 0, none⟩ : Addr))), (28, .pointer (some (⟨g_s, 0, none⟩ : Addr)))] ∧ Stp w0 wl (some g_s) ∧ Src wl g_s b_s 75 ∧ Own shEnt 69 w0.heap.size w0.heap.size w34.heap.size wl v xs ∧ Box wl g390 69 [.int .i64 (0 : Int), .int .i64 (0 : Int), St (([] : Str)), .int .i64 (0 : Int)] ∧ (w53.heap.size ≤ g390) ∧ ((0 : Int) ≤ q391) ∧ (q391 ≤ (100 : Int)) ∧ (q391 ∈ ([(0 : Int), (0 : Int), (1 : Int), (2 : Int), (3 : Int)])) ∧ w53.heap.size ≤ wl.heap.size) 9 #[true, true, true, true, false, true, false, false, false, true, false, false, false, false, true, false] ?_ ?_
 clear H A
 rintro A w392 _ ⟨g390, q391, rfl, H, hx393, hf394, hf395, hf396, hg398, hg399, hg400, hg401, hzl397⟩
 try simp only [List.mem_cons, List.not_mem_nil, or_false] at hg401
 have hzhx393 := hx393.size
 have hgl402 := hf394.lt
 have hgl403 := hf396.lt
 have hs405 : Ext w392 w392 := Ext.rfl' _
 refine dr_two (i := 4) (j := 6) (by kernel_rfl) ?_ ?_
 refine pe H rfl (op_buildSlice (s := shStr) (xs := [([97, 100, 97] : Str), ([98, 111] : Str), ([99, 121] : Str)]) (cs := [St (([97, 100, 97] : Str)), St (([98, 111] : Str)), St (([99, 121] : Str))]) (vs := [(0, St (([97, 100, 97] : Str))), (1, St (([98, 111] : Str))), (2, St (([99, 121] : Str)))]) (S := fun _ => False) (le := w392.heap.size) H rfl pos_shStr U25 ti9 rfl rfl (by decide) (by kernel_rfl) ⟨mk_shStr (([97, 100, 97] : Str)) (by simp), mk_shStr (([98, 111] : Str)) (by simp), mk_shStr (([99, 121] : Str)) (by simp), rfl⟩ (fun _ h => h.elim)) ?_
 clear H A; rintro v406 w407 ⟨ho408, he409, hob410⟩ A H
 have hs412 := hs405.trans' he409
 obtain ⟨hx413, _⟩ := nxe hx393 he409
 refine ⟨(StpL.of_ext hs412), ?_⟩
 replace hf394 := hf394.ext hs412
 replace hf395 := hf395.ext hs412
 replace hf396 := hf396.ext hs412
 refine drl (StpL.of_ext hs412) ?_
 intro hs414
 exact dr_listed (by kernel_rfl) (hk284 _ _ _ ⟨g390, q391, v406, w392.heap.size, w407.heap.size, rfl, (sl H), hx413, hf394, (fi hf395), hf396, ho408, (by omega), (by omega), (by omega), (by simp only [List.mem_cons, List.not_mem_nil, or_false]; omega), (by omega), (by omega), (by omega), (by omega)⟩)
 refine po_callS H rfl rfl rfl rfl (op_call H rfl cb37 rfl) (c_spec_l01Next _ g_s b_s (3 : Int) hf394) ?_
 clear H A; rintro v415 w416 he417 ⟨hS418, ⟨q419, hq420, hq421, hq422, rfl⟩⟩ A H
 obtain ⟨hx424, _⟩ := nxs hx393 he417
 replace hf395 := hf395.stp he417 (by intro q hq; cases hq; omega)
 replace hf396 := bb hf396 he417
 clear hf394
 have hSlhS418 := hS418.lt
 have hs425 := (StpL.of_ext (B := fun i => i = g_s ∨ i = g390) hs405).trans' (Stp.toL he417 (by intro q hq; cases hq; exact Or.inl rfl))
 refine ⟨hs425, ?_⟩
 refine drl hs425 ?_
 intro hs426
 exact dr_listed (by kernel_rfl) (hk340 _ _ _ ⟨g390, q391, q419, rfl, (sl H), hx424, hS418, (fi hf395), hf396, (by omega), (by omega), (by omega), (by omega), (by omega), (by simp only [List.mem_cons, List.not_mem_nil, or_false]; omega), (by omega), (by assumption), (by omega), (by omega)⟩)
 intro hk427
 refine dr_share (fun fr wl S => ∃ (g428 : Nat) (q429 : Value) (q430 : Value) (n433 n434 : Nat) (n435 n436 : Nat), S = (fun w' => StpL wl w' (fun i => i = g_s ∨ i = g428)) ∧ Sl 72 fr [(0, .pointer (some (⟨g_s, 0, none⟩ : Addr))), (3, v), (4, .int .i64 d), (5, .int .i64 m), (6, .pointer (some (⟨g428, 0, none⟩ : Addr))), (19, .int .i64 d), (20, .pointer (some (⟨g_s, 0, none⟩ : Addr))), (21, q429), (23, q430), (24, .pointer (some (⟨g_s, 0, none⟩ : Addr))), (28, .pointer (some (⟨g_s, 0, none⟩ : Addr)))] ∧ Stp w0 wl (some g_s) ∧ Src wl g_s b_s 75 ∧ Own shEnt 69 w0.heap.size w0.heap.size w34.heap.size wl v xs ∧ Box wl g428 69 [.int .i64 (0 : Int), .int .i64 (0 : Int), St (([] : Str)), .int .i64 (0 : Int)] ∧ Own shI64 2 n433 n433 n434 wl q429 ([(0 : Int), (0 : Int), (1 : Int), (2 : Int), (3 : Int)]) ∧ Own shStr 9 n435 n435 n436 wl q430 ([([97, 100, 97] : Str), ([98, 111] : Str), ([99, 121] : Str)]) ∧ (w53.heap.size ≤ g428) ∧ (w53.heap.size ≤ n433) ∧ (n434 ≤ wl.heap.size) ∧ (g428 < n433 ∨ n434 ≤ g428) ∧ (w53.heap.size ≤ n435) ∧ (n436 ≤ wl.heap.size) ∧ (n436 ≤ n433 ∨ n434 ≤ n435) ∧ (g428 < n435 ∨ n436 ≤ g428) ∧ w53.heap.size ≤ wl.heap.size) 9 #[true, true, true, false, true, true, false, false, false, true, false, false, false, false, true, false] ?_ ?_
 clear H A
 rintro A w431 _ ⟨g428, q429, q430, n433, n434, n435, n436, rfl, H, hx432, hf437, hf438, hf439, hf440, hf441, hg443, hg444, hg445, hg446, hg447, hg448, hg449, hg450, hzl442⟩
 have hzhx432 := hx432.size
 have hgl451 := hf437.lt
 have hgl452 := hf439.lt
 have hs454 : Ext w431 w431 := Ext.rfl' _
 refine dr_one (i := 3) (by kernel_rfl) ?_
 refine po_callS H rfl rfl rfl rfl (op_call H rfl cb76 rfl) (c_spec_l01Pick _ g_s b_s q429 ([(0 : Int), (0 : Int), (1 : Int), (2 : Int), (3 : Int)]) hf437 (hf440.rds pos_shI64) (by rintro ⟨_, _⟩; omega) (by simp)) ?_
 clear H A; rintro v455 w456 he457 ⟨hS458, ⟨q459, hq460, rfl⟩⟩ A H
 obtain ⟨hx462, _⟩ := nxs hx432 he457
 replace hf438 := hf438.stp he457 (by intro q hq; cases hq; omega)
 replace hf439 := bb hf439 he457
 replace hf440 := hf440.stp he457 (by intro q hq; cases hq; omega)
 replace hf441 := hf441.stp he457 (by intro q hq; cases hq; omega)
 clear hf437
 have hSlhS458 := hS458.lt
 have hs463 := (StpL.of_ext (B := fun i => i = g_s ∨ i = g428) hs454).trans' (Stp.toL he457 (by intro q hq; cases hq; exact Or.inl rfl))
 refine ⟨hs463, ?_⟩
 simp only [List.mem_cons, List.not_mem_nil, or_false] at hq460
 refine drl hs463 ?_
 intro hs464
 exact dr_listed (by kernel_rfl) (hk284 _ _ _ ⟨g428, q459, q430, n435, n436, rfl, (sl H), hx462, hS458, (fi hf438), hf439, hf441, (by omega), (by omega), (by omega), (by simp only [List.mem_cons, List.not_mem_nil, or_false]; omega), (by omega), (by omega), (by omega), (by omega)⟩)
 intro hk465
 refine dr_share (fun fr wl S => ∃ (q466 : Value) (q467 : Value) (n470 n471 : Nat) (n472 n473 : Nat), S = (fun w' => Stp wl w' (some g_s)) ∧ Sl 72 fr [(0, .pointer (some (⟨g_s, 0, none⟩ : Addr))), (3, v), (4, .int .i64 d), (5, .int .i64 m), (19, .int .i64 d), (20, .pointer (some (⟨g_s, 0, none⟩ : Addr))), (21, q466), (23, q467), (24, .pointer (some (⟨g_s, 0, none⟩ : Addr))), (28, .pointer (some (⟨g_s, 0, none⟩ : Addr)))] ∧ Stp w0 wl (some g_s) ∧ Src wl g_s b_s 75 ∧ Own shEnt 69 w0.heap.size w0.heap.size w34.heap.size wl v xs ∧ Own shI64 2 n470 n470 n471 wl q466 ([(0 : Int), (0 : Int), (1 : Int), (2 : Int), (3 : Int)]) ∧ Own shStr 9 n472 n472 n473 wl q467 ([([97, 100, 97] : Str), ([98, 111] : Str), ([99, 121] : Str)]) ∧ (w53.heap.size ≤ n470) ∧ (n471 ≤ wl.heap.size) ∧ (w53.heap.size ≤ n472) ∧ (n473 ≤ wl.heap.size) ∧ (n473 ≤ n470 ∨ n471 ≤ n472) ∧ w53.heap.size ≤ wl.heap.size) 10 #[true, true, true, false, true, true, false, false, false, true, false, false, false, false, false, false] ?_ ?_
 clear H A
 rintro A w468 _ ⟨q466, q467, n470, n471, n472, n473, rfl, H, hx469, hf474, hf475, hf476, hf477, hg479, hg480, hg481, hg482, hg483, hzl478⟩
 have hzhx469 := hx469.size
 have hgl484 := hf474.lt
 have hs486 : Ext w468 w468 := Ext.rfl' _
 refine dr_two (i := 3) (j := 14) (by kernel_rfl) ?_ ?_
 refine po_callS H rfl rfl rfl rfl (op_call H rfl cb76 rfl) (c_spec_l01Pick _ g_s b_s q466 ([(0 : Int), (0 : Int), (1 : Int), (2 : Int), (3 : Int)]) hf474 (hf476.rds pos_shI64) (by rintro ⟨_, _⟩; omega) (by simp)) ?_
 clear H A; rintro v487 w488 he489 ⟨hS490, ⟨q491, hq492, rfl⟩⟩ A H
 obtain ⟨hx494, _⟩ := nxs hx469 he489
 replace hf475 := hf475.stp he489 (by intro q hq; cases hq; omega)
 replace hf476 := hf476.stp he489 (by intro q hq; cases hq; omega)
 replace hf477 := hf477.stp he489 (by intro q hq; cases hq; omega)
 clear hf474
 have hSlhS490 := hS490.lt
 have hs495 := (Stp.of_ext hs486 (some g_s)).trans' he489
 refine ⟨hs495, ?_⟩
 simp only [List.mem_cons, List.not_mem_nil, or_false] at hq492
 refine drs hs495 ?_
 intro hs496
 exact dr_listed (by kernel_rfl) (hk389 _ _ _ ⟨q491, q467, n472, n473, rfl, (sl H), hx494, hS490, (fi hf475), hf477, (by omega), (by omega), (by simp only [List.mem_cons, List.not_mem_nil, or_false]; omega), (by omega), (by omega), (by omega)⟩)
 refine pe H rfl (op_alloc' rfl ti69 rfl) ?_
 clear H A; rintro _ w497 ⟨rfl, he498, hb499, hz500⟩ A H
 have hs502 := hs486.trans' he498
 obtain ⟨hx503, _⟩ := nxe hx469 he498
 refine ⟨(Stp.of_ext hs502 _), ?_⟩
 replace hf474 := hf474.ext hs502
 replace hf475 := hf475.ext hs502
 replace hf476 := hf476.ext hs502
 replace hf477 := hf477.ext hs502
 refine dr_narrow (S' := fun w' => StpL w497 w' (fun i => i = g_s ∨ i = w468.heap.size)) (fun w' h' => ((Stp.of_ext hs502 _)).freshL h' (by rintro i (q | q) <;> first | (exact Or.inl (congrArg some q.symm)) | (right; omega))) _ _ _ _ ?_
 have hs504 : Ext w497 w497 := Ext.rfl' _
 exact dr_listed (by kernel_rfl) (hk465 _ _ _ ⟨w468.heap.size, q466, q467, n470, n471, n472, n473, rfl, (sl H), hx503, hf474, (fi hf475), hb499, hf476, hf477, (by omega), (by omega), (by omega), (by omega), (by omega), (by omega), (by omega), (by omega), (by omega)⟩)
 intro hk505
 refine dr_share (fun fr wl S => ∃ (g506 : Nat) (q507 : Value) (n510 n511 : Nat), S = (fun w' => StpL wl w' (fun i => i = g_s ∨ i = g506)) ∧ Sl 72 fr [(0, .pointer (some (⟨g_s, 0, none⟩ : Addr))), (3, v), (4, .int .i64 d), (5, .int .i64 m), (6, .pointer (some (⟨g506, 0, none⟩ : Addr))), (19, .int .i64 d), (20, .pointer (some (⟨g_s, 0, none⟩ : Addr))), (21, q507), (24, .pointer (some (⟨g_s, 0, none⟩ : Addr))), (28, .pointer (some (⟨g_s, 0, none⟩ : Addr)))] ∧ Stp w0 wl (some g_s) ∧ Src wl g_s b_s 75 ∧ Own shEnt 69 w0.heap.size w0.heap.size w34.heap.size wl v xs ∧ Box wl g506 69 [.int .i64 (0 : Int), .int .i64 (0 : Int), St (([] : Str)), .int .i64 (0 : Int)] ∧ Own shI64 2 n510 n510 n511 wl q507 ([(0 : Int), (0 : Int), (1 : Int), (2 : Int), (3 : Int)]) ∧ (w53.heap.size ≤ g506) ∧ (w53.heap.size ≤ n510) ∧ (n511 ≤ wl.heap.size) ∧ (g506 < n510 ∨ n511 ≤ g506) ∧ w53.heap.size ≤ wl.heap.size) 10 #[true, true, true, false, false, true, false, false, false, true, false, false, false, false, true, false] ?_ ?_
 clear H A
 rintro A w508 _ ⟨g506, q507, n510, n511, rfl, H, hx509, hf512, hf513, hf514, hf515, hg517, hg518, hg519, hg520, hzl516⟩
 have hzhx509 := hx509.size
 have hgl521 := hf512.lt
 have hgl522 := hf514.lt
 have hs524 : Ext w508 w508 := Ext.rfl' _
 refine dr_two (i := 3) (j := 4) (by kernel_rfl) ?_ ?_
 refine po_callS H rfl rfl rfl rfl (op_call H rfl cb76 rfl) (c_spec_l01Pick _ g_s b_s q507 ([(0 : Int), (0 : Int), (1 : Int), (2 : Int), (3 : Int)]) hf512 (hf515.rds pos_shI64) (by rintro ⟨_, _⟩; omega) (by simp)) ?_
 clear H A; rintro v525 w526 he527 ⟨hS528, ⟨q529, hq530, rfl⟩⟩ A H
 obtain ⟨hx532, _⟩ := nxs hx509 he527
 replace hf513 := hf513.stp he527 (by intro q hq; cases hq; omega)
 replace hf514 := bb hf514 he527
 replace hf515 := hf515.stp he527 (by intro q hq; cases hq; omega)
 clear hf512
 have hSlhS528 := hS528.lt
 have hs533 := (StpL.of_ext (B := fun i => i = g_s ∨ i = g506) hs524).trans' (Stp.toL he527 (by intro q hq; cases hq; exact Or.inl rfl))
 refine ⟨hs533, ?_⟩
 simp only [List.mem_cons, List.not_mem_nil, or_false] at hq530
 refine drl hs533 ?_
 intro hs534
 exact dr_listed (by kernel_rfl) (hk427 _ _ _ ⟨g506, q529, rfl, (sl H), hx532, hS528, (fi hf513), hf514, (by omega), (by omega), (by omega), (by simp only [List.mem_cons, List.not_mem_nil, or_false]; omega), (by omega)⟩)
 refine pe H rfl (op_buildSlice (s := shStr) (xs := [([97, 100, 97] : Str), ([98, 111] : Str), ([99, 121] : Str)]) (cs := [St (([97, 100, 97] : Str)), St (([98, 111] : Str)), St (([99, 121] : Str))]) (vs := [(0, St (([97, 100, 97] : Str))), (1, St (([98, 111] : Str))), (2, St (([99, 121] : Str)))]) (S := fun _ => False) (le := w508.heap.size) H rfl pos_shStr U25 ti9 rfl rfl (by decide) (by kernel_rfl) ⟨mk_shStr (([97, 100, 97] : Str)) (by simp), mk_shStr (([98, 111] : Str)) (by simp), mk_shStr (([99, 121] : Str)) (by simp), rfl⟩ (fun _ h => h.elim)) ?_
 clear H A; rintro v535 w536 ⟨ho537, he538, hob539⟩ A H
 have hs541 := hs524.trans' he538
 obtain ⟨hx542, _⟩ := nxe hx509 he538
 refine ⟨(StpL.of_ext hs541), ?_⟩
 replace hf512 := hf512.ext hs541
 replace hf513 := hf513.ext hs541
 replace hf514 := hf514.ext hs541
 replace hf515 := hf515.ext hs541
 refine drl (StpL.of_ext hs541) ?_
 intro hs543
 exact dr_listed (by kernel_rfl) (hk465 _ _ _ ⟨g506, q507, v535, n510, n511, w508.heap.size, w536.heap.size, rfl, (sl H), hx542, hf512, (fi hf513), hf514, hf515, ho537, (by omega), (by omega), (by omega), (by omega), (by omega), (by omega), (by omega), (by omega), (by omega)⟩)
 intro hk544
 refine dr_share (fun fr wl S => ∃ (g545 : Nat) (q546 : Value) (n549 n550 : Nat), S = (fun w' => StpL wl w' (fun i => i = g_s ∨ i = g545)) ∧ Sl 72 fr [(0, .pointer (some (⟨g_s, 0, none⟩ : Addr))), (3, v), (4, .int .i64 d), (5, .int .i64 m), (6, .pointer (some (⟨g545, 0, none⟩ : Addr))), (19, .int .i64 d), (20, .pointer (some (⟨g_s, 0, none⟩ : Addr))), (23, q546), (24, .pointer (some (⟨g_s, 0, none⟩ : Addr))), (28, .pointer (some (⟨g_s, 0, none⟩ : Addr)))] ∧ Stp w0 wl (some g_s) ∧ Src wl g_s b_s 75 ∧ Own shEnt 69 w0.heap.size w0.heap.size w34.heap.size wl v xs ∧ Box wl g545 69 [.int .i64 (0 : Int), .int .i64 (0 : Int), St (([] : Str)), .int .i64 (0 : Int)] ∧ Own shStr 9 n549 n549 n550 wl q546 ([([97, 100, 97] : Str), ([98, 111] : Str), ([99, 121] : Str)]) ∧ (w53.heap.size ≤ g545) ∧ (w53.heap.size ≤ n549) ∧ (n550 ≤ wl.heap.size) ∧ (g545 < n549 ∨ n550 ≤ g545) ∧ w53.heap.size ≤ wl.heap.size) 10 #[true, true, false, false, true, true, false, false, false, true, false, false, false, false, true, false] ?_ ?_
 clear H A
 rintro A w547 _ ⟨g545, q546, n549, n550, rfl, H, hx548, hf551, hf552, hf553, hf554, hg556, hg557, hg558, hg559, hzl555⟩
 have hzhx548 := hx548.size
 have hgl560 := hf551.lt
 have hgl561 := hf553.lt
 have hs563 : Ext w547 w547 := Ext.rfl' _
 refine dr_one (i := 2) (by kernel_rfl) ?_
 refine pe H rfl (op_buildSlice (s := shI64) (xs := [(0 : Int), (0 : Int), (1 : Int), (2 : Int), (3 : Int)]) (cs := [.int .i64 (0 : Int), .int .i64 (0 : Int), .int .i64 (1 : Int), .int .i64 (2 : Int), .int .i64 (3 : Int)]) (vs := [(0, .int .i64 (0 : Int)), (1, .int .i64 (0 : Int)), (2, .int .i64 (1 : Int)), (3, .int .i64 (2 : Int)), (4, .int .i64 (3 : Int))]) (S := fun _ => False) (le := w547.heap.size) H rfl pos_shI64 U55 ti2 rfl rfl (by decide) (by kernel_rfl) ⟨mk_shI64 ((0 : Int)) (by omega), mk_shI64 ((0 : Int)) (by omega), mk_shI64 ((1 : Int)) (by omega), mk_shI64 ((2 : Int)) (by omega), mk_shI64 ((3 : Int)) (by omega), rfl⟩ (fun _ h => h.elim)) ?_
 clear H A; rintro v564 w565 ⟨ho566, he567, hob568⟩ A H
 have hs570 := hs563.trans' he567
 obtain ⟨hx571, _⟩ := nxe hx548 he567
 refine ⟨(StpL.of_ext hs570), ?_⟩
 replace hf551 := hf551.ext hs570
 replace hf552 := hf552.ext hs570
 replace hf553 := hf553.ext hs570
 replace hf554 := hf554.ext hs570
 refine drl (StpL.of_ext hs570) ?_
 intro hs572
 exact dr_listed (by kernel_rfl) (hk465 _ _ _ ⟨g545, v564, q546, w547.heap.size, w565.heap.size, n549, n550, rfl, (sl H), hx571, hf551, (fi hf552), hf553, ho566, hf554, (by omega), (by omega), (by omega), (by omega), (by omega), (by omega), (by omega), (by omega), (by omega)⟩)
 intro hk573
 revert A; refine dgo [0, 1, 5, 9] (Stp.of_ext hs56 _) ?_; intro A H
 refine dr_three (i := 2) (j := 4) (k := 14) (by kernel_rfl) ?_ ?_ ?_
 refine pe H rfl (op_buildSlice (s := shI64) (xs := [(0 : Int), (0 : Int), (1 : Int), (2 : Int), (3 : Int)]) (cs := [.int .i64 (0 : Int), .int .i64 (0 : Int), .int .i64 (1 : Int), .int .i64 (2 : Int), .int .i64 (3 : Int)]) (vs := [(0, .int .i64 (0 : Int)), (1, .int .i64 (0 : Int)), (2, .int .i64 (1 : Int)), (3, .int .i64 (2 : Int)), (4, .int .i64 (3 : Int))]) (S := fun _ => False) (le := w53.heap.size) H rfl pos_shI64 U55 ti2 rfl rfl (by decide) (by kernel_rfl) ⟨mk_shI64 ((0 : Int)) (by omega), mk_shI64 ((0 : Int)) (by omega), mk_shI64 ((1 : Int)) (by omega), mk_shI64 ((2 : Int)) (by omega), mk_shI64 ((3 : Int)) (by omega), rfl⟩ (fun _ h => h.elim)) ?_
 clear H A; rintro v578 w579 ⟨ho580, he581, hob582⟩ A H
 have hs584 := hs56.trans' he581
 obtain ⟨hx585, _⟩ := nxe hx55 he581
 refine ⟨(Stp.of_ext hs584 _), ?_⟩
 replace hf36 := hf36.ext hs584
 replace hf37 := hf37.ext hs584
 refine drs (Stp.of_ext hs584 _) ?_
 intro hs586
 refine dr_three (i := 3) (j := 4) (k := 14) (by kernel_rfl) ?_ ?_ ?_
 refine po_callS H rfl rfl rfl rfl (op_call H rfl cb76 rfl) (c_spec_l01Pick _ g_s b_s v578 ([(0 : Int), (0 : Int), (1 : Int), (2 : Int), (3 : Int)]) hf36 (ho580.rds pos_shI64) (by rintro ⟨_, _⟩; omega) (by simp)) ?_
 clear H A; rintro v587 w588 he589 ⟨hS590, ⟨q591, hq592, rfl⟩⟩ A H
 obtain ⟨hx594, _⟩ := nxs hx585 he589
 replace hf37 := hf37.stp he589 (by intro q hq; cases hq; omega)
 replace ho580 := ho580.stp he589 (by intro q hq; cases hq; omega)
 clear hf36
 have hSlhS590 := hS590.lt
 have hs595 := (Stp.of_ext hs586 (some g_s)).trans' he589
 refine ⟨hs595, ?_⟩
 simp only [List.mem_cons, List.not_mem_nil, or_false] at hq592
 refine drs hs595 ?_
 intro hs596
 refine dr_three (i := 4) (j := 6) (k := 14) (by kernel_rfl) ?_ ?_ ?_
 refine pe H rfl (op_buildSlice (s := shStr) (xs := [([97, 100, 97] : Str), ([98, 111] : Str), ([99, 121] : Str)]) (cs := [St (([97, 100, 97] : Str)), St (([98, 111] : Str)), St (([99, 121] : Str))]) (vs := [(0, St (([97, 100, 97] : Str))), (1, St (([98, 111] : Str))), (2, St (([99, 121] : Str)))]) (S := fun _ => False) (le := w588.heap.size) H rfl pos_shStr U25 ti9 rfl rfl (by decide) (by kernel_rfl) ⟨mk_shStr (([97, 100, 97] : Str)) (by simp), mk_shStr (([98, 111] : Str)) (by simp), mk_shStr (([99, 121] : Str)) (by simp), rfl⟩ (fun _ h => h.elim)) ?_
 clear H A; rintro v597 w598 ⟨ho599, he600, hob601⟩ A H
 have hs603 := hs596.trans' he600
 obtain ⟨hx604, _⟩ := nxe hx594 he600
 refine ⟨(Stp.of_ext hs603 _), ?_⟩
 replace hf37 := hf37.ext hs603
 replace ho580 := ho580.ext hs603
 replace hS590 := hS590.ext hs603
 refine drs (Stp.of_ext hs603 _) ?_
 intro hs605
 exact dr_listed (by kernel_rfl) (hk389 _ _ _ ⟨q591, v597, w588.heap.size, w598.heap.size, rfl, (sl H), hx604, hS590, (fi hf37), ho599, (by omega), (by omega), (by simp only [List.mem_cons, List.not_mem_nil, or_false]; omega), (by omega), (by omega), (by omega)⟩)
 refine po_callS H rfl rfl rfl rfl (op_call H rfl cb37 rfl) (c_spec_l01Next _ g_s b_s (3 : Int) hS590) ?_
 clear H A; rintro v606 w607 he608 ⟨hS609, ⟨q610, hq611, hq612, hq613, rfl⟩⟩ A H
 obtain ⟨hx615, _⟩ := nxs hx594 he608
 replace hf37 := hf37.stp he608 (by intro q hq; cases hq; omega)
 replace ho580 := ho580.stp he608 (by intro q hq; cases hq; omega)
 clear hS590
 have hSlhS609 := hS609.lt
 have hs616 := (Stp.of_ext hs596 (some g_s)).trans' he608
 refine ⟨hs616, ?_⟩
 refine drs hs616 ?_
 intro hs617
 refine dr_three (i := 4) (j := 10) (k := 14) (by kernel_rfl) ?_ ?_ ?_
 refine pe H rfl (op_buildSlice (s := shStr) (xs := [([97, 100, 97] : Str), ([98, 111] : Str), ([99, 121] : Str)]) (cs := [St (([97, 100, 97] : Str)), St (([98, 111] : Str)), St (([99, 121] : Str))]) (vs := [(0, St (([97, 100, 97] : Str))), (1, St (([98, 111] : Str))), (2, St (([99, 121] : Str)))]) (S := fun _ => False) (le := w607.heap.size) H rfl pos_shStr U25 ti9 rfl rfl (by decide) (by kernel_rfl) ⟨mk_shStr (([97, 100, 97] : Str)) (by simp), mk_shStr (([98, 111] : Str)) (by simp), mk_shStr (([99, 121] : Str)) (by simp), rfl⟩ (fun _ h => h.elim)) ?_
 clear H A; rintro v618 w619 ⟨ho620, he621, hob622⟩ A H
 have hs624 := hs617.trans' he621
 obtain ⟨hx625, _⟩ := nxe hx615 he621
 refine ⟨(Stp.of_ext hs624 _), ?_⟩
 replace hf37 := hf37.ext hs624
 replace ho580 := ho580.ext hs624
 replace hS609 := hS609.ext hs624
 refine drs (Stp.of_ext hs624 _) ?_
 intro hs626
 obtain ⟨x627, hx627⟩ := get_ex (xs := [([97, 100, 97] : Str), ([98, 111] : Str), ([99, 121] : Str)]) (j := ((q610 : Int)).toNat) (by simp only [List.length_cons, List.length_nil]; omega)
 obtain ⟨p628, hi630, hc631, b634, _, _⟩ := at_shStr (ho620.rds pos_shStr) hx627
 have hdlx627 := el_len 17 (by rfl) hx627
 refine dw 7 H rfl (Stp.of_ext hs626 _) (ix H U25 ti9 hi630) ?_
 clear H A; intro A H
 refine dv 8 H rfl (Stp.of_ext hs626 _) (fun w' hw' => lh H U9 (hc631.stp hw' (by intro q hq; cases hq; omega))) ?_
 clear H A; intro A H
 exact dr_listed (by kernel_rfl) (hk238 _ _ _ ⟨q591, x627, rfl, (sl H), hx625, hS609, (fi hf37), (by omega), (by omega), (by omega), (by simp only [List.mem_cons, List.not_mem_nil, or_false]; omega), (by omega)⟩)
 refine po_callS H rfl rfl rfl rfl (op_call H rfl cb37 rfl) (c_spec_l01Next _ g_s b_s (30 : Int) hS609) ?_
 clear H A; rintro v637 w638 he639 ⟨hS640, ⟨q641, hq642, hq643, hq644, rfl⟩⟩ A H
 obtain ⟨hx646, _⟩ := nxs hx615 he639
 replace hf37 := hf37.stp he639 (by intro q hq; cases hq; omega)
 replace ho580 := ho580.stp he639 (by intro q hq; cases hq; omega)
 clear hS609
 have hSlhS640 := hS640.lt
 have hs647 := (Stp.of_ext hs617 (some g_s)).trans' he639
 refine ⟨hs647, ?_⟩
 refine drs hs647 ?_
 intro hs648
 refine dw 11 H rfl (Stp.of_ext hs648 _) ((op_add H rfl rfl rfl).int (IntWalk.i64_in _ (by omega))) ?_
 clear H A; intro A H
 refine dw 12 H rfl (Stp.of_ext hs648 _) ((op_mul H rfl rfl rfl).int (IntWalk.i64_in _ (by omega))) ?_
 clear H A; intro A H
 refine dr_two (i := 4) (j := 14) (by kernel_rfl) ?_ ?_
 refine pe H rfl (op_buildSlice (s := shStr) (xs := [([97, 100, 97] : Str), ([98, 111] : Str), ([99, 121] : Str)]) (cs := [St (([97, 100, 97] : Str)), St (([98, 111] : Str)), St (([99, 121] : Str))]) (vs := [(0, St (([97, 100, 97] : Str))), (1, St (([98, 111] : Str))), (2, St (([99, 121] : Str)))]) (S := fun _ => False) (le := w638.heap.size) H rfl pos_shStr U25 ti9 rfl rfl (by decide) (by kernel_rfl) ⟨mk_shStr (([97, 100, 97] : Str)) (by simp), mk_shStr (([98, 111] : Str)) (by simp), mk_shStr (([99, 121] : Str)) (by simp), rfl⟩ (fun _ h => h.elim)) ?_
 clear H A; rintro v651 w652 ⟨ho653, he654, hob655⟩ A H
 have hs657 := hs648.trans' he654
 obtain ⟨hx658, _⟩ := nxe hx646 he654
 refine ⟨(Stp.of_ext hs657 _), ?_⟩
 replace hf37 := hf37.ext hs657
 replace ho580 := ho580.ext hs657
 replace hS640 := hS640.ext hs657
 refine drs (Stp.of_ext hs657 _) ?_
 intro hs659
 obtain ⟨x660, hx660⟩ := get_ex (xs := [([97, 100, 97] : Str), ([98, 111] : Str), ([99, 121] : Str)]) (j := ((q610 : Int)).toNat) (by simp only [List.length_cons, List.length_nil]; omega)
 obtain ⟨p661, hi663, hc664, b667, _, _⟩ := at_shStr (ho653.rds pos_shStr) hx660
 have hdlx660 := el_len 17 (by rfl) hx660
 refine dw 7 H rfl (Stp.of_ext hs659 _) (ix H U25 ti9 hi663) ?_
 clear H A; intro A H
 refine dv 8 H rfl (Stp.of_ext hs659 _) (fun w' hw' => lh H U9 (hc664.stp hw' (by intro q hq; cases hq; omega))) ?_
 clear H A; intro A H
 refine dw 13 H rfl (Stp.of_ext hs659 _) (op_build (vs := [(0, .int .i64 d), (1, .int .i64 (q591 : Int)), (2, St x660), (3, .int .i64 ((100 : Int) * ((1 : Int) + (q641 : Int))))]) (cs := #[.int .i64 d, .int .i64 (q591 : Int), St x660, .int .i64 ((100 : Int) * ((1 : Int) + (q641 : Int)))]) H rfl U69 ti69 bp69 rfl rfl) ?_
 clear H A; intro A H
 exact dr_listed (by kernel_rfl) (hk117 _ _ _ ⟨q591, x660, q641, rfl, (sl H), hx658, hS640, (fi hf37), (by omega), (by omega), (by omega), (by omega), (by omega), (by simp only [List.mem_cons, List.not_mem_nil, or_false]; omega), (by omega), (by assumption), (by omega), (by omega)⟩)
 refine pe H rfl (op_alloc' rfl ti69 rfl) ?_
 clear H A; rintro _ w671 ⟨rfl, he672, hb673, hz674⟩ A H
 have hs676 := hs648.trans' he672
 obtain ⟨hx677, _⟩ := nxe hx646 he672
 refine ⟨(Stp.of_ext hs676 _), ?_⟩
 replace hf37 := hf37.ext hs676
 replace ho580 := ho580.ext hs676
 replace hS640 := hS640.ext hs676
 refine dr_narrow (S' := fun w' => StpL w671 w' (fun i => i = g_s ∨ i = w638.heap.size)) (fun w' h' => ((Stp.of_ext hs676 _)).freshL h' (by rintro i (q | q) <;> first | (exact Or.inl (congrArg some q.symm)) | (right; omega))) _ _ _ _ ?_
 have hs678 : Ext w671 w671 := Ext.rfl' _
 exact dr_listed (by kernel_rfl) (hk200 _ _ _ ⟨w638.heap.size, q591, q610, q641, rfl, (sl H), hx677, hS640, (fi hf37), hb673, (by omega), (by omega), (by omega), (by omega), (by omega), (by omega), (by omega), (by simp only [List.mem_cons, List.not_mem_nil, or_false]; omega), (by omega), (by assumption), (by omega), (by omega), (by assumption), (by omega), (by omega)⟩)
 refine pe H rfl (op_alloc' rfl ti69 rfl) ?_
 clear H A; rintro _ w679 ⟨rfl, he680, hb681, hz682⟩ A H
 have hs684 := hs617.trans' he680
 obtain ⟨hx685, _⟩ := nxe hx615 he680
 refine ⟨(Stp.of_ext hs684 _), ?_⟩
 replace hf37 := hf37.ext hs684
 replace ho580 := ho580.ext hs684
 replace hS609 := hS609.ext hs684
 refine dr_narrow (S' := fun w' => StpL w679 w' (fun i => i = g_s ∨ i = w607.heap.size)) (fun w' h' => ((Stp.of_ext hs684 _)).freshL h' (by rintro i (q | q) <;> first | (exact Or.inl (congrArg some q.symm)) | (right; omega))) _ _ _ _ ?_
 have hs686 : Ext w679 w679 := Ext.rfl' _
 exact dr_listed (by kernel_rfl) (hk340 _ _ _ ⟨w607.heap.size, q591, q610, rfl, (sl H), hx685, hS609, (fi hf37), hb681, (by omega), (by omega), (by omega), (by omega), (by omega), (by simp only [List.mem_cons, List.not_mem_nil, or_false]; omega), (by omega), (by assumption), (by omega), (by omega)⟩)
 refine pe H rfl (op_alloc' rfl ti69 rfl) ?_
 clear H A; rintro _ w687 ⟨rfl, he688, hb689, hz690⟩ A H
 have hs692 := hs596.trans' he688
 obtain ⟨hx693, _⟩ := nxe hx594 he688
 refine ⟨(Stp.of_ext hs692 _), ?_⟩
 replace hf37 := hf37.ext hs692
 replace ho580 := ho580.ext hs692
 replace hS590 := hS590.ext hs692
 refine dr_narrow (S' := fun w' => StpL w687 w' (fun i => i = g_s ∨ i = w588.heap.size)) (fun w' h' => ((Stp.of_ext hs692 _)).freshL h' (by rintro i (q | q) <;> first | (exact Or.inl (congrArg some q.symm)) | (right; omega))) _ _ _ _ ?_
 have hs694 : Ext w687 w687 := Ext.rfl' _
 exact dr_listed (by kernel_rfl) (hk427 _ _ _ ⟨w588.heap.size, q591, rfl, (sl H), hx693, hS590, (fi hf37), hb689, (by omega), (by omega), (by omega), (by simp only [List.mem_cons, List.not_mem_nil, or_false]; omega), (by omega)⟩)
 refine pe H rfl (op_buildSlice (s := shStr) (xs := [([97, 100, 97] : Str), ([98, 111] : Str), ([99, 121] : Str)]) (cs := [St (([97, 100, 97] : Str)), St (([98, 111] : Str)), St (([99, 121] : Str))]) (vs := [(0, St (([97, 100, 97] : Str))), (1, St (([98, 111] : Str))), (2, St (([99, 121] : Str)))]) (S := fun _ => False) (le := w579.heap.size) H rfl pos_shStr U25 ti9 rfl rfl (by decide) (by kernel_rfl) ⟨mk_shStr (([97, 100, 97] : Str)) (by simp), mk_shStr (([98, 111] : Str)) (by simp), mk_shStr (([99, 121] : Str)) (by simp), rfl⟩ (fun _ h => h.elim)) ?_
 clear H A; rintro v695 w696 ⟨ho697, he698, hob699⟩ A H
 have hs701 := hs586.trans' he698
 obtain ⟨hx702, _⟩ := nxe hx585 he698
 refine ⟨(Stp.of_ext hs701 _), ?_⟩
 replace hf36 := hf36.ext hs701
 replace hf37 := hf37.ext hs701
 replace ho580 := ho580.ext hs701
 refine drs (Stp.of_ext hs701 _) ?_
 intro hs703
 exact dr_listed (by kernel_rfl) (hk505 _ _ _ ⟨v578, v695, w53.heap.size, w579.heap.size, w579.heap.size, w696.heap.size, rfl, (sl H), hx702, hf36, (fi hf37), ho580, ho697, (by omega), (by omega), (by omega), (by omega), (by omega), (by omega)⟩)
 refine pe H rfl (op_alloc' rfl ti69 rfl) ?_
 clear H A; rintro _ w704 ⟨rfl, he705, hb706, hz707⟩ A H
 have hs709 := hs586.trans' he705
 obtain ⟨hx710, _⟩ := nxe hx585 he705
 refine ⟨(Stp.of_ext hs709 _), ?_⟩
 replace hf36 := hf36.ext hs709
 replace hf37 := hf37.ext hs709
 replace ho580 := ho580.ext hs709
 refine dr_narrow (S' := fun w' => StpL w704 w' (fun i => i = g_s ∨ i = w579.heap.size)) (fun w' h' => ((Stp.of_ext hs709 _)).freshL h' (by rintro i (q | q) <;> first | (exact Or.inl (congrArg some q.symm)) | (right; omega))) _ _ _ _ ?_
 have hs711 : Ext w704 w704 := Ext.rfl' _
 exact dr_listed (by kernel_rfl) (hk544 _ _ _ ⟨w579.heap.size, v578, w53.heap.size, w579.heap.size, rfl, (sl H), hx710, hf36, (fi hf37), hb706, ho580, (by omega), (by omega), (by omega), (by omega), (by omega)⟩)
 refine pe H rfl (op_buildSlice (s := shStr) (xs := [([97, 100, 97] : Str), ([98, 111] : Str), ([99, 121] : Str)]) (cs := [St (([97, 100, 97] : Str)), St (([98, 111] : Str)), St (([99, 121] : Str))]) (vs := [(0, St (([97, 100, 97] : Str))), (1, St (([98, 111] : Str))), (2, St (([99, 121] : Str)))]) (S := fun _ => False) (le := w53.heap.size) H rfl pos_shStr U25 ti9 rfl rfl (by decide) (by kernel_rfl) ⟨mk_shStr (([97, 100, 97] : Str)) (by simp), mk_shStr (([98, 111] : Str)) (by simp), mk_shStr (([99, 121] : Str)) (by simp), rfl⟩ (fun _ h => h.elim)) ?_
 clear H A; rintro v712 w713 ⟨ho714, he715, hob716⟩ A H
 have hs718 := hs56.trans' he715
 obtain ⟨hx719, _⟩ := nxe hx55 he715
 refine ⟨(Stp.of_ext hs718 _), ?_⟩
 replace hf36 := hf36.ext hs718
 replace hf37 := hf37.ext hs718
 refine drs (Stp.of_ext hs718 _) ?_
 intro hs720
 refine dr_two (i := 2) (j := 14) (by kernel_rfl) ?_ ?_
 refine pe H rfl (op_buildSlice (s := shI64) (xs := [(0 : Int), (0 : Int), (1 : Int), (2 : Int), (3 : Int)]) (cs := [.int .i64 (0 : Int), .int .i64 (0 : Int), .int .i64 (1 : Int), .int .i64 (2 : Int), .int .i64 (3 : Int)]) (vs := [(0, .int .i64 (0 : Int)), (1, .int .i64 (0 : Int)), (2, .int .i64 (1 : Int)), (3, .int .i64 (2 : Int)), (4, .int .i64 (3 : Int))]) (S := fun _ => False) (le := w713.heap.size) H rfl pos_shI64 U55 ti2 rfl rfl (by decide) (by kernel_rfl) ⟨mk_shI64 ((0 : Int)) (by omega), mk_shI64 ((0 : Int)) (by omega), mk_shI64 ((1 : Int)) (by omega), mk_shI64 ((2 : Int)) (by omega), mk_shI64 ((3 : Int)) (by omega), rfl⟩ (fun _ h => h.elim)) ?_
 clear H A; rintro v721 w722 ⟨ho723, he724, hob725⟩ A H
 have hs727 := hs720.trans' he724
 obtain ⟨hx728, _⟩ := nxe hx719 he724
 refine ⟨(Stp.of_ext hs727 _), ?_⟩
 replace hf36 := hf36.ext hs727
 replace hf37 := hf37.ext hs727
 replace ho714 := ho714.ext hs727
 refine drs (Stp.of_ext hs727 _) ?_
 intro hs729
 exact dr_listed (by kernel_rfl) (hk505 _ _ _ ⟨v721, v712, w713.heap.size, w722.heap.size, w53.heap.size, w713.heap.size, rfl, (sl H), hx728, hf36, (fi hf37), ho723, ho714, (by omega), (by omega), (by omega), (by omega), (by omega), (by omega)⟩)
 refine pe H rfl (op_alloc' rfl ti69 rfl) ?_
 clear H A; rintro _ w730 ⟨rfl, he731, hb732, hz733⟩ A H
 have hs735 := hs720.trans' he731
 obtain ⟨hx736, _⟩ := nxe hx719 he731
 refine ⟨(Stp.of_ext hs735 _), ?_⟩
 replace hf36 := hf36.ext hs735
 replace hf37 := hf37.ext hs735
 replace ho714 := ho714.ext hs735
 refine dr_narrow (S' := fun w' => StpL w730 w' (fun i => i = g_s ∨ i = w713.heap.size)) (fun w' h' => ((Stp.of_ext hs735 _)).freshL h' (by rintro i (q | q) <;> first | (exact Or.inl (congrArg some q.symm)) | (right; omega))) _ _ _ _ ?_
 have hs737 : Ext w730 w730 := Ext.rfl' _
 exact dr_listed (by kernel_rfl) (hk573 _ _ _ ⟨w713.heap.size, v712, w53.heap.size, w713.heap.size, rfl, (sl H), hx736, hf36, (fi hf37), hb732, ho714, (by omega), (by omega), (by omega), (by omega), (by omega)⟩)
 refine pe H rfl (op_alloc' rfl ti69 rfl) ?_
 clear H A; rintro _ w738 ⟨rfl, he739, hb740, hz741⟩ A H
 have hs743 := hs56.trans' he739
 obtain ⟨hx744, _⟩ := nxe hx55 he739
 refine ⟨(Stp.of_ext hs743 _), ?_⟩
 replace hf36 := hf36.ext hs743
 replace hf37 := hf37.ext hs743
 refine dr_narrow (S' := fun w' => StpL w738 w' (fun i => i = g_s ∨ i = w53.heap.size)) (fun w' h' => ((Stp.of_ext hs743 _)).freshL h' (by rintro i (q | q) <;> first | (exact Or.inl (congrArg some q.symm)) | (right; omega))) _ _ _ _ ?_
 have hs745 : Ext w738 w738 := Ext.rfl' _
 refine dr_two (i := 2) (j := 4) (by kernel_rfl) ?_ ?_
 refine pe H rfl (op_buildSlice (s := shI64) (xs := [(0 : Int), (0 : Int), (1 : Int), (2 : Int), (3 : Int)]) (cs := [.int .i64 (0 : Int), .int .i64 (0 : Int), .int .i64 (1 : Int), .int .i64 (2 : Int), .int .i64 (3 : Int)]) (vs := [(0, .int .i64 (0 : Int)), (1, .int .i64 (0 : Int)), (2, .int .i64 (1 : Int)), (3, .int .i64 (2 : Int)), (4, .int .i64 (3 : Int))]) (S := fun _ => False) (le := w738.heap.size) H rfl pos_shI64 U55 ti2 rfl rfl (by decide) (by kernel_rfl) ⟨mk_shI64 ((0 : Int)) (by omega), mk_shI64 ((0 : Int)) (by omega), mk_shI64 ((1 : Int)) (by omega), mk_shI64 ((2 : Int)) (by omega), mk_shI64 ((3 : Int)) (by omega), rfl⟩ (fun _ h => h.elim)) ?_
 clear H A; rintro v746 w747 ⟨ho748, he749, hob750⟩ A H
 have hs752 := hs745.trans' he749
 obtain ⟨hx753, _⟩ := nxe hx744 he749
 refine ⟨(StpL.of_ext hs752), ?_⟩
 replace hf36 := hf36.ext hs752
 replace hf37 := hf37.ext hs752
 replace hb740 := hb740.ext hs752
 refine drl (StpL.of_ext hs752) ?_
 intro hs754
 exact dr_listed (by kernel_rfl) (hk544 _ _ _ ⟨w53.heap.size, v746, w738.heap.size, w747.heap.size, rfl, (sl H), hx753, hf36, (fi hf37), hb740, ho748, (by omega), (by omega), (by omega), (by omega), (by omega)⟩)
 refine pe H rfl (op_buildSlice (s := shStr) (xs := [([97, 100, 97] : Str), ([98, 111] : Str), ([99, 121] : Str)]) (cs := [St (([97, 100, 97] : Str)), St (([98, 111] : Str)), St (([99, 121] : Str))]) (vs := [(0, St (([97, 100, 97] : Str))), (1, St (([98, 111] : Str))), (2, St (([99, 121] : Str)))]) (S := fun _ => False) (le := w738.heap.size) H rfl pos_shStr U25 ti9 rfl rfl (by decide) (by kernel_rfl) ⟨mk_shStr (([97, 100, 97] : Str)) (by simp), mk_shStr (([98, 111] : Str)) (by simp), mk_shStr (([99, 121] : Str)) (by simp), rfl⟩ (fun _ h => h.elim)) ?_
 clear H A; rintro v755 w756 ⟨ho757, he758, hob759⟩ A H
 have hs761 := hs745.trans' he758
 obtain ⟨hx762, _⟩ := nxe hx744 he758
 refine ⟨(StpL.of_ext hs761), ?_⟩
 replace hf36 := hf36.ext hs761
 replace hf37 := hf37.ext hs761
 replace hb740 := hb740.ext hs761
 refine drl (StpL.of_ext hs761) ?_
 intro hs763
 exact dr_listed (by kernel_rfl) (hk573 _ _ _ ⟨w53.heap.size, v755, w738.heap.size, w756.heap.size, rfl, (sl H), hx762, hf36, (fi hf37), hb740, ho757, (by omega), (by omega), (by omega), (by omega), (by omega)⟩)
 clear H A
 rintro A w48 ⟨g44, q45, q46, q47, H, hx49, hf50, hf51, hf52, hg766, hg767, hg768, hg769, hg770, hg771, hzl765⟩
 have hzhx49 := hx49.size
 have hgl772 := hf50.lt
 have hgl773 := hf52.lt
 revert A; refine go ?_; intro A H
 refine fl 2 H U69 ti9 U9 hf52.cells ?_
 clear H A; intro A H
 refine wc H cb91 (c_spec_l33Owes _ v xs q46 (hf51.rds pos_shEnt) (by assumption) (by omega)) ?_
 clear H A; rintro v777 w778 he779 rfl A H
 obtain ⟨hx781, _⟩ := nxe hx49 he779
 replace hf50 := hf50.ext he779
 replace hf51 := hf51.ext he779
 replace hf52 := hf52.ext he779
 refine wv H (op_assign H rfl rfl) ?_
 clear H A; intro A H
 refine wpList_nil ?_
 refine then_n ?_
 refine seq_mid (fun fr wl => ∃ (k : Int), Sl 72 fr [(0, .pointer (some (⟨g_s, 0, none⟩ : Addr))), (3, v), (4, .int .i64 d), (5, .int .i64 m), (6, .pointer (some (⟨g44, 0, none⟩ : Addr)))] ∧ Stp w0 wl (some g_s) ∧ Src wl g_s b_s 75 ∧ Own shEnt 69 w0.heap.size w0.heap.size w34.heap.size wl v xs ∧ Box wl g44 69 [.int .i64 d, .int .i64 (q45 : Int), St q46, .int .i64 k] ∧ w778.heap.size ≤ wl.heap.size ∧ (0 ≤ k ∧ k ≤ 10000000)) ?_ ?_
 revert A; refine go ?_; intro A H
 refine fl 1 H U69 ti2 U2 hf52.cells ?_
 clear H A; refine go ?_; intro A H
 by_cases c792 : (q45 : Int) = (1 : Int)
 rw [decide_eq_true c792] at H
 revert A; refine go ?_; intro A H
 by_cases c797 : (0 : Int) < (owS q46 xs : Int)
 rw [decide_eq_true c797] at H
 refine wv H (op_move H rfl rfl) ?_
 clear H A; intro A H
 refine wl_callS H rfl rfl rfl (op_call H rfl cb37 rfl) (c_spec_l01Next _ g_s b_s (3 : Int) hf50) ?_
 clear H A; rintro v799 w800 he801 ⟨hS802, ⟨q803, hq804, hq805, hq806, rfl⟩⟩ A H
 obtain ⟨hx808, _⟩ := nxs hx781 he801
 replace hf51 := hf51.stp he801 (by intro q hq; cases hq; omega)
 replace hf52 := bb hf52 he801
 clear hf50
 have hSlhS802 := hS802.lt
 revert A; refine go ?_; intro A H
 by_cases c811 : (0 : Int) < (q803 : Int)
 rw [decide_eq_true c811] at H
 revert A; refine go ?_; intro A H
 refine wv H (op_min H rfl rfl rfl) ?_
 clear H A; intro A H
 refine wv H (fa H U69 ti2) ?_
 clear H A; intro A H
 refine ws H (op_store' (off := 3) H rfl ti2 rfl rfl hf52 rfl rfl (by simp [Value.oneCell']) (Nat.le_of_ble_eq_true rfl)) ?_
 rintro w815 ⟨hb817, hst816, hz818⟩
 have hx819 := hx808.fresh hst816 (by intro q hq; cases hq; exact (by omega))
 have hzhx819 := hst816.size
 replace hf51 := hf51.stp hst816 (by intro q hq; cases hq; omega)
 replace hS802 := hS802.stp hst816 (by intro q hq; cases hq; omega)
 clear hf52
 revert A; refine go ?_; intro A H
 refine ⟨(min (10000000 : Int) (owS q46 xs : Int)), (sl H), hx819, hS802, hf51, hb817, (by omega), (by constructor <;> omega)⟩
 rw [decide_eq_false c811] at H
 revert A; refine go ?_; intro A H
 refine ⟨((100 : Int) * ((1 : Int) + (q47 : Int))), (sl H), hx808, hS802, hf51, hf52, (by omega), (by constructor <;> omega)⟩
 rw [decide_eq_false c797] at H
 revert A; refine go ?_; intro A H
 refine ⟨((100 : Int) * ((1 : Int) + (q47 : Int))), (sl H), hx781, hf50, hf51, hf52, (by omega), (by constructor <;> omega)⟩
 rw [decide_eq_false c792] at H
 revert A; refine go ?_; intro A H
 refine ⟨((100 : Int) * ((1 : Int) + (q47 : Int))), (sl H), hx781, hf50, hf51, hf52, (by omega), (by constructor <;> omega)⟩
 clear H A
 rintro A w783 ⟨k, H, hx784, hf785, hf786, hf787, hzl833, hk⟩
 have hzhx784 := hx784.size
 have hgl834 := hf785.lt
 refine seq_mid (fun fr wl => ∃ (nm : Str) (k2 : Int), Sl 72 fr [(0, .pointer (some (⟨g_s, 0, none⟩ : Addr))), (3, v), (4, .int .i64 d), (5, .int .i64 m), (6, .pointer (some (⟨g44, 0, none⟩ : Addr)))] ∧ Stp w0 wl (some g_s) ∧ Src wl g_s b_s 75 ∧ Own shEnt 69 w0.heap.size w0.heap.size w34.heap.size wl v xs ∧ Box wl g44 69 [.int .i64 d, .int .i64 (q45 : Int), St nm, .int .i64 k2] ∧ w783.heap.size ≤ wl.heap.size ∧ (nm.length ≤ 17) ∧ (0 ≤ k2 ∧ k2 ≤ 10000000)) ?_ ?_
 revert A; refine go ?_; intro A H
 refine fl 1 H U69 ti2 U2 hf787.cells ?_
 clear H A; refine go ?_; intro A H
 by_cases c843 : (q45 : Int) = (3 : Int)
 rw [decide_eq_true c843] at H
 revert A; refine go ?_; intro A H
 refine wv H (fa H U69 ti9) ?_
 clear H A; intro A H
 refine ws H (op_store' (off := 2) H rfl ti9 rfl rfl hf787 rfl rfl (by simp [Value.oneCell']) (Nat.le_of_ble_eq_true rfl)) ?_
 rintro w845 ⟨hb847, hst846, hz848⟩
 have hx849 := hx784.fresh hst846 (by intro q hq; cases hq; exact (by omega))
 have hzhx849 := hst846.size
 replace hf785 := hf785.stp hst846 (by intro q hq; cases hq; omega)
 replace hf786 := hf786.stp hst846 (by intro q hq; cases hq; omega)
 clear hf787
 revert A; refine go ?_; intro A H
 refine wv H (fa H U69 ti2) ?_
 clear H A; intro A H
 refine ws H (op_store' (off := 3) H rfl ti2 rfl rfl hb847 rfl rfl (by simp [Value.oneCell']) (Nat.le_of_ble_eq_true rfl)) ?_
 rintro w851 ⟨hb853, hst852, hz854⟩
 have hx855 := hx849.fresh hst852 (by intro q hq; cases hq; exact (by omega))
 have hzhx855 := hst852.size
 replace hf785 := hf785.stp hst852 (by intro q hq; cases hq; omega)
 replace hf786 := hf786.stp hst852 (by intro q hq; cases hq; omega)
 clear hb847
 revert A; refine go ?_; intro A H
 refine ⟨([] : Str), (0 : Int), (sl H), hx855, hf785, hf786, hb853, (by omega), (by simp), (by constructor <;> omega)⟩
 rw [decide_eq_false c843] at H
 revert A; refine go ?_; intro A H
 refine ⟨q46, k, (sl H), hx784, hf785, hf786, hf787, (by omega), (by omega), (by constructor <;> omega)⟩
 clear H A
 rintro A w835 ⟨nm, k2, H, hx836, hf837, hf838, hf839, hzl857, hnm, hk2⟩
 have hzhx836 := hx836.size
 have hgl858 := hf837.lt
 revert A; refine go ?_; intro A H
 refine wv H (ls H U69 ti69 hf839.cells) ?_
 clear H A; intro A H
 refine wc H cb112 (c_spec_AddEntry _ v xs ((d, (q45 : Int), nm, k2)) (hf838.rds pos_shEnt) (by omega) (by omega) (by dsimp only; omega) (by dsimp only; omega) (by dsimp only; omega)) ?_
 clear H A; rintro v861 w862 he863 ⟨v864, rfl, ho865⟩ A H
 obtain ⟨hx867, _⟩ := nxe hx836 he863
 replace hf837 := hf837.ext he863
 replace hf838 := hf838.ext he863
 replace hf839 := hf839.ext he863
 refine wv H (op_move H rfl rfl) ?_
 clear H A; intro A H
 refine wv H (op_extract H rfl rfl rfl) ?_
 clear H A; intro A H
 refine wv H (op_extract H rfl rfl rfl) ?_
 clear H A; intro A H
 refine wv H (op_assign H rfl rfl) ?_
 clear H A; intro A H
 refine wv H (op_assign H rfl rfl) ?_
 clear H A; intro A H
 refine wpList_nil ?_
 refine then_n ?_
 refine seq_mid (fun fr wl => ∃ (v2 : Value) (ys : List Ent), Sl 72 fr [(0, .pointer (some (⟨g_s, 0, none⟩ : Addr))), (3, v2), (4, .int .i64 d), (5, .int .i64 m)] ∧ Stp w0 wl (some g_s) ∧ Src wl g_s b_s 75 ∧ Own shEnt 69 w0.heap.size w0.heap.size wl.heap.size wl v2 ys ∧ w862.heap.size ≤ wl.heap.size ∧ (dbB ys = true)) ?_ ?_
 clear hf839
 revert A; refine go ?_; intro A H
 by_cases c879 : (addC xs ((d, (q45 : Int), nm, k2)) : Int) = (0 : Int)
 rw [decide_eq_true c879] at H
 clear hf838
 revert A; refine go ?_; intro A H
 refine ⟨v864, (addL xs ((d, (q45 : Int), nm, k2))), (sl H), hx867, hf837, (fi ho865), (by omega), (by exact add_db c879)⟩
 rw [decide_eq_false c879] at H
 revert A; refine go ?_; intro A H
 refine ⟨v, xs, (sl H), hx867, hf837, (fi hf838), (by omega), (by exact hV)⟩
 clear H A
 rintro A w873 ⟨v2, ys, H, hx874, hf875, hf876, hzl883, hV2⟩
 have hzhx874 := hx874.size
 have hgl884 := hf875.lt
 revert A; refine go ?_; intro A H
 refine we H (op_buildSlice (s := shI64) (xs := [(0 : Int), (0 : Int), (1 : Int), (2 : Int)]) (cs := [.int .i64 (0 : Int), .int .i64 (0 : Int), .int .i64 (1 : Int), .int .i64 (2 : Int)]) (vs := [(0, .int .i64 (0 : Int)), (1, .int .i64 (0 : Int)), (2, .int .i64 (1 : Int)), (3, .int .i64 (2 : Int))]) (S := fun _ => False) (le := w873.heap.size) H rfl pos_shI64 U55 ti2 rfl rfl (by decide) (by kernel_rfl) ⟨mk_shI64 ((0 : Int)) (by omega), mk_shI64 ((0 : Int)) (by omega), mk_shI64 ((1 : Int)) (by omega), mk_shI64 ((2 : Int)) (by omega), rfl⟩ (fun _ h => h.elim)) ?_
 clear H A; rintro v887 w888 ⟨ho889, he890, hob891⟩ A H
 obtain ⟨hx893, _⟩ := nxe hx874 he890
 replace hf875 := hf875.ext he890
 replace hf876 := hf876.ext he890
 refine wl_callS H rfl rfl rfl (op_call H rfl cb76 rfl) (c_spec_l01Pick _ g_s b_s v887 ([(0 : Int), (0 : Int), (1 : Int), (2 : Int)]) hf875 (ho889.rds pos_shI64) (by rintro ⟨_, _⟩; omega) (by simp)) ?_
 clear H A; rintro v894 w895 he896 ⟨hS897, ⟨q898, hq899, rfl⟩⟩ A H
 obtain ⟨hx901, _⟩ := nxs hx893 he896
 replace hf876 := hf876.stp he896 (by intro q hq; cases hq; omega)
 replace ho889 := ho889.stp he896 (by intro q hq; cases hq; omega)
 clear hf875
 have hSlhS897 := hS897.lt
 simp only [List.mem_cons, List.not_mem_nil, or_false] at hq899
 refine wv H ((op_add H rfl rfl rfl).int (IntWalk.i64_in _ (by omega))) ?_
 clear H A; intro A H
 clear ho889
 revert A; refine go ?_; intro A H
 refine wv H ((op_sub H rfl rfl rfl).int (IntWalk.i64_in _ (by omega))) ?_
 clear H A; refine go ?_; intro A H
 refine ⟨((m - (1 : Int)), (d + (q898 : Int)), v2, ys), ?_, ?_⟩
 refine ⟨(sl H), hx901, hS897, (fi hf876), (by omega), (by omega), (by omega), (by omega), (by omega), (by exact hV2)⟩
 show (((m - (1 : Int))).toNat : Nat) < m.toNat; omega
 rw [decide_eq_false c43] at H
 revert A; refine go ?_; intro A H
 refine ret1 H rfl rfl ?_
 clear H A
 refine ret_mkS hx35 ⟨hf36, ?_⟩
 refine ⟨((xs) : List Ent), (by exact hV), ?_⟩
 refine (fi hf37).cast ?_
 rfl



theorem c_spec_l33Draw (w0 : World) (g_s b_s : Nat) (h_s : Src w0 g_s b_s 75) :
    Calls Tryz.prog 52 #[.pointer (some (⟨g_s, 0, none⟩ : Addr))] w0 (RetS w0 (some g_s) (fun v w1 => Src w1 g_s b_s 75 ∧ (fun v w1 => ∃ (l : List Ent), (l.length ≤ 61) ∧ (fun v w1 => Own shEnt 69 w0.heap.size w0.heap.size w1.heap.size w1 v (l)) v w1) v w1)) := by
 refine enter (N := 37) Tryz.func52 rfl rfl rfl ?_
 intro A H
 have hx0 := Stp.rfl' w0 (some g_s)
 have hgl_s := h_s.lt
 revert A; refine go ?_; intro A H
 refine wl_callS H rfl rfl rfl (op_call H rfl cb78 rfl) (c_spec_l33Good _ g_s b_s h_s) ?_
 clear H A; rintro v3 w4 he5 ⟨hS6, ⟨q7, hq8, ho9⟩⟩ A H
 obtain ⟨hx11, _⟩ := nxs hx0 he5
 have hSlhS6 := hS6.lt
 have hvl := dbB_len hq8
 revert A; refine go ?_; intro A H
 refine wl_callS H rfl rfl rfl (op_call H rfl cb37 rfl) (c_spec_l01Next _ g_s b_s (40 : Int) hS6) ?_
 clear H A; rintro v14 w15 he16 ⟨hS17, ⟨q18, hq19, hq20, hq21, rfl⟩⟩ A H
 obtain ⟨hx23, _⟩ := nxs hx11 he16
 replace ho9 := ho9.stp he16 (by intro q hq; cases hq; omega)
 clear hS6
 have hSlhS17 := hS17.lt
 revert A; refine go ?_; intro A H
 by_cases c26 : (q18 : Int) = (0 : Int)
 rw [decide_eq_true c26] at H
 revert A; refine go ?_; intro A H
 refine we H (op_buildSlice (s := shI64) (xs := [(5 : Int), (100 : Int), (100000 : Int), (100001 : Int)]) (cs := [.int .i64 (5 : Int), .int .i64 (100 : Int), .int .i64 (100000 : Int), .int .i64 (100001 : Int)]) (vs := [(0, .int .i64 (5 : Int)), (1, .int .i64 (100 : Int)), (2, .int .i64 (100000 : Int)), (3, .int .i64 (100001 : Int))]) (S := fun _ => False) (le := w15.heap.size) H rfl pos_shI64 U55 ti2 rfl rfl (by decide) (by kernel_rfl) ⟨mk_shI64 ((5 : Int)) (by omega), mk_shI64 ((100 : Int)) (by omega), mk_shI64 ((100000 : Int)) (by omega), mk_shI64 ((100001 : Int)) (by omega), rfl⟩ (fun _ h => h.elim)) ?_
 clear H A; rintro v29 w30 ⟨ho31, he32, hob33⟩ A H
 obtain ⟨hx35, _⟩ := nxe hx23 he32
 replace ho9 := ho9.ext he32
 replace hS17 := hS17.ext he32
 refine wl_callS H rfl rfl rfl (op_call H rfl cb76 rfl) (c_spec_l01Pick _ g_s b_s v29 ([(5 : Int), (100 : Int), (100000 : Int), (100001 : Int)]) hS17 (ho31.rds pos_shI64) (by rintro ⟨_, _⟩; omega) (by simp)) ?_
 clear H A; rintro v36 w37 he38 ⟨hS39, ⟨q40, hq41, rfl⟩⟩ A H
 obtain ⟨hx43, _⟩ := nxs hx35 he38
 replace ho9 := ho9.stp he38 (by intro q hq; cases hq; omega)
 replace ho31 := ho31.stp he38 (by intro q hq; cases hq; omega)
 clear hS17
 have hSlhS39 := hS39.lt
 simp only [List.mem_cons, List.not_mem_nil, or_false] at hq41
 refine wv H (op_move H rfl rfl) ?_
 clear H A; intro A H
 refine wl_callS H rfl rfl rfl (op_call H rfl cb37 rfl) (c_spec_l01Next _ g_s b_s (5 : Int) hS39) ?_
 clear H A; rintro v45 w46 he47 ⟨hS48, ⟨q49, hq50, hq51, hq52, rfl⟩⟩ A H
 obtain ⟨hx54, _⟩ := nxs hx43 he47
 replace ho9 := ho9.stp he47 (by intro q hq; cases hq; omega)
 replace ho31 := ho31.stp he47 (by intro q hq; cases hq; omega)
 clear hS39
 have hSlhS48 := hS48.lt
 refine wv H (op_move H rfl rfl) ?_
 clear H A; intro A H
 refine wl_callS H rfl rfl rfl (op_call H rfl cb79 rfl) (c_spec_l01DrawWord _ g_s b_s hS48) ?_
 clear H A; rintro v56 w57 he58 ⟨hS59, ⟨q60, hq61, rfl⟩⟩ A H
 obtain ⟨hx63, _⟩ := nxs hx54 he58
 replace ho9 := ho9.stp he58 (by intro q hq; cases hq; omega)
 replace ho31 := ho31.stp he58 (by intro q hq; cases hq; omega)
 clear hS48
 have hSlhS59 := hS59.lt
 refine wv H (op_move H rfl rfl) ?_
 clear H A; intro A H
 refine we H (op_buildSlice (s := shI64) (xs := [(0 : Int), (1 : Int), (10000000 : Int), (10000001 : Int)]) (cs := [.int .i64 (0 : Int), .int .i64 (1 : Int), .int .i64 (10000000 : Int), .int .i64 (10000001 : Int)]) (vs := [(0, .int .i64 (0 : Int)), (1, .int .i64 (1 : Int)), (2, .int .i64 (10000000 : Int)), (3, .int .i64 (10000001 : Int))]) (S := fun _ => False) (le := w57.heap.size) H rfl pos_shI64 U55 ti2 rfl rfl (by decide) (by kernel_rfl) ⟨mk_shI64 ((0 : Int)) (by omega), mk_shI64 ((1 : Int)) (by omega), mk_shI64 ((10000000 : Int)) (by omega), mk_shI64 ((10000001 : Int)) (by omega), rfl⟩ (fun _ h => h.elim)) ?_
 clear H A; rintro v65 w66 ⟨ho67, he68, hob69⟩ A H
 obtain ⟨hx71, _⟩ := nxe hx63 he68
 replace ho9 := ho9.ext he68
 replace ho31 := ho31.ext he68
 replace hS59 := hS59.ext he68
 refine wl_callS H rfl rfl rfl (op_call H rfl cb76 rfl) (c_spec_l01Pick _ g_s b_s v65 ([(0 : Int), (1 : Int), (10000000 : Int), (10000001 : Int)]) hS59 (ho67.rds pos_shI64) (by rintro ⟨_, _⟩; omega) (by simp)) ?_
 clear H A; rintro v72 w73 he74 ⟨hS75, ⟨q76, hq77, rfl⟩⟩ A H
 obtain ⟨hx79, _⟩ := nxs hx71 he74
 replace ho9 := ho9.stp he74 (by intro q hq; cases hq; omega)
 replace ho31 := ho31.stp he74 (by intro q hq; cases hq; omega)
 replace ho67 := ho67.stp he74 (by intro q hq; cases hq; omega)
 clear hS59
 have hSlhS75 := hS75.lt
 simp only [List.mem_cons, List.not_mem_nil, or_false] at hq77
 refine wv H (op_build (vs := [(0, .int .i64 (q40 : Int)), (1, .int .i64 (q49 : Int)), (2, St ((q60))), (3, .int .i64 (q76 : Int))]) (cs := #[.int .i64 (q40 : Int), .int .i64 (q49 : Int), St ((q60)), .int .i64 (q76 : Int)]) H rfl U69 ti69 bp69 rfl rfl) ?_
 clear H A; intro A H
 refine we H (op_b1 (mk_shEnt (((q40 : Int), (q49 : Int), (q60), (q76 : Int))) (by omega) (by dsimp only; omega) (by dsimp only; omega) (by dsimp only; omega)) H pos_shEnt U32 ti69) ?_
 clear H A; rintro v81 w82 ⟨ho83, he84, hob85⟩ A H
 obtain ⟨hx87, _⟩ := nxe hx79 he84
 replace ho9 := ho9.ext he84
 replace ho31 := ho31.ext he84
 replace ho67 := ho67.ext he84
 replace hS75 := hS75.ext he84
 refine we H (op_ap (ts := #[]) H U32 ti69 pos_shEnt ho9 (ho83.rds pos_shEnt) flat_shEnt) ?_
 clear H A; rintro v88 w89 ⟨ho90, hst91, hob92⟩ A H
 have hx94 := hx87.fresh hst91 (by intro q hq; have hq0 := ho9.lt q hq; omega)
 have hzhx94 := hst91.size
 replace ho31 := ho31.stp hst91 (by intro q hq; have hq0 := ho9.lt q hq; omega)
 replace ho67 := ho67.stp hst91 (by intro q hq; have hq0 := ho9.lt q hq; omega)
 replace hS75 := hS75.stp hst91 (by intro q hq; have hq0 := ho9.lt q hq; omega)
 replace ho83 := ho83.stp hst91 (by intro q hq; have hq0 := ho9.lt q hq; omega)
 have hsp95 : ∀ q, Value.ownBlock v88 = some q → Value.ownBlock v81 ≠ some q := by intro q hq hb; have hq0 := ho83.lt q hb; rcases hob92 with h | h; (rw [h] at hq; first | (have hq1 := ho9.lt q hq; omega)); (rw [h] at hq; cases hq; omega)
 revert A; refine go ?_; intro A H
 refine ret1 H rfl rfl ?_
 clear H A
 refine ret_mkS hx94 ⟨hS75, ?_⟩
 refine ⟨((((q7) ++ [((q40 : Int), (q49 : Int), (q60), (q76 : Int))])) : List Ent), (by simp; omega), ?_⟩
 refine (fi ho90).cast ?_
 rfl
 rw [decide_eq_false c26] at H
 revert A; refine go ?_; intro A H
 by_cases c101 : (q18 : Int) = (1 : Int)
 rw [decide_eq_true c101] at H
 revert A; refine go ?_; intro A H
 refine loop_inv (X := Value × (List Ent)) (fun ⟨v, xs⟩ fr wl => Sl 37 fr [(0, .pointer (some (⟨g_s, 0, none⟩ : Addr))), (3, v)] ∧ Stp w0 wl (some g_s) ∧ Src wl g_s b_s 75 ∧ Own shEnt 69 w0.heap.size w0.heap.size wl.heap.size wl v xs ∧ w15.heap.size ≤ wl.heap.size ∧ (xs.length ≤ 61)) (fun ⟨v, xs⟩ => 61 - xs.length) (v3, (q7)) ?_ ?_
 exact ⟨(sl H), hx23, hS17, (fi ho9), (by omega), (by omega)⟩
 clear H A
 rintro ⟨v, xs⟩ A w102 ⟨H, hx103, hf104, hf105, hzl107, hl⟩
 have hzhx103 := hx103.size
 have hgl108 := hf104.lt
 revert A; refine go ?_; intro A H
 refine wv H (ln H U32 (hf105.rds pos_shEnt)) ?_
 clear H A; intro A H
 refine wv H (op_move H rfl rfl) ?_
 clear H A; intro A H
 refine wl_callS H rfl rfl rfl (op_call H rfl cb37 rfl) (c_spec_l01Next _ g_s b_s (2 : Int) hf104) ?_
 clear H A; rintro v112 w113 he114 ⟨hS115, ⟨q116, hq117, hq118, hq119, rfl⟩⟩ A H
 obtain ⟨hx121, _⟩ := nxs hx103 he114
 replace hf105 := hf105.stp he114 (by intro q hq; cases hq; omega)
 clear hf104
 have hSlhS115 := hS115.lt
 refine wv H ((op_add H rfl rfl rfl).int (IntWalk.i64_in _ (by omega))) ?_
 clear H A; refine go ?_; intro A H
 by_cases c124 : ((xs.length : Nat) : Int) < ((60 : Int) + (q116 : Int))
 rw [decide_eq_true c124] at H
 revert A; refine go ?_; intro A H
 refine wv H (op_build (vs := [(0, .int .i64 (90 : Int)), (2, St (([100, 101, 101] : Str))), (3, .int .i64 (5 : Int))]) (cs := #[.int .i64 (90 : Int), .int .i64 (0 : Int), St (([100, 101, 101] : Str)), .int .i64 (5 : Int)]) H rfl U69 ti69 bp69 rfl rfl) ?_
 clear H A; intro A H
 refine we H (op_b1 (mk_shEnt (((90 : Int), (0 : Int), ([100, 101, 101] : Str), (5 : Int))) (by omega) (by dsimp only; omega) (by simp) (by dsimp only; omega)) H pos_shEnt U32 ti69) ?_
 clear H A; rintro v127 w128 ⟨ho129, he130, hob131⟩ A H
 obtain ⟨hx133, _⟩ := nxe hx121 he130
 replace hf105 := hf105.ext he130
 replace hS115 := hS115.ext he130
 refine we H (op_ap (ts := #[]) H U32 ti69 pos_shEnt hf105 (ho129.rds pos_shEnt) flat_shEnt) ?_
 clear H A; rintro v134 w135 ⟨ho136, hst137, hob138⟩ A H
 have hx140 := hx133.fresh hst137 (by intro q hq; have hq0 := hf105.lt q hq; omega)
 have hzhx140 := hst137.size
 replace hS115 := hS115.stp hst137 (by intro q hq; have hq0 := hf105.lt q hq; omega)
 replace ho129 := ho129.stp hst137 (by intro q hq; have hq0 := hf105.lt q hq; omega)
 have hsp141 : ∀ q, Value.ownBlock v134 = some q → Value.ownBlock v127 ≠ some q := by intro q hq hb; have hq0 := ho129.lt q hb; rcases hob138 with h | h; (rw [h] at hq; first | (have hq1 := hf105.lt q hq; omega)); (rw [h] at hq; cases hq; omega)
 revert A; refine go ?_; intro A H
 refine ⟨(v134, (xs ++ [((90 : Int), (0 : Int), ([100, 101, 101] : Str), (5 : Int))])), ?_, ?_⟩
 refine ⟨(sl H), hx140, hS115, (fi ho136), (by omega), (by simp; omega)⟩
 show (61 - ((xs ++ [((90 : Int), (0 : Int), ([100, 101, 101] : Str), (5 : Int))])).length : Nat) < 61 - xs.length; simp only [List.length_append, List.length_cons, List.length_nil]; omega
 rw [decide_eq_false c124] at H
 revert A; refine go ?_; intro A H
 refine ret1 H rfl rfl ?_
 clear H A
 refine ret_mkS hx121 ⟨hS115, ?_⟩
 refine ⟨((xs) : List Ent), (by omega), ?_⟩
 refine (fi hf105).cast ?_
 rfl
 rw [decide_eq_false c101] at H
 revert A; refine go ?_; intro A H
 refine ret1 H rfl rfl ?_
 clear H A
 refine ret_mkS hx23 ⟨hS17, ?_⟩
 refine ⟨(((q7)) : List Ent), (by omega), ?_⟩
 refine (fi ho9).cast ?_
 rfl




end Go.Proofs.YthbehhhblchhhaaGreat
