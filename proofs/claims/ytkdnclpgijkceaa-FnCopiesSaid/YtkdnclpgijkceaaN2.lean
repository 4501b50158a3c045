/- Records drawn. -/
import Derived.Test.YtkdnclpgijkceaaN1
import Derived.Test.YtkdnclpgijkceaaW3
import Derived.Test.YtkdnclpgijkceaaNarrow
namespace Go.Proofs.Ytkdnclpgijkceaa
open Go Go.RowKit

theorem ret_tc {fn : Func} {R : Ending → World → Prop} {N : Nat} {a : Act} {w : World} {l : List (Nat × Value)} {P : Program} {t0 : Tmp} {v0 : Value} {t1 : Tmp} {e1 : TypeId} {fs1 : Array Field} {p1 : Addr} {cs1 : List Value} {sz1 by1 : Nat} {z1 : Value}
    (ha : Sl N a l) (hr : fn.results = #[.tmp t0, .cell t1 e1]) (x0 : lk l t0 = some v0) (x1 : lk l t1 = some (.pointer (some p1))) (T1 : P.underlying e1 = some (.struct fs1)) (E1 : TI P e1 sz1 by1 z1) (l1 : cs1.length = sz1) (c1 : CellsAt w p1 cs1)
    (h : R (.returned (.tuple #[v0, .agg cs1.toArray])) w) : bodyPost P fn R .ret a w := by
  subst l1
  have e0' := ha.get t0 _ x0
  have e1' := ha.get t1 _ x1
  rw [Array.getD_eq_getD_getElem?] at e0' e1'
  refine ⟨ha.defers, _, ?_, h⟩
  simp [results, hr, e0', e1', asAddr, loadVar, isAgg, run_underlying T1, E1.sizeOf, run_loadCells_list w p1 cs1 (fun j v hv => c1 j v hv)]

theorem el_rec {xs : List Str} {i : Nat} {x : Str} (h : (xs.all fun s => decide (s.length ≤ 20) && s.all okB) = true) (hx : xs[i]? = some x) : x.length ≤ 20 ∧ x.all okB = true := by
  rw [List.all_eq_true] at h
  simpa using h x (List.mem_of_getElem? hx)
theorem rec_of {n : Int} {t : Str} (h0 : 0 ≤ n) (h1 : n ≤ 9999) (h2 : t.length ≤ 20) (h3 : t.all okB = true) : recB (n, t) = true := by
  unfold recB; rw [h3]; simp; omega
theorem fileS_len : ∀ {xs : List (Int × Str)}, (∀ r ∈ xs, recB r = true) → (fileS xs).length ≤ 70 * xs.length
  | [], _ => Nat.le_refl _
  | x :: xs, h => by
    have h1 := lineS_len (h x (by simp)); have h2 := fileS_len (xs := xs) fun r hr => h r (by simp [hr])
    rw [fileS, List.length_append, List.length_cons]; omega
theorem line_70 {n : Int} {t : Str} (h0 : 0 ≤ n) (h1 : n ≤ 9999) (h2 : t.length = 0) : (lineS (n, t)).length ≤ 70 := lineS_len (by
  have : t = [] := List.eq_nil_of_length_eq_zero h2
  subst this; exact rec_of h0 h1 (by simp) rfl)

set_option maxHeartbeats 8000000 in
theorem c_spec_l32Good (w0 : World) (g_s b_s : Nat) (h_s : Src w0 g_s b_s 88) :
  Calls Try.prog 61 #[.pointer (some (⟨g_s, 0, none⟩ : Addr))] w0 (RetS w0 (some g_s) (fun v w1 => Src w1 g_s b_s 88 ∧ (fun v w1 => ∃ (l : List (Int × Str)), (l.length ≤ 6) ∧ (∀ r ∈ l, recB r = true) ∧ (fun v w1 => Own shRec 36 w0.heap.size w0.heap.size w1.heap.size w1 v (l)) v w1) v w1)) := by
 refine enter (N := 34) Try.func61 rfl rfl rfl ?_
 intro a0 ha0
 have hx0 := Stp.rfl' w0 (some g_s)
 have hgl_s := h_s.lt
 refine wp_seq ?_
 refine wp_region_lit ?_
 refine wl_val ha0 rfl rfl rfl (op_assign ha0 rfl rfl) ?_
 intro a1 ha1; clear ha0 a0
 refine wpList_nil ?_
 refine then_n ?_
 refine wp_seq ?_
 refine wp_region_lit ?_
 refine wl_eff ha1 rfl rfl rfl (op_buildSlice (s := shRec) (xs := ([] : List (Int × Str))) (cs := []) (vs := []) (S := fun _ => False) (le := w0.heap.size) ha1 rfl pos_shRec Try.underlying25 ti36 rfl rfl (by decide) (by kernel_rfl) rfl (fun _ h => h.elim)) ?_
 rintro v2 w3 ⟨ho4, he5, hob6⟩ a7 ha7; clear ha1 a1
 have hx8 := hx0.trans' (Stp.of_ext he5 _)
 have hzhx8 := he5.size
 replace h_s := h_s.ext he5
 refine wl_val ha7 rfl rfl rfl (op_assign ha7 rfl rfl) ?_
 intro a9 ha9; clear ha7 a7
 refine wpList_nil ?_
 refine then_n ?_
 refine wp_seq ?_
 refine wp_region_lit ?_
 refine wl_val ha9 rfl rfl rfl (op_move ha9 rfl rfl) ?_
 intro a10 ha10; clear ha9 a9
 refine wl_callS ha10 rfl rfl rfl (op_call ha10 rfl cb62 rfl) (c_spec_l01Next _ g_s b_s (3 : Int) h_s) ?_
 rintro v11 w12 he13 ⟨hS14, ⟨q15, hq16, hq17, hq18, rfl⟩⟩ a19 ha19; clear ha10 a10
 have hx20 := hx8.trans' he13
 have hzhx20 := he13.size
 first | replace ho4 := ho4.stp he13 (by intro q hq; cases hq; omega) | replace ho4 := ho4.stpF flat_shRec he13 (by intro q hq; cases hq; exact ho4.ne_box (by assumption) rfl)
 have hSlhS14 := hS14.lt
 refine wl_val ha19 rfl rfl rfl (op_assign ha19 rfl rfl) ?_
 intro a21 ha21; clear ha19 a19
 refine wpList_nil ?_
 refine then_n ?_
 refine wp_seq ?_
 refine wp_seq ?_
 refine wp_region_lit ?_
 refine wl_val ha21 rfl rfl rfl (op_move ha21 rfl rfl) ?_
 intro a22 ha22; clear ha21 a21
 refine wl_callS ha22 rfl rfl rfl (op_call ha22 rfl cb62 rfl) (c_spec_l01Next _ g_s b_s (7 : Int) hS14) ?_
 rintro v23 w24 he25 ⟨hS26, ⟨q27, hq28, hq29, hq30, rfl⟩⟩ a31 ha31; clear ha22 a22
 have hx32 := hx20.trans' he25
 have hzhx32 := he25.size
 first | replace ho4 := ho4.stp he25 (by intro q hq; cases hq; omega) | replace ho4 := ho4.stpF flat_shRec he25 (by intro q hq; cases hq; exact ho4.ne_box (by assumption) rfl)
 clear hS14
 have hSlhS26 := hS26.lt
 refine wl_val ha31 rfl rfl rfl (op_assign ha31 rfl rfl) ?_
 intro a33 ha33; clear ha31 a31
 refine wpList_nil ?_
 refine then_n ?_
 refine wp_block ?_
 refine loop_inv (X := Int × Int × Value × (List (Int × Str))) (fun (⟨m, n, v, xs⟩ : Int × Int × Value × (List (Int × Str))) fr wl => Sl 34 fr [(0, .pointer (some (⟨g_s, 0, none⟩ : Addr))), (3, v), (4, .int .i64 n), (5, .int .i64 m)] ∧ Stp w0 wl (some g_s) ∧ Src wl g_s b_s 88 ∧ Own shRec 36 w0.heap.size w0.heap.size wl.heap.size wl v xs ∧ w24.heap.size ≤ wl.heap.size ∧ (0 ≤ m) ∧ ((xs.length : Int) + m ≤ 6) ∧ (0 ≤ n) ∧ (n + 10 * m ≤ 100) ∧ (∀ r ∈ xs, recB r = true)) (fun (⟨m, n, v, xs⟩ : Int × Int × Value × (List (Int × Str))) => m.toNat) ((q27 : Int), (q15 : Int), v2, ([] : List (Int × Str))) ?_ ?_
 ·
  exact ⟨(Sl.cons_ ha33 rfl rfl (Sl.cons_ ha33 rfl rfl (Sl.cons_ ha33 rfl (int_eq (by omega)) (Sl.cons_ ha33 rfl (int_eq (by omega)) (Sl.nil_ ha33))))), hx32, hS26, (ho4.fin (by omega) (by omega) (by omega)), (by omega), (by omega), (by first | omega | (simp; omega)), (by omega), (by omega), (by intro r hr; cases hr)⟩
 ·
  clear ha33 a33
  rintro ⟨m, n, v, xs⟩ a38 w34 ⟨ha38, hx35, hf36, hf37, hzl39, hm, hl, hn0, hn1, hR⟩
  have hzhx35 := hx35.size
  have hgl40 := hf36.lt
  refine wp_seq ?_
  refine wp_seq ?_
  refine wp_region_lit ?_
  refine wl_val ha38 rfl rfl rfl (op_move ha38 rfl rfl) ?_
  intro a41 ha41; clear ha38 a38
  refine wl_val ha41 rfl rfl rfl (op_gtr ha41 rfl rfl rfl) ?_
  intro a42 ha42; clear ha41 a41
  refine wpList_nil ?_
  refine then_n ?_
  by_cases c43 : (0 : Int) < m
  ·
   rw [decide_eq_true c43] at ha42
   refine cond_t ha42 rfl ?_
   refine wp_skip ?_
   refine then_n ?_
   refine wp_seq ?_
   refine wp_block ?_
   refine wp_seq ?_
   refine wp_region_lit ?_
   refine wl_val ha42 rfl rfl rfl (op_move ha42 rfl rfl) ?_
   intro a44 ha44; clear ha42 a42
   refine wl_val ha44 rfl rfl rfl (op_move ha44 rfl rfl) ?_
   intro a45 ha45; clear ha44 a44
   refine wl_eff ha45 rfl rfl rfl (op_buildSlice (s := shStr) (xs := [([] : Str), ([114, 105, 109, 32, 55, 48, 48] : Str), ([116, 119, 111, 32, 116, 117, 98, 101, 115] : Str), ([55] : Str), ([32, 120, 32] : Str)]) (cs := [St (([] : Str)), St (([114, 105, 109, 32, 55, 48, 48] : Str)), St (([116, 119, 111, 32, 116, 117, 98, 101, 115] : Str)), St (([55] : Str)), St (([32, 120, 32] : Str))]) (vs := [(0, St (([] : Str))), (1, St (([114, 105, 109, 32, 55, 48, 48] : Str))), (2, St (([116, 119, 111, 32, 116, 117, 98, 101, 115] : Str))), (3, St (([55] : Str))), (4, St (([32, 120, 32] : Str)))]) (S := fun _ => False) (le := w34.heap.size) ha45 rfl pos_shStr Try.underlying82 ti9 rfl rfl (by decide) (by kernel_rfl) ⟨mk_shStr (([] : Str)) (by first | assumption | omega | (constructor <;> omega) | (dsimp only; omega) | (simp; done) | (simp; omega)), mk_shStr (([114, 105, 109, 32, 55, 48, 48] : Str)) (by first | assumption | omega | (constructor <;> omega) | (dsimp only; omega) | (simp; done) | (simp; omega)), mk_shStr (([116, 119, 111, 32, 116, 117, 98, 101, 115] : Str)) (by first | assumption | omega | (constructor <;> omega) | (dsimp only; omega) | (simp; done) | (simp; omega)), mk_shStr (([55] : Str)) (by first | assumption | omega | (constructor <;> omega) | (dsimp only; omega) | (simp; done) | (simp; omega)), mk_shStr (([32, 120, 32] : Str)) (by first | assumption | omega | (constructor <;> omega) | (dsimp only; omega) | (simp; done) | (simp; omega)), rfl⟩ (fun _ h => h.elim)) ?_
   rintro v46 w47 ⟨ho48, he49, hob50⟩ a51 ha51; clear ha45 a45
   have hx52 := hx35.trans' (Stp.of_ext he49 _)
   have hzhx52 := he49.size
   replace hf36 := hf36.ext he49
   replace hf37 := hf37.ext he49
   refine wl_val ha51 rfl rfl rfl (op_move ha51 rfl rfl) ?_
   intro a53 ha53; clear ha51 a51
   refine wl_callS ha53 rfl rfl rfl (op_call ha53 rfl cb62 rfl) (c_spec_l01Next _ g_s b_s (5 : Int) hf36) ?_
   rintro v54 w55 he56 ⟨hS57, ⟨q58, hq59, hq60, hq61, rfl⟩⟩ a62 ha62; clear ha53 a53
   have hx63 := hx52.trans' he56
   have hzhx63 := he56.size
   first | replace hf37 := hf37.stp he56 (by intro q hq; cases hq; omega) | replace hf37 := hf37.stpF flat_shRec he56 (by intro q hq; cases hq; exact hf37.ne_box (by assumption) rfl)
   first | replace ho48 := ho48.stp he56 (by intro q hq; cases hq; omega) | replace ho48 := ho48.stpF flat_shStr he56 (by intro q hq; cases hq; exact ho48.ne_box (by assumption) rfl)
   clear hf36
   have hSlhS57 := hS57.lt
   obtain ⟨x64, hx64⟩ := get_ex (xs := [([] : Str), ([114, 105, 109, 32, 55, 48, 48] : Str), ([116, 119, 111, 32, 116, 117, 98, 101, 115] : Str), ([55] : Str), ([32, 120, 32] : Str)]) (j := ((q58 : Int)).toNat) (by first | omega | (simp only [List.length_cons, List.length_nil]; omega))
   obtain ⟨p65, c66, hi67, hc68, hr69, hs70⟩ := Rds.at_ (ho48.rds pos_shStr) hx64
   obtain ⟨rfl, b71⟩ := inv_shStr hr69
   obtain ⟨_, _⟩ : _ ∧ _ := hs70
   obtain ⟨hlax64, hlbx64⟩ := el_rec (by rfl) hx64
   refine wl_val ha62 rfl rfl rfl (op_indexAddr ha62 rfl Try.underlying82 ti9 rfl rfl (by omega) hi67) ?_
   intro a72 ha72; clear ha62 a62
   refine wl_val ha72 rfl rfl rfl (op_loadH ha72 rfl Try.underlying9 rfl rfl hc68 rfl) ?_
   intro a73 ha73; clear ha72 a72
   refine wl_val ha73 rfl rfl rfl (op_build (vs := [(0, .int .i64 n), (1, St x64)]) (cs := #[.int .i64 n, St x64]) ha73 rfl Try.underlying36 ti36 bp36 rfl rfl) ?_
   intro a74 ha74; clear ha73 a73
   refine wl_eff ha74 rfl rfl rfl (op_buildSlice (s := shRec) (xs := [(n, x64)]) (cs := [.int .i64 n, St x64]) (vs := [(0, .agg #[.int .i64 n, St x64])]) (S := fun _ => False) (le := w55.heap.size) ha74 rfl pos_shRec Try.underlying25 ti36 rfl rfl (by decide) (by kernel_rfl) (Els.single (mk_shRec ((n, x64)) (by first | assumption | omega | (constructor <;> omega) | (dsimp only; omega) | (simp; done) | (simp; omega)) (by first | assumption | omega | (constructor <;> omega) | (dsimp only; omega) | (simp; done) | (simp; omega)))) (fun _ h => h.elim)) ?_
   rintro v75 w76 ⟨ho77, he78, hob79⟩ a80 ha80; clear ha74 a74
   have hx81 := hx63.trans' (Stp.of_ext he78 _)
   have hzhx81 := he78.size
   replace hf37 := hf37.ext he78
   replace ho48 := ho48.ext he78
   replace hS57 := hS57.ext he78
   replace hc68 := hc68.ext he78
   refine wl_eff ha80 rfl rfl rfl (op_append (ts := #[]) (s := shRec) ha80 rfl Try.underlying25 ti36 rfl pos_shRec rfl rfl hf37 (ho77.rds pos_shRec) (by omega) (by omega) (by first | omega | (simp; omega)) (by first | omega | (simp; omega)) (.inl flat_shRec)) ?_
   rintro v82 w83 ⟨ho84, hst85, hob86⟩ a87 ha87; clear ha80 a80
   have hx88 := hx81.fresh hst85 (by intro q hq; have hq0 := hf37.lt q hq; omega)
   have hzhx88 := hst85.size
   replace ho48 := ho48.stp hst85 (by intro q hq; have hq0 := hf37.lt q hq; omega)
   replace hS57 := hS57.stp hst85 (by intro q hq; have hq0 := hf37.lt q hq; omega)
   replace ho77 := ho77.stp hst85 (by intro q hq; have hq0 := hf37.lt q hq; omega)
   have hsp89 : ∀ q, Value.ownBlock v82 = some q → Value.ownBlock v75 ≠ some q := by intro q hq hb; have hq0 := ho77.lt q hb; rcases hob86 with h | h; (rw [h] at hq; first | (have hq1 := hf37.lt q hq; omega)); (rw [h] at hq; cases hq; omega)
   refine wl_val ha87 rfl rfl rfl (op_assign ha87 rfl rfl) ?_
   intro a90 ha90; clear ha87 a87
   refine wpList_nil ?_
   refine then_n ?_
   refine wp_region_lit ?_
   refine wl_val ha90 rfl rfl rfl (op_move ha90 rfl rfl) ?_
   intro a91 ha91; clear ha90 a90
   refine wl_val ha91 rfl rfl rfl ((op_add ha91 rfl rfl rfl).int (IntWalk.i64_in _ (by omega))) ?_
   intro a92 ha92; clear ha91 a91
   refine wl_val ha92 rfl rfl rfl (op_move ha92 rfl rfl) ?_
   intro a93 ha93; clear ha92 a92
   refine wl_val ha93 rfl rfl rfl (op_move ha93 rfl rfl) ?_
   intro a94 ha94; clear ha93 a93
   refine wl_callS ha94 rfl rfl rfl (op_call ha94 rfl cb62 rfl) (c_spec_l01Next _ g_s b_s (3 : Int) hS57) ?_
   rintro v95 w96 he97 ⟨hS98, ⟨q99, hq100, hq101, hq102, rfl⟩⟩ a103 ha103; clear ha94 a94
   have hx104 := hx88.trans' he97
   have hzhx104 := he97.size
   first | replace ho48 := ho48.stp he97 (by intro q hq; cases hq; omega) | replace ho48 := ho48.stpF flat_shStr he97 (by intro q hq; cases hq; exact ho48.ne_box (by assumption) rfl)
   first | replace ho77 := ho77.stp he97 (by intro q hq; cases hq; omega) | replace ho77 := ho77.stpF flat_shRec he97 (by intro q hq; cases hq; exact ho77.ne_box (by assumption) rfl)
   first | replace ho84 := ho84.stp he97 (by intro q hq; cases hq; omega) | replace ho84 := ho84.stpF flat_shRec he97 (by intro q hq; cases hq; exact ho84.ne_box (by assumption) rfl)
   clear hS57
   have hSlhS98 := hS98.lt
   refine wl_eff ha103 rfl rfl rfl (op_buildSlice (s := shI64) (xs := [(0 : Int), (0 : Int), (q99 : Int)]) (cs := [.int .i64 (0 : Int), .int .i64 (0 : Int), .int .i64 (q99 : Int)]) (vs := [(0, .int .i64 (0 : Int)), (1, .int .i64 (0 : Int)), (2, .int .i64 (q99 : Int))]) (S := fun _ => False) (le := w96.heap.size) ha103 rfl pos_shI64 Try.underlying44 ti2 rfl rfl (by decide) (by kernel_rfl) ⟨mk_shI64 ((0 : Int)) (by first | assumption | omega | (constructor <;> omega) | (dsimp only; omega) | (simp; done) | (simp; omega)), mk_shI64 ((0 : Int)) (by first | assumption | omega | (constructor <;> omega) | (dsimp only; omega) | (simp; done) | (simp; omega)), mk_shI64 ((q99 : Int)) (by first | assumption | omega | (constructor <;> omega) | (dsimp only; omega) | (simp; done) | (simp; omega)), rfl⟩ (fun _ h => h.elim)) ?_
   rintro v105 w106 ⟨ho107, he108, hob109⟩ a110 ha110; clear ha103 a103
   have hx111 := hx104.trans' (Stp.of_ext he108 _)
   have hzhx111 := he108.size
   replace ho48 := ho48.ext he108
   replace ho77 := ho77.ext he108
   replace ho84 := ho84.ext he108
   replace hS98 := hS98.ext he108
   refine wl_callS ha110 rfl rfl rfl (op_call ha110 rfl cb65 rfl) (c_spec_l01Pick _ g_s b_s v105 ([(0 : Int), (0 : Int), (q99 : Int)]) hS98 (ho107.rds pos_shI64) (by rintro ⟨_, _⟩; omega) (by first | assumption | omega | (constructor <;> omega) | (dsimp only; omega) | (simp; done) | (simp; omega))) ?_
   rintro v112 w113 he114 ⟨hS115, ⟨q116, hq117, rfl⟩⟩ a118 ha118; clear ha110 a110
   have hx119 := hx111.trans' he114
   have hzhx119 := he114.size
   first | replace ho48 := ho48.stp he114 (by intro q hq; cases hq; omega) | replace ho48 := ho48.stpF flat_shStr he114 (by intro q hq; cases hq; exact ho48.ne_box (by assumption) rfl)
   first | replace ho77 := ho77.stp he114 (by intro q hq; cases hq; omega) | replace ho77 := ho77.stpF flat_shRec he114 (by intro q hq; cases hq; exact ho77.ne_box (by assumption) rfl)
   first | replace ho84 := ho84.stp he114 (by intro q hq; cases hq; omega) | replace ho84 := ho84.stpF flat_shRec he114 (by intro q hq; cases hq; exact ho84.ne_box (by assumption) rfl)
   first | replace ho107 := ho107.stp he114 (by intro q hq; cases hq; omega) | replace ho107 := ho107.stpF flat_shI64 he114 (by intro q hq; cases hq; exact ho107.ne_box (by assumption) rfl)
   clear hS98
   have hSlhS115 := hS115.lt
   simp only [List.mem_cons, List.not_mem_nil, or_false] at hq117
   refine wl_val ha118 rfl rfl rfl ((op_add ha118 rfl rfl rfl).int (IntWalk.i64_in _ (by omega))) ?_
   intro a120 ha120; clear ha118 a118
   refine wl_val ha120 rfl rfl rfl (op_assign ha120 rfl rfl) ?_
   intro a121 ha121; clear ha120 a120
   refine wpList_nil ?_
   refine block_n ?_
   refine then_n ?_
   refine wp_region_lit ?_
   refine wl_val ha121 rfl rfl rfl (op_move ha121 rfl rfl) ?_
   intro a122 ha122; clear ha121 a121
   refine wl_val ha122 rfl rfl rfl ((op_sub ha122 rfl rfl rfl).int (IntWalk.i64_in _ (by omega))) ?_
   intro a123 ha123; clear ha122 a122
   refine wl_val ha123 rfl rfl rfl (op_assign ha123 rfl rfl) ?_
   intro a124 ha124; clear ha123 a123
   refine wpList_nil ?_
   refine round_end (x := (m, n, v, xs)) ((m - (1 : Int)), ((n + (1 : Int)) + (q116 : Int)), v82, (xs ++ [(n, x64)])) ?_ ?_
   ·
    refine ⟨(Sl.cons_ ha124 rfl rfl (Sl.cons_ ha124 rfl rfl (Sl.cons_ ha124 rfl (int_eq (by omega)) (Sl.cons_ ha124 rfl (int_eq (by omega)) (Sl.nil_ ha124))))), hx119, hS115, (ho84.fin (by omega) (by omega) (by omega)), (by omega), (by omega), (by first | omega | (simp; omega)), (by omega), (by omega), (by intro r hr; rcases List.mem_append.1 hr with hr | hr; (exact hR r hr); (obtain rfl := List.mem_singleton.1 hr; exact rec_of (by omega) (by omega) hlax64 hlbx64))⟩
   ·show (((m - (1 : Int))).toNat : Nat) < m.toNat; omega
  ·
   rw [decide_eq_false c43] at ha42
   refine cond_f ha42 rfl ?_
   refine wp_exit ?_
   refine then_e ?_
   refine then_e ?_
   refine block_hit ?_
   refine then_n ?_
   refine wp_seq ?_
   refine wp_region_lit ?_
   refine wl_val ha42 rfl rfl rfl (op_move ha42 rfl rfl) ?_
   intro a125 ha125; clear ha42 a42
   refine wl_val ha125 rfl rfl rfl (op_assign ha125 rfl rfl) ?_
   intro a126 ha126; clear ha125 a125
   refine wpList_nil ?_
   refine then_n ?_
   refine wp_ret ?_
   refine ret1 ha126 rfl rfl ?_
   clear ha126 a126
   refine ret_mkS hx35 ⟨hf36, ?_⟩
   refine ⟨((xs) : List (Int × Str)), (by omega), (by exact hR), ?_⟩
   refine (hf37.fin (by omega) (by omega) (by omega)).cast ?_
   rfl

set_option maxHeartbeats 8000000 in
theorem c_spec_l32Draw (w0 : World) (g_s b_s : Nat) (h_s : Src w0 g_s b_s 88) :
  Calls Try.prog 58 #[.pointer (some (⟨g_s, 0, none⟩ : Addr))] w0 (RetS w0 (some g_s) (fun v w1 => Src w1 g_s b_s 88 ∧ (fun v w1 => ∃ (l : List (Int × Str)), (l.length ≤ 31) ∧ (fun v w1 => Own shRec 36 w0.heap.size w0.heap.size w1.heap.size w1 v (l)) v w1) v w1)) := by
 refine enter (N := 39) Try.func58 rfl rfl rfl ?_
 intro a0 ha0
 have hx0 := Stp.rfl' w0 (some g_s)
 have hgl_s := h_s.lt
 refine wp_seq ?_
 refine wp_region_lit ?_
 refine wl_val ha0 rfl rfl rfl (op_assign ha0 rfl rfl) ?_
 intro a1 ha1; clear ha0 a0
 refine wpList_nil ?_
 refine then_n ?_
 refine wp_seq ?_
 refine wp_region_lit ?_
 refine wl_val ha1 rfl rfl rfl (op_move ha1 rfl rfl) ?_
 intro a2 ha2; clear ha1 a1
 refine wl_callS ha2 rfl rfl rfl (op_call ha2 rfl cb61 rfl) (c_spec_l32Good _ g_s b_s h_s) ?_
 rintro v3 w4 he5 ⟨hS6, ⟨q7, hq8, hq9, ho10⟩⟩ a11 ha11; clear ha2 a2
 have hx12 := hx0.trans' he5
 have hzhx12 := he5.size
 have hSlhS6 := hS6.lt
 have hfl := fileS_len hq9
 refine wl_val ha11 rfl rfl rfl (op_assign ha11 rfl rfl) ?_
 intro a13 ha13; clear ha11 a11
 refine wpList_nil ?_
 refine then_n ?_
 refine wp_seq ?_
 refine wp_seq ?_
 refine wp_region_lit ?_
 refine wl_val ha13 rfl rfl rfl (op_move ha13 rfl rfl) ?_
 intro a14 ha14; clear ha13 a13
 refine wl_callS ha14 rfl rfl rfl (op_call ha14 rfl cb62 rfl) (c_spec_l01Next _ g_s b_s (30 : Int) hS6) ?_
 rintro v15 w16 he17 ⟨hS18, ⟨q19, hq20, hq21, hq22, rfl⟩⟩ a23 ha23; clear ha14 a14
 have hx24 := hx12.trans' he17
 have hzhx24 := he17.size
 first | replace ho10 := ho10.stp he17 (by intro q hq; cases hq; omega) | replace ho10 := ho10.stpF flat_shRec he17 (by intro q hq; cases hq; exact ho10.ne_box (by assumption) rfl)
 clear hS6
 have hSlhS18 := hS18.lt
 refine wpList_nil ?_
 refine then_n ?_
 refine wp_block ?_
 refine wp_seq ?_
 refine wp_region_lit ?_
 refine wl_val ha23 rfl rfl rfl (op_eql ha23 rfl rfl rfl) ?_
 intro a25 ha25; clear ha23 a23
 refine wl_val ha25 rfl rfl rfl (op_assign ha25 rfl rfl) ?_
 intro a26 ha26; clear ha25 a25
 refine wpList_nil ?_
 refine then_n ?_
 by_cases c27 : (q19 : Int) = (0 : Int)
 ·
  rw [decide_eq_true c27] at ha26
  refine cond_t ha26 rfl ?_
  refine wp_region_lit ?_
  refine wl_val ha26 rfl rfl rfl (op_move ha26 rfl rfl) ?_
  intro a28 ha28; clear ha26 a26
  refine wl_val ha28 rfl rfl rfl (op_move ha28 rfl rfl) ?_
  intro a29 ha29; clear ha28 a28
  refine wl_eff ha29 rfl rfl rfl (op_buildSlice (s := shI64) (xs := [(0 : Int), (9999 : Int), (10000 : Int)]) (cs := [.int .i64 (0 : Int), .int .i64 (9999 : Int), .int .i64 (10000 : Int)]) (vs := [(0, .int .i64 (0 : Int)), (1, .int .i64 (9999 : Int)), (2, .int .i64 (10000 : Int))]) (S := fun _ => False) (le := w16.heap.size) ha29 rfl pos_shI64 Try.underlying44 ti2 rfl rfl (by decide) (by kernel_rfl) ⟨mk_shI64 ((0 : Int)) (by first | assumption | omega | (constructor <;> omega) | (dsimp only; omega) | (simp; done) | (simp; omega)), mk_shI64 ((9999 : Int)) (by first | assumption | omega | (constructor <;> omega) | (dsimp only; omega) | (simp; done) | (simp; omega)), mk_shI64 ((10000 : Int)) (by first | assumption | omega | (constructor <;> omega) | (dsimp only; omega) | (simp; done) | (simp; omega)), rfl⟩ (fun _ h => h.elim)) ?_
  rintro v30 w31 ⟨ho32, he33, hob34⟩ a35 ha35; clear ha29 a29
  have hx36 := hx24.trans' (Stp.of_ext he33 _)
  have hzhx36 := he33.size
  replace ho10 := ho10.ext he33
  replace hS18 := hS18.ext he33
  refine wl_callS ha35 rfl rfl rfl (op_call ha35 rfl cb65 rfl) (c_spec_l01Pick _ g_s b_s v30 ([(0 : Int), (9999 : Int), (10000 : Int)]) hS18 (ho32.rds pos_shI64) (by rintro ⟨_, _⟩; omega) (by first | assumption | omega | (constructor <;> omega) | (dsimp only; omega) | (simp; done) | (simp; omega))) ?_
  rintro v37 w38 he39 ⟨hS40, ⟨q41, hq42, rfl⟩⟩ a43 ha43; clear ha35 a35
  have hx44 := hx36.trans' he39
  have hzhx44 := he39.size
  first | replace ho10 := ho10.stp he39 (by intro q hq; cases hq; omega) | replace ho10 := ho10.stpF flat_shRec he39 (by intro q hq; cases hq; exact ho10.ne_box (by assumption) rfl)
  first | replace ho32 := ho32.stp he39 (by intro q hq; cases hq; omega) | replace ho32 := ho32.stpF flat_shI64 he39 (by intro q hq; cases hq; exact ho32.ne_box (by assumption) rfl)
  clear hS18
  have hSlhS40 := hS40.lt
  simp only [List.mem_cons, List.not_mem_nil, or_false] at hq42
  refine wl_eff ha43 rfl rfl rfl (op_buildSlice (s := shStr) (xs := [([65] : Str), ([97, 35] : Str), ([48, 49, 50, 51, 52, 53, 54, 55, 56, 57, 48, 49, 50, 51, 52, 53, 54, 55, 56, 57] : Str), ([48, 49, 50, 51, 52, 53, 54, 55, 56, 57, 48, 49, 50, 51, 52, 53, 54, 55, 56, 57, 48] : Str)]) (cs := [St (([65] : Str)), St (([97, 35] : Str)), St (([48, 49, 50, 51, 52, 53, 54, 55, 56, 57, 48, 49, 50, 51, 52, 53, 54, 55, 56, 57] : Str)), St (([48, 49, 50, 51, 52, 53, 54, 55, 56, 57, 48, 49, 50, 51, 52, 53, 54, 55, 56, 57, 48] : Str))]) (vs := [(0, St (([65] : Str))), (1, St (([97, 35] : Str))), (2, St (([48, 49, 50, 51, 52, 53, 54, 55, 56, 57, 48, 49, 50, 51, 52, 53, 54, 55, 56, 57] : Str))), (3, St (([48, 49, 50, 51, 52, 53, 54, 55, 56, 57, 48, 49, 50, 51, 52, 53, 54, 55, 56, 57, 48] : Str)))]) (S := fun _ => False) (le := w38.heap.size) ha43 rfl pos_shStr Try.underlying82 ti9 rfl rfl (by decide) (by kernel_rfl) ⟨mk_shStr (([65] : Str)) (by first | assumption | omega | (constructor <;> omega) | (dsimp only; omega) | (simp; done) | (simp; omega)), mk_shStr (([97, 35] : Str)) (by first | assumption | omega | (constructor <;> omega) | (dsimp only; omega) | (simp; done) | (simp; omega)), mk_shStr (([48, 49, 50, 51, 52, 53, 54, 55, 56, 57, 48, 49, 50, 51, 52, 53, 54, 55, 56, 57] : Str)) (by first | assumption | omega | (constructor <;> omega) | (dsimp only; omega) | (simp; done) | (simp; omega)), mk_shStr (([48, 49, 50, 51, 52, 53, 54, 55, 56, 57, 48, 49, 50, 51, 52, 53, 54, 55, 56, 57, 48] : Str)) (by first | assumption | omega | (constructor <;> omega) | (dsimp only; omega) | (simp; done) | (simp; omega)), rfl⟩ (fun _ h => h.elim)) ?_
  rintro v45 w46 ⟨ho47, he48, hob49⟩ a50 ha50; clear ha43 a43
  have hx51 := hx44.trans' (Stp.of_ext he48 _)
  have hzhx51 := he48.size
  replace ho10 := ho10.ext he48
  replace ho32 := ho32.ext he48
  replace hS40 := hS40.ext he48
  refine wl_val ha50 rfl rfl rfl (op_move ha50 rfl rfl) ?_
  intro a52 ha52; clear ha50 a50
  refine wl_callS ha52 rfl rfl rfl (op_call ha52 rfl cb62 rfl) (c_spec_l01Next _ g_s b_s (4 : Int) hS40) ?_
  rintro v53 w54 he55 ⟨hS56, ⟨q57, hq58, hq59, hq60, rfl⟩⟩ a61 ha61; clear ha52 a52
  have hx62 := hx51.trans' he55
  have hzhx62 := he55.size
  first | replace ho10 := ho10.stp he55 (by intro q hq; cases hq; omega) | replace ho10 := ho10.stpF flat_shRec he55 (by intro q hq; cases hq; exact ho10.ne_box (by assumption) rfl)
  first | replace ho32 := ho32.stp he55 (by intro q hq; cases hq; omega) | replace ho32 := ho32.stpF flat_shI64 he55 (by intro q hq; cases hq; exact ho32.ne_box (by assumption) rfl)
  first | replace ho47 := ho47.stp he55 (by intro q hq; cases hq; omega) | replace ho47 := ho47.stpF flat_shStr he55 (by intro q hq; cases hq; exact ho47.ne_box (by assumption) rfl)
  clear hS40
  have hSlhS56 := hS56.lt
  obtain ⟨x63, hx63⟩ := get_ex (xs := [([65] : Str), ([97, 35] : Str), ([48, 49, 50, 51, 52, 53, 54, 55, 56, 57, 48, 49, 50, 51, 52, 53, 54, 55, 56, 57] : Str), ([48, 49, 50, 51, 52, 53, 54, 55, 56, 57, 48, 49, 50, 51, 52, 53, 54, 55, 56, 57, 48] : Str)]) (j := ((q57 : Int)).toNat) (by first | omega | (simp only [List.length_cons, List.length_nil]; omega))
  obtain ⟨p64, c65, hi66, hc67, hr68, hs69⟩ := Rds.at_ (ho47.rds pos_shStr) hx63
  obtain ⟨rfl, b70⟩ := inv_shStr hr68
  obtain ⟨_, _⟩ : _ ∧ _ := hs69
  have hdlx63 := el_len 21 (by rfl) hx63
  refine wl_val ha61 rfl rfl rfl (op_indexAddr ha61 rfl Try.underlying82 ti9 rfl rfl (by omega) hi66) ?_
  intro a71 ha71; clear ha61 a61
  refine wl_val ha71 rfl rfl rfl (op_loadH ha71 rfl Try.underlying9 rfl rfl hc67 rfl) ?_
  intro a72 ha72; clear ha71 a71
  refine wl_val ha72 rfl rfl rfl (op_build (vs := [(0, .int .i64 (q41 : Int)), (1, St x63)]) (cs := #[.int .i64 (q41 : Int), St x63]) ha72 rfl Try.underlying36 ti36 bp36 rfl rfl) ?_
  intro a73 ha73; clear ha72 a72
  refine wl_eff ha73 rfl rfl rfl (op_buildSlice (s := shRec) (xs := [((q41 : Int), x63)]) (cs := [.int .i64 (q41 : Int), St x63]) (vs := [(0, .agg #[.int .i64 (q41 : Int), St x63])]) (S := fun _ => False) (le := w54.heap.size) ha73 rfl pos_shRec Try.underlying25 ti36 rfl rfl (by decide) (by kernel_rfl) (Els.single (mk_shRec (((q41 : Int), x63)) (by first | assumption | omega | (constructor <;> omega) | (dsimp only; omega) | (simp; done) | (simp; omega)) (by first | assumption | omega | (constructor <;> omega) | (dsimp only; omega) | (simp; done) | (simp; omega)))) (fun _ h => h.elim)) ?_
  rintro v74 w75 ⟨ho76, he77, hob78⟩ a79 ha79; clear ha73 a73
  have hx80 := hx62.trans' (Stp.of_ext he77 _)
  have hzhx80 := he77.size
  replace ho10 := ho10.ext he77
  replace ho32 := ho32.ext he77
  replace ho47 := ho47.ext he77
  replace hS56 := hS56.ext he77
  replace hc67 := hc67.ext he77
  refine wl_eff ha79 rfl rfl rfl (op_append (ts := #[]) (s := shRec) ha79 rfl Try.underlying25 ti36 rfl pos_shRec rfl rfl ho10 (ho76.rds pos_shRec) (by omega) (by omega) (by first | omega | (simp; omega)) (by first | omega | (simp; omega)) (.inl flat_shRec)) ?_
  rintro v81 w82 ⟨ho83, hst84, hob85⟩ a86 ha86; clear ha79 a79
  have hx87 := hx80.fresh hst84 (by intro q hq; have hq0 := ho10.lt q hq; omega)
  have hzhx87 := hst84.size
  replace ho32 := ho32.stp hst84 (by intro q hq; have hq0 := ho10.lt q hq; omega)
  replace ho47 := ho47.stp hst84 (by intro q hq; have hq0 := ho10.lt q hq; omega)
  replace hS56 := hS56.stp hst84 (by intro q hq; have hq0 := ho10.lt q hq; omega)
  replace ho76 := ho76.stp hst84 (by intro q hq; have hq0 := ho10.lt q hq; omega)
  have hsp88 : ∀ q, Value.ownBlock v81 = some q → Value.ownBlock v74 ≠ some q := by intro q hq hb; have hq0 := ho76.lt q hb; rcases hob85 with h | h; (rw [h] at hq; first | (have hq1 := ho10.lt q hq; omega)); (rw [h] at hq; cases hq; omega)
  refine wl_val ha86 rfl rfl rfl (op_assign ha86 rfl rfl) ?_
  intro a89 ha89; clear ha86 a86
  refine wpList_nil ?_
  refine block_n ?_
  refine then_n ?_
  refine wp_seq ?_
  refine wp_region_lit ?_
  refine wl_val ha89 rfl rfl rfl (op_move ha89 rfl rfl) ?_
  intro a90 ha90; clear ha89 a89
  refine wl_val ha90 rfl rfl rfl (op_assign ha90 rfl rfl) ?_
  intro a91 ha91; clear ha90 a90
  refine wpList_nil ?_
  refine then_n ?_
  refine wp_ret ?_
  refine ret1 ha91 rfl rfl ?_
  clear ha91 a91
  refine ret_mkS hx87 ⟨hS56, ?_⟩
  refine ⟨((((q7) ++ [((q41 : Int), x63)])) : List (Int × Str)), (by first | omega | (simp; done) | (simp; omega)), ?_⟩
  refine (ho83.fin (by omega) (by omega) (by omega)).cast ?_
  rfl
 ·
  rw [decide_eq_false c27] at ha26
  refine cond_f ha26 rfl ?_
  refine wp_seq ?_
  refine wp_region_lit ?_
  refine wl_val ha26 rfl rfl rfl (op_eql ha26 rfl rfl rfl) ?_
  intro a92 ha92; clear ha26 a26
  refine wl_val ha92 rfl rfl rfl (op_assign ha92 rfl rfl) ?_
  intro a93 ha93; clear ha92 a92
  refine wpList_nil ?_
  refine then_n ?_
  by_cases c94 : (q19 : Int) = (1 : Int)
  ·
   rw [decide_eq_true c94] at ha93
   refine cond_t ha93 rfl ?_
   refine wp_seq ?_
   refine wp_region_lit ?_
   refine wl_val ha93 rfl rfl rfl (op_assign ha93 rfl rfl) ?_
   intro a95 ha95; clear ha93 a93
   refine wpList_nil ?_
   refine then_n ?_
   refine wp_block ?_
   refine loop_inv (X := Nat × Value × (List (Int × Str))) (fun (⟨n, v, xs⟩ : Nat × Value × (List (Int × Str))) fr wl => Sl 39 fr [(0, .pointer (some (⟨g_s, 0, none⟩ : Addr))), (3, v), (4, .int .i64 (100 + (n : Int)))] ∧ Stp w0 wl (some g_s) ∧ Src wl g_s b_s 88 ∧ Own shRec 36 w0.heap.size w0.heap.size wl.heap.size wl v xs ∧ w16.heap.size ≤ wl.heap.size ∧ (xs.length ≤ 31) ∧ (n ≤ xs.length)) (fun (⟨n, v, xs⟩ : Nat × Value × (List (Int × Str))) => 31 - xs.length) (0, v3, (q7)) ?_ ?_
   ·
    exact ⟨(Sl.cons_ ha95 rfl rfl (Sl.cons_ ha95 rfl rfl (Sl.cons_ ha95 rfl (int_eq (by omega)) (Sl.nil_ ha95)))), hx24, hS18, (ho10.fin (by omega) (by omega) (by omega)), (by omega), (by omega), (by omega)⟩
   ·
    clear ha95 a95
    rintro ⟨n, v, xs⟩ a100 w96 ⟨ha100, hx97, hf98, hf99, hzl101, hl, hn⟩
    have hzhx97 := hx97.size
    have hgl102 := hf98.lt
    refine wp_seq ?_
    refine wp_seq ?_
    refine wp_region_lit ?_
    refine wl_val ha100 rfl rfl rfl (op_move ha100 rfl rfl) ?_
    intro a103 ha103; clear ha100 a100
    refine wl_val ha103 rfl rfl rfl (op_len_sl ha103 rfl Try.underlying25 rfl (hf99.rds pos_shRec)) ?_
    intro a104 ha104; clear ha103 a103
    refine wl_val ha104 rfl rfl rfl (op_move ha104 rfl rfl) ?_
    intro a105 ha105; clear ha104 a104
    refine wl_callS ha105 rfl rfl rfl (op_call ha105 rfl cb62 rfl) (c_spec_l01Next _ g_s b_s (2 : Int) hf98) ?_
    rintro v106 w107 he108 ⟨hS109, ⟨q110, hq111, hq112, hq113, rfl⟩⟩ a114 ha114; clear ha105 a105
    have hx115 := hx97.trans' he108
    have hzhx115 := he108.size
    first | replace hf99 := hf99.stp he108 (by intro q hq; cases hq; omega) | replace hf99 := hf99.stpF flat_shRec he108 (by intro q hq; cases hq; exact hf99.ne_box (by assumption) rfl)
    clear hf98
    have hSlhS109 := hS109.lt
    refine wl_val ha114 rfl rfl rfl ((op_add ha114 rfl rfl rfl).int (IntWalk.i64_in _ (by omega))) ?_
    intro a116 ha116; clear ha114 a114
    refine wl_val ha116 rfl rfl rfl (op_lss ha116 rfl rfl rfl) ?_
    intro a117 ha117; clear ha116 a116
    refine wpList_nil ?_
    refine then_n ?_
    by_cases c118 : ((xs.length : Nat) : Int) < ((30 : Int) + (q110 : Int))
    ·
     rw [decide_eq_true c118] at ha117
     refine cond_t ha117 rfl ?_
     refine wp_skip ?_
     refine then_n ?_
     refine wp_seq ?_
     refine wp_block ?_
     refine wp_region_lit ?_
     refine wl_val ha117 rfl rfl rfl (op_move ha117 rfl rfl) ?_
     intro a119 ha119; clear ha117 a117
     refine wl_val ha119 rfl rfl rfl (op_move ha119 rfl rfl) ?_
     intro a120 ha120; clear ha119 a119
     refine wl_val ha120 rfl rfl rfl (op_build (vs := [(0, .int .i64 (100 + (n : Int))), (1, St (([120] : Str)))]) (cs := #[.int .i64 (100 + (n : Int)), St (([120] : Str))]) ha120 rfl Try.underlying36 ti36 bp36 rfl rfl) ?_
     intro a121 ha121; clear ha120 a120
     refine wl_eff ha121 rfl rfl rfl (op_buildSlice (s := shRec) (xs := [((100 + (n : Int)), ([120] : Str))]) (cs := [.int .i64 (100 + (n : Int)), St (([120] : Str))]) (vs := [(0, .agg #[.int .i64 (100 + (n : Int)), St (([120] : Str))])]) (S := fun _ => False) (le := w107.heap.size) ha121 rfl pos_shRec Try.underlying25 ti36 rfl rfl (by decide) (by kernel_rfl) (Els.single (mk_shRec (((100 + (n : Int)), ([120] : Str))) (by first | assumption | omega | (constructor <;> omega) | (dsimp only; omega) | (simp; done) | (simp; omega)) (by first | assumption | omega | (constructor <;> omega) | (dsimp only; omega) | (simp; done) | (simp; omega)))) (fun _ h => h.elim)) ?_
     rintro v122 w123 ⟨ho124, he125, hob126⟩ a127 ha127; clear ha121 a121
     have hx128 := hx115.trans' (Stp.of_ext he125 _)
     have hzhx128 := he125.size
     replace hf99 := hf99.ext he125
     replace hS109 := hS109.ext he125
     refine wl_eff ha127 rfl rfl rfl (op_append (ts := #[]) (s := shRec) ha127 rfl Try.underlying25 ti36 rfl pos_shRec rfl rfl hf99 (ho124.rds pos_shRec) (by omega) (by omega) (by first | omega | (simp; omega)) (by first | omega | (simp; omega)) (.inl flat_shRec)) ?_
     rintro v129 w130 ⟨ho131, hst132, hob133⟩ a134 ha134; clear ha127 a127
     have hx135 := hx128.fresh hst132 (by intro q hq; have hq0 := hf99.lt q hq; omega)
     have hzhx135 := hst132.size
     replace hS109 := hS109.stp hst132 (by intro q hq; have hq0 := hf99.lt q hq; omega)
     replace ho124 := ho124.stp hst132 (by intro q hq; have hq0 := hf99.lt q hq; omega)
     have hsp136 : ∀ q, Value.ownBlock v129 = some q → Value.ownBlock v122 ≠ some q := by intro q hq hb; have hq0 := ho124.lt q hb; rcases hob133 with h | h; (rw [h] at hq; first | (have hq1 := hf99.lt q hq; omega)); (rw [h] at hq; cases hq; omega)
     refine wl_val ha134 rfl rfl rfl (op_assign ha134 rfl rfl) ?_
     intro a137 ha137; clear ha134 a134
     refine wpList_nil ?_
     refine block_n ?_
     refine then_n ?_
     refine wp_region_lit ?_
     refine wl_val ha137 rfl rfl rfl (op_move ha137 rfl rfl) ?_
     intro a138 ha138; clear ha137 a137
     refine wl_val ha138 rfl rfl rfl ((op_add ha138 rfl rfl rfl).int (IntWalk.i64_in _ (by omega))) ?_
     intro a139 ha139; clear ha138 a138
     refine wl_val ha139 rfl rfl rfl (op_assign ha139 rfl rfl) ?_
     intro a140 ha140; clear ha139 a139
     refine wpList_nil ?_
     refine round_end (x := (n, v, xs)) (n + 1, v129, (xs ++ [((100 + (n : Int)), ([120] : Str))])) ?_ ?_
     ·
      refine ⟨(Sl.cons_ ha140 rfl rfl (Sl.cons_ ha140 rfl rfl (Sl.cons_ ha140 rfl (int_eq (by omega)) (Sl.nil_ ha140)))), hx135, hS109, (ho131.fin (by omega) (by omega) (by omega)), (by omega), (by first | omega | (simp; omega)), (by first | omega | (simp; omega))⟩
     ·show (31 - ((xs ++ [((100 + (n : Int)), ([120] : Str))])).length : Nat) < 31 - xs.length; simp only [List.length_append, List.length_cons, List.length_nil]; omega
    ·
     rw [decide_eq_false c118] at ha117
     refine cond_f ha117 rfl ?_
     refine wp_exit ?_
     refine then_e ?_
     refine then_e ?_
     refine block_hit ?_
     refine block_n ?_
     refine then_n ?_
     refine wp_seq ?_
     refine wp_region_lit ?_
     refine wl_val ha117 rfl rfl rfl (op_move ha117 rfl rfl) ?_
     intro a141 ha141; clear ha117 a117
     refine wl_val ha141 rfl rfl rfl (op_assign ha141 rfl rfl) ?_
     intro a142 ha142; clear ha141 a141
     refine wpList_nil ?_
     refine then_n ?_
     refine wp_ret ?_
     refine ret1 ha142 rfl rfl ?_
     clear ha142 a142
     refine ret_mkS hx115 ⟨hS109, ?_⟩
     refine ⟨((xs) : List (Int × Str)), (by first | omega | (simp; done) | (simp; omega)), ?_⟩
     refine (hf99.fin (by omega) (by omega) (by omega)).cast ?_
     rfl
  ·
   rw [decide_eq_false c94] at ha93
   refine cond_f ha93 rfl ?_
   refine wp_skip ?_
   refine block_n ?_
   refine then_n ?_
   refine wp_seq ?_
   refine wp_region_lit ?_
   refine wl_val ha93 rfl rfl rfl (op_move ha93 rfl rfl) ?_
   intro a143 ha143; clear ha93 a93
   refine wl_val ha143 rfl rfl rfl (op_assign ha143 rfl rfl) ?_
   intro a144 ha144; clear ha143 a143
   refine wpList_nil ?_
   refine then_n ?_
   refine wp_ret ?_
   refine ret1 ha144 rfl rfl ?_
   clear ha144 a144
   refine ret_mkS hx24 ⟨hS18, ?_⟩
   refine ⟨(((q7)) : List (Int × Str)), (by first | omega | (simp; done) | (simp; omega)), ?_⟩
   refine (ho10.fin (by omega) (by omega) (by omega)).cast ?_
   rfl

set_option maxHeartbeats 8000000 in
theorem c_spec_DrawFileText (w0 : World) (v_code : Value) (code : List UInt8) {S_code : Nat → Prop} (h_code : Rds shU8 S_code w0 v_code code) :
  Calls Try.prog 40 #[v_code] w0 (Ret w0 (fun v w1 => ∃ (l : List (Int × Str)), (l.length ≤ 31) ∧ (fun v w1 => Own shRec 36 w0.heap.size w0.heap.size w1.heap.size w1 v (l)) v w1)) := by
 refine enter (N := 6) Try.func40 rfl rfl rfl ?_
 intro a0 ha0
 have hx0 := Ext.rfl' w0
 have hl_code := h_code.length_le
 refine wp_seq ?_
 refine wp_region_lit ?_
 refine wl_val ha0 rfl rfl rfl (op_assign ha0 rfl rfl) ?_
 intro a1 ha1; clear ha0 a0
 refine wpList_nil ?_
 refine then_n ?_
 refine wp_seq ?_
 refine wp_region_lit ?_
 refine wl_val ha1 rfl rfl rfl (op_move ha1 rfl rfl) ?_
 intro a2 ha2; clear ha1 a1
 refine wl_callR ha2 rfl rfl rfl (op_call ha2 rfl cb59 rfl) (c_spec_l01From _ v_code code (h_code.low pos_shU8 hx0 (Nat.le_refl _)) (by omega)) ?_
 rintro v3 w4 he5 ⟨g6, rfl, hg7, hS8⟩ a9 ha9; clear ha2 a2
 have hx10 := hx0.trans' he5
 have hzhx10 := he5.size
 have hSlhS8 := hS8.lt
 refine wl_callS ha9 rfl rfl rfl (op_call ha9 rfl cb58 rfl) (c_spec_l32Draw _ g6 w0.heap.size hS8) ?_
 rintro v11 w12 he13 ⟨hS14, ⟨q15, hq16, ho17⟩⟩ a18 ha18; clear ha9 a9
 have hx19 := hx10.stp he13 (by intro q hq; cases hq; exact (by omega))
 have hzhx19 := he13.size
 clear hS8
 have hSlhS14 := hS14.lt
 refine wl_val ha18 rfl rfl rfl (op_assign ha18 rfl rfl) ?_
 intro a20 ha20; clear ha18 a18
 refine wpList_nil ?_
 refine then_n ?_
 refine wp_ret ?_
 refine ret1 ha20 rfl rfl ?_
 clear ha20 a20
 refine ret_mk hx19 ?_
 refine ⟨(((q15)) : List (Int × Str)), (by omega), ?_⟩
 refine (ho17.fin (by omega) (by omega) (by omega)).cast ?_
 rfl

set_option maxHeartbeats 8000000 in
theorem c_spec_DrawReplaceRecord (w0 : World) (v_code : Value) (code : List UInt8) {S_code : Nat → Prop} (h_code : Rds shU8 S_code w0 v_code code) :
  Calls Try.prog 47 #[v_code] w0 (Ret w0 (fun v w1 => ∃ (l : List (Int × Str)) (r : Int × Str), (l.length ≤ 31) ∧ (I64 r.1) ∧ (r.2.length ≤ 21) ∧ (fun v w1 => ∃ r0, v = .tuple #[r0, .agg #[.int .i64 ((r)).1, St (((r)).2)]] ∧ Own shRec 36 w0.heap.size w0.heap.size w1.heap.size w1 r0 (l)) v w1)) := by
 refine enter (N := 22) Try.func47 rfl rfl rfl ?_
 intro a0 ha0
 have hx0 := Ext.rfl' w0
 have hl_code := h_code.length_le
 refine wp_seq ?_
 refine wp_region_lit ?_
 refine wl_val ha0 rfl rfl rfl (op_assign ha0 rfl rfl) ?_
 intro a1 ha1; clear ha0 a0
 refine wl_eff ha1 rfl rfl rfl (op_alloc' rfl ti36 rfl) ?_
 rintro _ w3 ⟨rfl, he4, hb5, hz6⟩ a7 ha7; clear ha1 a1
 have hx8 := hx0.trans' he4
 have hzhx8 := he4.size
 refine wpList_nil ?_
 refine then_n ?_
 refine wp_seq ?_
 refine wp_region_lit ?_
 refine wl_val ha7 rfl rfl rfl (op_move ha7 rfl rfl) ?_
 intro a9 ha9; clear ha7 a7
 refine wl_callR ha9 rfl rfl rfl (op_call ha9 rfl cb59 rfl) (c_spec_l01From _ v_code code (h_code.low pos_shU8 hx8 (Nat.le_refl _)) (by omega)) ?_
 rintro v10 w11 he12 ⟨g13, rfl, hg14, hS15⟩ a16 ha16; clear ha9 a9
 have hx17 := hx8.trans' he12
 have hzhx17 := he12.size
 replace hb5 := hb5.ext he12
 have hSlhS15 := hS15.lt
 refine wl_val ha16 rfl rfl rfl (op_assign ha16 rfl rfl) ?_
 intro a18 ha18; clear ha16 a16
 refine wpList_nil ?_
 refine then_n ?_
 refine wp_seq ?_
 refine wp_region_lit ?_
 refine wl_val ha18 rfl rfl rfl (op_move ha18 rfl rfl) ?_
 intro a19 ha19; clear ha18 a18
 refine wl_callS ha19 rfl rfl rfl (op_call ha19 rfl cb58 rfl) (c_spec_l32Draw _ g13 w0.heap.size hS15) ?_
 rintro v20 w21 he22 ⟨hS23, ⟨q24, hq25, ho26⟩⟩ a27 ha27; clear ha19 a19
 have hx28 := hx17.stp he22 (by intro q hq; cases hq; exact (by omega))
 have hzhx28 := he22.size
 replace hb5 := hb5.stp he22 (by intro q hq; cases hq; omega)
 clear hS15
 have hSlhS23 := hS23.lt
 refine wl_val ha27 rfl rfl rfl (op_assign ha27 rfl rfl) ?_
 intro a29 ha29; clear ha27 a27
 refine wpList_nil ?_
 refine then_n ?_
 refine wp_seq ?_
 refine dr_enter (fun wa_ wb_ => StpL wa_ wb_ (fun i => i = w0.heap.size ∨ i = g13)) follows_mixed ?_
 intro w30 he31
 have hx32 := hx28.trans' he31
 have hzhx32 := he31.size
 replace hb5 := hb5.ext he31
 replace hS23 := hS23.ext he31
 replace ho26 := ho26.ext he31
 have hs33 : Ext w30 w30 := Ext.rfl' _
 refine dr_share (fun fr wl S => ∃ (q40 : Int) (q41 : Value) (n44 n45 : Nat), S = (fun w' => StpL wl w' (fun i => i = w0.heap.size ∨ i = g13)) ∧ Sl 22 fr [(3, .pointer (some (⟨w0.heap.size, 0, none⟩ : Addr))), (10, v20), (15, .int .i64 (q40 : Int)), (16, q41), (17, .pointer (some (⟨g13, 0, none⟩ : Addr)))] ∧ Ext w0 wl ∧ Box wl w0.heap.size 36 [.int .i64 (0 : Int), St (([] : Str))] ∧ Own shRec 36 w11.heap.size w11.heap.size w21.heap.size wl v20 ((q24)) ∧ Own shStr 9 n44 n44 n45 wl q41 ([([110, 101, 119] : Str), ([] : Str), ([78] : Str)]) ∧ Src wl g13 w0.heap.size 88 ∧ ((0 : Int) ≤ q40) ∧ (q40 ≤ (10000 : Int)) ∧ (w30.heap.size ≤ n44) ∧ (n45 ≤ wl.heap.size) ∧ w30.heap.size ≤ wl.heap.size) 6 #[true, true, true, true, true, true, true, true, false, false, false, false, false, false] ?_ ?_
 ·
  rintro a56 w42 _ ⟨q40, q41, n44, n45, rfl, ha56, hx43, hf46, hf47, hf48, hf49, hg51, hg52, hg53, hg54, hzl50⟩
  have hzhx43 := hx43.size
  have hgl55 := hf49.lt
  have hs57 : Ext w42 w42 := Ext.rfl' _
  refine dr_one (i := 8) (by kernel_rfl) ?_
  refine po_callS ha56 rfl rfl rfl rfl (op_call ha56 rfl cb62 rfl) (c_spec_l01Next _ g13 w0.heap.size (3 : Int) hf49) ?_
  rintro v58 w59 he60 ⟨hS61, ⟨q62, hq63, hq64, hq65, rfl⟩⟩ a66 ha66; clear ha56 a56
  have hx67 := hx43.stp he60 (by intro q hq; cases hq; exact (by omega))
  have hzhx67 := he60.size
  replace hf46 := hf46.stp he60 (by intro q hq; cases hq; omega)
  first | replace hf47 := hf47.stp he60 (by intro q hq; cases hq; omega) | replace hf47 := hf47.stpF flat_shRec he60 (by intro q hq; cases hq; exact hf47.ne_box (by assumption) rfl)
  first | replace hf48 := hf48.stp he60 (by intro q hq; cases hq; omega) | replace hf48 := hf48.stpF flat_shStr he60 (by intro q hq; cases hq; exact hf48.ne_box (by assumption) rfl)
  clear hf49
  have hSlhS61 := hS61.lt
  have hs68 := (StpL.of_ext (B := fun i => i = w0.heap.size ∨ i = g13) hs57).trans' (Stp.toL he60 (by intro q hq; cases hq; exact Or.inr (rfl)))
  refine ⟨hs68, ?_⟩
  refine dr_narrow (S' := fun w' => StpL w59 w' _) (fun w' h' => hs68.trans' h') _ _ _ _ ?_
  have hs69 : Ext w59 w59 := Ext.rfl' _
  obtain ⟨x70, hx70⟩ := get_ex (xs := [([110, 101, 119] : Str), ([] : Str), ([78] : Str)]) (j := ((q62 : Int)).toNat) (by first | omega | (simp only [List.length_cons, List.length_nil]; omega))
  obtain ⟨p71, c72, hi73, hc74, hr75, hs76⟩ := Rds.at_ (hf48.rds pos_shStr) hx70
  obtain ⟨rfl, b77⟩ := inv_shStr hr75
  obtain ⟨_, _⟩ : _ ∧ _ := hs76
  have hdlx70 := el_len 21 (by rfl) hx70
  refine dr_val (i := 9) ha66 rfl (by kernel_rfl) (by kernel_rfl) (by kernel_rfl) rfl rfl rfl (StpL.of_ext hs69) (fun w' hw' => op_indexAddr ha66 rfl Try.underlying82 ti9 rfl rfl (by omega) hi73) ?_
  intro a78 ha78; clear ha66 a66
  refine dr_val (i := 10) ha78 rfl (by kernel_rfl) (by kernel_rfl) (by kernel_rfl) rfl rfl rfl (StpL.of_ext hs69) (fun w' hw' => op_loadH ha78 rfl Try.underlying9 rfl rfl (hc74.stpL hw' (by rintro (q | q) <;> first | omega)) rfl) ?_
  intro a79 ha79; clear ha78 a78
  refine dr_val (i := 11) ha79 rfl (by kernel_rfl) (by kernel_rfl) (by kernel_rfl) rfl rfl rfl (StpL.of_ext hs69) (fun w' hw' => op_build (vs := [(0, .int .i64 (q40 : Int)), (1, St x70)]) (cs := #[.int .i64 (q40 : Int), St x70]) ha79 rfl Try.underlying36 ti36 bp36 rfl rfl) ?_
  intro a80 ha80; clear ha79 a79
  refine dr_val (i := 12) ha80 rfl (by kernel_rfl) (by kernel_rfl) (by kernel_rfl) rfl rfl rfl (StpL.of_ext hs69) (fun w' hw' => op_assign ha80 rfl rfl) ?_
  intro a81 ha81; clear ha80 a80
  refine dr_one (i := 13) (by kernel_rfl) ?_
  refine po_effS ha81 rfl rfl rfl (op_storeAll' ha81 rfl ti36 rfl rfl hf46 rfl rfl (by simp [Value.oneCell']) rfl) ?_
  rintro w82 ⟨hb84, hst83, hz85⟩
  have hx86 := hx67.stp hst83 (by intro q hq; cases hq; exact (by omega))
  have hzhx86 := hst83.size
  replace hf47 := hf47.stp hst83 (by intro q hq; cases hq; omega)
  first | replace hf48 := hf48.stp hst83 (by intro q hq; cases hq; omega) | replace hf48 := hf48.stpF flat_shStr hst83 (by intro q hq; cases hq; exact hf48.ne_box (by assumption) rfl)
  replace hS61 := hS61.stp hst83 (by intro q hq; cases hq; omega)
  replace hc74 := hc74.stp hst83 (by intro q hq; cases hq; omega)
  clear hf46
  have hs87 := (StpL.of_ext (B := fun i => i = w0.heap.size ∨ i = g13) hs69).trans' (Stp.toL hst83 (by intro q hq; cases hq; exact Or.inl rfl))
  refine ⟨hs87, ?_⟩
  refine dr_narrow (S' := fun w' => StpL w82 w' _) (fun w' h' => hs87.trans' h') _ _ _ _ ?_
  have hs88 : Ext w82 w82 := Ext.rfl' _
  refine dr_end (by kernel_rfl) ?_
  refine then_n ?_
  refine wp_ret ?_
  refine ret_tc ha81 rfl rfl rfl Try.underlying36 ti36 rfl hb84.cells ?_
  clear ha81 a81
  refine ret_mk hx86 ?_
  refine ⟨(((q24)) : List (Int × Str)), (((q40 : Int), x70) : Int × Str), (by omega), (by first | (constructor <;> omega) | (dsimp only; constructor <;> omega)), (by first | omega | (dsimp only; omega)), ?_⟩
  refine ⟨v20, (tup2_eq rfl (by rfl)), ?_⟩
  ·refine (hf47.fin (by omega) (by omega) (by omega)).cast ?_
   rfl
 intro hk89
 refine dr_share (fun fr wl S => ∃ (q91 : Int) (q92 : Value) (n95 n96 : Nat), S = (fun w' => StpL wl w' (fun i => i = w0.heap.size ∨ i = g13)) ∧ Sl 22 fr [(3, .pointer (some (⟨w0.heap.size, 0, none⟩ : Addr))), (10, v20), (11, .pointer (some (⟨g13, 0, none⟩ : Addr))), (13, .int .i64 (q91 : Int)), (16, q92), (17, .pointer (some (⟨g13, 0, none⟩ : Addr)))] ∧ Ext w0 wl ∧ Box wl w0.heap.size 36 [.int .i64 (0 : Int), St (([] : Str))] ∧ Own shRec 36 w11.heap.size w11.heap.size w21.heap.size wl v20 ((q24)) ∧ Src wl g13 w0.heap.size 88 ∧ Own shStr 9 n95 n95 n96 wl q92 ([([110, 101, 119] : Str), ([] : Str), ([78] : Str)]) ∧ ((0 : Int) ≤ q91) ∧ (q91 ≤ (10000 : Int)) ∧ (0 ≤ q91) ∧ ((12 : Int) ≤ 1 → q91 = 0) ∧ (1 < (12 : Int) → q91 < (12 : Int)) ∧ (w30.heap.size ≤ n95) ∧ (n96 ≤ wl.heap.size) ∧ w30.heap.size ≤ wl.heap.size) 8 #[true, true, true, true, false, false, true, true, false, false, false, false, false, false] ?_ ?_
 ·
  rintro a110 w93 _ ⟨q91, q92, n95, n96, rfl, ha110, hx94, hf97, hf98, hf99, hf100, hg102, hg103, hg104, hg105, hg106, hg107, hg108, hzl101⟩
  have hzhx94 := hx94.size
  have hgl109 := hf99.lt
  have hs111 : Ext w93 w93 := Ext.rfl' _
  refine dr_one (i := 4) (by kernel_rfl) ?_
  refine po_eff ha110 rfl rfl rfl rfl (op_buildSlice (s := shI64) (xs := [(q91 : Int), (99 : Int), (9999 : Int), (10000 : Int)]) (cs := [.int .i64 (q91 : Int), .int .i64 (99 : Int), .int .i64 (9999 : Int), .int .i64 (10000 : Int)]) (vs := [(0, .int .i64 (q91 : Int)), (1, .int .i64 (99 : Int)), (2, .int .i64 (9999 : Int)), (3, .int .i64 (10000 : Int))]) (S := fun _ => False) (le := w93.heap.size) ha110 rfl pos_shI64 Try.underlying44 ti2 rfl rfl (by decide) (by kernel_rfl) ⟨mk_shI64 ((q91 : Int)) (by first | assumption | omega | (constructor <;> omega) | (dsimp only; omega) | (simp; done) | (simp; omega)), mk_shI64 ((99 : Int)) (by first | assumption | omega | (constructor <;> omega) | (dsimp only; omega) | (simp; done) | (simp; omega)), mk_shI64 ((9999 : Int)) (by first | assumption | omega | (constructor <;> omega) | (dsimp only; omega) | (simp; done) | (simp; omega)), mk_shI64 ((10000 : Int)) (by first | assumption | omega | (constructor <;> omega) | (dsimp only; omega) | (simp; done) | (simp; omega)), rfl⟩ (fun _ h => h.elim)) ?_
  rintro v112 w113 ⟨ho114, he115, hob116⟩ a117 ha117; clear ha110 a110
  have hs118 := hs111.trans' he115
  have hx119 := hx94.trans' he115
  have hzhx119 := he115.size
  refine ⟨(StpL.of_ext hs118), ?_⟩
  replace hf97 := hf97.ext hs118
  replace hf98 := hf98.ext hs118
  replace hf99 := hf99.ext hs118
  replace hf100 := hf100.ext hs118
  refine dr_narrow (S' := fun w' => StpL w113 w' _) (fun w' h' => (StpL.of_ext hs118).trans' h') _ _ _ _ ?_
  have hs120 : Ext w113 w113 := Ext.rfl' _
  refine dr_one (i := 5) (by kernel_rfl) ?_
  refine po_callS ha117 rfl rfl rfl rfl (op_call ha117 rfl cb65 rfl) (c_spec_l01Pick _ g13 w0.heap.size v112 ([(q91 : Int), (99 : Int), (9999 : Int), (10000 : Int)]) hf99 (ho114.rds pos_shI64) (by rintro ⟨_, _⟩; omega) (by first | assumption | omega | (constructor <;> omega) | (dsimp only; omega) | (simp; done) | (simp; omega))) ?_
  rintro v121 w122 he123 ⟨hS124, ⟨q125, hq126, rfl⟩⟩ a127 ha127; clear ha117 a117
  have hx128 := hx119.stp he123 (by intro q hq; cases hq; exact (by omega))
  have hzhx128 := he123.size
  replace hf97 := hf97.stp he123 (by intro q hq; cases hq; omega)
  first | replace hf98 := hf98.stp he123 (by intro q hq; cases hq; omega) | replace hf98 := hf98.stpF flat_shRec he123 (by intro q hq; cases hq; exact hf98.ne_box (by assumption) rfl)
  first | replace hf100 := hf100.stp he123 (by intro q hq; cases hq; omega) | replace hf100 := hf100.stpF flat_shStr he123 (by intro q hq; cases hq; exact hf100.ne_box (by assumption) rfl)
  first | replace ho114 := ho114.stp he123 (by intro q hq; cases hq; omega) | replace ho114 := ho114.stpF flat_shI64 he123 (by intro q hq; cases hq; exact ho114.ne_box (by assumption) rfl)
  clear hf99
  have hSlhS124 := hS124.lt
  have hs129 := (StpL.of_ext (B := fun i => i = w0.heap.size ∨ i = g13) hs120).trans' (Stp.toL he123 (by intro q hq; cases hq; exact Or.inr (rfl)))
  refine ⟨hs129, ?_⟩
  simp only [List.mem_cons, List.not_mem_nil, or_false] at hq126
  refine dr_narrow (S' := fun w' => StpL w122 w' _) (fun w' h' => hs129.trans' h') _ _ _ _ ?_
  have hs130 : Ext w122 w122 := Ext.rfl' _
  exact dr_listed (by kernel_rfl) (hk89 _ _ _ ⟨q125, q92, n95, n96, rfl, (Sl.cons_ ha127 rfl rfl (Sl.cons_ ha127 rfl rfl (Sl.cons_ ha127 rfl rfl (Sl.cons_ ha127 rfl rfl (Sl.cons_ ha127 rfl rfl (Sl.nil_ ha127)))))), hx128, hf97, (hf98.fin (by omega) (by omega) (by omega)), hf100, hS124, (by omega), (by omega), (by omega), (by omega), (by omega)⟩)
 intro hk131
 refine dr_val (i := 0) ha29 rfl (by kernel_rfl) (by kernel_rfl) (by kernel_rfl) rfl rfl rfl (StpL.of_ext hs33) (fun w' hw' => op_move ha29 rfl rfl) ?_
 intro a132 ha132; clear ha29 a29
 refine dr_val (i := 1) ha132 rfl (by kernel_rfl) (by kernel_rfl) (by kernel_rfl) rfl rfl rfl (StpL.of_ext hs33) (fun w' hw' => op_move ha132 rfl rfl) ?_
 intro a133 ha133; clear ha132 a132
 refine dr_val (i := 2) ha133 rfl (by kernel_rfl) (by kernel_rfl) (by kernel_rfl) rfl rfl rfl (StpL.of_ext hs33) (fun w' hw' => op_move ha133 rfl rfl) ?_
 intro a134 ha134; clear ha133 a133
 refine dr_val (i := 7) ha134 rfl (by kernel_rfl) (by kernel_rfl) (by kernel_rfl) rfl rfl rfl (StpL.of_ext hs33) (fun w' hw' => op_move ha134 rfl rfl) ?_
 intro a135 ha135; clear ha134 a134
 refine dr_two (i := 3) (j := 6) (by kernel_rfl) ?_ ?_
 ·
  refine po_callS ha135 rfl rfl rfl rfl (op_call ha135 rfl cb62 rfl) (c_spec_l01Next _ g13 w0.heap.size (12 : Int) hS23) ?_
  rintro v136 w137 he138 ⟨hS139, ⟨q140, hq141, hq142, hq143, rfl⟩⟩ a144 ha144; clear ha135 a135
  have hx145 := hx32.stp he138 (by intro q hq; cases hq; exact (by omega))
  have hzhx145 := he138.size
  replace hb5 := hb5.stp he138 (by intro q hq; cases hq; omega)
  first | replace ho26 := ho26.stp he138 (by intro q hq; cases hq; omega) | replace ho26 := ho26.stpF flat_shRec he138 (by intro q hq; cases hq; exact ho26.ne_box (by assumption) rfl)
  clear hS23
  have hSlhS139 := hS139.lt
  have hs146 := (StpL.of_ext (B := fun i => i = w0.heap.size ∨ i = g13) hs33).trans' (Stp.toL he138 (by intro q hq; cases hq; exact Or.inr (rfl)))
  refine ⟨hs146, ?_⟩
  refine dr_narrow (S' := fun w' => StpL w137 w' _) (fun w' h' => hs146.trans' h') _ _ _ _ ?_
  have hs147 : Ext w137 w137 := Ext.rfl' _
  refine dr_two (i := 4) (j := 6) (by kernel_rfl) ?_ ?_
  ·
   refine po_eff ha144 rfl rfl rfl rfl (op_buildSlice (s := shI64) (xs := [(q140 : Int), (99 : Int), (9999 : Int), (10000 : Int)]) (cs := [.int .i64 (q140 : Int), .int .i64 (99 : Int), .int .i64 (9999 : Int), .int .i64 (10000 : Int)]) (vs := [(0, .int .i64 (q140 : Int)), (1, .int .i64 (99 : Int)), (2, .int .i64 (9999 : Int)), (3, .int .i64 (10000 : Int))]) (S := fun _ => False) (le := w137.heap.size) ha144 rfl pos_shI64 Try.underlying44 ti2 rfl rfl (by decide) (by kernel_rfl) ⟨mk_shI64 ((q140 : Int)) (by first | assumption | omega | (constructor <;> omega) | (dsimp only; omega) | (simp; done) | (simp; omega)), mk_shI64 ((99 : Int)) (by first | assumption | omega | (constructor <;> omega) | (dsimp only; omega) | (simp; done) | (simp; omega)), mk_shI64 ((9999 : Int)) (by first | assumption | omega | (constructor <;> omega) | (dsimp only; omega) | (simp; done) | (simp; omega)), mk_shI64 ((10000 : Int)) (by first | assumption | omega | (constructor <;> omega) | (dsimp only; omega) | (simp; done) | (simp; omega)), rfl⟩ (fun _ h => h.elim)) ?_
   rintro v148 w149 ⟨ho150, he151, hob152⟩ a153 ha153; clear ha144 a144
   have hs154 := hs147.trans' he151
   have hx155 := hx145.trans' he151
   have hzhx155 := he151.size
   refine ⟨(StpL.of_ext hs154), ?_⟩
   replace hb5 := hb5.ext hs154
   replace ho26 := ho26.ext hs154
   replace hS139 := hS139.ext hs154
   refine dr_narrow (S' := fun w' => StpL w149 w' _) (fun w' h' => (StpL.of_ext hs154).trans' h') _ _ _ _ ?_
   have hs156 : Ext w149 w149 := Ext.rfl' _
   refine dr_two (i := 5) (j := 6) (by kernel_rfl) ?_ ?_
   ·
    refine po_callS ha153 rfl rfl rfl rfl (op_call ha153 rfl cb65 rfl) (c_spec_l01Pick _ g13 w0.heap.size v148 ([(q140 : Int), (99 : Int), (9999 : Int), (10000 : Int)]) hS139 (ho150.rds pos_shI64) (by rintro ⟨_, _⟩; omega) (by first | assumption | omega | (constructor <;> omega) | (dsimp only; omega) | (simp; done) | (simp; omega))) ?_
    rintro v157 w158 he159 ⟨hS160, ⟨q161, hq162, rfl⟩⟩ a163 ha163; clear ha153 a153
    have hx164 := hx155.stp he159 (by intro q hq; cases hq; exact (by omega))
    have hzhx164 := he159.size
    replace hb5 := hb5.stp he159 (by intro q hq; cases hq; omega)
    first | replace ho26 := ho26.stp he159 (by intro q hq; cases hq; omega) | replace ho26 := ho26.stpF flat_shRec he159 (by intro q hq; cases hq; exact ho26.ne_box (by assumption) rfl)
    first | replace ho150 := ho150.stp he159 (by intro q hq; cases hq; omega) | replace ho150 := ho150.stpF flat_shI64 he159 (by intro q hq; cases hq; exact ho150.ne_box (by assumption) rfl)
    clear hS139
    have hSlhS160 := hS160.lt
    have hs165 := (StpL.of_ext (B := fun i => i = w0.heap.size ∨ i = g13) hs156).trans' (Stp.toL he159 (by intro q hq; cases hq; exact Or.inr (rfl)))
    refine ⟨hs165, ?_⟩
    simp only [List.mem_cons, List.not_mem_nil, or_false] at hq162
    refine dr_narrow (S' := fun w' => StpL w158 w' _) (fun w' h' => hs165.trans' h') _ _ _ _ ?_
    have hs166 : Ext w158 w158 := Ext.rfl' _
    refine dr_two (i := 6) (j := 8) (by kernel_rfl) ?_ ?_
    ·
     refine po_eff ha163 rfl rfl rfl rfl (op_buildSlice (s := shStr) (xs := [([110, 101, 119] : Str), ([] : Str), ([78] : Str)]) (cs := [St (([110, 101, 119] : Str)), St (([] : Str)), St (([78] : Str))]) (vs := [(0, St (([110, 101, 119] : Str))), (1, St (([] : Str))), (2, St (([78] : Str)))]) (S := fun _ => False) (le := w158.heap.size) ha163 rfl pos_shStr Try.underlying82 ti9 rfl rfl (by decide) (by kernel_rfl) ⟨mk_shStr (([110, 101, 119] : Str)) (by first | assumption | omega | (constructor <;> omega) | (dsimp only; omega) | (simp; done) | (simp; omega)), mk_shStr (([] : Str)) (by first | assumption | omega | (constructor <;> omega) | (dsimp only; omega) | (simp; done) | (simp; omega)), mk_shStr (([78] : Str)) (by first | assumption | omega | (constructor <;> omega) | (dsimp only; omega) | (simp; done) | (simp; omega)), rfl⟩ (fun _ h => h.elim)) ?_
     rintro v167 w168 ⟨ho169, he170, hob171⟩ a172 ha172; clear ha163 a163
     have hs173 := hs166.trans' he170
     have hx174 := hx164.trans' he170
     have hzhx174 := he170.size
     refine ⟨(StpL.of_ext hs173), ?_⟩
     replace hb5 := hb5.ext hs173
     replace ho26 := ho26.ext hs173
     replace ho150 := ho150.ext hs173
     replace hS160 := hS160.ext hs173
     refine dr_narrow (S' := fun w' => StpL w168 w' _) (fun w' h' => (StpL.of_ext hs173).trans' h') _ _ _ _ ?_
     have hs175 : Ext w168 w168 := Ext.rfl' _
     exact dr_listed (by kernel_rfl) (hk89 _ _ _ ⟨q161, v167, w158.heap.size, w168.heap.size, rfl, (Sl.cons_ ha172 rfl rfl (Sl.cons_ ha172 rfl rfl (Sl.cons_ ha172 rfl rfl (Sl.cons_ ha172 rfl rfl (Sl.cons_ ha172 rfl rfl (Sl.nil_ ha172)))))), hx174, hb5, (ho26.fin (by omega) (by omega) (by omega)), ho169, hS160, (by omega), (by omega), (by omega), (by omega), (by omega)⟩)
    ·
     refine po_callS ha163 rfl rfl rfl rfl (op_call ha163 rfl cb62 rfl) (c_spec_l01Next _ g13 w0.heap.size (3 : Int) hS160) ?_
     rintro v176 w177 he178 ⟨hS179, ⟨q180, hq181, hq182, hq183, rfl⟩⟩ a184 ha184; clear ha163 a163
     have hx185 := hx164.stp he178 (by intro q hq; cases hq; exact (by omega))
     have hzhx185 := he178.size
     replace hb5 := hb5.stp he178 (by intro q hq; cases hq; omega)
     first | replace ho26 := ho26.stp he178 (by intro q hq; cases hq; omega) | replace ho26 := ho26.stpF flat_shRec he178 (by intro q hq; cases hq; exact ho26.ne_box (by assumption) rfl)
     first | replace ho150 := ho150.stp he178 (by intro q hq; cases hq; omega) | replace ho150 := ho150.stpF flat_shI64 he178 (by intro q hq; cases hq; exact ho150.ne_box (by assumption) rfl)
     clear hS160
     have hSlhS179 := hS179.lt
     have hs186 := (StpL.of_ext (B := fun i => i = w0.heap.size ∨ i = g13) hs166).trans' (Stp.toL he178 (by intro q hq; cases hq; exact Or.inr (rfl)))
     refine ⟨hs186, ?_⟩
     refine dr_narrow (S' := fun w' => StpL w177 w' _) (fun w' h' => hs186.trans' h') _ _ _ _ ?_
     have hs187 : Ext w177 w177 := Ext.rfl' _
     refine dr_val (i := 12) ha184 rfl (by kernel_rfl) (by kernel_rfl) (by kernel_rfl) rfl rfl rfl (StpL.of_ext hs187) (fun w' hw' => op_assign ha184 rfl rfl) ?_
     intro a188 ha188; clear ha184 a184
     refine dr_one (i := 6) (by kernel_rfl) ?_
     refine po_eff ha188 rfl rfl rfl rfl (op_buildSlice (s := shStr) (xs := [([110, 101, 119] : Str), ([] : Str), ([78] : Str)]) (cs := [St (([110, 101, 119] : Str)), St (([] : Str)), St (([78] : Str))]) (vs := [(0, St (([110, 101, 119] : Str))), (1, St (([] : Str))), (2, St (([78] : Str)))]) (S := fun _ => False) (le := w177.heap.size) ha188 rfl pos_shStr Try.underlying82 ti9 rfl rfl (by decide) (by kernel_rfl) ⟨mk_shStr (([110, 101, 119] : Str)) (by first | assumption | omega | (constructor <;> omega) | (dsimp only; omega) | (simp; done) | (simp; omega)), mk_shStr (([] : Str)) (by first | assumption | omega | (constructor <;> omega) | (dsimp only; omega) | (simp; done) | (simp; omega)), mk_shStr (([78] : Str)) (by first | assumption | omega | (constructor <;> omega) | (dsimp only; omega) | (simp; done) | (simp; omega)), rfl⟩ (fun _ h => h.elim)) ?_
     rintro v189 w190 ⟨ho191, he192, hob193⟩ a194 ha194; clear ha188 a188
     have hs195 := hs187.trans' he192
     have hx196 := hx185.trans' he192
     have hzhx196 := he192.size
     refine ⟨(StpL.of_ext hs195), ?_⟩
     replace hb5 := hb5.ext hs195
     replace ho26 := ho26.ext hs195
     replace ho150 := ho150.ext hs195
     replace hS179 := hS179.ext hs195
     refine dr_narrow (S' := fun w' => StpL w190 w' _) (fun w' h' => (StpL.of_ext hs195).trans' h') _ _ _ _ ?_
     have hs197 : Ext w190 w190 := Ext.rfl' _
     obtain ⟨x198, hx198⟩ := get_ex (xs := [([110, 101, 119] : Str), ([] : Str), ([78] : Str)]) (j := ((q180 : Int)).toNat) (by first | omega | (simp only [List.length_cons, List.length_nil]; omega))
     obtain ⟨p199, c200, hi201, hc202, hr203, hs204⟩ := Rds.at_ (ho191.rds pos_shStr) hx198
     obtain ⟨rfl, b205⟩ := inv_shStr hr203
     obtain ⟨_, _⟩ : _ ∧ _ := hs204
     have hdlx198 := el_len 21 (by rfl) hx198
     refine dr_val (i := 9) ha194 rfl (by kernel_rfl) (by kernel_rfl) (by kernel_rfl) rfl rfl rfl (StpL.of_ext hs197) (fun w' hw' => op_indexAddr ha194 rfl Try.underlying82 ti9 rfl rfl (by omega) hi201) ?_
     intro a206 ha206; clear ha194 a194
     refine dr_val (i := 10) ha206 rfl (by kernel_rfl) (by kernel_rfl) (by kernel_rfl) rfl rfl rfl (StpL.of_ext hs197) (fun w' hw' => op_loadH ha206 rfl Try.underlying9 rfl rfl (hc202.stpL hw' (by rintro (q | q) <;> first | omega)) rfl) ?_
     intro a207 ha207; clear ha206 a206
     refine dr_val (i := 11) ha207 rfl (by kernel_rfl) (by kernel_rfl) (by kernel_rfl) rfl rfl rfl (StpL.of_ext hs197) (fun w' hw' => op_build (vs := [(0, .int .i64 (q161 : Int)), (1, St x198)]) (cs := #[.int .i64 (q161 : Int), St x198]) ha207 rfl Try.underlying36 ti36 bp36 rfl rfl) ?_
     intro a208 ha208; clear ha207 a207
     refine dr_one (i := 13) (by kernel_rfl) ?_
     refine po_effS ha208 rfl rfl rfl (op_storeAll' ha208 rfl ti36 rfl rfl hb5 rfl rfl (by simp [Value.oneCell']) rfl) ?_
     rintro w209 ⟨hb211, hst210, hz212⟩
     have hx213 := hx196.stp hst210 (by intro q hq; cases hq; exact (by omega))
     have hzhx213 := hst210.size
     replace ho26 := ho26.stp hst210 (by intro q hq; cases hq; omega)
     replace ho150 := ho150.stp hst210 (by intro q hq; cases hq; omega)
     replace hS179 := hS179.stp hst210 (by intro q hq; cases hq; omega)
     replace ho191 := ho191.stp hst210 (by intro q hq; cases hq; omega)
     replace hc202 := hc202.stp hst210 (by intro q hq; cases hq; omega)
     clear hb5
     have hs214 := (StpL.of_ext (B := fun i => i = w0.heap.size ∨ i = g13) hs197).trans' (Stp.toL hst210 (by intro q hq; cases hq; exact Or.inl rfl))
     refine ⟨hs214, ?_⟩
     refine dr_narrow (S' := fun w' => StpL w209 w' _) (fun w' h' => hs214.trans' h') _ _ _ _ ?_
     have hs215 : Ext w209 w209 := Ext.rfl' _
     refine dr_end (by kernel_rfl) ?_
     refine then_n ?_
     refine wp_ret ?_
     refine ret_tc ha208 rfl rfl rfl Try.underlying36 ti36 rfl hb211.cells ?_
     clear ha208 a208
     refine ret_mk hx213 ?_
     refine ⟨(((q24)) : List (Int × Str)), (((q161 : Int), x198) : Int × Str), (by omega), (by first | (constructor <;> omega) | (dsimp only; constructor <;> omega)), (by first | omega | (dsimp only; omega)), ?_⟩
     refine ⟨v20, (tup2_eq rfl (by rfl)), ?_⟩
     ·refine (ho26.fin (by omega) (by omega) (by omega)).cast ?_
      rfl
   ·
    refine po_eff ha153 rfl rfl rfl rfl (op_buildSlice (s := shStr) (xs := [([110, 101, 119] : Str), ([] : Str), ([78] : Str)]) (cs := [St (([110, 101, 119] : Str)), St (([] : Str)), St (([78] : Str))]) (vs := [(0, St (([110, 101, 119] : Str))), (1, St (([] : Str))), (2, St (([78] : Str)))]) (S := fun _ => False) (le := w149.heap.size) ha153 rfl pos_shStr Try.underlying82 ti9 rfl rfl (by decide) (by kernel_rfl) ⟨mk_shStr (([110, 101, 119] : Str)) (by first | assumption | omega | (constructor <;> omega) | (dsimp only; omega) | (simp; done) | (simp; omega)), mk_shStr (([] : Str)) (by first | assumption | omega | (constructor <;> omega) | (dsimp only; omega) | (simp; done) | (simp; omega)), mk_shStr (([78] : Str)) (by first | assumption | omega | (constructor <;> omega) | (dsimp only; omega) | (simp; done) | (simp; omega)), rfl⟩ (fun _ h => h.elim)) ?_
    rintro v216 w217 ⟨ho218, he219, hob220⟩ a221 ha221; clear ha153 a153
    have hs222 := hs156.trans' he219
    have hx223 := hx155.trans' he219
    have hzhx223 := he219.size
    refine ⟨(StpL.of_ext hs222), ?_⟩
    replace hb5 := hb5.ext hs222
    replace ho26 := ho26.ext hs222
    replace hS139 := hS139.ext hs222
    replace ho150 := ho150.ext hs222
    refine dr_narrow (S' := fun w' => StpL w217 w' _) (fun w' h' => (StpL.of_ext hs222).trans' h') _ _ _ _ ?_
    have hs224 : Ext w217 w217 := Ext.rfl' _
    refine dr_one (i := 5) (by kernel_rfl) ?_
    refine po_callS ha221 rfl rfl rfl rfl (op_call ha221 rfl cb65 rfl) (c_spec_l01Pick _ g13 w0.heap.size v148 ([(q140 : Int), (99 : Int), (9999 : Int), (10000 : Int)]) hS139 (ho150.rds pos_shI64) (by rintro ⟨_, _⟩; omega) (by first | assumption | omega | (constructor <;> omega) | (dsimp only; omega) | (simp; done) | (simp; omega))) ?_
    rintro v225 w226 he227 ⟨hS228, ⟨q229, hq230, rfl⟩⟩ a231 ha231; clear ha221 a221
    have hx232 := hx223.stp he227 (by intro q hq; cases hq; exact (by omega))
    have hzhx232 := he227.size
    replace hb5 := hb5.stp he227 (by intro q hq; cases hq; omega)
    first | replace ho26 := ho26.stp he227 (by intro q hq; cases hq; omega) | replace ho26 := ho26.stpF flat_shRec he227 (by intro q hq; cases hq; exact ho26.ne_box (by assumption) rfl)
    first | replace ho150 := ho150.stp he227 (by intro q hq; cases hq; omega) | replace ho150 := ho150.stpF flat_shI64 he227 (by intro q hq; cases hq; exact ho150.ne_box (by assumption) rfl)
    first | replace ho218 := ho218.stp he227 (by intro q hq; cases hq; omega) | replace ho218 := ho218.stpF flat_shStr he227 (by intro q hq; cases hq; exact ho218.ne_box (by assumption) rfl)
    clear hS139
    have hSlhS228 := hS228.lt
    have hs233 := (StpL.of_ext (B := fun i => i = w0.heap.size ∨ i = g13) hs224).trans' (Stp.toL he227 (by intro q hq; cases hq; exact Or.inr (rfl)))
    refine ⟨hs233, ?_⟩
    simp only [List.mem_cons, List.not_mem_nil, or_false] at hq230
    refine dr_narrow (S' := fun w' => StpL w226 w' _) (fun w' h' => hs233.trans' h') _ _ _ _ ?_
    have hs234 : Ext w226 w226 := Ext.rfl' _
    exact dr_listed (by kernel_rfl) (hk89 _ _ _ ⟨q229, v216, w149.heap.size, w217.heap.size, rfl, (Sl.cons_ ha231 rfl rfl (Sl.cons_ ha231 rfl rfl (Sl.cons_ ha231 rfl rfl (Sl.cons_ ha231 rfl rfl (Sl.cons_ ha231 rfl rfl (Sl.nil_ ha231)))))), hx232, hb5, (ho26.fin (by omega) (by omega) (by omega)), ho218, hS228, (by omega), (by omega), (by omega), (by omega), (by omega)⟩)
  ·
   refine po_eff ha144 rfl rfl rfl rfl (op_buildSlice (s := shStr) (xs := [([110, 101, 119] : Str), ([] : Str), ([78] : Str)]) (cs := [St (([110, 101, 119] : Str)), St (([] : Str)), St (([78] : Str))]) (vs := [(0, St (([110, 101, 119] : Str))), (1, St (([] : Str))), (2, St (([78] : Str)))]) (S := fun _ => False) (le := w137.heap.size) ha144 rfl pos_shStr Try.underlying82 ti9 rfl rfl (by decide) (by kernel_rfl) ⟨mk_shStr (([110, 101, 119] : Str)) (by first | assumption | omega | (constructor <;> omega) | (dsimp only; omega) | (simp; done) | (simp; omega)), mk_shStr (([] : Str)) (by first | assumption | omega | (constructor <;> omega) | (dsimp only; omega) | (simp; done) | (simp; omega)), mk_shStr (([78] : Str)) (by first | assumption | omega | (constructor <;> omega) | (dsimp only; omega) | (simp; done) | (simp; omega)), rfl⟩ (fun _ h => h.elim)) ?_
   rintro v235 w236 ⟨ho237, he238, hob239⟩ a240 ha240; clear ha144 a144
   have hs241 := hs147.trans' he238
   have hx242 := hx145.trans' he238
   have hzhx242 := he238.size
   refine ⟨(StpL.of_ext hs241), ?_⟩
   replace hb5 := hb5.ext hs241
   replace ho26 := ho26.ext hs241
   replace hS139 := hS139.ext hs241
   refine dr_narrow (S' := fun w' => StpL w236 w' _) (fun w' h' => (StpL.of_ext hs241).trans' h') _ _ _ _ ?_
   have hs243 : Ext w236 w236 := Ext.rfl' _
   exact dr_listed (by kernel_rfl) (hk131 _ _ _ ⟨q140, v235, w137.heap.size, w236.heap.size, rfl, (Sl.cons_ ha240 rfl rfl (Sl.cons_ ha240 rfl rfl (Sl.cons_ ha240 rfl rfl (Sl.cons_ ha240 rfl rfl (Sl.cons_ ha240 rfl rfl (Sl.cons_ ha240 rfl rfl (Sl.nil_ ha240))))))), hx242, hb5, (ho26.fin (by omega) (by omega) (by omega)), hS139, ho237, (by omega), (by omega), (by omega), (by first | assumption | omega | (simp only [List.mem_cons, List.not_mem_nil, or_false]; omega) | (constructor <;> omega)), (by omega), (by omega), (by omega), (by omega)⟩)
 ·
  refine po_eff ha135 rfl rfl rfl rfl (op_buildSlice (s := shStr) (xs := [([110, 101, 119] : Str), ([] : Str), ([78] : Str)]) (cs := [St (([110, 101, 119] : Str)), St (([] : Str)), St (([78] : Str))]) (vs := [(0, St (([110, 101, 119] : Str))), (1, St (([] : Str))), (2, St (([78] : Str)))]) (S := fun _ => False) (le := w30.heap.size) ha135 rfl pos_shStr Try.underlying82 ti9 rfl rfl (by decide) (by kernel_rfl) ⟨mk_shStr (([110, 101, 119] : Str)) (by first | assumption | omega | (constructor <;> omega) | (dsimp only; omega) | (simp; done) | (simp; omega)), mk_shStr (([] : Str)) (by first | assumption | omega | (constructor <;> omega) | (dsimp only; omega) | (simp; done) | (simp; omega)), mk_shStr (([78] : Str)) (by first | assumption | omega | (constructor <;> omega) | (dsimp only; omega) | (simp; done) | (simp; omega)), rfl⟩ (fun _ h => h.elim)) ?_
  rintro v244 w245 ⟨ho246, he247, hob248⟩ a249 ha249; clear ha135 a135
  have hs250 := hs33.trans' he247
  have hx251 := hx32.trans' he247
  have hzhx251 := he247.size
  refine ⟨(StpL.of_ext hs250), ?_⟩
  replace hb5 := hb5.ext hs250
  replace hS23 := hS23.ext hs250
  replace ho26 := ho26.ext hs250
  refine dr_narrow (S' := fun w' => StpL w245 w' _) (fun w' h' => (StpL.of_ext hs250).trans' h') _ _ _ _ ?_
  have hs252 : Ext w245 w245 := Ext.rfl' _
  refine dr_one (i := 3) (by kernel_rfl) ?_
  refine po_callS ha249 rfl rfl rfl rfl (op_call ha249 rfl cb62 rfl) (c_spec_l01Next _ g13 w0.heap.size (12 : Int) hS23) ?_
  rintro v253 w254 he255 ⟨hS256, ⟨q257, hq258, hq259, hq260, rfl⟩⟩ a261 ha261; clear ha249 a249
  have hx262 := hx251.stp he255 (by intro q hq; cases hq; exact (by omega))
  have hzhx262 := he255.size
  replace hb5 := hb5.stp he255 (by intro q hq; cases hq; omega)
  first | replace ho26 := ho26.stp he255 (by intro q hq; cases hq; omega) | replace ho26 := ho26.stpF flat_shRec he255 (by intro q hq; cases hq; exact ho26.ne_box (by assumption) rfl)
  first | replace ho246 := ho246.stp he255 (by intro q hq; cases hq; omega) | replace ho246 := ho246.stpF flat_shStr he255 (by intro q hq; cases hq; exact ho246.ne_box (by assumption) rfl)
  clear hS23
  have hSlhS256 := hS256.lt
  have hs263 := (StpL.of_ext (B := fun i => i = w0.heap.size ∨ i = g13) hs252).trans' (Stp.toL he255 (by intro q hq; cases hq; exact Or.inr (rfl)))
  refine ⟨hs263, ?_⟩
  refine dr_narrow (S' := fun w' => StpL w254 w' _) (fun w' h' => hs263.trans' h') _ _ _ _ ?_
  have hs264 : Ext w254 w254 := Ext.rfl' _
  exact dr_listed (by kernel_rfl) (hk131 _ _ _ ⟨q257, v244, w30.heap.size, w245.heap.size, rfl, (Sl.cons_ ha261 rfl rfl (Sl.cons_ ha261 rfl rfl (Sl.cons_ ha261 rfl rfl (Sl.cons_ ha261 rfl rfl (Sl.cons_ ha261 rfl rfl (Sl.cons_ ha261 rfl rfl (Sl.nil_ ha261))))))), hx262, hb5, (ho26.fin (by omega) (by omega) (by omega)), hS256, ho246, (by omega), (by omega), (by omega), (by first | assumption | omega | (simp only [List.mem_cons, List.not_mem_nil, or_false]; omega) | (constructor <;> omega)), (by omega), (by omega), (by omega), (by omega)⟩)


end Go.Proofs.Ytkdnclpgijkceaa
