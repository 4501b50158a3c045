/- Drawn tables. -/
import Derived.Test.YtjpldgicibnkcaaR1
namespace Go.Proofs.Ytjpldgicibnkcaa
open Go Go.RowKit

theorem take_take_len {α : Type} {xs : List α} {k : Nat} : xs.take k = xs.take (xs.take k).length := by
  rw [List.length_take]
  rcases Nat.le_total k xs.length with h | h
  · rw [Nat.min_eq_left h]
  · rw [Nat.min_eq_right h, List.take_length, List.take_of_length_le h]

set_option maxHeartbeats 4000000 in
theorem c_spec_l31Good (w0 : World) (g_s b_s : Nat) (v_words : Value) (words : List Str) {S_words : Nat → Prop} (h_s : Src w0 g_s b_s 102) (h_words : Rds shStr S_words w0 v_words words) (d_words : ¬ S_words g_s) (g0 : 1 ≤ words.length) (g1 : words.length ≤ 6) :
  Calls Try.prog 83 #[.pointer (some (⟨g_s, 0, none⟩ : Addr)), v_words] w0 (RetS w0 (some g_s) (fun v w1 => Src w1 g_s b_s 102 ∧ (fun v w1 => ∃ (t : Tab), (1 ≤ t.1.length) ∧ (t.1.length ≤ words.length) ∧ (t.2.length ≤ 5) ∧ (∀ r ∈ t.2, r.length = t.1.length ∧ ∀ n ∈ r, -100 ≤ n ∧ n ≤ 200) ∧ (t.1 = words.take t.1.length) ∧ (fun v w1 => ∃ r0_0 r0_1 z0_1, v = .agg #[r0_0, r0_1] ∧ Own shStr 9 w0.heap.size w0.heap.size w1.heap.size w1 r0_0 ((t).1) ∧ Own shRowN 41 w0.heap.size w0.heap.size w1.heap.size w1 r0_1 z0_1 ∧ Nst shI64 2 (fun x : List Int => x) w0.heap.size w1.heap.size w1 z0_1 ∧ z0_1.map (·.1) = ((t).2)) v w1) v w1)) := by
 refine enter (N := 54) Try.func83 rfl rfl rfl ?_
 intro a0 ha0
 have hx0 := Stp.rfl' w0 (some g_s)
 have hl_words := h_words.length_le
 have hgl_s := h_s.lt
 refine wp_seq ?_
 refine wp_region_lit ?_
 refine wl_eff ha0 rfl rfl rfl (op_alloc' rfl ti28 rfl) ?_
 rintro _ w2 ⟨rfl, he3, hb4, hz5⟩ a6 ha6; clear ha0 a0
 have hx7 := hx0.trans' (Stp.of_ext he3 _)
 have hzhx7 := he3.size
 replace h_s := h_s.ext he3
 refine wpList_nil ?_
 refine then_n ?_
 refine wp_seq ?_
 refine wp_region_lit ?_
 refine wl_eff ha6 rfl rfl rfl (op_buildSlice (s := shStr) (xs := ([] : List Str)) (cs := []) (vs := []) (S := fun _ => False) (le := w2.heap.size) ha6 rfl pos_shStr Try.underlying22 ti9 rfl rfl (by decide) (by kernel_rfl) rfl (fun _ h => h.elim)) ?_
 rintro v8 w9 ⟨ho10, he11, hob12⟩ a13 ha13; clear ha6 a6
 have hx14 := hx7.trans' (Stp.of_ext he11 _)
 have hzhx14 := he11.size
 replace h_s := h_s.ext he11
 replace hb4 := hb4.ext he11
 refine wl_val ha13 rfl rfl rfl (op_move ha13 rfl rfl) ?_
 intro a15 ha15; clear ha13 a13
 refine wl_val ha15 rfl rfl rfl (op_move ha15 rfl rfl) ?_
 intro a16 ha16; clear ha15 a15
 refine wl_val ha16 rfl rfl rfl (op_move ha16 rfl rfl) ?_
 intro a17 ha17; clear ha16 a16
 refine wl_val ha17 rfl rfl rfl (op_len_sl ha17 rfl Try.underlying22 rfl h_words) ?_
 intro a18 ha18; clear ha17 a17
 refine wl_callS ha18 rfl rfl rfl (op_call ha18 rfl cb81 rfl) (c_spec_l01Next _ g_s b_s ((words.length : Nat) : Int) h_s) ?_
 rintro v19 w20 he21 ⟨hS22, ⟨q23, hq24, hq25, hq26, rfl⟩⟩ a27 ha27; clear ha18 a18
 have hx28 := hx14.trans' he21
 have hzhx28 := he21.size
 replace hb4 := hb4.stp he21 (by intro q hq; cases hq; omega)
 first | replace ho10 := ho10.stp he21 (by intro q hq; cases hq; omega) | replace ho10 := ho10.stpF flat_shStr he21 (by intro q hq; cases hq; exact ho10.ne_box (by assumption) rfl)
 have hSlhS22 := hS22.lt
 refine wl_val ha27 rfl rfl rfl ((op_add ha27 rfl rfl rfl).int (IntWalk.i64_in _ (by omega))) ?_
 intro a29 ha29; clear ha27 a27
 obtain ⟨u30, hu31, hr32⟩ := Rds.part h_words Try.underlying22 ti9 none (some (.int .i64 ((1 + ((q23 : Int)).toNat) : Nat))) 0 ((1 + ((q23 : Int)).toNat)) (.inl ⟨rfl, rfl⟩) (.inr ⟨.i64, rfl⟩) (by first | omega | (simp; omega)) (by first | omega | (simp; omega))
 replace hr32 := hr32.cast (ys := words.take ((1 + ((q23 : Int)).toNat))) (by first | rw [List.take_length] | simp)
 refine wl_val ha29 rfl rfl rfl (op_slice_t (by omega) ha29 rfl rfl rfl hu31) ?_
 intro a33 ha33; clear ha29 a29
 refine wl_eff ha33 rfl rfl rfl (op_append (ts := #[]) (s := shStr) ha33 rfl Try.underlying22 ti9 rfl pos_shStr rfl rfl ho10 (hr32.stp pos_shStr hx28 (by intro q hq; cases hq; exact d_words)) (by omega) (by omega) (by first | omega | (simp; omega) | (simp only [List.length_take]; omega)) (by first | omega | (simp; omega) | (simp only [List.length_take]; omega)) (.inl flat_shStr)) ?_
 rintro v34 w35 ⟨ho36, hst37, hob38⟩ a39 ha39; clear ha33 a33
 replace ho36 := ho36.cast (List.nil_append _)
 have hx40 := hx28.fresh hst37 (by intro q hq; have hq0 := ho10.lt q hq; omega)
 have hzhx40 := hst37.size
 replace hb4 := hb4.stp hst37 (by intro q hq; have hq0 := ho10.lt q hq; omega)
 replace hS22 := hS22.stp hst37 (by intro q hq; have hq0 := ho10.lt q hq; omega)
 refine wl_eff ha39 rfl rfl rfl (op_buildSlice (s := shRowN) (xs := ([] : List ((List Int) × Value))) (cs := []) (vs := []) (S := fun _ => False) (le := w35.heap.size) ha39 rfl pos_shRowN Try.underlying23 ti41 rfl rfl (by decide) (by kernel_rfl) rfl (fun _ h => h.elim)) ?_
 rintro v41 w42 ⟨ho43, he44, hob45⟩ a46 ha46; clear ha39 a39
 have hx47 := hx40.trans' (Stp.of_ext he44 _)
 have hzhx47 := he44.size
 replace hb4 := hb4.ext he44
 replace hS22 := hS22.ext he44
 replace ho36 := ho36.ext he44
 have hN48 : Nst shI64 2 (fun x : List Int => x) w35.heap.size w42.heap.size w42 (([] : List ((List Int) × Value))) := Nst.nil _ _ _ _ _ _
 refine wl_val ha46 rfl rfl rfl (op_build (vs := [(0, v34), (1, v41)]) (cs := #[v34, v41]) ha46 rfl Try.underlying28 ti28 bp28 rfl ((fill_one ho36.cells1 rfl rfl).trans ((fill_one ho43.cells1 rfl rfl).trans rfl))) ?_
 intro a49 ha49; clear ha46 a46
 refine wl_eff ha49 rfl rfl rfl (op_alloc' rfl ti28 rfl) ?_
 rintro _ w51 ⟨rfl, he52, hb53, hz54⟩ a55 ha55; clear ha49 a49
 have hx56 := hx47.trans' (Stp.of_ext he52 _)
 have hzhx56 := he52.size
 replace hb4 := hb4.ext he52
 replace hS22 := hS22.ext he52
 replace ho36 := ho36.ext he52
 replace ho43 := ho43.ext he52
 replace hN48 := hN48.ext he52
 refine wl_effS ha55 rfl rfl (op_storeAll' ha55 rfl ti28 rfl rfl hb53 rfl rfl (by intro u hu; have hu : u ∈ ([v34, v41] : List Value) := hu; simp only [List.mem_cons, List.mem_nil_iff, or_false] at hu; rcases hu with rfl | rfl <;> first | rfl | exact ho36.one | exact ho43.one) rfl) ?_
 rintro w57 ⟨hb59, hst58, hz60⟩
 have hx61 := hx56.fresh hst58 (by intro q hq; cases hq; exact (by omega))
 have hzhx61 := hst58.size
 replace hb4 := hb4.stp hst58 (by intro q hq; cases hq; omega)
 replace hS22 := hS22.stp hst58 (by intro q hq; cases hq; omega)
 replace ho36 := ho36.stp hst58 (by intro q hq; cases hq; omega)
 replace ho43 := ho43.stp hst58 (by intro q hq; cases hq; omega)
 replace hN48 := hN48.stp hst58 (by intro q hq; cases hq; omega)
 clear hb53
 refine wpList_nil ?_
 refine then_n ?_
 refine wp_seq ?_
 refine wp_seq ?_
 refine wp_region_lit ?_
 refine wl_val ha55 rfl rfl rfl (op_move ha55 rfl rfl) ?_
 intro a62 ha62; clear ha55 a55
 refine wl_callS ha62 rfl rfl rfl (op_call ha62 rfl cb81 rfl) (c_spec_l01Next _ g_s b_s (6 : Int) hS22) ?_
 rintro v63 w64 he65 ⟨hS66, ⟨q67, hq68, hq69, hq70, rfl⟩⟩ a71 ha71; clear ha62 a62
 have hx72 := hx61.trans' he65
 have hzhx72 := he65.size
 replace hb4 := hb4.stp he65 (by intro q hq; cases hq; omega)
 first | replace ho36 := ho36.stp he65 (by intro q hq; cases hq; omega) | replace ho36 := ho36.stpF flat_shStr he65 (by intro q hq; cases hq; exact ho36.ne_box (by assumption) rfl)
 first | replace ho43 := ho43.stp he65 (by intro q hq; cases hq; omega) | replace ho43 := ho43.stpF flat_shRowN he65 (by intro q hq; cases hq; exact ho43.ne_box (by assumption) rfl)
 first | replace hN48 := hN48.stp he65 (by intro q hq; cases hq; omega) | replace hN48 := hN48.stpB flat_shI64 he65 (by assumption) rfl
 replace hb59 := hb59.stp he65 (by intro q hq; cases hq; omega)
 clear hS22
 have hSlhS66 := hS66.lt
 refine wl_val ha71 rfl rfl rfl (op_assign ha71 rfl rfl) ?_
 intro a73 ha73; clear ha71 a71
 refine wpList_nil ?_
 refine then_n ?_
 refine wp_block ?_
 refine loop_inv (X := Int × Value × (List (List Int × Value))) (fun (⟨m, v1, zs⟩ : Int × Value × (List (List Int × Value))) fr wl => Sl 54 fr [(0, .pointer (some (⟨g_s, 0, none⟩ : Addr))), (4, .pointer (some (⟨w0.heap.size, 0, none⟩ : Addr))), (5, .pointer (some (⟨w42.heap.size, 0, none⟩ : Addr))), (6, .int .i64 m)] ∧ Stp w0 wl (some g_s) ∧ Src wl g_s b_s 102 ∧ Box wl w0.heap.size 28 [.slice none 0 0, .slice none 0 0] ∧ Own shStr 9 w2.heap.size w2.heap.size w35.heap.size wl v34 (words.take ((1 + ((q23 : Int)).toNat))) ∧ Own shRowN 41 w35.heap.size w35.heap.size wl.heap.size wl v1 zs ∧ Nst shI64 2 (fun x : List Int => x) w35.heap.size wl.heap.size wl zs ∧ Box wl w42.heap.size 28 [v34, v1] ∧ w64.heap.size ≤ wl.heap.size ∧ (0 ≤ m) ∧ (m ≤ 5) ∧ ((zs.length : Int) + m ≤ 5) ∧ (∀ z ∈ zs, z.1.length = (words.take ((1 + ((q23 : Int)).toNat))).length ∧ ∀ n ∈ z.1, -100 ≤ n ∧ n ≤ 200) ∧ (1 ≤ (words.take ((1 + ((q23 : Int)).toNat))).length ∧ (words.take ((1 + ((q23 : Int)).toNat))).length ≤ words.length)) (fun (⟨m, v1, zs⟩ : Int × Value × (List (List Int × Value))) => m.toNat) ((q67 : Int), v41, ([] : List ((List Int) × Value))) ?_ ?_
 ·
  exact ⟨(Sl.cons_ ha73 rfl rfl (Sl.cons_ ha73 rfl rfl (Sl.cons_ ha73 rfl rfl (Sl.cons_ ha73 rfl (int_eq (by omega)) (Sl.nil_ ha73))))), hx72, hS66, hb4, ho36, (ho43.fin (by omega) (by omega) (by omega)), (hN48.fin (by omega) (by omega)), hb59, (by omega), (by omega), (by omega), (by simp; omega), (by intro z hz; cases hz), (by rw [List.length_take]; omega)⟩
 ·
  clear ha73 a73
  rintro ⟨m, v1, zs⟩ a82 w74 ⟨ha82, hx75, hf76, hf77, hf78, hf79, hf80, hf81, hzl83, hm0, hm1, hl, hZ, hH⟩
  have hzhx75 := hx75.size
  have hgl84 := hf76.lt
  refine wp_seq ?_
  refine wp_seq ?_
  refine wp_region_lit ?_
  refine wl_val ha82 rfl rfl rfl (op_move ha82 rfl rfl) ?_
  intro a85 ha85; clear ha82 a82
  refine wl_val ha85 rfl rfl rfl (op_gtr ha85 rfl rfl rfl) ?_
  intro a86 ha86; clear ha85 a85
  refine wpList_nil ?_
  refine then_n ?_
  by_cases c87 : (0 : Int) < m
  ·
   rw [decide_eq_true c87] at ha86
   refine cond_t ha86 rfl ?_
   refine wp_skip ?_
   refine then_n ?_
   refine wp_seq ?_
   refine wp_block ?_
   refine wp_seq ?_
   refine wp_region_lit ?_
   refine wl_eff ha86 rfl rfl rfl (op_buildSlice (s := shI64) (xs := ([] : List Int)) (cs := []) (vs := []) (S := fun _ => False) (le := w74.heap.size) ha86 rfl pos_shI64 Try.underlying41 ti2 rfl rfl (by decide) (by kernel_rfl) rfl (fun _ h => h.elim)) ?_
   rintro v88 w89 ⟨ho90, he91, hob92⟩ a93 ha93; clear ha86 a86
   have hx94 := hx75.trans' (Stp.of_ext he91 _)
   have hzhx94 := he91.size
   replace hf76 := hf76.ext he91
   replace hf77 := hf77.ext he91
   replace hf78 := hf78.ext he91
   replace hf79 := hf79.ext he91
   replace hf80 := hf80.ext he91
   replace hf81 := hf81.ext he91
   refine wl_val ha93 rfl rfl rfl (op_assign ha93 rfl rfl) ?_
   intro a95 ha95; clear ha93 a93
   refine wpList_nil ?_
   refine then_n ?_
   refine wp_seq ?_
   refine wp_seq ?_
   refine wp_region_lit ?_
   refine wl_val ha95 rfl rfl rfl (op_assign ha95 rfl rfl) ?_
   intro a96 ha96; clear ha95 a95
   refine wpList_nil ?_
   refine then_n ?_
   refine wp_block ?_
   refine loop_inv (X := Nat × Value × (List Int)) (fun (⟨j, v2, acc2⟩ : Nat × Value × (List Int)) fr wl => Sl 54 fr [(0, .pointer (some (⟨g_s, 0, none⟩ : Addr))), (4, .pointer (some (⟨w0.heap.size, 0, none⟩ : Addr))), (5, .pointer (some (⟨w42.heap.size, 0, none⟩ : Addr))), (6, .int .i64 m), (7, v2), (8, .int .i64 ((j : Nat) : Int))] ∧ Stp w0 wl (some g_s) ∧ Src wl g_s b_s 102 ∧ Box wl w0.heap.size 28 [.slice none 0 0, .slice none 0 0] ∧ Own shStr 9 w2.heap.size w2.heap.size w35.heap.size wl v34 (words.take ((1 + ((q23 : Int)).toNat))) ∧ Own shRowN 41 w35.heap.size w35.heap.size w74.heap.size wl v1 zs ∧ Nst shI64 2 (fun x : List Int => x) w35.heap.size w74.heap.size wl zs ∧ Box wl w42.heap.size 28 [v34, v1] ∧ Own shI64 2 w74.heap.size w74.heap.size wl.heap.size wl v2 acc2 ∧ w89.heap.size ≤ wl.heap.size ∧ (j ≤ (words.take ((1 + ((q23 : Int)).toNat))).length) ∧ (acc2.length = j) ∧ (∀ n ∈ acc2, -100 ≤ n ∧ n ≤ 200)) (fun (⟨j, v2, acc2⟩ : Nat × Value × (List Int)) => (words.take ((1 + ((q23 : Int)).toNat))).length - j) (0, v88, ([] : List Int)) ?_ ?_
   ·
    exact ⟨(Sl.cons_ ha96 rfl rfl (Sl.cons_ ha96 rfl rfl (Sl.cons_ ha96 rfl rfl (Sl.cons_ ha96 rfl rfl (Sl.cons_ ha96 rfl rfl (Sl.cons_ ha96 rfl (int_eq (by omega)) (Sl.nil_ ha96))))))), hx94, hf76, hf77, hf78, hf79, hf80, hf81, (ho90.fin (by omega) (by omega) (by omega)), (by omega), (by omega), (by rfl), (by intro n hn; cases hn)⟩
   ·
    clear ha96 a96
    rintro ⟨j, v2, acc2⟩ a106 w97 ⟨ha106, hx98, hf99, hf100, hf102, hf103, hf104, hf101, hf105, hzl107, hj, hl2, hV⟩
    have hzhx98 := hx98.size
    have hgl108 := hf99.lt
    refine wp_seq ?_
    refine wp_seq ?_
    refine wp_region_lit ?_
    refine wl_val ha106 rfl rfl rfl (op_move ha106 rfl rfl) ?_
    intro a109 ha109; clear ha106 a106
    refine wl_val ha109 rfl rfl rfl (op_fieldAddr (sz := 0) ha109 rfl Try.underlying28 rfl rfl ti22 rfl) ?_
    intro a110 ha110; clear ha109 a109
    refine wl_val ha110 rfl rfl rfl (op_loadF (off := 0) ha110 rfl Try.underlying22 rfl rfl hf101.cells rfl) ?_
    intro a111 ha111; clear ha110 a110
    refine wl_val ha111 rfl rfl rfl (op_len_sl ha111 rfl Try.underlying22 rfl (hf102.rds pos_shStr)) ?_
    intro a112 ha112; clear ha111 a111
    refine wl_val ha112 rfl rfl rfl (op_lss ha112 rfl rfl rfl) ?_
    intro a113 ha113; clear ha112 a112
    refine wpList_nil ?_
    refine then_n ?_
    by_cases c114 : ((j : Nat) : Int) < (((words.take ((1 + ((q23 : Int)).toNat))).length : Nat) : Int)
    ·
     rw [decide_eq_true c114] at ha113
     refine cond_t ha113 rfl ?_
     refine wp_skip ?_
     refine then_n ?_
     refine wp_seq ?_
     refine wp_block ?_
     refine wp_region_lit ?_
     refine wl_val ha113 rfl rfl rfl (op_move ha113 rfl rfl) ?_
     intro a115 ha115; clear ha113 a113
     refine wl_val ha115 rfl rfl rfl (op_move ha115 rfl rfl) ?_
     intro a116 ha116; clear ha115 a115
     refine wl_val ha116 rfl rfl rfl (op_move ha116 rfl rfl) ?_
     intro a117 ha117; clear ha116 a116
     refine wl_callS ha117 rfl rfl rfl (op_call ha117 rfl cb81 rfl) (c_spec_l01Next _ g_s b_s (4 : Int) hf99) ?_
     rintro v118 w119 he120 ⟨hS121, ⟨q122, hq123, hq124, hq125, rfl⟩⟩ a126 ha126; clear ha117 a117
     have hx127 := hx98.trans' he120
     have hzhx127 := he120.size
     replace hf100 := hf100.stp he120 (by intro q hq; cases hq; omega)
     first | replace hf102 := hf102.stp he120 (by intro q hq; cases hq; omega) | replace hf102 := hf102.stpF flat_shStr he120 (by intro q hq; cases hq; exact hf102.ne_box (by assumption) rfl)
     first | replace hf103 := hf103.stp he120 (by intro q hq; cases hq; omega) | replace hf103 := hf103.stpF flat_shRowN he120 (by intro q hq; cases hq; exact hf103.ne_box (by assumption) rfl)
     first | replace hf104 := hf104.stp he120 (by intro q hq; cases hq; omega) | replace hf104 := hf104.stpB flat_shI64 he120 (by assumption) rfl
     replace hf101 := hf101.stp he120 (by intro q hq; cases hq; omega)
     first | replace hf105 := hf105.stp he120 (by intro q hq; cases hq; omega) | replace hf105 := hf105.stpF flat_shI64 he120 (by intro q hq; cases hq; exact hf105.ne_box (by assumption) rfl)
     clear hf99
     have hSlhS121 := hS121.lt
     refine wl_val ha126 rfl rfl rfl (op_move ha126 rfl rfl) ?_
     intro a128 ha128; clear ha126 a126
     refine wl_callS ha128 rfl rfl rfl (op_call ha128 rfl cb81 rfl) (c_spec_l01Next _ g_s b_s (200 : Int) hS121) ?_
     rintro v129 w130 he131 ⟨hS132, ⟨q133, hq134, hq135, hq136, rfl⟩⟩ a137 ha137; clear ha128 a128
     have hx138 := hx127.trans' he131
     have hzhx138 := he131.size
     replace hf100 := hf100.stp he131 (by intro q hq; cases hq; omega)
     first | replace hf102 := hf102.stp he131 (by intro q hq; cases hq; omega) | replace hf102 := hf102.stpF flat_shStr he131 (by intro q hq; cases hq; exact hf102.ne_box (by assumption) rfl)
     first | replace hf103 := hf103.stp he131 (by intro q hq; cases hq; omega) | replace hf103 := hf103.stpF flat_shRowN he131 (by intro q hq; cases hq; exact hf103.ne_box (by assumption) rfl)
     first | replace hf104 := hf104.stp he131 (by intro q hq; cases hq; omega) | replace hf104 := hf104.stpB flat_shI64 he131 (by assumption) rfl
     replace hf101 := hf101.stp he131 (by intro q hq; cases hq; omega)
     first | replace hf105 := hf105.stp he131 (by intro q hq; cases hq; omega) | replace hf105 := hf105.stpF flat_shI64 he131 (by intro q hq; cases hq; exact hf105.ne_box (by assumption) rfl)
     clear hS121
     have hSlhS132 := hS132.lt
     refine wl_val ha137 rfl rfl rfl ((op_sub ha137 rfl rfl rfl).int (IntWalk.i64_in _ (by omega))) ?_
     intro a139 ha139; clear ha137 a137
     refine wl_val ha139 rfl rfl rfl (op_move ha139 rfl rfl) ?_
     intro a140 ha140; clear ha139 a139
     refine wl_callS ha140 rfl rfl rfl (op_call ha140 rfl cb81 rfl) (c_spec_l01Next _ g_s b_s (4 : Int) hS132) ?_
     rintro v141 w142 he143 ⟨hS144, ⟨q145, hq146, hq147, hq148, rfl⟩⟩ a149 ha149; clear ha140 a140
     have hx150 := hx138.trans' he143
     have hzhx150 := he143.size
     replace hf100 := hf100.stp he143 (by intro q hq; cases hq; omega)
     first | replace hf102 := hf102.stp he143 (by intro q hq; cases hq; omega) | replace hf102 := hf102.stpF flat_shStr he143 (by intro q hq; cases hq; exact hf102.ne_box (by assumption) rfl)
     first | replace hf103 := hf103.stp he143 (by intro q hq; cases hq; omega) | replace hf103 := hf103.stpF flat_shRowN he143 (by intro q hq; cases hq; exact hf103.ne_box (by assumption) rfl)
     first | replace hf104 := hf104.stp he143 (by intro q hq; cases hq; omega) | replace hf104 := hf104.stpB flat_shI64 he143 (by assumption) rfl
     replace hf101 := hf101.stp he143 (by intro q hq; cases hq; omega)
     first | replace hf105 := hf105.stp he143 (by intro q hq; cases hq; omega) | replace hf105 := hf105.stpF flat_shI64 he143 (by intro q hq; cases hq; exact hf105.ne_box (by assumption) rfl)
     clear hS132
     have hSlhS144 := hS144.lt
     refine wl_eff ha149 rfl rfl rfl (op_buildSlice (s := shI64) (xs := [(q122 : Int), ((q133 : Int) - (100 : Int)), (q145 : Int)]) (cs := [.int .i64 (q122 : Int), .int .i64 ((q133 : Int) - (100 : Int)), .int .i64 (q145 : Int)]) (vs := [(0, .int .i64 (q122 : Int)), (1, .int .i64 ((q133 : Int) - (100 : Int))), (2, .int .i64 (q145 : Int))]) (S := fun _ => False) (le := w142.heap.size) ha149 rfl pos_shI64 Try.underlying41 ti2 rfl rfl (by decide) (by kernel_rfl) ⟨mk_shI64 ((q122 : Int)) (by first | omega | simp), mk_shI64 (((q133 : Int) - (100 : Int))) (by first | omega | simp), mk_shI64 ((q145 : Int)) (by first | omega | simp), rfl⟩ (fun _ h => h.elim)) ?_
     rintro v151 w152 ⟨ho153, he154, hob155⟩ a156 ha156; clear ha149 a149
     have hx157 := hx150.trans' (Stp.of_ext he154 _)
     have hzhx157 := he154.size
     replace hf100 := hf100.ext he154
     replace hf102 := hf102.ext he154
     replace hf103 := hf103.ext he154
     replace hf104 := hf104.ext he154
     replace hf101 := hf101.ext he154
     replace hf105 := hf105.ext he154
     replace hS144 := hS144.ext he154
     refine wl_callS ha156 rfl rfl rfl (op_call ha156 rfl cb90 rfl) (c_spec_l01Pick _ g_s b_s v151 ([(q122 : Int), ((q133 : Int) - (100 : Int)), (q145 : Int)]) hS144 (ho153.rds pos_shI64) (by rintro ⟨_, _⟩; omega) (by first | assumption | omega | (simp; done) | (simp; omega))) ?_
     rintro v158 w159 he160 ⟨hS161, ⟨q162, hq163, rfl⟩⟩ a164 ha164; clear ha156 a156
     have hx165 := hx157.trans' he160
     have hzhx165 := he160.size
     replace hf100 := hf100.stp he160 (by intro q hq; cases hq; omega)
     first | replace hf102 := hf102.stp he160 (by intro q hq; cases hq; omega) | replace hf102 := hf102.stpF flat_shStr he160 (by intro q hq; cases hq; exact hf102.ne_box (by assumption) rfl)
     first | replace hf103 := hf103.stp he160 (by intro q hq; cases hq; omega) | replace hf103 := hf103.stpF flat_shRowN he160 (by intro q hq; cases hq; exact hf103.ne_box (by assumption) rfl)
     first | replace hf104 := hf104.stp he160 (by intro q hq; cases hq; omega) | replace hf104 := hf104.stpB flat_shI64 he160 (by assumption) rfl
     replace hf101 := hf101.stp he160 (by intro q hq; cases hq; omega)
     first | replace hf105 := hf105.stp he160 (by intro q hq; cases hq; omega) | replace hf105 := hf105.stpF flat_shI64 he160 (by intro q hq; cases hq; exact hf105.ne_box (by assumption) rfl)
     first | replace ho153 := ho153.stp he160 (by intro q hq; cases hq; omega) | replace ho153 := ho153.stpF flat_shI64 he160 (by intro q hq; cases hq; exact ho153.ne_box (by assumption) rfl)
     clear hS144
     have hSlhS161 := hS161.lt
     simp only [List.mem_cons, List.not_mem_nil, or_false] at hq163
     refine wl_eff ha164 rfl rfl rfl (op_buildSlice (s := shI64) (xs := [(q162 : Int)]) (cs := [.int .i64 (q162 : Int)]) (vs := [(0, .int .i64 (q162 : Int))]) (S := fun _ => False) (le := w159.heap.size) ha164 rfl pos_shI64 Try.underlying41 ti2 rfl rfl (by decide) (by kernel_rfl) (Els.single (mk_shI64 ((q162 : Int)) (by first | omega | simp))) (fun _ h => h.elim)) ?_
     rintro v166 w167 ⟨ho168, he169, hob170⟩ a171 ha171; clear ha164 a164
     have hx172 := hx165.trans' (Stp.of_ext he169 _)
     have hzhx172 := he169.size
     replace hf100 := hf100.ext he169
     replace hf102 := hf102.ext he169
     replace hf103 := hf103.ext he169
     replace hf104 := hf104.ext he169
     replace hf101 := hf101.ext he169
     replace hf105 := hf105.ext he169
     replace ho153 := ho153.ext he169
     replace hS161 := hS161.ext he169
     refine wl_eff ha171 rfl rfl rfl (op_append (ts := #[]) (s := shI64) ha171 rfl Try.underlying41 ti2 rfl pos_shI64 rfl rfl hf105 (ho168.rds pos_shI64) (by omega) (by omega) (by first | omega | (simp; omega) | (simp only [List.length_take]; omega)) (by first | omega | (simp; omega) | (simp only [List.length_take]; omega)) (.inl flat_shI64)) ?_
     rintro v173 w174 ⟨ho175, hst176, hob177⟩ a178 ha178; clear ha171 a171
     have hx179 := hx172.fresh hst176 (by intro q hq; have hq0 := hf105.lt q hq; omega)
     have hzhx179 := hst176.size
     replace hf100 := hf100.stp hst176 (by intro q hq; have hq0 := hf105.lt q hq; omega)
     replace hf102 := hf102.stp hst176 (by intro q hq; have hq0 := hf105.lt q hq; omega)
     replace hf103 := hf103.stp hst176 (by intro q hq; have hq0 := hf105.lt q hq; omega)
     replace hf104 := hf104.stp hst176 (by intro q hq; have hq0 := hf105.lt q hq; omega)
     replace hf101 := hf101.stp hst176 (by intro q hq; have hq0 := hf105.lt q hq; omega)
     replace ho153 := ho153.stp hst176 (by intro q hq; have hq0 := hf105.lt q hq; omega)
     replace hS161 := hS161.stp hst176 (by intro q hq; have hq0 := hf105.lt q hq; omega)
     replace ho168 := ho168.stp hst176 (by intro q hq; have hq0 := hf105.lt q hq; omega)
     have hsp180 : ∀ q, Value.ownBlock v173 = some q → Value.ownBlock v151 ≠ some q := by intro q hq hb; have hq0 := ho153.lt q hb; rcases hob177 with h | h; (rw [h] at hq; first | (have hq1 := hf105.lt q hq; omega)); (rw [h] at hq; cases hq; omega)
     have hsp181 : ∀ q, Value.ownBlock v173 = some q → Value.ownBlock v166 ≠ some q := by intro q hq hb; have hq0 := ho168.lt q hb; rcases hob177 with h | h; (rw [h] at hq; first | (have hq1 := hf105.lt q hq; omega)); (rw [h] at hq; cases hq; omega)
     refine wl_val ha178 rfl rfl rfl (op_assign ha178 rfl rfl) ?_
     intro a182 ha182; clear ha178 a178
     refine wpList_nil ?_
     refine block_n ?_
     refine then_n ?_
     refine wp_region_lit ?_
     refine wl_val ha182 rfl rfl rfl (op_move ha182 rfl rfl) ?_
     intro a183 ha183; clear ha182 a182
     refine wl_val ha183 rfl rfl rfl ((op_add ha183 rfl rfl rfl).int (IntWalk.i64_in _ (by omega))) ?_
     intro a184 ha184; clear ha183 a183
     refine wl_val ha184 rfl rfl rfl (op_assign ha184 rfl rfl) ?_
     intro a185 ha185; clear ha184 a184
     refine wpList_nil ?_
     refine round_end (x := (j, v2, acc2)) ((j + 1), v173, (acc2 ++ [(q162 : Int)])) ?_ ?_
     ·
      refine ⟨(Sl.cons_ ha185 rfl rfl (Sl.cons_ ha185 rfl rfl (Sl.cons_ ha185 rfl rfl (Sl.cons_ ha185 rfl rfl (Sl.cons_ ha185 rfl rfl (Sl.cons_ ha185 rfl (int_eq (by omega)) (Sl.nil_ ha185))))))), hx179, hS161, hf100, hf102, hf103, hf104, hf101, (ho175.fin (by omega) (by omega) (by omega)), (by omega), (by omega), (by first | omega | (simp; omega)), (by intro n hn; rcases List.mem_append.1 hn with hn | hn; (exact hV n hn); (obtain rfl := List.mem_singleton.1 hn; omega))⟩
     ·show ((words.take ((1 + ((q23 : Int)).toNat))).length - ((j + 1)) : Nat) < (words.take ((1 + ((q23 : Int)).toNat))).length - j; omega
    ·
     rw [decide_eq_false c114] at ha113
     refine cond_f ha113 rfl ?_
     refine wp_exit ?_
     refine then_e ?_
     refine then_e ?_
     refine block_hit ?_
     refine then_n ?_
     refine wp_region_lit ?_
     refine wl_val ha113 rfl rfl rfl (op_fieldAddr (sz := 0) ha113 rfl Try.underlying28 rfl rfl ti23 rfl) ?_
     intro a186 ha186; clear ha113 a113
     refine wl_val ha186 rfl rfl rfl (op_loadF (off := 1) ha186 rfl Try.underlying23 rfl rfl hf101.cells rfl) ?_
     intro a187 ha187; clear ha186 a186
     refine wl_val ha187 rfl rfl rfl (op_move ha187 rfl rfl) ?_
     intro a188 ha188; clear ha187 a187
     refine wl_eff ha188 rfl rfl rfl (op_buildSlice (s := shRowN) (xs := [((acc2 : List Int), (v2 : Value))]) (cs := [v2]) (vs := [(0, v2)]) (S := fun _ => False) (le := w97.heap.size) ha188 rfl pos_shRowN Try.underlying23 ti41 rfl rfl (by decide) ((fill_one (off := 0) hf105.cells1 (by kernel_rfl) (by kernel_rfl)).trans (by kernel_rfl)) (Els.single (mk_shRowN (((acc2 : List Int), (v2 : Value))) hf105.one)) (fun _ h => h.elim)) ?_
     rintro v189 w190 ⟨ho191, he192, hob193⟩ a194 ha194; clear ha188 a188
     have hx195 := hx98.trans' (Stp.of_ext he192 _)
     have hzhx195 := he192.size
     replace hf99 := hf99.ext he192
     replace hf100 := hf100.ext he192
     replace hf102 := hf102.ext he192
     replace hf103 := hf103.ext he192
     replace hf104 := hf104.ext he192
     replace hf101 := hf101.ext he192
     replace hf105 := hf105.ext he192
     have hN196 : Nst shI64 2 (fun x : List Int => x) w74.heap.size w190.heap.size w190 ([((acc2 : List Int), (v2 : Value))]) := Nst.one (hf105.fin (by omega) (by omega) (by omega))
     refine wl_eff ha194 rfl rfl rfl (op_append (ts := #[]) (s := shRowN) ha194 rfl Try.underlying23 ti41 rfl pos_shRowN rfl rfl hf103 (ho191.rds pos_shRowN) (by omega) (by omega) (by first | omega | (simp; omega) | (simp only [List.length_take]; omega)) (by first | omega | (simp; omega) | (simp only [List.length_take]; omega)) (.inl flat_shRowN)) ?_
     rintro v197 w198 ⟨ho199, hst200, hob201⟩ a202 ha202; clear ha194 a194
     have hx203 := hx195.fresh hst200 (by intro q hq; have hq0 := hf103.lt q hq; omega)
     have hzhx203 := hst200.size
     replace hf99 := hf99.stp hst200 (by intro q hq; have hq0 := hf103.lt q hq; omega)
     replace hf100 := hf100.stp hst200 (by intro q hq; have hq0 := hf103.lt q hq; omega)
     replace hf102 := hf102.stp hst200 (by intro q hq; have hq0 := hf103.lt q hq; omega)
     first | replace hf104 := hf104.stpF flat_shI64 hst200 hf103 rfl | replace hf104 := hf104.stp hst200 (by intro q hq; have hq0 := hf103.lt q hq; omega)
     first | replace hf101 := hf101.stp hst200 (by intro q hq; have hq0 := hf103.lt q hq; omega) | replace hf101 := hf101.stp hst200 (by intro q hq e; subst e; exact hf103.ne_box hf101 rfl hq)
     replace hf105 := hf105.stp hst200 (by intro q hq; have hq0 := hf103.lt q hq; omega)
     replace ho191 := ho191.stp hst200 (by intro q hq; have hq0 := hf103.lt q hq; omega)
     replace hN196 := hN196.stp hst200 (by intro q hq; have hq0 := hf103.lt q hq; omega)
     have hsp204 : ∀ q, Value.ownBlock v197 = some q → Value.ownBlock v189 ≠ some q := by intro q hq hb; have hq0 := ho191.lt q hb; rcases hob201 with h | h; (rw [h] at hq; first | (have hq1 := hf103.lt q hq; omega)); (rw [h] at hq; cases hq; omega)
     have hN205 : Nst shI64 2 (fun x : List Int => x) w35.heap.size w198.heap.size w198 ((zs ++ [((acc2 : List Int), (v2 : Value))])) := (hf104.app hN196 (by omega) (by omega) (by omega)).fin (by omega) (by omega)
     refine wl_val ha202 rfl rfl rfl (op_fieldAddr (sz := 0) ha202 rfl Try.underlying28 rfl rfl ti23 rfl) ?_
     intro a206 ha206; clear ha202 a202
     refine wl_effS ha206 rfl rfl (op_store' (off := 1) ha206 rfl ti23 rfl rfl hf101 ho199.cells1 rfl (by intro u hu; have hu : u ∈ ([v197] : List Value) := hu; simp only [List.mem_cons, List.mem_nil_iff, or_false] at hu; rcases hu with rfl <;> first | rfl | exact ho199.one) (Nat.le_of_ble_eq_true rfl)) ?_
     rintro w207 ⟨hb209, hst208, hz210⟩
     have hx211 := hx203.fresh hst208 (by intro q hq; cases hq; exact (by omega))
     have hzhx211 := hst208.size
     replace hf99 := hf99.stp hst208 (by intro q hq; cases hq; omega)
     replace hf100 := hf100.stp hst208 (by intro q hq; cases hq; omega)
     replace hf102 := hf102.stp hst208 (by intro q hq; cases hq; omega)
     replace hf105 := hf105.stp hst208 (by intro q hq; cases hq; omega)
     replace ho191 := ho191.stp hst208 (by intro q hq; cases hq; omega)
     first | replace ho199 := ho199.stp hst208 (by intro q hq; cases hq; omega) | replace ho199 := ho199.stpF flat_shRowN hst208 (by intro q hq; cases hq; exact ho199.ne_box (by assumption) rfl)
     first | replace hN205 := hN205.stp hst208 (by intro q hq; cases hq; omega) | replace hN205 := hN205.stpB flat_shI64 hst208 (by assumption) rfl
     clear hf101
     refine wpList_nil ?_
     refine block_n ?_
     refine then_n ?_
     refine wp_region_lit ?_
     refine wl_val ha206 rfl rfl rfl (op_move ha206 rfl rfl) ?_
     intro a212 ha212; clear ha206 a206
     refine wl_val ha212 rfl rfl rfl ((op_sub ha212 rfl rfl rfl).int (IntWalk.i64_in _ (by omega))) ?_
     intro a213 ha213; clear ha212 a212
     refine wl_val ha213 rfl rfl rfl (op_assign ha213 rfl rfl) ?_
     intro a214 ha214; clear ha213 a213
     refine wpList_nil ?_
     refine round_end (x := (m, v1, zs)) ((m - (1 : Int)), v197, (zs ++ [((acc2 : List Int), (v2 : Value))])) ?_ ?_
     ·
      refine ⟨(Sl.cons_ ha214 rfl rfl (Sl.cons_ ha214 rfl rfl (Sl.cons_ ha214 rfl rfl (Sl.cons_ ha214 rfl (int_eq (by omega)) (Sl.nil_ ha214))))), hx211, hf99, hf100, hf102, (ho199.fin (by omega) (by omega) (by omega)), (hN205.fin (by omega) (by omega)), hb209, (by omega), (by omega), (by omega), (by first | omega | (simp; omega)), (by intro z hz; rcases List.mem_append.1 hz with hz | hz; (exact hZ z hz); (obtain rfl := List.mem_singleton.1 hz; show acc2.length = _ ∧ _; exact ⟨(by omega), hV⟩)), (by exact hH)⟩
     ·show (((m - (1 : Int))).toNat : Nat) < m.toNat; omega
  ·
   rw [decide_eq_false c87] at ha86
   refine cond_f ha86 rfl ?_
   refine wp_exit ?_
   refine then_e ?_
   refine then_e ?_
   refine block_hit ?_
   refine then_n ?_
   refine wp_seq ?_
   refine wp_region_lit ?_
   refine wl_val ha86 rfl rfl rfl (op_loadS ha86 rfl Try.underlying28 ti28 rfl rfl hf81.cells) ?_
   intro a215 ha215; clear ha86 a86
   refine wl_effS ha215 rfl rfl (op_storeAll' ha215 rfl ti28 rfl rfl hf77 rfl rfl (by intro u hu; have hu : u ∈ ([v34, v1] : List Value) := hu; simp only [List.mem_cons, List.mem_nil_iff, or_false] at hu; rcases hu with rfl | rfl <;> first | rfl | exact hf78.one | exact hf79.one) rfl) ?_
   rintro w216 ⟨hb218, hst217, hz219⟩
   have hx220 := hx75.fresh hst217 (by intro q hq; cases hq; exact (by omega))
   have hzhx220 := hst217.size
   replace hf76 := hf76.stp hst217 (by intro q hq; cases hq; omega)
   replace hf78 := hf78.stp hst217 (by intro q hq; cases hq; omega)
   replace hf79 := hf79.stp hst217 (by intro q hq; cases hq; omega)
   replace hf80 := hf80.stp hst217 (by intro q hq; cases hq; omega)
   replace hf81 := hf81.stp hst217 (by intro q hq; cases hq; omega)
   clear hf77
   refine wpList_nil ?_
   refine then_n ?_
   refine wp_ret ?_
   refine retc ha215 rfl rfl Try.underlying28 ti28 rfl hb218.cells ?_
   clear ha215 a215
   refine ret_mkS hx220 ⟨hf76, ?_⟩
   refine ⟨((words.take ((1 + ((q23 : Int)).toNat)), (zs.map (·.1))) : Tab), (by exact hH.1), (by exact hH.2), (by show (zs.map (·.1)).length ≤ 5; rw [List.length_map]; omega), (by intro r hr; obtain ⟨z, hz, rfl⟩ := List.mem_map.1 hr; exact hZ z hz), (by exact take_take_len), ?_⟩
   refine ⟨v34, v1, zs, (by rfl), ?_, hf79.fin (by omega) (by omega) (by omega), hf80.fin (by omega) (by omega), ?_⟩
   ·
    refine (hf78.fin (by omega) (by omega) (by omega)).cast ?_
    rfl
   ·
    rfl

set_option maxHeartbeats 4000000 in
theorem c_spec_l01DrawValue (w0 : World) (g_s b_s : Nat) (h_s : Src w0 g_s b_s 102) :
  Calls Try.prog 103 #[.pointer (some (⟨g_s, 0, none⟩ : Addr))] w0 (RetS w0 (some g_s) (fun v w1 => Src w1 g_s b_s 102 ∧ (fun v w1 => ∃ (r : Int), (-2000000000000 ≤ r) ∧ (r ≤ 2000000000000) ∧ (fun v _ => v = .int .i64 (r)) v w1) v w1)) := by
 refine enter (N := 21) Try.func103 rfl rfl rfl ?_
 intro a0 ha0
 have hx0 := Stp.rfl' w0 (some g_s)
 have hgl_s := h_s.lt
 refine wp_seq ?_
 refine wp_region_lit ?_
 refine wl_val ha0 rfl rfl rfl (op_assign ha0 rfl rfl) ?_
 intro a1 ha1; clear ha0 a0
 refine wpList_nil ?_
 refine then_n ?_
 refine wp_seq ?_
 refine wp_seq ?_
 refine wp_region_lit ?_
 refine wl_val ha1 rfl rfl rfl (op_move ha1 rfl rfl) ?_
 intro a2 ha2; clear ha1 a1
 refine wl_callS ha2 rfl rfl rfl (op_call ha2 rfl cb81 rfl) (c_spec_l01Next _ g_s b_s (10 : Int) h_s) ?_
 rintro v3 w4 he5 ⟨hS6, ⟨q7, hq8, hq9, hq10, rfl⟩⟩ a11 ha11; clear ha2 a2
 have hx12 := hx0.trans' he5
 have hzhx12 := he5.size
 have hSlhS6 := hS6.lt
 refine wl_val ha11 rfl rfl rfl (op_eql ha11 rfl rfl rfl) ?_
 intro a13 ha13; clear ha11 a11
 refine wpList_nil ?_
 refine then_n ?_
 by_cases c14 : (q7 : Int) = (0 : Int)
 ·
  rw [decide_eq_true c14] at ha13
  refine cond_t ha13 rfl ?_
  refine wp_seq ?_
  refine wp_region_lit ?_
  refine wl_val ha13 rfl rfl rfl (op_move ha13 rfl rfl) ?_
  intro a15 ha15; clear ha13 a13
  refine wl_eff ha15 rfl rfl rfl (op_buildSlice (s := shI64) (xs := [(0 : Int), (1000000000000 : Int), (1000000000001 : Int), (-1000000000000 : Int), (-1000000000001 : Int), (1 : Int)]) (cs := [.int .i64 (0 : Int), .int .i64 (1000000000000 : Int), .int .i64 (1000000000001 : Int), .int .i64 (-1000000000000 : Int), .int .i64 (-1000000000001 : Int), .int .i64 (1 : Int)]) (vs := [(0, .int .i64 (0 : Int)), (1, .int .i64 (1000000000000 : Int)), (2, .int .i64 (1000000000001 : Int)), (3, .int .i64 (-1000000000000 : Int)), (4, .int .i64 (-1000000000001 : Int)), (5, .int .i64 (1 : Int))]) (S := fun _ => False) (le := w4.heap.size) ha15 rfl pos_shI64 Try.underlying41 ti2 rfl rfl (by decide) (by kernel_rfl) ⟨mk_shI64 ((0 : Int)) (by first | omega | simp), mk_shI64 ((1000000000000 : Int)) (by first | omega | simp), mk_shI64 ((1000000000001 : Int)) (by first | omega | simp), mk_shI64 ((-1000000000000 : Int)) (by first | omega | simp), mk_shI64 ((-1000000000001 : Int)) (by first | omega | simp), mk_shI64 ((1 : Int)) (by first | omega | simp), rfl⟩ (fun _ h => h.elim)) ?_
  rintro v16 w17 ⟨ho18, he19, hob20⟩ a21 ha21; clear ha15 a15
  have hx22 := hx12.trans' (Stp.of_ext he19 _)
  have hzhx22 := he19.size
  replace hS6 := hS6.ext he19
  refine wl_callS ha21 rfl rfl rfl (op_call ha21 rfl cb90 rfl) (c_spec_l01Pick _ g_s b_s v16 ([(0 : Int), (1000000000000 : Int), (1000000000001 : Int), (-1000000000000 : Int), (-1000000000001 : Int), (1 : Int)]) hS6 (ho18.rds pos_shI64) (by rintro ⟨_, _⟩; omega) (by first | assumption | omega | (simp; done) | (simp; omega))) ?_
  rintro v23 w24 he25 ⟨hS26, ⟨q27, hq28, rfl⟩⟩ a29 ha29; clear ha21 a21
  have hx30 := hx22.trans' he25
  have hzhx30 := he25.size
  first | replace ho18 := ho18.stp he25 (by intro q hq; cases hq; omega) | replace ho18 := ho18.stpF flat_shI64 he25 (by intro q hq; cases hq; exact ho18.ne_box (by assumption) rfl)
  clear hS6
  have hSlhS26 := hS26.lt
  simp only [List.mem_cons, List.not_mem_nil, or_false] at hq28
  refine wl_val ha29 rfl rfl rfl (op_assign ha29 rfl rfl) ?_
  intro a31 ha31; clear ha29 a29
  refine wpList_nil ?_
  refine then_n ?_
  refine wp_ret ?_
  refine then_r ?_
  refine ret1 ha31 rfl rfl ?_
  clear ha31 a31
  refine ret_mkS hx30 ⟨hS26, ?_⟩
  refine ⟨(q27 : Int), (by omega), (by omega), ?_⟩
  exact (int_eq (by rfl))
 ·
  rw [decide_eq_false c14] at ha13
  refine cond_f ha13 rfl ?_
  refine wp_skip ?_
  refine then_n ?_
  refine wp_seq ?_
  refine wp_region_lit ?_
  refine wl_val ha13 rfl rfl rfl (op_move ha13 rfl rfl) ?_
  intro a32 ha32; clear ha13 a13
  refine wl_val ha32 rfl rfl rfl (op_move ha32 rfl rfl) ?_
  intro a33 ha33; clear ha32 a32
  refine wl_callS ha33 rfl rfl rfl (op_call ha33 rfl cb81 rfl) (c_spec_l01Next _ g_s b_s (41 : Int) hS6) ?_
  rintro v34 w35 he36 ⟨hS37, ⟨q38, hq39, hq40, hq41, rfl⟩⟩ a42 ha42; clear ha33 a33
  have hx43 := hx12.trans' he36
  have hzhx43 := he36.size
  clear hS6
  have hSlhS37 := hS37.lt
  refine wl_val ha42 rfl rfl rfl ((op_sub ha42 rfl rfl rfl).int (IntWalk.i64_in _ (by omega))) ?_
  intro a44 ha44; clear ha42 a42
  refine wl_val ha44 rfl rfl rfl (op_move ha44 rfl rfl) ?_
  intro a45 ha45; clear ha44 a44
  refine wl_callS ha45 rfl rfl rfl (op_call ha45 rfl cb81 rfl) (c_spec_l01Next _ g_s b_s (2001 : Int) hS37) ?_
  rintro v46 w47 he48 ⟨hS49, ⟨q50, hq51, hq52, hq53, rfl⟩⟩ a54 ha54; clear ha45 a45
  have hx55 := hx43.trans' he48
  have hzhx55 := he48.size
  clear hS37
  have hSlhS49 := hS49.lt
  refine wl_val ha54 rfl rfl rfl ((op_sub ha54 rfl rfl rfl).int (IntWalk.i64_in _ (by omega))) ?_
  intro a56 ha56; clear ha54 a54
  refine wl_val ha56 rfl rfl rfl (op_move ha56 rfl rfl) ?_
  intro a57 ha57; clear ha56 a56
  refine wl_callS ha57 rfl rfl rfl (op_call ha57 rfl cb81 rfl) (c_spec_l01Next _ g_s b_s (2000000001 : Int) hS49) ?_
  rintro v58 w59 he60 ⟨hS61, ⟨q62, hq63, hq64, hq65, rfl⟩⟩ a66 ha66; clear ha57 a57
  have hx67 := hx55.trans' he60
  have hzhx67 := he60.size
  clear hS49
  have hSlhS61 := hS61.lt
  refine wl_val ha66 rfl rfl rfl ((op_sub ha66 rfl rfl rfl).int (IntWalk.i64_in _ (by omega))) ?_
  intro a68 ha68; clear ha66 a66
  refine wl_eff ha68 rfl rfl rfl (op_buildSlice (s := shI64) (xs := [((q38 : Int) - (20 : Int)), ((q50 : Int) - (1000 : Int)), ((q62 : Int) - (1000000000 : Int))]) (cs := [.int .i64 ((q38 : Int) - (20 : Int)), .int .i64 ((q50 : Int) - (1000 : Int)), .int .i64 ((q62 : Int) - (1000000000 : Int))]) (vs := [(0, .int .i64 ((q38 : Int) - (20 : Int))), (1, .int .i64 ((q50 : Int) - (1000 : Int))), (2, .int .i64 ((q62 : Int) - (1000000000 : Int)))]) (S := fun _ => False) (le := w59.heap.size) ha68 rfl pos_shI64 Try.underlying41 ti2 rfl rfl (by decide) (by kernel_rfl) ⟨mk_shI64 (((q38 : Int) - (20 : Int))) (by first | omega | simp), mk_shI64 (((q50 : Int) - (1000 : Int))) (by first | omega | simp), mk_shI64 (((q62 : Int) - (1000000000 : Int))) (by first | omega | simp), rfl⟩ (fun _ h => h.elim)) ?_
  rintro v69 w70 ⟨ho71, he72, hob73⟩ a74 ha74; clear ha68 a68
  have hx75 := hx67.trans' (Stp.of_ext he72 _)
  have hzhx75 := he72.size
  replace hS61 := hS61.ext he72
  refine wl_callS ha74 rfl rfl rfl (op_call ha74 rfl cb90 rfl) (c_spec_l01Pick _ g_s b_s v69 ([((q38 : Int) - (20 : Int)), ((q50 : Int) - (1000 : Int)), ((q62 : Int) - (1000000000 : Int))]) hS61 (ho71.rds pos_shI64) (by rintro ⟨_, _⟩; omega) (by first | assumption | omega | (simp; done) | (simp; omega))) ?_
  rintro v76 w77 he78 ⟨hS79, ⟨q80, hq81, rfl⟩⟩ a82 ha82; clear ha74 a74
  have hx83 := hx75.trans' he78
  have hzhx83 := he78.size
  first | replace ho71 := ho71.stp he78 (by intro q hq; cases hq; omega) | replace ho71 := ho71.stpF flat_shI64 he78 (by intro q hq; cases hq; exact ho71.ne_box (by assumption) rfl)
  clear hS61
  have hSlhS79 := hS79.lt
  simp only [List.mem_cons, List.not_mem_nil, or_false] at hq81
  refine wl_val ha82 rfl rfl rfl (op_assign ha82 rfl rfl) ?_
  intro a84 ha84; clear ha82 a82
  refine wpList_nil ?_
  refine then_n ?_
  refine wp_ret ?_
  refine ret1 ha84 rfl rfl ?_
  clear ha84 a84
  refine ret_mkS hx83 ⟨hS79, ?_⟩
  refine ⟨(q80 : Int), (by omega), (by omega), ?_⟩
  exact (int_eq (by rfl))

set_option maxHeartbeats 4000000 in
theorem c_spec_l31Draw (w0 : World) (g_s b_s : Nat) (h_s : Src w0 g_s b_s 102) :
  Calls Try.prog 82 #[.pointer (some (⟨g_s, 0, none⟩ : Addr))] w0 (RetS w0 (some g_s) (fun v w1 => Src w1 g_s b_s 102 ∧ (fun v w1 => ∃ (t : Tab), (1 ≤ t.1.length) ∧ (t.1.length ≤ 6) ∧ (t.2.length ≤ 30) ∧ (∀ r ∈ t.2, 1 ≤ r.length ∧ r.length ≤ 6) ∧ (fun v w1 => ∃ r0_0 r0_1 z0_1, v = .agg #[r0_0, r0_1] ∧ Own shStr 9 w0.heap.size w0.heap.size w1.heap.size w1 r0_0 ((t).1) ∧ Own shRowN 41 w0.heap.size w0.heap.size w1.heap.size w1 r0_1 z0_1 ∧ Nst shI64 2 (fun x : List Int => x) w0.heap.size w1.heap.size w1 z0_1 ∧ z0_1.map (·.1) = ((t).2)) v w1) v w1)) := by
 refine enter (N := 48) Try.func82 rfl rfl rfl ?_
 intro a0 ha0
 have hx0 := Stp.rfl' w0 (some g_s)
 have hgl_s := h_s.lt
 refine wp_seq ?_
 refine wp_region_lit ?_
 refine wl_eff ha0 rfl rfl rfl (op_alloc' rfl ti28 rfl) ?_
 rintro _ w2 ⟨rfl, he3, hb4, hz5⟩ a6 ha6; clear ha0 a0
 have hx7 := hx0.trans' (Stp.of_ext he3 _)
 have hzhx7 := he3.size
 replace h_s := h_s.ext he3
 refine wpList_nil ?_
 refine then_n ?_
 refine wp_seq ?_
 refine wp_region_lit ?_
 refine wl_val ha6 rfl rfl rfl (op_move ha6 rfl rfl) ?_
 intro a8 ha8; clear ha6 a6
 refine wl_eff ha8 rfl rfl rfl (op_buildSlice (s := shStr) (xs := [([100, 97, 121] : Str), ([115, 97, 108, 101, 115] : Str), ([104, 111, 117, 114, 115] : Str), ([118, 105, 115, 105, 116, 115] : Str)]) (cs := [St (([100, 97, 121] : Str)), St (([115, 97, 108, 101, 115] : Str)), St (([104, 111, 117, 114, 115] : Str)), St (([118, 105, 115, 105, 116, 115] : Str))]) (vs := [(0, St (([100, 97, 121] : Str))), (1, St (([115, 97, 108, 101, 115] : Str))), (2, St (([104, 111, 117, 114, 115] : Str))), (3, St (([118, 105, 115, 105, 116, 115] : Str)))]) (S := fun _ => False) (le := w2.heap.size) ha8 rfl pos_shStr Try.underlying22 ti9 rfl rfl (by decide) (by kernel_rfl) ⟨mk_shStr (([100, 97, 121] : Str)) (by first | omega | simp), mk_shStr (([115, 97, 108, 101, 115] : Str)) (by first | omega | simp), mk_shStr (([104, 111, 117, 114, 115] : Str)) (by first | omega | simp), mk_shStr (([118, 105, 115, 105, 116, 115] : Str)) (by first | omega | simp), rfl⟩ (fun _ h => h.elim)) ?_
 rintro v9 w10 ⟨ho11, he12, hob13⟩ a14 ha14; clear ha8 a8
 have hx15 := hx7.trans' (Stp.of_ext he12 _)
 have hzhx15 := he12.size
 replace h_s := h_s.ext he12
 replace hb4 := hb4.ext he12
 refine wl_callS ha14 rfl rfl rfl (op_call ha14 rfl cb83 rfl) (c_spec_l31Good _ g_s b_s v9 ([([100, 97, 121] : Str), ([115, 97, 108, 101, 115] : Str), ([104, 111, 117, 114, 115] : Str), ([118, 105, 115, 105, 116, 115] : Str)]) h_s (ho11.rds pos_shStr) (by rintro ⟨_, _⟩; omega) (by first | assumption | omega | (simp; done) | (simp; omega)) (by first | assumption | omega | (simp; done) | (simp; omega))) ?_
 rintro v16 w17 he18 ⟨hS19, ⟨q20, hq21, hq22, hq23, hq24, hq25, ⟨u26, u28, z30, rfl, ho27, ho29, hN31, hE32⟩⟩⟩ a33 ha33; clear ha14 a14
 have hx34 := hx15.trans' he18
 have hzhx34 := he18.size
 replace hb4 := hb4.stp he18 (by intro q hq; cases hq; omega)
 first | replace ho11 := ho11.stp he18 (by intro q hq; cases hq; omega) | replace ho11 := ho11.stpF flat_shStr he18 (by intro q hq; cases hq; exact ho11.ne_box (by assumption) rfl)
 have hSlhS19 := hS19.lt
 have hlhE32 := absLen hE32
 try simp only [List.length_cons, List.length_nil] at hq22
 refine wl_eff ha33 rfl rfl rfl (op_alloc' rfl ti28 rfl) ?_
 rintro _ w36 ⟨rfl, he37, hb38, hz39⟩ a40 ha40; clear ha33 a33
 have hx41 := hx34.trans' (Stp.of_ext he37 _)
 have hzhx41 := he37.size
 replace hb4 := hb4.ext he37
 replace ho11 := ho11.ext he37
 replace hS19 := hS19.ext he37
 replace ho27 := ho27.ext he37
 replace ho29 := ho29.ext he37
 replace hN31 := hN31.ext he37
 refine wl_effS ha40 rfl rfl (op_storeAll' ha40 rfl ti28 rfl rfl hb38 rfl rfl (by intro u hu; have hu : u ∈ ([u26, u28] : List Value) := hu; simp only [List.mem_cons, List.mem_nil_iff, or_false] at hu; rcases hu with rfl | rfl <;> first | rfl | exact ho27.one | exact ho29.one) rfl) ?_
 rintro w42 ⟨hb44, hst43, hz45⟩
 have hx46 := hx41.fresh hst43 (by intro q hq; cases hq; exact (by omega))
 have hzhx46 := hst43.size
 replace hb4 := hb4.stp hst43 (by intro q hq; cases hq; omega)
 replace ho11 := ho11.stp hst43 (by intro q hq; cases hq; omega)
 replace hS19 := hS19.stp hst43 (by intro q hq; cases hq; omega)
 replace ho27 := ho27.stp hst43 (by intro q hq; cases hq; omega)
 replace ho29 := ho29.stp hst43 (by intro q hq; cases hq; omega)
 replace hN31 := hN31.stp hst43 (by intro q hq; cases hq; omega)
 clear hb38
 refine wpList_nil ?_
 refine then_n ?_
 refine wp_seq ?_
 refine wp_seq ?_
 refine wp_region_lit ?_
 refine wl_val ha40 rfl rfl rfl (op_move ha40 rfl rfl) ?_
 intro a47 ha47; clear ha40 a40
 refine wl_callS ha47 rfl rfl rfl (op_call ha47 rfl cb81 rfl) (c_spec_l01Next _ g_s b_s (40 : Int) hS19) ?_
 rintro v48 w49 he50 ⟨hS51, ⟨q52, hq53, hq54, hq55, rfl⟩⟩ a56 ha56; clear ha47 a47
 have hx57 := hx46.trans' he50
 have hzhx57 := he50.size
 replace hb4 := hb4.stp he50 (by intro q hq; cases hq; omega)
 first | replace ho11 := ho11.stp he50 (by intro q hq; cases hq; omega) | replace ho11 := ho11.stpF flat_shStr he50 (by intro q hq; cases hq; exact ho11.ne_box (by assumption) rfl)
 first | replace ho27 := ho27.stp he50 (by intro q hq; cases hq; omega) | replace ho27 := ho27.stpF flat_shStr he50 (by intro q hq; cases hq; exact ho27.ne_box (by assumption) rfl)
 first | replace ho29 := ho29.stp he50 (by intro q hq; cases hq; omega) | replace ho29 := ho29.stpF flat_shRowN he50 (by intro q hq; cases hq; exact ho29.ne_box (by assumption) rfl)
 first | replace hN31 := hN31.stp he50 (by intro q hq; cases hq; omega) | replace hN31 := hN31.stpB flat_shI64 he50 (by assumption) rfl
 replace hb44 := hb44.stp he50 (by intro q hq; cases hq; omega)
 clear hS19
 have hSlhS51 := hS51.lt
 refine wpList_nil ?_
 refine then_n ?_
 refine wp_block ?_
 refine wp_seq ?_
 refine wp_region_lit ?_
 refine wl_val ha56 rfl rfl rfl (op_eql ha56 rfl rfl rfl) ?_
 intro a58 ha58; clear ha56 a56
 refine wl_val ha58 rfl rfl rfl (op_assign ha58 rfl rfl) ?_
 intro a59 ha59; clear ha58 a58
 refine wpList_nil ?_
 refine then_n ?_
 by_cases c60 : (q52 : Int) = (0 : Int)
 ·
  rw [decide_eq_true c60] at ha59
  refine cond_t ha59 rfl ?_
  refine dr_enter (fun wa_ wb_ => StpL wa_ wb_ (fun i => Value.ownBlock u26 = some i ∨ i = g_s)) follows_mixed ?_
  intro w61 he62
  have hx63 := hx57.trans' (Stp.of_ext he62 _)
  have hzhx63 := he62.size
  replace hb4 := hb4.ext he62
  replace ho11 := ho11.ext he62
  replace ho27 := ho27.ext he62
  replace ho29 := ho29.ext he62
  replace hN31 := hN31.ext he62
  replace hb44 := hb44.ext he62
  replace hS51 := hS51.ext he62
  have hs64 : Ext w61 w61 := Ext.rfl' _
  refine dr_val (i := 0) ha59 rfl (by kernel_rfl) (by kernel_rfl) (by kernel_rfl) rfl rfl rfl (StpL.of_ext hs64) (fun w' hw' => op_fieldAddr (sz := 0) ha59 rfl Try.underlying28 rfl rfl ti22 rfl) ?_
  intro a65 ha65; clear ha59 a59
  refine dr_val (i := 1) ha65 rfl (by kernel_rfl) (by kernel_rfl) (by kernel_rfl) rfl rfl rfl (StpL.of_ext hs64) (fun w' hw' => op_loadF (off := 0) ha65 rfl Try.underlying22 rfl rfl (hb44.stpL hw' (by rintro (q | q) <;> first | omega | (have hq0 := ho27.lt _ q; omega) | exact ho27.ne_box hb44 rfl q)).cells rfl) ?_
  intro a66 ha66; clear ha65 a65
  refine dr_val (i := 3) ha66 rfl (by kernel_rfl) (by kernel_rfl) (by kernel_rfl) rfl rfl rfl (StpL.of_ext hs64) (fun w' hw' => op_move ha66 rfl rfl) ?_
  intro a67 ha67; clear ha66 a66
  refine dr_two (i := 2) (j := 4) (by kernel_rfl) ?_ ?_
  ·
   refine po_eff ha67 rfl rfl rfl rfl (op_buildSlice (s := shStr) (xs := [([115, 97, 108, 101, 115] : Str), ([68, 97, 121] : Str), ([100, 97, 121] : Str)]) (cs := [St (([115, 97, 108, 101, 115] : Str)), St (([68, 97, 121] : Str)), St (([100, 97, 121] : Str))]) (vs := [(0, St (([115, 97, 108, 101, 115] : Str))), (1, St (([68, 97, 121] : Str))), (2, St (([100, 97, 121] : Str)))]) (S := fun _ => False) (le := w61.heap.size) ha67 rfl pos_shStr Try.underlying22 ti9 rfl rfl (by decide) (by kernel_rfl) ⟨mk_shStr (([115, 97, 108, 101, 115] : Str)) (by first | omega | simp), mk_shStr (([68, 97, 121] : Str)) (by first | omega | simp), mk_shStr (([100, 97, 121] : Str)) (by first | omega | simp), rfl⟩ (fun _ h => h.elim)) ?_
   rintro v68 w69 ⟨ho70, he71, hob72⟩ a73 ha73; clear ha67 a67
   have hs74 := hs64.trans' he71
   have hx75 := hx63.trans' (Stp.of_ext he71 _)
   have hzhx75 := he71.size
   refine ⟨(StpL.of_ext hs74), ?_⟩
   refine dr_one (i := 4) (by kernel_rfl) ?_
   replace hb4 := hb4.ext hs74
   replace ho11 := ho11.ext hs74
   replace ho27 := ho27.ext hs74
   replace ho29 := ho29.ext hs74
   replace hN31 := hN31.ext hs74
   replace hb44 := hb44.ext hs74
   replace hS51 := hS51.ext hs74
   refine po_callS ha73 rfl rfl rfl rfl (op_call ha73 rfl cb81 rfl) (c_spec_l01Next _ g_s b_s (3 : Int) hS51) ?_
   rintro v76 w77 he78 ⟨hS79, ⟨q80, hq81, hq82, hq83, rfl⟩⟩ a84 ha84; clear ha73 a73
   have hx85 := hx75.trans' he78
   have hzhx85 := he78.size
   replace hb4 := hb4.stp he78 (by intro q hq; cases hq; omega)
   first | replace ho11 := ho11.stp he78 (by intro q hq; cases hq; omega) | replace ho11 := ho11.stpF flat_shStr he78 (by intro q hq; cases hq; exact ho11.ne_box (by assumption) rfl)
   first | replace ho27 := ho27.stp he78 (by intro q hq; cases hq; omega) | replace ho27 := ho27.stpF flat_shStr he78 (by intro q hq; cases hq; exact ho27.ne_box (by assumption) rfl)
   first | replace ho29 := ho29.stp he78 (by intro q hq; cases hq; omega) | replace ho29 := ho29.stpF flat_shRowN he78 (by intro q hq; cases hq; exact ho29.ne_box (by assumption) rfl)
   first | replace hN31 := hN31.stp he78 (by intro q hq; cases hq; omega) | replace hN31 := hN31.stpB flat_shI64 he78 (by assumption) rfl
   replace hb44 := hb44.stp he78 (by intro q hq; cases hq; omega)
   first | replace ho70 := ho70.stp he78 (by intro q hq; cases hq; omega) | replace ho70 := ho70.stpF flat_shStr he78 (by intro q hq; cases hq; exact ho70.ne_box (by assumption) rfl)
   clear hS51
   have hSlhS79 := hS79.lt
   have hs86 := (StpL.of_ext (B := fun i => Value.ownBlock u26 = some i ∨ i = g_s) hs74).trans' (Stp.toL he78 (by intro q hq; cases hq; exact Or.inr (rfl)))
   refine ⟨hs86, ?_⟩
   obtain ⟨x87, hx87⟩ := get_ex (xs := [([115, 97, 108, 101, 115] : Str), ([68, 97, 121] : Str), ([100, 97, 121] : Str)]) (j := ((q80 : Int)).toNat) (by first | omega | (simp only [List.length_cons, List.length_nil]; omega))
   obtain ⟨p88, c89, hi90, hc91, hr92, hs93⟩ := Rds.at_ (ho70.rds pos_shStr) hx87
   obtain ⟨rfl, b94⟩ := inv_shStr hr92
   obtain ⟨_, _⟩ : _ ∧ _ := hs93
   refine dr_val (i := 5) ha84 rfl (by kernel_rfl) (by kernel_rfl) (by kernel_rfl) rfl rfl rfl hs86 (fun w' hw' => op_indexAddr ha84 rfl Try.underlying22 ti9 rfl rfl (by omega) hi90) ?_
   intro a95 ha95; clear ha84 a84
   refine dr_one (i := 6) (by kernel_rfl) ?_
   refine po_to ha95 rfl rfl rfl rfl (op_loadH ha95 rfl Try.underlying9 rfl rfl hc91 rfl) ?_
   intro a96 ha96; clear ha95 a95
   refine ⟨hs86, ?_⟩
   obtain ⟨x97, hx97⟩ := get_ex (xs := ((q20).1)) (j := 0) (by first | omega | (simp only [List.length_cons, List.length_nil]; omega))
   obtain ⟨p98, c99, hi100, hc101, hr102, hs103⟩ := Rds.at_ (ho27.rds pos_shStr) hx97
   obtain ⟨rfl, b104⟩ := inv_shStr hr102
   obtain ⟨_, _⟩ : _ ∧ _ := hs103
   refine dr_val (i := 7) ha96 rfl (by kernel_rfl) (by kernel_rfl) (by kernel_rfl) rfl rfl rfl hs86 (fun w' hw' => op_indexAddr ha96 rfl Try.underlying22 ti9 rfl rfl (by omega) hi100) ?_
   intro a105 ha105; clear ha96 a96
   refine dr_one (i := 8) (by kernel_rfl) ?_
   refine po_effS ha105 rfl rfl rfl (op_setElem (s := shStr) (ds := [St x87]) (S' := fun _ => False) ha105 rfl ti9 rfl rfl rfl ho27 pos_shStr hi100 (by first | omega | (simp only [List.length_cons, List.length_nil]; omega)) (mk_shStr x87 (by first | omega | simp)) (fun _ h => h.elim)) ?_
   rintro w106 ⟨ho108, hst107, hz109⟩
   have hx110 := hx85.fresh hst107 (by intro q hq; have hq0 := ho27.lt q hq; omega)
   have hzhx110 := hst107.size
   replace hb4 := hb4.stp hst107 (by intro q hq; have hq0 := ho27.lt q hq; omega)
   replace ho11 := ho11.stp hst107 (by intro q hq; have hq0 := ho27.lt q hq; omega)
   first | replace ho29 := ho29.stp hst107 (by intro q hq; have hq0 := ho27.lt q hq; omega) | replace ho29 := ho29.stpF flat_shRowN hst107 (ho29.ne ho27 rfl)
   first | replace hN31 := hN31.stpF flat_shI64 hst107 ho27 rfl | replace hN31 := hN31.stp hst107 (by intro q hq; have hq0 := ho27.lt q hq; omega)
   replace hb44 := hb44.stp hst107 (by intro q hq; have hq0 := ho27.lt q hq; omega)
   replace ho70 := ho70.stp hst107 (by intro q hq; have hq0 := ho27.lt q hq; omega)
   replace hS79 := hS79.stp hst107 (by intro q hq; have hq0 := ho27.lt q hq; omega)
   clear ho27
   have hlsho108 : (((((q20).1)).set 0 x87)).length = (((q20).1)).length := List.length_set
   have hs111 := hs86.trans' (Stp.toL hst107 (by intro q hq; exact Or.inl hq))
   refine ⟨hs111, ?_⟩
   refine dr_end (by kernel_rfl) ?_
   refine block_n ?_
   refine then_n ?_
   refine wp_seq ?_
   refine wp_region_lit ?_
   refine wl_val ha105 rfl rfl rfl (op_loadS ha105 rfl Try.underlying28 ti28 rfl rfl hb44.cells) ?_
   intro a112 ha112; clear ha105 a105
   refine wl_effS ha112 rfl rfl (op_storeAll' ha112 rfl ti28 rfl rfl hb4 rfl rfl (by intro u hu; have hu : u ∈ ([u26, u28] : List Value) := hu; simp only [List.mem_cons, List.mem_nil_iff, or_false] at hu; rcases hu with rfl | rfl <;> first | rfl | exact ho108.one | exact ho29.one) rfl) ?_
   rintro w113 ⟨hb115, hst114, hz116⟩
   have hx117 := hx110.fresh hst114 (by intro q hq; cases hq; exact (by omega))
   have hzhx117 := hst114.size
   replace ho11 := ho11.stp hst114 (by intro q hq; cases hq; omega)
   replace ho29 := ho29.stp hst114 (by intro q hq; cases hq; omega)
   replace hN31 := hN31.stp hst114 (by intro q hq; cases hq; omega)
   replace hb44 := hb44.stp hst114 (by intro q hq; cases hq; omega)
   replace ho70 := ho70.stp hst114 (by intro q hq; cases hq; omega)
   replace hS79 := hS79.stp hst114 (by intro q hq; cases hq; omega)
   replace ho108 := ho108.stp hst114 (by intro q hq; cases hq; omega)
   clear hb4
   refine wpList_nil ?_
   refine then_n ?_
   refine wp_ret ?_
   refine retc ha112 rfl rfl Try.underlying28 ti28 rfl hb115.cells ?_
   clear ha112 a112
   refine ret_mkS hx117 ⟨hS79, ?_⟩
   refine ⟨((((((q20).1)).set 0 x87), ((q20).2)) : Tab), (by first | omega | (show _ ≤ (List.set _ _ _).length; rw [List.length_set]; omega) | (show (List.set _ _ _).length ≤ _; rw [List.length_set]; omega) | (simp; omega)), (by first | omega | (show _ ≤ (List.set _ _ _).length; rw [List.length_set]; omega) | (show (List.set _ _ _).length ≤ _; rw [List.length_set]; omega) | (simp; omega)), (by first | omega | (simp; omega) | (show (List.map _ _).length ≤ _; rw [List.length_map]; first | omega | (rw [List.length_append]; simp; omega))), (by intro r hr; have h9 := hq24 r hr; omega), ?_⟩
   refine ⟨u26, u28, z30, (by rfl), ?_, ho29.fin (by omega) (by omega) (by omega), hN31.fin (by omega) (by omega), ?_⟩
   ·
    refine (ho108.fin (by omega) (by omega) (by omega)).cast ?_
    rfl
   ·
    exact hE32
  ·
   replace hb4 := hb4.ext hs64
   replace ho11 := ho11.ext hs64
   replace ho27 := ho27.ext hs64
   replace ho29 := ho29.ext hs64
   replace hN31 := hN31.ext hs64
   replace hb44 := hb44.ext hs64
   replace hS51 := hS51.ext hs64
   refine po_callS ha67 rfl rfl rfl rfl (op_call ha67 rfl cb81 rfl) (c_spec_l01Next _ g_s b_s (3 : Int) hS51) ?_
   rintro v118 w119 he120 ⟨hS121, ⟨q122, hq123, hq124, hq125, rfl⟩⟩ a126 ha126; clear ha67 a67
   have hx127 := hx63.trans' he120
   have hzhx127 := he120.size
   replace hb4 := hb4.stp he120 (by intro q hq; cases hq; omega)
   first | replace ho11 := ho11.stp he120 (by intro q hq; cases hq; omega) | replace ho11 := ho11.stpF flat_shStr he120 (by intro q hq; cases hq; exact ho11.ne_box (by assumption) rfl)
   first | replace ho27 := ho27.stp he120 (by intro q hq; cases hq; omega) | replace ho27 := ho27.stpF flat_shStr he120 (by intro q hq; cases hq; exact ho27.ne_box (by assumption) rfl)
   first | replace ho29 := ho29.stp he120 (by intro q hq; cases hq; omega) | replace ho29 := ho29.stpF flat_shRowN he120 (by intro q hq; cases hq; exact ho29.ne_box (by assumption) rfl)
   first | replace hN31 := hN31.stp he120 (by intro q hq; cases hq; omega) | replace hN31 := hN31.stpB flat_shI64 he120 (by assumption) rfl
   replace hb44 := hb44.stp he120 (by intro q hq; cases hq; omega)
   clear hS51
   have hSlhS121 := hS121.lt
   have hs128 := (StpL.of_ext (B := fun i => Value.ownBlock u26 = some i ∨ i = g_s) hs64).trans' (Stp.toL he120 (by intro q hq; cases hq; exact Or.inr (rfl)))
   refine ⟨hs128, ?_⟩
   refine dr_one (i := 2) (by kernel_rfl) ?_
   refine po_eff ha126 rfl rfl rfl rfl (op_buildSlice (s := shStr) (xs := [([115, 97, 108, 101, 115] : Str), ([68, 97, 121] : Str), ([100, 97, 121] : Str)]) (cs := [St (([115, 97, 108, 101, 115] : Str)), St (([68, 97, 121] : Str)), St (([100, 97, 121] : Str))]) (vs := [(0, St (([115, 97, 108, 101, 115] : Str))), (1, St (([68, 97, 121] : Str))), (2, St (([100, 97, 121] : Str)))]) (S := fun _ => False) (le := w119.heap.size) ha126 rfl pos_shStr Try.underlying22 ti9 rfl rfl (by decide) (by kernel_rfl) ⟨mk_shStr (([115, 97, 108, 101, 115] : Str)) (by first | omega | simp), mk_shStr (([68, 97, 121] : Str)) (by first | omega | simp), mk_shStr (([100, 97, 121] : Str)) (by first | omega | simp), rfl⟩ (fun _ h => h.elim)) ?_
   rintro v129 w130 ⟨ho131, he132, hob133⟩ a134 ha134; clear ha126 a126
   have hs135 := hs128.trans' (StpL.of_ext he132)
   have hx136 := hx127.trans' (Stp.of_ext he132 _)
   have hzhx136 := he132.size
   replace hb4 := hb4.ext he132
   replace ho11 := ho11.ext he132
   replace ho27 := ho27.ext he132
   replace ho29 := ho29.ext he132
   replace hN31 := hN31.ext he132
   replace hb44 := hb44.ext he132
   replace hS121 := hS121.ext he132
   refine ⟨hs135, ?_⟩
   obtain ⟨x137, hx137⟩ := get_ex (xs := [([115, 97, 108, 101, 115] : Str), ([68, 97, 121] : Str), ([100, 97, 121] : Str)]) (j := ((q122 : Int)).toNat) (by first | omega | (simp only [List.length_cons, List.length_nil]; omega))
   obtain ⟨p138, c139, hi140, hc141, hr142, hs143⟩ := Rds.at_ (ho131.rds pos_shStr) hx137
   obtain ⟨rfl, b144⟩ := inv_shStr hr142
   obtain ⟨_, _⟩ : _ ∧ _ := hs143
   refine dr_val (i := 5) ha134 rfl (by kernel_rfl) (by kernel_rfl) (by kernel_rfl) rfl rfl rfl hs135 (fun w' hw' => op_indexAddr ha134 rfl Try.underlying22 ti9 rfl rfl (by omega) hi140) ?_
   intro a145 ha145; clear ha134 a134
   refine dr_one (i := 6) (by kernel_rfl) ?_
   refine po_to ha145 rfl rfl rfl rfl (op_loadH ha145 rfl Try.underlying9 rfl rfl hc141 rfl) ?_
   intro a146 ha146; clear ha145 a145
   refine ⟨hs135, ?_⟩
   obtain ⟨x147, hx147⟩ := get_ex (xs := ((q20).1)) (j := 0) (by first | omega | (simp only [List.length_cons, List.length_nil]; omega))
   obtain ⟨p148, c149, hi150, hc151, hr152, hs153⟩ := Rds.at_ (ho27.rds pos_shStr) hx147
   obtain ⟨rfl, b154⟩ := inv_shStr hr152
   obtain ⟨_, _⟩ : _ ∧ _ := hs153
   refine dr_val (i := 7) ha146 rfl (by kernel_rfl) (by kernel_rfl) (by kernel_rfl) rfl rfl rfl hs135 (fun w' hw' => op_indexAddr ha146 rfl Try.underlying22 ti9 rfl rfl (by omega) hi150) ?_
   intro a155 ha155; clear ha146 a146
   refine dr_one (i := 8) (by kernel_rfl) ?_
   refine po_effS ha155 rfl rfl rfl (op_setElem (s := shStr) (ds := [St x137]) (S' := fun _ => False) ha155 rfl ti9 rfl rfl rfl ho27 pos_shStr hi150 (by first | omega | (simp only [List.length_cons, List.length_nil]; omega)) (mk_shStr x137 (by first | omega | simp)) (fun _ h => h.elim)) ?_
   rintro w156 ⟨ho158, hst157, hz159⟩
   have hx160 := hx136.fresh hst157 (by intro q hq; have hq0 := ho27.lt q hq; omega)
   have hzhx160 := hst157.size
   replace hb4 := hb4.stp hst157 (by intro q hq; have hq0 := ho27.lt q hq; omega)
   replace ho11 := ho11.stp hst157 (by intro q hq; have hq0 := ho27.lt q hq; omega)
   first | replace ho29 := ho29.stp hst157 (by intro q hq; have hq0 := ho27.lt q hq; omega) | replace ho29 := ho29.stpF flat_shRowN hst157 (ho29.ne ho27 rfl)
   first | replace hN31 := hN31.stpF flat_shI64 hst157 ho27 rfl | replace hN31 := hN31.stp hst157 (by intro q hq; have hq0 := ho27.lt q hq; omega)
   replace hb44 := hb44.stp hst157 (by intro q hq; have hq0 := ho27.lt q hq; omega)
   replace hS121 := hS121.stp hst157 (by intro q hq; have hq0 := ho27.lt q hq; omega)
   replace ho131 := ho131.stp hst157 (by intro q hq; have hq0 := ho27.lt q hq; omega)
   clear ho27
   have hlsho158 : (((((q20).1)).set 0 x137)).length = (((q20).1)).length := List.length_set
   have hs161 := hs135.trans' (Stp.toL hst157 (by intro q hq; exact Or.inl hq))
   refine ⟨hs161, ?_⟩
   refine dr_end (by kernel_rfl) ?_
   refine block_n ?_
   refine then_n ?_
   refine wp_seq ?_
   refine wp_region_lit ?_
   refine wl_val ha155 rfl rfl rfl (op_loadS ha155 rfl Try.underlying28 ti28 rfl rfl hb44.cells) ?_
   intro a162 ha162; clear ha155 a155
   refine wl_effS ha162 rfl rfl (op_storeAll' ha162 rfl ti28 rfl rfl hb4 rfl rfl (by intro u hu; have hu : u ∈ ([u26, u28] : List Value) := hu; simp only [List.mem_cons, List.mem_nil_iff, or_false] at hu; rcases hu with rfl | rfl <;> first | rfl | exact ho158.one | exact ho29.one) rfl) ?_
   rintro w163 ⟨hb165, hst164, hz166⟩
   have hx167 := hx160.fresh hst164 (by intro q hq; cases hq; exact (by omega))
   have hzhx167 := hst164.size
   replace ho11 := ho11.stp hst164 (by intro q hq; cases hq; omega)
   replace ho29 := ho29.stp hst164 (by intro q hq; cases hq; omega)
   replace hN31 := hN31.stp hst164 (by intro q hq; cases hq; omega)
   replace hb44 := hb44.stp hst164 (by intro q hq; cases hq; omega)
   replace hS121 := hS121.stp hst164 (by intro q hq; cases hq; omega)
   replace ho131 := ho131.stp hst164 (by intro q hq; cases hq; omega)
   replace ho158 := ho158.stp hst164 (by intro q hq; cases hq; omega)
   clear hb4
   refine wpList_nil ?_
   refine then_n ?_
   refine wp_ret ?_
   refine retc ha162 rfl rfl Try.underlying28 ti28 rfl hb165.cells ?_
   clear ha162 a162
   refine ret_mkS hx167 ⟨hS121, ?_⟩
   refine ⟨((((((q20).1)).set 0 x137), ((q20).2)) : Tab), (by first | omega | (show _ ≤ (List.set _ _ _).length; rw [List.length_set]; omega) | (show (List.set _ _ _).length ≤ _; rw [List.length_set]; omega) | (simp; omega)), (by first | omega | (show _ ≤ (List.set _ _ _).length; rw [List.length_set]; omega) | (show (List.set _ _ _).length ≤ _; rw [List.length_set]; omega) | (simp; omega)), (by first | omega | (simp; omega) | (show (List.map _ _).length ≤ _; rw [List.length_map]; first | omega | (rw [List.length_append]; simp; omega))), (by intro r hr; have h9 := hq24 r hr; omega), ?_⟩
   refine ⟨u26, u28, z30, (by rfl), ?_, ho29.fin (by omega) (by omega) (by omega), hN31.fin (by omega) (by omega), ?_⟩
   ·
    refine (ho158.fin (by omega) (by omega) (by omega)).cast ?_
    rfl
   ·
    exact hE32
 ·
  rw [decide_eq_false c60] at ha59
  refine cond_f ha59 rfl ?_
  refine wp_seq ?_
  refine wp_region_lit ?_
  refine wl_val ha59 rfl rfl rfl (op_eql ha59 rfl rfl rfl) ?_
  intro a168 ha168; clear ha59 a59
  refine wl_val ha168 rfl rfl rfl (op_assign ha168 rfl rfl) ?_
  intro a169 ha169; clear ha168 a168
  refine wpList_nil ?_
  refine then_n ?_
  by_cases c170 : (q52 : Int) = (1 : Int)
  ·
   rw [decide_eq_true c170] at ha169
   refine cond_t ha169 rfl ?_
   refine dr_enter (fun wa_ wb_ => StpL wa_ wb_ (fun i => Value.ownBlock u28 = some i ∨ i = w17.heap.size ∨ i = g_s)) follows_mixed ?_
   intro w171 he172
   have hx173 := hx57.trans' (Stp.of_ext he172 _)
   have hzhx173 := he172.size
   replace hb4 := hb4.ext he172
   replace ho11 := ho11.ext he172
   replace ho27 := ho27.ext he172
   replace ho29 := ho29.ext he172
   replace hN31 := hN31.ext he172
   replace hb44 := hb44.ext he172
   replace hS51 := hS51.ext he172
   have hs174 : Ext w171 w171 := Ext.rfl' _
   refine dr_val (i := 0) ha169 rfl (by kernel_rfl) (by kernel_rfl) (by kernel_rfl) rfl rfl rfl (StpL.of_ext hs174) (fun w' hw' => op_fieldAddr (sz := 0) ha169 rfl Try.underlying28 rfl rfl ti23 rfl) ?_
   intro a175 ha175; clear ha169 a169
   refine dr_val (i := 2) ha175 rfl (by kernel_rfl) (by kernel_rfl) (by kernel_rfl) rfl rfl rfl (StpL.of_ext hs174) (fun w' hw' => op_move ha175 rfl rfl) ?_
   intro a176 ha176; clear ha175 a175
   refine dr_two (i := 1) (j := 3) (by kernel_rfl) ?_ ?_
   ·
    refine po_to ha176 rfl rfl rfl rfl (op_loadF (off := 1) ha176 rfl Try.underlying23 rfl rfl (hb44.ext hs174).cells rfl) ?_
    intro a177 ha177; clear ha176 a176
    refine ⟨(StpL.of_ext hs174), ?_⟩
    refine dr_one (i := 3) (by kernel_rfl) ?_
    replace hb4 := hb4.ext hs174
    replace ho11 := ho11.ext hs174
    replace ho27 := ho27.ext hs174
    replace ho29 := ho29.ext hs174
    replace hN31 := hN31.ext hs174
    replace hb44 := hb44.ext hs174
    replace hS51 := hS51.ext hs174
    refine po_callS ha177 rfl rfl rfl rfl (op_call ha177 rfl cb103 rfl) (c_spec_l01DrawValue _ g_s b_s hS51) ?_
    rintro v178 w179 he180 ⟨hS181, ⟨q182, hq183, hq184, rfl⟩⟩ a185 ha185; clear ha177 a177
    have hx186 := hx173.trans' he180
    have hzhx186 := he180.size
    replace hb4 := hb4.stp he180 (by intro q hq; cases hq; omega)
    first | replace ho11 := ho11.stp he180 (by intro q hq; cases hq; omega) | replace ho11 := ho11.stpF flat_shStr he180 (by intro q hq; cases hq; exact ho11.ne_box (by assumption) rfl)
    first | replace ho27 := ho27.stp he180 (by intro q hq; cases hq; omega) | replace ho27 := ho27.stpF flat_shStr he180 (by intro q hq; cases hq; exact ho27.ne_box (by assumption) rfl)
    first | replace ho29 := ho29.stp he180 (by intro q hq; cases hq; omega) | replace ho29 := ho29.stpF flat_shRowN he180 (by intro q hq; cases hq; exact ho29.ne_box (by assumption) rfl)
    first | replace hN31 := hN31.stp he180 (by intro q hq; cases hq; omega) | replace hN31 := hN31.stpB flat_shI64 he180 (by assumption) rfl
    replace hb44 := hb44.stp he180 (by intro q hq; cases hq; omega)
    clear hS51
    have hSlhS181 := hS181.lt
    have hs187 := (StpL.of_ext (B := fun i => Value.ownBlock u28 = some i ∨ i = w17.heap.size ∨ i = g_s) hs174).trans' (Stp.toL he180 (by intro q hq; cases hq; exact Or.inr (Or.inr (rfl))))
    refine ⟨hs187, ?_⟩
    refine dr_one (i := 4) (by kernel_rfl) ?_
    refine po_eff ha185 rfl rfl rfl rfl (op_buildSlice (s := shI64) (xs := [(q182 : Int)]) (cs := [.int .i64 (q182 : Int)]) (vs := [(0, .int .i64 (q182 : Int))]) (S := fun _ => False) (le := w179.heap.size) ha185 rfl pos_shI64 Try.underlying41 ti2 rfl rfl (by decide) (by kernel_rfl) (Els.single (mk_shI64 ((q182 : Int)) (by first | omega | simp))) (fun _ h => h.elim)) ?_
    rintro v188 w189 ⟨ho190, he191, hob192⟩ a193 ha193; clear ha185 a185
    have hs194 := hs187.trans' (StpL.of_ext he191)
    have hx195 := hx186.trans' (Stp.of_ext he191 _)
    have hzhx195 := he191.size
    replace hb4 := hb4.ext he191
    replace ho11 := ho11.ext he191
    replace ho27 := ho27.ext he191
    replace ho29 := ho29.ext he191
    replace hN31 := hN31.ext he191
    replace hb44 := hb44.ext he191
    replace hS181 := hS181.ext he191
    refine ⟨hs194, ?_⟩
    refine dr_one (i := 5) (by kernel_rfl) ?_
    refine po_eff ha193 rfl rfl rfl rfl (op_buildSlice (s := shRowN) (xs := [(([(q182 : Int)] : List Int), (v188 : Value))]) (cs := [v188]) (vs := [(0, v188)]) (S := fun _ => False) (le := w189.heap.size) ha193 rfl pos_shRowN Try.underlying23 ti41 rfl rfl (by decide) ((fill_one (off := 0) ho190.cells1 (by kernel_rfl) (by kernel_rfl)).trans (by kernel_rfl)) (Els.single (mk_shRowN ((([(q182 : Int)] : List Int), (v188 : Value))) ho190.one)) (fun _ h => h.elim)) ?_
    rintro v196 w197 ⟨ho198, he199, hob200⟩ a201 ha201; clear ha193 a193
    have hs202 := hs194.trans' (StpL.of_ext he199)
    have hx203 := hx195.trans' (Stp.of_ext he199 _)
    have hzhx203 := he199.size
    replace hb4 := hb4.ext he199
    replace ho11 := ho11.ext he199
    replace ho27 := ho27.ext he199
    replace ho29 := ho29.ext he199
    replace hN31 := hN31.ext he199
    replace hb44 := hb44.ext he199
    replace hS181 := hS181.ext he199
    replace ho190 := ho190.ext he199
    refine ⟨hs202, ?_⟩
    have hN204 : Nst shI64 2 (fun x : List Int => x) w179.heap.size w197.heap.size w197 ([(([(q182 : Int)] : List Int), (v188 : Value))]) := Nst.one (ho190.fin (by omega) (by omega) (by omega))
    refine dr_one (i := 6) (by kernel_rfl) ?_
    refine po_eff ha201 rfl rfl rfl rfl (op_append (ts := #[]) (s := shRowN) ha201 rfl Try.underlying23 ti41 rfl pos_shRowN rfl rfl ho29 (ho198.rds pos_shRowN) (by omega) (by omega) (by first | omega | (simp; omega) | (simp only [List.length_take]; omega)) (by first | omega | (simp; omega) | (simp only [List.length_take]; omega)) (.inl flat_shRowN)) ?_
    rintro v205 w206 ⟨ho207, hst208, hob209⟩ a210 ha210; clear ha201 a201
    have hx211 := hx203.fresh hst208 (by intro q hq; have hq0 := ho29.lt q hq; omega)
    have hzhx211 := hst208.size
    replace hb4 := hb4.stp hst208 (by intro q hq; have hq0 := ho29.lt q hq; omega)
    replace ho11 := ho11.stp hst208 (by intro q hq; have hq0 := ho29.lt q hq; omega)
    first | replace ho27 := ho27.stp hst208 (by intro q hq; have hq0 := ho29.lt q hq; omega) | replace ho27 := ho27.stpF flat_shStr hst208 (ho27.ne ho29 rfl)
    first | replace hN31 := hN31.stpF flat_shI64 hst208 ho29 rfl | replace hN31 := hN31.stp hst208 (by intro q hq; have hq0 := ho29.lt q hq; omega)
    replace hb44 := hb44.stp hst208 (by intro q hq; have hq0 := ho29.lt q hq; omega)
    replace hS181 := hS181.stp hst208 (by intro q hq; have hq0 := ho29.lt q hq; omega)
    replace ho190 := ho190.stp hst208 (by intro q hq; have hq0 := ho29.lt q hq; omega)
    replace ho198 := ho198.stp hst208 (by intro q hq; have hq0 := ho29.lt q hq; omega)
    replace hN204 := hN204.stp hst208 (by intro q hq; have hq0 := ho29.lt q hq; omega)
    have hsp212 : ∀ q, Value.ownBlock v205 = some q → Value.ownBlock v196 ≠ some q := by intro q hq hb; have hq0 := ho198.lt q hb; rcases hob209 with h | h; (rw [h] at hq; first | (have hq1 := ho29.lt q hq; omega)); (rw [h] at hq; cases hq; omega)
    have hN213 : Nst shI64 2 (fun x : List Int => x) w10.heap.size w206.heap.size w206 ((z30 ++ [(([(q182 : Int)] : List Int), (v188 : Value))])) := (hN31.app hN204 (by omega) (by omega) (by omega)).fin (by omega) (by omega)
    have hs214 := hs202.trans' (Stp.toL hst208 (by intro q hq; exact Or.inl hq))
    refine ⟨hs214, ?_⟩
    refine dr_val (i := 7) ha210 rfl (by kernel_rfl) (by kernel_rfl) (by kernel_rfl) rfl rfl rfl hs214 (fun w' hw' => op_fieldAddr (sz := 0) ha210 rfl Try.underlying28 rfl rfl ti23 rfl) ?_
    intro a215 ha215; clear ha210 a210
    refine dr_one (i := 8) (by kernel_rfl) ?_
    refine po_effS ha215 rfl rfl rfl (op_store' (off := 1) ha215 rfl ti23 rfl rfl hb44 ho207.cells1 rfl (by intro u hu; have hu : u ∈ ([v205] : List Value) := hu; simp only [List.mem_cons, List.mem_nil_iff, or_false] at hu; rcases hu with rfl <;> first | rfl | exact ho207.one) (Nat.le_of_ble_eq_true rfl)) ?_
    rintro w216 ⟨hb218, hst217, hz219⟩
    have hx220 := hx211.fresh hst217 (by intro q hq; cases hq; exact (by omega))
    have hzhx220 := hst217.size
    replace hb4 := hb4.stp hst217 (by intro q hq; cases hq; omega)
    replace ho11 := ho11.stp hst217 (by intro q hq; cases hq; omega)
    replace ho27 := ho27.stp hst217 (by intro q hq; cases hq; omega)
    replace hS181 := hS181.stp hst217 (by intro q hq; cases hq; omega)
    replace ho190 := ho190.stp hst217 (by intro q hq; cases hq; omega)
    replace ho198 := ho198.stp hst217 (by intro q hq; cases hq; omega)
    first | replace ho207 := ho207.stp hst217 (by intro q hq; cases hq; omega) | replace ho207 := ho207.stpF flat_shRowN hst217 (by intro q hq; cases hq; exact ho207.ne_box (by assumption) rfl)
    first | replace hN213 := hN213.stp hst217 (by intro q hq; cases hq; omega) | replace hN213 := hN213.stpB flat_shI64 hst217 (by assumption) rfl
    clear hb44
    have hs221 := hs214.trans' (Stp.toL hst217 (by intro q hq; cases hq; exact Or.inr (Or.inl rfl)))
    refine ⟨hs221, ?_⟩
    refine dr_end (by kernel_rfl) ?_
    refine block_n ?_
    refine then_n ?_
    refine wp_seq ?_
    refine wp_region_lit ?_
    refine wl_val ha215 rfl rfl rfl (op_loadS ha215 rfl Try.underlying28 ti28 rfl rfl hb218.cells) ?_
    intro a222 ha222; clear ha215 a215
    refine wl_effS ha222 rfl rfl (op_storeAll' ha222 rfl ti28 rfl rfl hb4 rfl rfl (by intro u hu; have hu : u ∈ ([u26, v205] : List Value) := hu; simp only [List.mem_cons, List.mem_nil_iff, or_false] at hu; rcases hu with rfl | rfl <;> first | rfl | exact ho27.one | exact ho207.one) rfl) ?_
    rintro w223 ⟨hb225, hst224, hz226⟩
    have hx227 := hx220.fresh hst224 (by intro q hq; cases hq; exact (by omega))
    have hzhx227 := hst224.size
    replace ho11 := ho11.stp hst224 (by intro q hq; cases hq; omega)
    replace ho27 := ho27.stp hst224 (by intro q hq; cases hq; omega)
    replace hS181 := hS181.stp hst224 (by intro q hq; cases hq; omega)
    replace ho190 := ho190.stp hst224 (by intro q hq; cases hq; omega)
    replace ho198 := ho198.stp hst224 (by intro q hq; cases hq; omega)
    replace ho207 := ho207.stp hst224 (by intro q hq; cases hq; omega)
    replace hN213 := hN213.stp hst224 (by intro q hq; cases hq; omega)
    replace hb218 := hb218.stp hst224 (by intro q hq; cases hq; omega)
    clear hb4
    refine wpList_nil ?_
    refine then_n ?_
    refine wp_ret ?_
    refine retc ha222 rfl rfl Try.underlying28 ti28 rfl hb225.cells ?_
    clear ha222 a222
    refine ret_mkS hx227 ⟨hS181, ?_⟩
    refine ⟨((((q20).1), (((z30 ++ [(([(q182 : Int)] : List Int), (v188 : Value))])).map (·.1))) : Tab), (by first | omega | (show _ ≤ (List.set _ _ _).length; rw [List.length_set]; omega) | (show (List.set _ _ _).length ≤ _; rw [List.length_set]; omega) | (simp; omega)), (by first | omega | (show _ ≤ (List.set _ _ _).length; rw [List.length_set]; omega) | (show (List.set _ _ _).length ≤ _; rw [List.length_set]; omega) | (simp; omega)), (by first | omega | (simp; omega) | (show (List.map _ _).length ≤ _; rw [List.length_map]; first | omega | (rw [List.length_append]; simp; omega))), (by intro r hr; obtain ⟨z, hz, rfl⟩ := List.mem_map.1 hr; rcases List.mem_append.1 hz with hz | hz; (have h9 := hq24 z.1 (by first | (rw [← hE32]; exact List.mem_map_of_mem hz)); omega); (obtain rfl := List.mem_singleton.1 hz; show 1 ≤ [_].length ∧ [_].length ≤ 6; simp)), ?_⟩
    refine ⟨u26, v205, (z30 ++ [(([(q182 : Int)] : List Int), (v188 : Value))]), (by rfl), ?_, ho207.fin (by omega) (by omega) (by omega), hN213.fin (by omega) (by omega), ?_⟩
    ·
     refine (ho27.fin (by omega) (by omega) (by omega)).cast ?_
     rfl
    ·
     rfl
   ·
    replace hb4 := hb4.ext hs174
    replace ho11 := ho11.ext hs174
    replace ho27 := ho27.ext hs174
    replace ho29 := ho29.ext hs174
    replace hN31 := hN31.ext hs174
    replace hb44 := hb44.ext hs174
    replace hS51 := hS51.ext hs174
    refine po_callS ha176 rfl rfl rfl rfl (op_call ha176 rfl cb103 rfl) (c_spec_l01DrawValue _ g_s b_s hS51) ?_
    rintro v228 w229 he230 ⟨hS231, ⟨q232, hq233, hq234, rfl⟩⟩ a235 ha235; clear ha176 a176
    have hx236 := hx173.trans' he230
    have hzhx236 := he230.size
    replace hb4 := hb4.stp he230 (by intro q hq; cases hq; omega)
    first | replace ho11 := ho11.stp he230 (by intro q hq; cases hq; omega) | replace ho11 := ho11.stpF flat_shStr he230 (by intro q hq; cases hq; exact ho11.ne_box (by assumption) rfl)
    first | replace ho27 := ho27.stp he230 (by intro q hq; cases hq; omega) | replace ho27 := ho27.stpF flat_shStr he230 (by intro q hq; cases hq; exact ho27.ne_box (by assumption) rfl)
    first | replace ho29 := ho29.stp he230 (by intro q hq; cases hq; omega) | replace ho29 := ho29.stpF flat_shRowN he230 (by intro q hq; cases hq; exact ho29.ne_box (by assumption) rfl)
    first | replace hN31 := hN31.stp he230 (by intro q hq; cases hq; omega) | replace hN31 := hN31.stpB flat_shI64 he230 (by assumption) rfl
    replace hb44 := hb44.stp he230 (by intro q hq; cases hq; omega)
    clear hS51
    have hSlhS231 := hS231.lt
    have hs237 := (StpL.of_ext (B := fun i => Value.ownBlock u28 = some i ∨ i = w17.heap.size ∨ i = g_s) hs174).trans' (Stp.toL he230 (by intro q hq; cases hq; exact Or.inr (Or.inr (rfl))))
    refine ⟨hs237, ?_⟩
    refine dr_two (i := 1) (j := 4) (by kernel_rfl) ?_ ?_
    ·
     refine po_to ha235 rfl rfl rfl rfl (op_loadF (off := 1) ha235 rfl Try.underlying23 rfl rfl hb44.cells rfl) ?_
     intro a238 ha238; clear ha235 a235
     refine ⟨hs237, ?_⟩
     refine dr_one (i := 4) (by kernel_rfl) ?_
     refine po_eff ha238 rfl rfl rfl rfl (op_buildSlice (s := shI64) (xs := [(q232 : Int)]) (cs := [.int .i64 (q232 : Int)]) (vs := [(0, .int .i64 (q232 : Int))]) (S := fun _ => False) (le := w229.heap.size) ha238 rfl pos_shI64 Try.underlying41 ti2 rfl rfl (by decide) (by kernel_rfl) (Els.single (mk_shI64 ((q232 : Int)) (by first | omega | simp))) (fun _ h => h.elim)) ?_
     rintro v239 w240 ⟨ho241, he242, hob243⟩ a244 ha244; clear ha238 a238
     have hs245 := hs237.trans' (StpL.of_ext he242)
     have hx246 := hx236.trans' (Stp.of_ext he242 _)
     have hzhx246 := he242.size
     replace hb4 := hb4.ext he242
     replace ho11 := ho11.ext he242
     replace ho27 := ho27.ext he242
     replace ho29 := ho29.ext he242
     replace hN31 := hN31.ext he242
     replace hb44 := hb44.ext he242
     replace hS231 := hS231.ext he242
     refine ⟨hs245, ?_⟩
     refine dr_one (i := 5) (by kernel_rfl) ?_
     refine po_eff ha244 rfl rfl rfl rfl (op_buildSlice (s := shRowN) (xs := [(([(q232 : Int)] : List Int), (v239 : Value))]) (cs := [v239]) (vs := [(0, v239)]) (S := fun _ => False) (le := w240.heap.size) ha244 rfl pos_shRowN Try.underlying23 ti41 rfl rfl (by decide) ((fill_one (off := 0) ho241.cells1 (by kernel_rfl) (by kernel_rfl)).trans (by kernel_rfl)) (Els.single (mk_shRowN ((([(q232 : Int)] : List Int), (v239 : Value))) ho241.one)) (fun _ h => h.elim)) ?_
     rintro v247 w248 ⟨ho249, he250, hob251⟩ a252 ha252; clear ha244 a244
     have hs253 := hs245.trans' (StpL.of_ext he250)
     have hx254 := hx246.trans' (Stp.of_ext he250 _)
     have hzhx254 := he250.size
     replace hb4 := hb4.ext he250
     replace ho11 := ho11.ext he250
     replace ho27 := ho27.ext he250
     replace ho29 := ho29.ext he250
     replace hN31 := hN31.ext he250
     replace hb44 := hb44.ext he250
     replace hS231 := hS231.ext he250
     replace ho241 := ho241.ext he250
     refine ⟨hs253, ?_⟩
     have hN255 : Nst shI64 2 (fun x : List Int => x) w229.heap.size w248.heap.size w248 ([(([(q232 : Int)] : List Int), (v239 : Value))]) := Nst.one (ho241.fin (by omega) (by omega) (by omega))
     refine dr_one (i := 6) (by kernel_rfl) ?_
     refine po_eff ha252 rfl rfl rfl rfl (op_append (ts := #[]) (s := shRowN) ha252 rfl Try.underlying23 ti41 rfl pos_shRowN rfl rfl ho29 (ho249.rds pos_shRowN) (by omega) (by omega) (by first | omega | (simp; omega) | (simp only [List.length_take]; omega)) (by first | omega | (simp; omega) | (simp only [List.length_take]; omega)) (.inl flat_shRowN)) ?_
     rintro v256 w257 ⟨ho258, hst259, hob260⟩ a261 ha261; clear ha252 a252
     have hx262 := hx254.fresh hst259 (by intro q hq; have hq0 := ho29.lt q hq; omega)
     have hzhx262 := hst259.size
     replace hb4 := hb4.stp hst259 (by intro q hq; have hq0 := ho29.lt q hq; omega)
     replace ho11 := ho11.stp hst259 (by intro q hq; have hq0 := ho29.lt q hq; omega)
     first | replace ho27 := ho27.stp hst259 (by intro q hq; have hq0 := ho29.lt q hq; omega) | replace ho27 := ho27.stpF flat_shStr hst259 (ho27.ne ho29 rfl)
     first | replace hN31 := hN31.stpF flat_shI64 hst259 ho29 rfl | replace hN31 := hN31.stp hst259 (by intro q hq; have hq0 := ho29.lt q hq; omega)
     replace hb44 := hb44.stp hst259 (by intro q hq; have hq0 := ho29.lt q hq; omega)
     replace hS231 := hS231.stp hst259 (by intro q hq; have hq0 := ho29.lt q hq; omega)
     replace ho241 := ho241.stp hst259 (by intro q hq; have hq0 := ho29.lt q hq; omega)
     replace ho249 := ho249.stp hst259 (by intro q hq; have hq0 := ho29.lt q hq; omega)
     replace hN255 := hN255.stp hst259 (by intro q hq; have hq0 := ho29.lt q hq; omega)
     have hsp263 : ∀ q, Value.ownBlock v256 = some q → Value.ownBlock v247 ≠ some q := by intro q hq hb; have hq0 := ho249.lt q hb; rcases hob260 with h | h; (rw [h] at hq; first | (have hq1 := ho29.lt q hq; omega)); (rw [h] at hq; cases hq; omega)
     have hN264 : Nst shI64 2 (fun x : List Int => x) w10.heap.size w257.heap.size w257 ((z30 ++ [(([(q232 : Int)] : List Int), (v239 : Value))])) := (hN31.app hN255 (by omega) (by omega) (by omega)).fin (by omega) (by omega)
     have hs265 := hs253.trans' (Stp.toL hst259 (by intro q hq; exact Or.inl hq))
     refine ⟨hs265, ?_⟩
     refine dr_val (i := 7) ha261 rfl (by kernel_rfl) (by kernel_rfl) (by kernel_rfl) rfl rfl rfl hs265 (fun w' hw' => op_fieldAddr (sz := 0) ha261 rfl Try.underlying28 rfl rfl ti23 rfl) ?_
     intro a266 ha266; clear ha261 a261
     refine dr_one (i := 8) (by kernel_rfl) ?_
     refine po_effS ha266 rfl rfl rfl (op_store' (off := 1) ha266 rfl ti23 rfl rfl hb44 ho258.cells1 rfl (by intro u hu; have hu : u ∈ ([v256] : List Value) := hu; simp only [List.mem_cons, List.mem_nil_iff, or_false] at hu; rcases hu with rfl <;> first | rfl | exact ho258.one) (Nat.le_of_ble_eq_true rfl)) ?_
     rintro w267 ⟨hb269, hst268, hz270⟩
     have hx271 := hx262.fresh hst268 (by intro q hq; cases hq; exact (by omega))
     have hzhx271 := hst268.size
     replace hb4 := hb4.stp hst268 (by intro q hq; cases hq; omega)
     replace ho11 := ho11.stp hst268 (by intro q hq; cases hq; omega)
     replace ho27 := ho27.stp hst268 (by intro q hq; cases hq; omega)
     replace hS231 := hS231.stp hst268 (by intro q hq; cases hq; omega)
     replace ho241 := ho241.stp hst268 (by intro q hq; cases hq; omega)
     replace ho249 := ho249.stp hst268 (by intro q hq; cases hq; omega)
     first | replace ho258 := ho258.stp hst268 (by intro q hq; cases hq; omega) | replace ho258 := ho258.stpF flat_shRowN hst268 (by intro q hq; cases hq; exact ho258.ne_box (by assumption) rfl)
     first | replace hN264 := hN264.stp hst268 (by intro q hq; cases hq; omega) | replace hN264 := hN264.stpB flat_shI64 hst268 (by assumption) rfl
     clear hb44
     have hs272 := hs265.trans' (Stp.toL hst268 (by intro q hq; cases hq; exact Or.inr (Or.inl rfl)))
     refine ⟨hs272, ?_⟩
     refine dr_end (by kernel_rfl) ?_
     refine block_n ?_
     refine then_n ?_
     refine wp_seq ?_
     refine wp_region_lit ?_
     refine wl_val ha266 rfl rfl rfl (op_loadS ha266 rfl Try.underlying28 ti28 rfl rfl hb269.cells) ?_
     intro a273 ha273; clear ha266 a266
     refine wl_effS ha273 rfl rfl (op_storeAll' ha273 rfl ti28 rfl rfl hb4 rfl rfl (by intro u hu; have hu : u ∈ ([u26, v256] : List Value) := hu; simp only [List.mem_cons, List.mem_nil_iff, or_false] at hu; rcases hu with rfl | rfl <;> first | rfl | exact ho27.one | exact ho258.one) rfl) ?_
     rintro w274 ⟨hb276, hst275, hz277⟩
     have hx278 := hx271.fresh hst275 (by intro q hq; cases hq; exact (by omega))
     have hzhx278 := hst275.size
     replace ho11 := ho11.stp hst275 (by intro q hq; cases hq; omega)
     replace ho27 := ho27.stp hst275 (by intro q hq; cases hq; omega)
     replace hS231 := hS231.stp hst275 (by intro q hq; cases hq; omega)
     replace ho241 := ho241.stp hst275 (by intro q hq; cases hq; omega)
     replace ho249 := ho249.stp hst275 (by intro q hq; cases hq; omega)
     replace ho258 := ho258.stp hst275 (by intro q hq; cases hq; omega)
     replace hN264 := hN264.stp hst275 (by intro q hq; cases hq; omega)
     replace hb269 := hb269.stp hst275 (by intro q hq; cases hq; omega)
     clear hb4
     refine wpList_nil ?_
     refine then_n ?_
     refine wp_ret ?_
     refine retc ha273 rfl rfl Try.underlying28 ti28 rfl hb276.cells ?_
     clear ha273 a273
     refine ret_mkS hx278 ⟨hS231, ?_⟩
     refine ⟨((((q20).1), (((z30 ++ [(([(q232 : Int)] : List Int), (v239 : Value))])).map (·.1))) : Tab), (by first | omega | (show _ ≤ (List.set _ _ _).length; rw [List.length_set]; omega) | (show (List.set _ _ _).length ≤ _; rw [List.length_set]; omega) | (simp; omega)), (by first | omega | (show _ ≤ (List.set _ _ _).length; rw [List.length_set]; omega) | (show (List.set _ _ _).length ≤ _; rw [List.length_set]; omega) | (simp; omega)), (by first | omega | (simp; omega) | (show (List.map _ _).length ≤ _; rw [List.length_map]; first | omega | (rw [List.length_append]; simp; omega))), (by intro r hr; obtain ⟨z, hz, rfl⟩ := List.mem_map.1 hr; rcases List.mem_append.1 hz with hz | hz; (have h9 := hq24 z.1 (by first | (rw [← hE32]; exact List.mem_map_of_mem hz)); omega); (obtain rfl := List.mem_singleton.1 hz; show 1 ≤ [_].length ∧ [_].length ≤ 6; simp)), ?_⟩
     refine ⟨u26, v256, (z30 ++ [(([(q232 : Int)] : List Int), (v239 : Value))]), (by rfl), ?_, ho258.fin (by omega) (by omega) (by omega), hN264.fin (by omega) (by omega), ?_⟩
     ·
      refine (ho27.fin (by omega) (by omega) (by omega)).cast ?_
      rfl
     ·
      rfl
    ·
     refine po_eff ha235 rfl rfl rfl rfl (op_buildSlice (s := shI64) (xs := [(q232 : Int)]) (cs := [.int .i64 (q232 : Int)]) (vs := [(0, .int .i64 (q232 : Int))]) (S := fun _ => False) (le := w229.heap.size) ha235 rfl pos_shI64 Try.underlying41 ti2 rfl rfl (by decide) (by kernel_rfl) (Els.single (mk_shI64 ((q232 : Int)) (by first | omega | simp))) (fun _ h => h.elim)) ?_
     rintro v279 w280 ⟨ho281, he282, hob283⟩ a284 ha284; clear ha235 a235
     have hs285 := hs237.trans' (StpL.of_ext he282)
     have hx286 := hx236.trans' (Stp.of_ext he282 _)
     have hzhx286 := he282.size
     replace hb4 := hb4.ext he282
     replace ho11 := ho11.ext he282
     replace ho27 := ho27.ext he282
     replace ho29 := ho29.ext he282
     replace hN31 := hN31.ext he282
     replace hb44 := hb44.ext he282
     replace hS231 := hS231.ext he282
     refine ⟨hs285, ?_⟩
     refine dr_two (i := 1) (j := 5) (by kernel_rfl) ?_ ?_
     ·
      refine po_to ha284 rfl rfl rfl rfl (op_loadF (off := 1) ha284 rfl Try.underlying23 rfl rfl hb44.cells rfl) ?_
      intro a287 ha287; clear ha284 a284
      refine ⟨hs285, ?_⟩
      refine dr_one (i := 5) (by kernel_rfl) ?_
      refine po_eff ha287 rfl rfl rfl rfl (op_buildSlice (s := shRowN) (xs := [(([(q232 : Int)] : List Int), (v279 : Value))]) (cs := [v279]) (vs := [(0, v279)]) (S := fun _ => False) (le := w280.heap.size) ha287 rfl pos_shRowN Try.underlying23 ti41 rfl rfl (by decide) ((fill_one (off := 0) ho281.cells1 (by kernel_rfl) (by kernel_rfl)).trans (by kernel_rfl)) (Els.single (mk_shRowN ((([(q232 : Int)] : List Int), (v279 : Value))) ho281.one)) (fun _ h => h.elim)) ?_
      rintro v288 w289 ⟨ho290, he291, hob292⟩ a293 ha293; clear ha287 a287
      have hs294 := hs285.trans' (StpL.of_ext he291)
      have hx295 := hx286.trans' (Stp.of_ext he291 _)
      have hzhx295 := he291.size
      replace hb4 := hb4.ext he291
      replace ho11 := ho11.ext he291
      replace ho27 := ho27.ext he291
      replace ho29 := ho29.ext he291
      replace hN31 := hN31.ext he291
      replace hb44 := hb44.ext he291
      replace hS231 := hS231.ext he291
      replace ho281 := ho281.ext he291
      refine ⟨hs294, ?_⟩
      have hN296 : Nst shI64 2 (fun x : List Int => x) w229.heap.size w289.heap.size w289 ([(([(q232 : Int)] : List Int), (v279 : Value))]) := Nst.one (ho281.fin (by omega) (by omega) (by omega))
      refine dr_one (i := 6) (by kernel_rfl) ?_
      refine po_eff ha293 rfl rfl rfl rfl (op_append (ts := #[]) (s := shRowN) ha293 rfl Try.underlying23 ti41 rfl pos_shRowN rfl rfl ho29 (ho290.rds pos_shRowN) (by omega) (by omega) (by first | omega | (simp; omega) | (simp only [List.length_take]; omega)) (by first | omega | (simp; omega) | (simp only [List.length_take]; omega)) (.inl flat_shRowN)) ?_
      rintro v297 w298 ⟨ho299, hst300, hob301⟩ a302 ha302; clear ha293 a293
      have hx303 := hx295.fresh hst300 (by intro q hq; have hq0 := ho29.lt q hq; omega)
      have hzhx303 := hst300.size
      replace hb4 := hb4.stp hst300 (by intro q hq; have hq0 := ho29.lt q hq; omega)
      replace ho11 := ho11.stp hst300 (by intro q hq; have hq0 := ho29.lt q hq; omega)
      first | replace ho27 := ho27.stp hst300 (by intro q hq; have hq0 := ho29.lt q hq; omega) | replace ho27 := ho27.stpF flat_shStr hst300 (ho27.ne ho29 rfl)
      first | replace hN31 := hN31.stpF flat_shI64 hst300 ho29 rfl | replace hN31 := hN31.stp hst300 (by intro q hq; have hq0 := ho29.lt q hq; omega)
      replace hb44 := hb44.stp hst300 (by intro q hq; have hq0 := ho29.lt q hq; omega)
      replace hS231 := hS231.stp hst300 (by intro q hq; have hq0 := ho29.lt q hq; omega)
      replace ho281 := ho281.stp hst300 (by intro q hq; have hq0 := ho29.lt q hq; omega)
      replace ho290 := ho290.stp hst300 (by intro q hq; have hq0 := ho29.lt q hq; omega)
      replace hN296 := hN296.stp hst300 (by intro q hq; have hq0 := ho29.lt q hq; omega)
      have hsp304 : ∀ q, Value.ownBlock v297 = some q → Value.ownBlock v288 ≠ some q := by intro q hq hb; have hq0 := ho290.lt q hb; rcases hob301 with h | h; (rw [h] at hq; first | (have hq1 := ho29.lt q hq; omega)); (rw [h] at hq; cases hq; omega)
      have hN305 : Nst shI64 2 (fun x : List Int => x) w10.heap.size w298.heap.size w298 ((z30 ++ [(([(q232 : Int)] : List Int), (v279 : Value))])) := (hN31.app hN296 (by omega) (by omega) (by omega)).fin (by omega) (by omega)
      have hs306 := hs294.trans' (Stp.toL hst300 (by intro q hq; exact Or.inl hq))
      refine ⟨hs306, ?_⟩
      refine dr_val (i := 7) ha302 rfl (by kernel_rfl) (by kernel_rfl) (by kernel_rfl) rfl rfl rfl hs306 (fun w' hw' => op_fieldAddr (sz := 0) ha302 rfl Try.underlying28 rfl rfl ti23 rfl) ?_
      intro a307 ha307; clear ha302 a302
      refine dr_one (i := 8) (by kernel_rfl) ?_
      refine po_effS ha307 rfl rfl rfl (op_store' (off := 1) ha307 rfl ti23 rfl rfl hb44 ho299.cells1 rfl (by intro u hu; have hu : u ∈ ([v297] : List Value) := hu; simp only [List.mem_cons, List.mem_nil_iff, or_false] at hu; rcases hu with rfl <;> first | rfl | exact ho299.one) (Nat.le_of_ble_eq_true rfl)) ?_
      rintro w308 ⟨hb310, hst309, hz311⟩
      have hx312 := hx303.fresh hst309 (by intro q hq; cases hq; exact (by omega))
      have hzhx312 := hst309.size
      replace hb4 := hb4.stp hst309 (by intro q hq; cases hq; omega)
      replace ho11 := ho11.stp hst309 (by intro q hq; cases hq; omega)
      replace ho27 := ho27.stp hst309 (by intro q hq; cases hq; omega)
      replace hS231 := hS231.stp hst309 (by intro q hq; cases hq; omega)
      replace ho281 := ho281.stp hst309 (by intro q hq; cases hq; omega)
      replace ho290 := ho290.stp hst309 (by intro q hq; cases hq; omega)
      first | replace ho299 := ho299.stp hst309 (by intro q hq; cases hq; omega) | replace ho299 := ho299.stpF flat_shRowN hst309 (by intro q hq; cases hq; exact ho299.ne_box (by assumption) rfl)
      first | replace hN305 := hN305.stp hst309 (by intro q hq; cases hq; omega) | replace hN305 := hN305.stpB flat_shI64 hst309 (by assumption) rfl
      clear hb44
      have hs313 := hs306.trans' (Stp.toL hst309 (by intro q hq; cases hq; exact Or.inr (Or.inl rfl)))
      refine ⟨hs313, ?_⟩
      refine dr_end (by kernel_rfl) ?_
      refine block_n ?_
      refine then_n ?_
      refine wp_seq ?_
      refine wp_region_lit ?_
      refine wl_val ha307 rfl rfl rfl (op_loadS ha307 rfl Try.underlying28 ti28 rfl rfl hb310.cells) ?_
      intro a314 ha314; clear ha307 a307
      refine wl_effS ha314 rfl rfl (op_storeAll' ha314 rfl ti28 rfl rfl hb4 rfl rfl (by intro u hu; have hu : u ∈ ([u26, v297] : List Value) := hu; simp only [List.mem_cons, List.mem_nil_iff, or_false] at hu; rcases hu with rfl | rfl <;> first | rfl | exact ho27.one | exact ho299.one) rfl) ?_
      rintro w315 ⟨hb317, hst316, hz318⟩
      have hx319 := hx312.fresh hst316 (by intro q hq; cases hq; exact (by omega))
      have hzhx319 := hst316.size
      replace ho11 := ho11.stp hst316 (by intro q hq; cases hq; omega)
      replace ho27 := ho27.stp hst316 (by intro q hq; cases hq; omega)
      replace hS231 := hS231.stp hst316 (by intro q hq; cases hq; omega)
      replace ho281 := ho281.stp hst316 (by intro q hq; cases hq; omega)
      replace ho290 := ho290.stp hst316 (by intro q hq; cases hq; omega)
      replace ho299 := ho299.stp hst316 (by intro q hq; cases hq; omega)
      replace hN305 := hN305.stp hst316 (by intro q hq; cases hq; omega)
      replace hb310 := hb310.stp hst316 (by intro q hq; cases hq; omega)
      clear hb4
      refine wpList_nil ?_
      refine then_n ?_
      refine wp_ret ?_
      refine retc ha314 rfl rfl Try.underlying28 ti28 rfl hb317.cells ?_
      clear ha314 a314
      refine ret_mkS hx319 ⟨hS231, ?_⟩
      refine ⟨((((q20).1), (((z30 ++ [(([(q232 : Int)] : List Int), (v279 : Value))])).map (·.1))) : Tab), (by first | omega | (show _ ≤ (List.set _ _ _).length; rw [List.length_set]; omega) | (show (List.set _ _ _).length ≤ _; rw [List.length_set]; omega) | (simp; omega)), (by first | omega | (show _ ≤ (List.set _ _ _).length; rw [List.length_set]; omega) | (show (List.set _ _ _).length ≤ _; rw [List.length_set]; omega) | (simp; omega)), (by first | omega | (simp; omega) | (show (List.map _ _).length ≤ _; rw [List.length_map]; first | omega | (rw [List.length_append]; simp; omega))), (by intro r hr; obtain ⟨z, hz, rfl⟩ := List.mem_map.1 hr; rcases List.mem_append.1 hz with hz | hz; (have h9 := hq24 z.1 (by first | (rw [← hE32]; exact List.mem_map_of_mem hz)); omega); (obtain rfl := List.mem_singleton.1 hz; show 1 ≤ [_].length ∧ [_].length ≤ 6; simp)), ?_⟩
      refine ⟨u26, v297, (z30 ++ [(([(q232 : Int)] : List Int), (v279 : Value))]), (by rfl), ?_, ho299.fin (by omega) (by omega) (by omega), hN305.fin (by omega) (by omega), ?_⟩
      ·
       refine (ho27.fin (by omega) (by omega) (by omega)).cast ?_
       rfl
      ·
       rfl
     ·
      refine po_eff ha284 rfl rfl rfl rfl (op_buildSlice (s := shRowN) (xs := [(([(q232 : Int)] : List Int), (v279 : Value))]) (cs := [v279]) (vs := [(0, v279)]) (S := fun _ => False) (le := w280.heap.size) ha284 rfl pos_shRowN Try.underlying23 ti41 rfl rfl (by decide) ((fill_one (off := 0) ho281.cells1 (by kernel_rfl) (by kernel_rfl)).trans (by kernel_rfl)) (Els.single (mk_shRowN ((([(q232 : Int)] : List Int), (v279 : Value))) ho281.one)) (fun _ h => h.elim)) ?_
      rintro v320 w321 ⟨ho322, he323, hob324⟩ a325 ha325; clear ha284 a284
      have hs326 := hs285.trans' (StpL.of_ext he323)
      have hx327 := hx286.trans' (Stp.of_ext he323 _)
      have hzhx327 := he323.size
      replace hb4 := hb4.ext he323
      replace ho11 := ho11.ext he323
      replace ho27 := ho27.ext he323
      replace ho29 := ho29.ext he323
      replace hN31 := hN31.ext he323
      replace hb44 := hb44.ext he323
      replace hS231 := hS231.ext he323
      replace ho281 := ho281.ext he323
      refine ⟨hs326, ?_⟩
      have hN328 : Nst shI64 2 (fun x : List Int => x) w229.heap.size w321.heap.size w321 ([(([(q232 : Int)] : List Int), (v279 : Value))]) := Nst.one (ho281.fin (by omega) (by omega) (by omega))
      refine dr_one (i := 1) (by kernel_rfl) ?_
      refine po_to ha325 rfl rfl rfl rfl (op_loadF (off := 1) ha325 rfl Try.underlying23 rfl rfl hb44.cells rfl) ?_
      intro a329 ha329; clear ha325 a325
      refine ⟨hs326, ?_⟩
      refine dr_one (i := 6) (by kernel_rfl) ?_
      refine po_eff ha329 rfl rfl rfl rfl (op_append (ts := #[]) (s := shRowN) ha329 rfl Try.underlying23 ti41 rfl pos_shRowN rfl rfl ho29 (ho322.rds pos_shRowN) (by omega) (by omega) (by first | omega | (simp; omega) | (simp only [List.length_take]; omega)) (by first | omega | (simp; omega) | (simp only [List.length_take]; omega)) (.inl flat_shRowN)) ?_
      rintro v330 w331 ⟨ho332, hst333, hob334⟩ a335 ha335; clear ha329 a329
      have hx336 := hx327.fresh hst333 (by intro q hq; have hq0 := ho29.lt q hq; omega)
      have hzhx336 := hst333.size
      replace hb4 := hb4.stp hst333 (by intro q hq; have hq0 := ho29.lt q hq; omega)
      replace ho11 := ho11.stp hst333 (by intro q hq; have hq0 := ho29.lt q hq; omega)
      first | replace ho27 := ho27.stp hst333 (by intro q hq; have hq0 := ho29.lt q hq; omega) | replace ho27 := ho27.stpF flat_shStr hst333 (ho27.ne ho29 rfl)
      first | replace hN31 := hN31.stpF flat_shI64 hst333 ho29 rfl | replace hN31 := hN31.stp hst333 (by intro q hq; have hq0 := ho29.lt q hq; omega)
      replace hb44 := hb44.stp hst333 (by intro q hq; have hq0 := ho29.lt q hq; omega)
      replace hS231 := hS231.stp hst333 (by intro q hq; have hq0 := ho29.lt q hq; omega)
      replace ho281 := ho281.stp hst333 (by intro q hq; have hq0 := ho29.lt q hq; omega)
      replace ho322 := ho322.stp hst333 (by intro q hq; have hq0 := ho29.lt q hq; omega)
      replace hN328 := hN328.stp hst333 (by intro q hq; have hq0 := ho29.lt q hq; omega)
      have hsp337 : ∀ q, Value.ownBlock v330 = some q → Value.ownBlock v320 ≠ some q := by intro q hq hb; have hq0 := ho322.lt q hb; rcases hob334 with h | h; (rw [h] at hq; first | (have hq1 := ho29.lt q hq; omega)); (rw [h] at hq; cases hq; omega)
      have hN338 : Nst shI64 2 (fun x : List Int => x) w10.heap.size w331.heap.size w331 ((z30 ++ [(([(q232 : Int)] : List Int), (v279 : Value))])) := (hN31.app hN328 (by omega) (by omega) (by omega)).fin (by omega) (by omega)
      have hs339 := hs326.trans' (Stp.toL hst333 (by intro q hq; exact Or.inl hq))
      refine ⟨hs339, ?_⟩
      refine dr_val (i := 7) ha335 rfl (by kernel_rfl) (by kernel_rfl) (by kernel_rfl) rfl rfl rfl hs339 (fun w' hw' => op_fieldAddr (sz := 0) ha335 rfl Try.underlying28 rfl rfl ti23 rfl) ?_
      intro a340 ha340; clear ha335 a335
      refine dr_one (i := 8) (by kernel_rfl) ?_
      refine po_effS ha340 rfl rfl rfl (op_store' (off := 1) ha340 rfl ti23 rfl rfl hb44 ho332.cells1 rfl (by intro u hu; have hu : u ∈ ([v330] : List Value) := hu; simp only [List.mem_cons, List.mem_nil_iff, or_false] at hu; rcases hu with rfl <;> first | rfl | exact ho332.one) (Nat.le_of_ble_eq_true rfl)) ?_
      rintro w341 ⟨hb343, hst342, hz344⟩
      have hx345 := hx336.fresh hst342 (by intro q hq; cases hq; exact (by omega))
      have hzhx345 := hst342.size
      replace hb4 := hb4.stp hst342 (by intro q hq; cases hq; omega)
      replace ho11 := ho11.stp hst342 (by intro q hq; cases hq; omega)
      replace ho27 := ho27.stp hst342 (by intro q hq; cases hq; omega)
      replace hS231 := hS231.stp hst342 (by intro q hq; cases hq; omega)
      replace ho281 := ho281.stp hst342 (by intro q hq; cases hq; omega)
      replace ho322 := ho322.stp hst342 (by intro q hq; cases hq; omega)
      first | replace ho332 := ho332.stp hst342 (by intro q hq; cases hq; omega) | replace ho332 := ho332.stpF flat_shRowN hst342 (by intro q hq; cases hq; exact ho332.ne_box (by assumption) rfl)
      first | replace hN338 := hN338.stp hst342 (by intro q hq; cases hq; omega) | replace hN338 := hN338.stpB flat_shI64 hst342 (by assumption) rfl
      clear hb44
      have hs346 := hs339.trans' (Stp.toL hst342 (by intro q hq; cases hq; exact Or.inr (Or.inl rfl)))
      refine ⟨hs346, ?_⟩
      refine dr_end (by kernel_rfl) ?_
      refine block_n ?_
      refine then_n ?_
      refine wp_seq ?_
      refine wp_region_lit ?_
      refine wl_val ha340 rfl rfl rfl (op_loadS ha340 rfl Try.underlying28 ti28 rfl rfl hb343.cells) ?_
      intro a347 ha347; clear ha340 a340
      refine wl_effS ha347 rfl rfl (op_storeAll' ha347 rfl ti28 rfl rfl hb4 rfl rfl (by intro u hu; have hu : u ∈ ([u26, v330] : List Value) := hu; simp only [List.mem_cons, List.mem_nil_iff, or_false] at hu; rcases hu with rfl | rfl <;> first | rfl | exact ho27.one | exact ho332.one) rfl) ?_
      rintro w348 ⟨hb350, hst349, hz351⟩
      have hx352 := hx345.fresh hst349 (by intro q hq; cases hq; exact (by omega))
      have hzhx352 := hst349.size
      replace ho11 := ho11.stp hst349 (by intro q hq; cases hq; omega)
      replace ho27 := ho27.stp hst349 (by intro q hq; cases hq; omega)
      replace hS231 := hS231.stp hst349 (by intro q hq; cases hq; omega)
      replace ho281 := ho281.stp hst349 (by intro q hq; cases hq; omega)
      replace ho322 := ho322.stp hst349 (by intro q hq; cases hq; omega)
      replace ho332 := ho332.stp hst349 (by intro q hq; cases hq; omega)
      replace hN338 := hN338.stp hst349 (by intro q hq; cases hq; omega)
      replace hb343 := hb343.stp hst349 (by intro q hq; cases hq; omega)
      clear hb4
      refine wpList_nil ?_
      refine then_n ?_
      refine wp_ret ?_
      refine retc ha347 rfl rfl Try.underlying28 ti28 rfl hb350.cells ?_
      clear ha347 a347
      refine ret_mkS hx352 ⟨hS231, ?_⟩
      refine ⟨((((q20).1), (((z30 ++ [(([(q232 : Int)] : List Int), (v279 : Value))])).map (·.1))) : Tab), (by first | omega | (show _ ≤ (List.set _ _ _).length; rw [List.length_set]; omega) | (show (List.set _ _ _).length ≤ _; rw [List.length_set]; omega) | (simp; omega)), (by first | omega | (show _ ≤ (List.set _ _ _).length; rw [List.length_set]; omega) | (show (List.set _ _ _).length ≤ _; rw [List.length_set]; omega) | (simp; omega)), (by first | omega | (simp; omega) | (show (List.map _ _).length ≤ _; rw [List.length_map]; first | omega | (rw [List.length_append]; simp; omega))), (by intro r hr; obtain ⟨z, hz, rfl⟩ := List.mem_map.1 hr; rcases List.mem_append.1 hz with hz | hz; (have h9 := hq24 z.1 (by first | (rw [← hE32]; exact List.mem_map_of_mem hz)); omega); (obtain rfl := List.mem_singleton.1 hz; show 1 ≤ [_].length ∧ [_].length ≤ 6; simp)), ?_⟩
      refine ⟨u26, v330, (z30 ++ [(([(q232 : Int)] : List Int), (v279 : Value))]), (by rfl), ?_, ho332.fin (by omega) (by omega) (by omega), hN338.fin (by omega) (by omega), ?_⟩
      ·
       refine (ho27.fin (by omega) (by omega) (by omega)).cast ?_
       rfl
      ·
       rfl
  ·
   rw [decide_eq_false c170] at ha169
   refine cond_f ha169 rfl ?_
   refine wp_seq ?_
   refine wp_region_lit ?_
   refine wl_val ha169 rfl rfl rfl (op_eql ha169 rfl rfl rfl) ?_
   intro a353 ha353; clear ha169 a169
   refine wl_val ha353 rfl rfl rfl (op_assign ha353 rfl rfl) ?_
   intro a354 ha354; clear ha353 a353
   refine wpList_nil ?_
   refine then_n ?_
   by_cases c355 : (q52 : Int) = (2 : Int)
   ·
    rw [decide_eq_true c355] at ha354
    refine cond_t ha354 rfl ?_
    refine wp_block ?_
    refine loop_inv (X := Value × (List (List Int × Value))) (fun (⟨v1, zs⟩ : Value × (List (List Int × Value))) fr wl => Sl 48 fr [(0, .pointer (some (⟨g_s, 0, none⟩ : Addr))), (2, .pointer (some (⟨w0.heap.size, 0, none⟩ : Addr))), (3, .pointer (some (⟨w17.heap.size, 0, none⟩ : Addr)))] ∧ Stp w0 wl (some g_s) ∧ Src wl g_s b_s 102 ∧ Box wl w0.heap.size 28 [.slice none 0 0, .slice none 0 0] ∧ Own shStr 9 w10.heap.size w10.heap.size w17.heap.size wl u26 (((q20).1)) ∧ Own shRowN 41 w10.heap.size w10.heap.size wl.heap.size wl v1 zs ∧ Nst shI64 2 (fun x : List Int => x) w10.heap.size wl.heap.size wl zs ∧ Box wl w17.heap.size 28 [u26, v1] ∧ w49.heap.size ≤ wl.heap.size ∧ (zs.length ≤ 21) ∧ (∀ z ∈ zs, 1 ≤ z.1.length ∧ z.1.length ≤ 6)) (fun (⟨v1, zs⟩ : Value × (List (List Int × Value))) => 30 - zs.length) (u28, z30) ?_ ?_
    ·
     exact ⟨(Sl.cons_ ha354 rfl rfl (Sl.cons_ ha354 rfl rfl (Sl.cons_ ha354 rfl rfl (Sl.nil_ ha354)))), hx57, hS51, hb4, ho27, (ho29.fin (by omega) (by omega) (by omega)), (hN31.fin (by omega) (by omega)), hb44, (by omega), (by omega), (by intro z hz; have h9 := hq24 z.1 (by rw [← hE32]; exact List.mem_map_of_mem hz); omega)⟩
    ·
     clear ha354 a354
     rintro ⟨v1, zs⟩ a364 w356 ⟨ha364, hx357, hf358, hf359, hf360, hf361, hf362, hf363, hzl365, hl, hZ⟩
     have hzhx357 := hx357.size
     have hgl366 := hf358.lt
     refine wp_seq ?_
     refine wp_seq ?_
     refine dr_enter (fun wa_ wb_ => Stp wa_ wb_ (some g_s)) follows_mixed ?_
     intro w367 he368
     have hx369 := hx357.trans' (Stp.of_ext he368 _)
     have hzhx369 := he368.size
     replace hf358 := hf358.ext he368
     replace hf359 := hf359.ext he368
     replace hf360 := hf360.ext he368
     replace hf361 := hf361.ext he368
     replace hf362 := hf362.ext he368
     replace hf363 := hf363.ext he368
     have hs370 : Ext w367 w367 := Ext.rfl' _
     refine dr_val (i := 0) ha364 rfl (by kernel_rfl) (by kernel_rfl) (by kernel_rfl) rfl rfl rfl (Stp.of_ext hs370 _) (fun w' hw' => op_fieldAddr (sz := 0) ha364 rfl Try.underlying28 rfl rfl ti23 rfl) ?_
     intro a371 ha371; clear ha364 a364
     refine dr_val (i := 1) ha371 rfl (by kernel_rfl) (by kernel_rfl) (by kernel_rfl) rfl rfl rfl (Stp.of_ext hs370 _) (fun w' hw' => op_loadF (off := 1) ha371 rfl Try.underlying23 rfl rfl (hf363.stp hw' (by intro q hq; cases hq; omega)).cells rfl) ?_
     intro a372 ha372; clear ha371 a371
     refine dr_val (i := 2) ha372 rfl (by kernel_rfl) (by kernel_rfl) (by kernel_rfl) rfl rfl rfl (Stp.of_ext hs370 _) (fun w' hw' => op_len_sl ha372 rfl Try.underlying23 rfl (hf361.rds pos_shRowN)) ?_
     intro a373 ha373; clear ha372 a372
     refine dr_val (i := 3) ha373 rfl (by kernel_rfl) (by kernel_rfl) (by kernel_rfl) rfl rfl rfl (Stp.of_ext hs370 _) (fun w' hw' => op_move ha373 rfl rfl) ?_
     intro a374 ha374; clear ha373 a373
     refine dr_one (i := 4) (by kernel_rfl) ?_
     replace hf358 := hf358.ext hs370
     replace hf359 := hf359.ext hs370
     replace hf360 := hf360.ext hs370
     replace hf361 := hf361.ext hs370
     replace hf362 := hf362.ext hs370
     replace hf363 := hf363.ext hs370
     refine po_callS ha374 rfl rfl rfl rfl (op_call ha374 rfl cb81 rfl) (c_spec_l01Next _ g_s b_s (2 : Int) hf358) ?_
     rintro v375 w376 he377 ⟨hS378, ⟨q379, hq380, hq381, hq382, rfl⟩⟩ a383 ha383; clear ha374 a374
     have hx384 := hx369.trans' he377
     have hzhx384 := he377.size
     replace hf359 := hf359.stp he377 (by intro q hq; cases hq; omega)
     first | replace hf360 := hf360.stp he377 (by intro q hq; cases hq; omega) | replace hf360 := hf360.stpF flat_shStr he377 (by intro q hq; cases hq; exact hf360.ne_box (by assumption) rfl)
     first | replace hf361 := hf361.stp he377 (by intro q hq; cases hq; omega) | replace hf361 := hf361.stpF flat_shRowN he377 (by intro q hq; cases hq; exact hf361.ne_box (by assumption) rfl)
     first | replace hf362 := hf362.stp he377 (by intro q hq; cases hq; omega) | replace hf362 := hf362.stpB flat_shI64 he377 (by assumption) rfl
     replace hf363 := hf363.stp he377 (by intro q hq; cases hq; omega)
     clear hf358
     have hSlhS378 := hS378.lt
     have hs385 := (Stp.of_ext hs370 (some g_s)).trans' he377
     refine ⟨hs385, ?_⟩
     refine dr_val (i := 5) ha383 rfl (by kernel_rfl) (by kernel_rfl) (by kernel_rfl) rfl rfl rfl hs385 (fun w' hw' => (op_add ha383 rfl rfl rfl).int (IntWalk.i64_in _ (by omega))) ?_
     intro a386 ha386; clear ha383 a383
     refine dr_val (i := 6) ha386 rfl (by kernel_rfl) (by kernel_rfl) (by kernel_rfl) rfl rfl rfl hs385 (fun w' hw' => op_lss ha386 rfl rfl rfl) ?_
     intro a387 ha387; clear ha386 a386
     refine dr_end (by kernel_rfl) ?_
     refine then_n ?_
     by_cases c388 : ((zs.length : Nat) : Int) < ((20 : Int) + (q379 : Int))
     ·
      rw [decide_eq_true c388] at ha387
      refine cond_t ha387 rfl ?_
      refine wp_skip ?_
      refine then_n ?_
      refine wp_block ?_
      refine dr_enter (fun wa_ wb_ => StpL wa_ wb_ (fun i => Value.ownBlock v1 = some i ∨ i = w17.heap.size)) follows_mixed ?_
      intro w389 he390
      have hx391 := hx384.trans' (Stp.of_ext he390 _)
      have hzhx391 := he390.size
      replace hf359 := hf359.ext he390
      replace hf360 := hf360.ext he390
      replace hf361 := hf361.ext he390
      replace hf362 := hf362.ext he390
      replace hf363 := hf363.ext he390
      replace hS378 := hS378.ext he390
      have hs392 : Ext w389 w389 := Ext.rfl' _
      refine dr_val (i := 0) ha387 rfl (by kernel_rfl) (by kernel_rfl) (by kernel_rfl) rfl rfl rfl (StpL.of_ext hs392) (fun w' hw' => op_fieldAddr (sz := 0) ha387 rfl Try.underlying28 rfl rfl ti23 rfl) ?_
      intro a393 ha393; clear ha387 a387
      refine dr_val (i := 2) ha393 rfl (by kernel_rfl) (by kernel_rfl) (by kernel_rfl) rfl rfl rfl (StpL.of_ext hs392) (fun w' hw' => op_fieldAddr (sz := 0) ha393 rfl Try.underlying28 rfl rfl ti22 rfl) ?_
      intro a394 ha394; clear ha393 a393
      refine dr_two (i := 1) (j := 3) (by kernel_rfl) ?_ ?_
      ·
       refine po_to ha394 rfl rfl rfl rfl (op_loadF (off := 1) ha394 rfl Try.underlying23 rfl rfl (hf363.ext hs392).cells rfl) ?_
       intro a395 ha395; clear ha394 a394
       refine ⟨(StpL.of_ext hs392), ?_⟩
       refine dr_one (i := 3) (by kernel_rfl) ?_
       refine po_to ha395 rfl rfl rfl rfl (op_loadF (off := 0) ha395 rfl Try.underlying22 rfl rfl (hf363.ext hs392).cells rfl) ?_
       intro a396 ha396; clear ha395 a395
       refine ⟨(StpL.of_ext hs392), ?_⟩
       refine dr_val (i := 4) ha396 rfl (by kernel_rfl) (by kernel_rfl) (by kernel_rfl) rfl rfl rfl (StpL.of_ext hs392) (fun w' hw' => op_len_sl ha396 rfl Try.underlying22 rfl (hf360.rds pos_shStr)) ?_
       intro a397 ha397; clear ha396 a396
       refine dr_one (i := 5) (by kernel_rfl) ?_
       refine po_eff ha397 rfl rfl rfl rfl (op_make (s := shI64) (n := (((q20).1)).length) (k' := .i64) ha397 rfl Try.underlying41 ti2 pos_shI64 rfl (by omega) zero_shI64 (by omega) (by omega)) ?_
       rintro v398 w399 ⟨ho400, he401⟩ a402 ha402; clear ha397 a397
       have hs403 := hs392.trans' he401
       have hx404 := hx391.trans' (Stp.of_ext he401 _)
       have hzhx404 := he401.size
       refine ⟨(StpL.of_ext hs403), ?_⟩
       refine dr_one (i := 6) (by kernel_rfl) ?_
       refine po_eff ha402 rfl rfl rfl rfl (op_buildSlice (s := shRowN) (xs := [(((List.replicate ((((q20).1)).length) (0 : Int)) : List Int), (v398 : Value))]) (cs := [v398]) (vs := [(0, v398)]) (S := fun _ => False) (le := w399.heap.size) ha402 rfl pos_shRowN Try.underlying23 ti41 rfl rfl (by decide) ((fill_one (off := 0) ho400.cells1 (by kernel_rfl) (by kernel_rfl)).trans (by kernel_rfl)) (Els.single (mk_shRowN ((((List.replicate ((((q20).1)).length) (0 : Int)) : List Int), (v398 : Value))) ho400.one)) (fun _ h => h.elim)) ?_
       rintro v405 w406 ⟨ho407, he408, hob409⟩ a410 ha410; clear ha402 a402
       have hs411 := hs403.trans' he408
       have hx412 := hx404.trans' (Stp.of_ext he408 _)
       have hzhx412 := he408.size
       replace ho400 := ho400.ext he408
       refine ⟨(StpL.of_ext hs411), ?_⟩
       have hN413 : Nst shI64 2 (fun x : List Int => x) w389.heap.size w406.heap.size w406 ([(((List.replicate ((((q20).1)).length) (0 : Int)) : List Int), (v398 : Value))]) := Nst.one (ho400.fin (by omega) (by omega) (by omega))
       refine dr_one (i := 7) (by kernel_rfl) ?_
       replace hf359 := hf359.ext hs411
       replace hf360 := hf360.ext hs411
       replace hf361 := hf361.ext hs411
       replace hf362 := hf362.ext hs411
       replace hf363 := hf363.ext hs411
       replace hS378 := hS378.ext hs411
       refine po_eff ha410 rfl rfl rfl rfl (op_append (ts := #[]) (s := shRowN) ha410 rfl Try.underlying23 ti41 rfl pos_shRowN rfl rfl hf361 (ho407.rds pos_shRowN) (by omega) (by omega) (by first | omega | (simp; omega) | (simp only [List.length_take]; omega)) (by first | omega | (simp; omega) | (simp only [List.length_take]; omega)) (.inl flat_shRowN)) ?_
       rintro v414 w415 ⟨ho416, hst417, hob418⟩ a419 ha419; clear ha410 a410
       have hx420 := hx412.fresh hst417 (by intro q hq; have hq0 := hf361.lt q hq; omega)
       have hzhx420 := hst417.size
       replace hf359 := hf359.stp hst417 (by intro q hq; have hq0 := hf361.lt q hq; omega)
       first | replace hf360 := hf360.stp hst417 (by intro q hq; have hq0 := hf361.lt q hq; omega) | replace hf360 := hf360.stpF flat_shStr hst417 (hf360.ne hf361 rfl)
       first | replace hf362 := hf362.stpF flat_shI64 hst417 hf361 rfl | replace hf362 := hf362.stp hst417 (by intro q hq; have hq0 := hf361.lt q hq; omega)
       first | replace hf363 := hf363.stp hst417 (by intro q hq; have hq0 := hf361.lt q hq; omega) | replace hf363 := hf363.stp hst417 (by intro q hq e; subst e; exact hf361.ne_box hf363 rfl hq)
       replace hS378 := hS378.stp hst417 (by intro q hq; have hq0 := hf361.lt q hq; omega)
       replace ho400 := ho400.stp hst417 (by intro q hq; have hq0 := hf361.lt q hq; omega)
       replace ho407 := ho407.stp hst417 (by intro q hq; have hq0 := hf361.lt q hq; omega)
       replace hN413 := hN413.stp hst417 (by intro q hq; have hq0 := hf361.lt q hq; omega)
       have hsp421 : ∀ q, Value.ownBlock v414 = some q → Value.ownBlock v405 ≠ some q := by intro q hq hb; have hq0 := ho407.lt q hb; rcases hob418 with h | h; (rw [h] at hq; first | (have hq1 := hf361.lt q hq; omega)); (rw [h] at hq; cases hq; omega)
       have hN422 : Nst shI64 2 (fun x : List Int => x) w10.heap.size w415.heap.size w415 ((zs ++ [(((List.replicate ((((q20).1)).length) (0 : Int)) : List Int), (v398 : Value))])) := (hf362.app hN413 (by omega) (by omega) (by omega)).fin (by omega) (by omega)
       have hs423 := (StpL.of_ext (B := fun i => Value.ownBlock v1 = some i ∨ i = w17.heap.size) hs411).trans' (Stp.toL hst417 (by intro q hq; exact Or.inl hq))
       refine ⟨hs423, ?_⟩
       refine dr_val (i := 8) ha419 rfl (by kernel_rfl) (by kernel_rfl) (by kernel_rfl) rfl rfl rfl hs423 (fun w' hw' => op_fieldAddr (sz := 0) ha419 rfl Try.underlying28 rfl rfl ti23 rfl) ?_
       intro a424 ha424; clear ha419 a419
       refine dr_one (i := 9) (by kernel_rfl) ?_
       refine po_effS ha424 rfl rfl rfl (op_store' (off := 1) ha424 rfl ti23 rfl rfl hf363 ho416.cells1 rfl (by intro u hu; have hu : u ∈ ([v414] : List Value) := hu; simp only [List.mem_cons, List.mem_nil_iff, or_false] at hu; rcases hu with rfl <;> first | rfl | exact ho416.one) (Nat.le_of_ble_eq_true rfl)) ?_
       rintro w425 ⟨hb427, hst426, hz428⟩
       have hx429 := hx420.fresh hst426 (by intro q hq; cases hq; exact (by omega))
       have hzhx429 := hst426.size
       replace hf359 := hf359.stp hst426 (by intro q hq; cases hq; omega)
       replace hf360 := hf360.stp hst426 (by intro q hq; cases hq; omega)
       replace hS378 := hS378.stp hst426 (by intro q hq; cases hq; omega)
       replace ho400 := ho400.stp hst426 (by intro q hq; cases hq; omega)
       replace ho407 := ho407.stp hst426 (by intro q hq; cases hq; omega)
       first | replace ho416 := ho416.stp hst426 (by intro q hq; cases hq; omega) | replace ho416 := ho416.stpF flat_shRowN hst426 (by intro q hq; cases hq; exact ho416.ne_box (by assumption) rfl)
       first | replace hN422 := hN422.stp hst426 (by intro q hq; cases hq; omega) | replace hN422 := hN422.stpB flat_shI64 hst426 (by assumption) rfl
       clear hf363
       have hs430 := hs423.trans' (Stp.toL hst426 (by intro q hq; cases hq; exact Or.inr (rfl)))
       refine ⟨hs430, ?_⟩
       refine dr_end (by kernel_rfl) ?_
       refine block_n ?_
       refine round_end (x := (v1, zs)) (v414, (zs ++ [(((List.replicate ((((q20).1)).length) (0 : Int)) : List Int), (v398 : Value))])) ?_ ?_
       ·
        refine ⟨(Sl.cons_ ha424 rfl rfl (Sl.cons_ ha424 rfl rfl (Sl.cons_ ha424 rfl rfl (Sl.nil_ ha424)))), hx429, hS378, hf359, hf360, (ho416.fin (by omega) (by omega) (by omega)), (hN422.fin (by omega) (by omega)), hb427, (by omega), (by first | omega | (simp; omega)), (by intro z hz; rcases List.mem_append.1 hz with hz | hz; (exact hZ z hz); (obtain rfl := List.mem_singleton.1 hz; show 1 ≤ (List.replicate _ _).length ∧ (List.replicate _ _).length ≤ 6; rw [List.length_replicate]; omega))⟩
       ·show (30 - ((zs ++ [(((List.replicate ((((q20).1)).length) (0 : Int)) : List Int), (v398 : Value))])).length : Nat) < 30 - zs.length; first | omega | (simp; omega)
      ·
       refine po_to ha394 rfl rfl rfl rfl (op_loadF (off := 0) ha394 rfl Try.underlying22 rfl rfl (hf363.ext hs392).cells rfl) ?_
       intro a431 ha431; clear ha394 a394
       refine ⟨(StpL.of_ext hs392), ?_⟩
       refine dr_val (i := 4) ha431 rfl (by kernel_rfl) (by kernel_rfl) (by kernel_rfl) rfl rfl rfl (StpL.of_ext hs392) (fun w' hw' => op_len_sl ha431 rfl Try.underlying22 rfl (hf360.rds pos_shStr)) ?_
       intro a432 ha432; clear ha431 a431
       refine dr_two (i := 1) (j := 5) (by kernel_rfl) ?_ ?_
       ·
        refine po_to ha432 rfl rfl rfl rfl (op_loadF (off := 1) ha432 rfl Try.underlying23 rfl rfl (hf363.ext hs392).cells rfl) ?_
        intro a433 ha433; clear ha432 a432
        refine ⟨(StpL.of_ext hs392), ?_⟩
        refine dr_one (i := 5) (by kernel_rfl) ?_
        refine po_eff ha433 rfl rfl rfl rfl (op_make (s := shI64) (n := (((q20).1)).length) (k' := .i64) ha433 rfl Try.underlying41 ti2 pos_shI64 rfl (by omega) zero_shI64 (by omega) (by omega)) ?_
        rintro v434 w435 ⟨ho436, he437⟩ a438 ha438; clear ha433 a433
        have hs439 := hs392.trans' he437
        have hx440 := hx391.trans' (Stp.of_ext he437 _)
        have hzhx440 := he437.size
        refine ⟨(StpL.of_ext hs439), ?_⟩
        refine dr_one (i := 6) (by kernel_rfl) ?_
        refine po_eff ha438 rfl rfl rfl rfl (op_buildSlice (s := shRowN) (xs := [(((List.replicate ((((q20).1)).length) (0 : Int)) : List Int), (v434 : Value))]) (cs := [v434]) (vs := [(0, v434)]) (S := fun _ => False) (le := w435.heap.size) ha438 rfl pos_shRowN Try.underlying23 ti41 rfl rfl (by decide) ((fill_one (off := 0) ho436.cells1 (by kernel_rfl) (by kernel_rfl)).trans (by kernel_rfl)) (Els.single (mk_shRowN ((((List.replicate ((((q20).1)).length) (0 : Int)) : List Int), (v434 : Value))) ho436.one)) (fun _ h => h.elim)) ?_
        rintro v441 w442 ⟨ho443, he444, hob445⟩ a446 ha446; clear ha438 a438
        have hs447 := hs439.trans' he444
        have hx448 := hx440.trans' (Stp.of_ext he444 _)
        have hzhx448 := he444.size
        replace ho436 := ho436.ext he444
        refine ⟨(StpL.of_ext hs447), ?_⟩
        have hN449 : Nst shI64 2 (fun x : List Int => x) w389.heap.size w442.heap.size w442 ([(((List.replicate ((((q20).1)).length) (0 : Int)) : List Int), (v434 : Value))]) := Nst.one (ho436.fin (by omega) (by omega) (by omega))
        refine dr_one (i := 7) (by kernel_rfl) ?_
        replace hf359 := hf359.ext hs447
        replace hf360 := hf360.ext hs447
        replace hf361 := hf361.ext hs447
        replace hf362 := hf362.ext hs447
        replace hf363 := hf363.ext hs447
        replace hS378 := hS378.ext hs447
        refine po_eff ha446 rfl rfl rfl rfl (op_append (ts := #[]) (s := shRowN) ha446 rfl Try.underlying23 ti41 rfl pos_shRowN rfl rfl hf361 (ho443.rds pos_shRowN) (by omega) (by omega) (by first | omega | (simp; omega) | (simp only [List.length_take]; omega)) (by first | omega | (simp; omega) | (simp only [List.length_take]; omega)) (.inl flat_shRowN)) ?_
        rintro v450 w451 ⟨ho452, hst453, hob454⟩ a455 ha455; clear ha446 a446
        have hx456 := hx448.fresh hst453 (by intro q hq; have hq0 := hf361.lt q hq; omega)
        have hzhx456 := hst453.size
        replace hf359 := hf359.stp hst453 (by intro q hq; have hq0 := hf361.lt q hq; omega)
        first | replace hf360 := hf360.stp hst453 (by intro q hq; have hq0 := hf361.lt q hq; omega) | replace hf360 := hf360.stpF flat_shStr hst453 (hf360.ne hf361 rfl)
        first | replace hf362 := hf362.stpF flat_shI64 hst453 hf361 rfl | replace hf362 := hf362.stp hst453 (by intro q hq; have hq0 := hf361.lt q hq; omega)
        first | replace hf363 := hf363.stp hst453 (by intro q hq; have hq0 := hf361.lt q hq; omega) | replace hf363 := hf363.stp hst453 (by intro q hq e; subst e; exact hf361.ne_box hf363 rfl hq)
        replace hS378 := hS378.stp hst453 (by intro q hq; have hq0 := hf361.lt q hq; omega)
        replace ho436 := ho436.stp hst453 (by intro q hq; have hq0 := hf361.lt q hq; omega)
        replace ho443 := ho443.stp hst453 (by intro q hq; have hq0 := hf361.lt q hq; omega)
        replace hN449 := hN449.stp hst453 (by intro q hq; have hq0 := hf361.lt q hq; omega)
        have hsp457 : ∀ q, Value.ownBlock v450 = some q → Value.ownBlock v441 ≠ some q := by intro q hq hb; have hq0 := ho443.lt q hb; rcases hob454 with h | h; (rw [h] at hq; first | (have hq1 := hf361.lt q hq; omega)); (rw [h] at hq; cases hq; omega)
        have hN458 : Nst shI64 2 (fun x : List Int => x) w10.heap.size w451.heap.size w451 ((zs ++ [(((List.replicate ((((q20).1)).length) (0 : Int)) : List Int), (v434 : Value))])) := (hf362.app hN449 (by omega) (by omega) (by omega)).fin (by omega) (by omega)
        have hs459 := (StpL.of_ext (B := fun i => Value.ownBlock v1 = some i ∨ i = w17.heap.size) hs447).trans' (Stp.toL hst453 (by intro q hq; exact Or.inl hq))
        refine ⟨hs459, ?_⟩
        refine dr_val (i := 8) ha455 rfl (by kernel_rfl) (by kernel_rfl) (by kernel_rfl) rfl rfl rfl hs459 (fun w' hw' => op_fieldAddr (sz := 0) ha455 rfl Try.underlying28 rfl rfl ti23 rfl) ?_
        intro a460 ha460; clear ha455 a455
        refine dr_one (i := 9) (by kernel_rfl) ?_
        refine po_effS ha460 rfl rfl rfl (op_store' (off := 1) ha460 rfl ti23 rfl rfl hf363 ho452.cells1 rfl (by intro u hu; have hu : u ∈ ([v450] : List Value) := hu; simp only [List.mem_cons, List.mem_nil_iff, or_false] at hu; rcases hu with rfl <;> first | rfl | exact ho452.one) (Nat.le_of_ble_eq_true rfl)) ?_
        rintro w461 ⟨hb463, hst462, hz464⟩
        have hx465 := hx456.fresh hst462 (by intro q hq; cases hq; exact (by omega))
        have hzhx465 := hst462.size
        replace hf359 := hf359.stp hst462 (by intro q hq; cases hq; omega)
        replace hf360 := hf360.stp hst462 (by intro q hq; cases hq; omega)
        replace hS378 := hS378.stp hst462 (by intro q hq; cases hq; omega)
        replace ho436 := ho436.stp hst462 (by intro q hq; cases hq; omega)
        replace ho443 := ho443.stp hst462 (by intro q hq; cases hq; omega)
        first | replace ho452 := ho452.stp hst462 (by intro q hq; cases hq; omega) | replace ho452 := ho452.stpF flat_shRowN hst462 (by intro q hq; cases hq; exact ho452.ne_box (by assumption) rfl)
        first | replace hN458 := hN458.stp hst462 (by intro q hq; cases hq; omega) | replace hN458 := hN458.stpB flat_shI64 hst462 (by assumption) rfl
        clear hf363
        have hs466 := hs459.trans' (Stp.toL hst462 (by intro q hq; cases hq; exact Or.inr (rfl)))
        refine ⟨hs466, ?_⟩
        refine dr_end (by kernel_rfl) ?_
        refine block_n ?_
        refine round_end (x := (v1, zs)) (v450, (zs ++ [(((List.replicate ((((q20).1)).length) (0 : Int)) : List Int), (v434 : Value))])) ?_ ?_
        ·
         refine ⟨(Sl.cons_ ha460 rfl rfl (Sl.cons_ ha460 rfl rfl (Sl.cons_ ha460 rfl rfl (Sl.nil_ ha460)))), hx465, hS378, hf359, hf360, (ho452.fin (by omega) (by omega) (by omega)), (hN458.fin (by omega) (by omega)), hb463, (by omega), (by first | omega | (simp; omega)), (by intro z hz; rcases List.mem_append.1 hz with hz | hz; (exact hZ z hz); (obtain rfl := List.mem_singleton.1 hz; show 1 ≤ (List.replicate _ _).length ∧ (List.replicate _ _).length ≤ 6; rw [List.length_replicate]; omega))⟩
        ·show (30 - ((zs ++ [(((List.replicate ((((q20).1)).length) (0 : Int)) : List Int), (v434 : Value))])).length : Nat) < 30 - zs.length; first | omega | (simp; omega)
       ·
        refine po_eff ha432 rfl rfl rfl rfl (op_make (s := shI64) (n := (((q20).1)).length) (k' := .i64) ha432 rfl Try.underlying41 ti2 pos_shI64 rfl (by omega) zero_shI64 (by omega) (by omega)) ?_
        rintro v467 w468 ⟨ho469, he470⟩ a471 ha471; clear ha432 a432
        have hs472 := hs392.trans' he470
        have hx473 := hx391.trans' (Stp.of_ext he470 _)
        have hzhx473 := he470.size
        refine ⟨(StpL.of_ext hs472), ?_⟩
        refine dr_two (i := 1) (j := 6) (by kernel_rfl) ?_ ?_
        ·
         refine po_to ha471 rfl rfl rfl rfl (op_loadF (off := 1) ha471 rfl Try.underlying23 rfl rfl (hf363.ext hs472).cells rfl) ?_
         intro a474 ha474; clear ha471 a471
         refine ⟨(StpL.of_ext hs472), ?_⟩
         refine dr_one (i := 6) (by kernel_rfl) ?_
         refine po_eff ha474 rfl rfl rfl rfl (op_buildSlice (s := shRowN) (xs := [(((List.replicate ((((q20).1)).length) (0 : Int)) : List Int), (v467 : Value))]) (cs := [v467]) (vs := [(0, v467)]) (S := fun _ => False) (le := w468.heap.size) ha474 rfl pos_shRowN Try.underlying23 ti41 rfl rfl (by decide) ((fill_one (off := 0) ho469.cells1 (by kernel_rfl) (by kernel_rfl)).trans (by kernel_rfl)) (Els.single (mk_shRowN ((((List.replicate ((((q20).1)).length) (0 : Int)) : List Int), (v467 : Value))) ho469.one)) (fun _ h => h.elim)) ?_
         rintro v475 w476 ⟨ho477, he478, hob479⟩ a480 ha480; clear ha474 a474
         have hs481 := hs472.trans' he478
         have hx482 := hx473.trans' (Stp.of_ext he478 _)
         have hzhx482 := he478.size
         replace ho469 := ho469.ext he478
         refine ⟨(StpL.of_ext hs481), ?_⟩
         have hN483 : Nst shI64 2 (fun x : List Int => x) w389.heap.size w476.heap.size w476 ([(((List.replicate ((((q20).1)).length) (0 : Int)) : List Int), (v467 : Value))]) := Nst.one (ho469.fin (by omega) (by omega) (by omega))
         refine dr_one (i := 7) (by kernel_rfl) ?_
         replace hf359 := hf359.ext hs481
         replace hf360 := hf360.ext hs481
         replace hf361 := hf361.ext hs481
         replace hf362 := hf362.ext hs481
         replace hf363 := hf363.ext hs481
         replace hS378 := hS378.ext hs481
         refine po_eff ha480 rfl rfl rfl rfl (op_append (ts := #[]) (s := shRowN) ha480 rfl Try.underlying23 ti41 rfl pos_shRowN rfl rfl hf361 (ho477.rds pos_shRowN) (by omega) (by omega) (by first | omega | (simp; omega) | (simp only [List.length_take]; omega)) (by first | omega | (simp; omega) | (simp only [List.length_take]; omega)) (.inl flat_shRowN)) ?_
         rintro v484 w485 ⟨ho486, hst487, hob488⟩ a489 ha489; clear ha480 a480
         have hx490 := hx482.fresh hst487 (by intro q hq; have hq0 := hf361.lt q hq; omega)
         have hzhx490 := hst487.size
         replace hf359 := hf359.stp hst487 (by intro q hq; have hq0 := hf361.lt q hq; omega)
         first | replace hf360 := hf360.stp hst487 (by intro q hq; have hq0 := hf361.lt q hq; omega) | replace hf360 := hf360.stpF flat_shStr hst487 (hf360.ne hf361 rfl)
         first | replace hf362 := hf362.stpF flat_shI64 hst487 hf361 rfl | replace hf362 := hf362.stp hst487 (by intro q hq; have hq0 := hf361.lt q hq; omega)
         first | replace hf363 := hf363.stp hst487 (by intro q hq; have hq0 := hf361.lt q hq; omega) | replace hf363 := hf363.stp hst487 (by intro q hq e; subst e; exact hf361.ne_box hf363 rfl hq)
         replace hS378 := hS378.stp hst487 (by intro q hq; have hq0 := hf361.lt q hq; omega)
         replace ho469 := ho469.stp hst487 (by intro q hq; have hq0 := hf361.lt q hq; omega)
         replace ho477 := ho477.stp hst487 (by intro q hq; have hq0 := hf361.lt q hq; omega)
         replace hN483 := hN483.stp hst487 (by intro q hq; have hq0 := hf361.lt q hq; omega)
         have hsp491 : ∀ q, Value.ownBlock v484 = some q → Value.ownBlock v475 ≠ some q := by intro q hq hb; have hq0 := ho477.lt q hb; rcases hob488 with h | h; (rw [h] at hq; first | (have hq1 := hf361.lt q hq; omega)); (rw [h] at hq; cases hq; omega)
         have hN492 : Nst shI64 2 (fun x : List Int => x) w10.heap.size w485.heap.size w485 ((zs ++ [(((List.replicate ((((q20).1)).length) (0 : Int)) : List Int), (v467 : Value))])) := (hf362.app hN483 (by omega) (by omega) (by omega)).fin (by omega) (by omega)
         have hs493 := (StpL.of_ext (B := fun i => Value.ownBlock v1 = some i ∨ i = w17.heap.size) hs481).trans' (Stp.toL hst487 (by intro q hq; exact Or.inl hq))
         refine ⟨hs493, ?_⟩
         refine dr_val (i := 8) ha489 rfl (by kernel_rfl) (by kernel_rfl) (by kernel_rfl) rfl rfl rfl hs493 (fun w' hw' => op_fieldAddr (sz := 0) ha489 rfl Try.underlying28 rfl rfl ti23 rfl) ?_
         intro a494 ha494; clear ha489 a489
         refine dr_one (i := 9) (by kernel_rfl) ?_
         refine po_effS ha494 rfl rfl rfl (op_store' (off := 1) ha494 rfl ti23 rfl rfl hf363 ho486.cells1 rfl (by intro u hu; have hu : u ∈ ([v484] : List Value) := hu; simp only [List.mem_cons, List.mem_nil_iff, or_false] at hu; rcases hu with rfl <;> first | rfl | exact ho486.one) (Nat.le_of_ble_eq_true rfl)) ?_
         rintro w495 ⟨hb497, hst496, hz498⟩
         have hx499 := hx490.fresh hst496 (by intro q hq; cases hq; exact (by omega))
         have hzhx499 := hst496.size
         replace hf359 := hf359.stp hst496 (by intro q hq; cases hq; omega)
         replace hf360 := hf360.stp hst496 (by intro q hq; cases hq; omega)
         replace hS378 := hS378.stp hst496 (by intro q hq; cases hq; omega)
         replace ho469 := ho469.stp hst496 (by intro q hq; cases hq; omega)
         replace ho477 := ho477.stp hst496 (by intro q hq; cases hq; omega)
         first | replace ho486 := ho486.stp hst496 (by intro q hq; cases hq; omega) | replace ho486 := ho486.stpF flat_shRowN hst496 (by intro q hq; cases hq; exact ho486.ne_box (by assumption) rfl)
         first | replace hN492 := hN492.stp hst496 (by intro q hq; cases hq; omega) | replace hN492 := hN492.stpB flat_shI64 hst496 (by assumption) rfl
         clear hf363
         have hs500 := hs493.trans' (Stp.toL hst496 (by intro q hq; cases hq; exact Or.inr (rfl)))
         refine ⟨hs500, ?_⟩
         refine dr_end (by kernel_rfl) ?_
         refine block_n ?_
         refine round_end (x := (v1, zs)) (v484, (zs ++ [(((List.replicate ((((q20).1)).length) (0 : Int)) : List Int), (v467 : Value))])) ?_ ?_
         ·
          refine ⟨(Sl.cons_ ha494 rfl rfl (Sl.cons_ ha494 rfl rfl (Sl.cons_ ha494 rfl rfl (Sl.nil_ ha494)))), hx499, hS378, hf359, hf360, (ho486.fin (by omega) (by omega) (by omega)), (hN492.fin (by omega) (by omega)), hb497, (by omega), (by first | omega | (simp; omega)), (by intro z hz; rcases List.mem_append.1 hz with hz | hz; (exact hZ z hz); (obtain rfl := List.mem_singleton.1 hz; show 1 ≤ (List.replicate _ _).length ∧ (List.replicate _ _).length ≤ 6; rw [List.length_replicate]; omega))⟩
         ·show (30 - ((zs ++ [(((List.replicate ((((q20).1)).length) (0 : Int)) : List Int), (v467 : Value))])).length : Nat) < 30 - zs.length; first | omega | (simp; omega)
        ·
         refine po_eff ha471 rfl rfl rfl rfl (op_buildSlice (s := shRowN) (xs := [(((List.replicate ((((q20).1)).length) (0 : Int)) : List Int), (v467 : Value))]) (cs := [v467]) (vs := [(0, v467)]) (S := fun _ => False) (le := w468.heap.size) ha471 rfl pos_shRowN Try.underlying23 ti41 rfl rfl (by decide) ((fill_one (off := 0) ho469.cells1 (by kernel_rfl) (by kernel_rfl)).trans (by kernel_rfl)) (Els.single (mk_shRowN ((((List.replicate ((((q20).1)).length) (0 : Int)) : List Int), (v467 : Value))) ho469.one)) (fun _ h => h.elim)) ?_
         rintro v501 w502 ⟨ho503, he504, hob505⟩ a506 ha506; clear ha471 a471
         have hs507 := hs472.trans' he504
         have hx508 := hx473.trans' (Stp.of_ext he504 _)
         have hzhx508 := he504.size
         replace ho469 := ho469.ext he504
         refine ⟨(StpL.of_ext hs507), ?_⟩
         have hN509 : Nst shI64 2 (fun x : List Int => x) w389.heap.size w502.heap.size w502 ([(((List.replicate ((((q20).1)).length) (0 : Int)) : List Int), (v467 : Value))]) := Nst.one (ho469.fin (by omega) (by omega) (by omega))
         refine dr_one (i := 1) (by kernel_rfl) ?_
         refine po_to ha506 rfl rfl rfl rfl (op_loadF (off := 1) ha506 rfl Try.underlying23 rfl rfl (hf363.ext hs507).cells rfl) ?_
         intro a510 ha510; clear ha506 a506
         refine ⟨(StpL.of_ext hs507), ?_⟩
         refine dr_one (i := 7) (by kernel_rfl) ?_
         replace hf359 := hf359.ext hs507
         replace hf360 := hf360.ext hs507
         replace hf361 := hf361.ext hs507
         replace hf362 := hf362.ext hs507
         replace hf363 := hf363.ext hs507
         replace hS378 := hS378.ext hs507
         refine po_eff ha510 rfl rfl rfl rfl (op_append (ts := #[]) (s := shRowN) ha510 rfl Try.underlying23 ti41 rfl pos_shRowN rfl rfl hf361 (ho503.rds pos_shRowN) (by omega) (by omega) (by first | omega | (simp; omega) | (simp only [List.length_take]; omega)) (by first | omega | (simp; omega) | (simp only [List.length_take]; omega)) (.inl flat_shRowN)) ?_
         rintro v511 w512 ⟨ho513, hst514, hob515⟩ a516 ha516; clear ha510 a510
         have hx517 := hx508.fresh hst514 (by intro q hq; have hq0 := hf361.lt q hq; omega)
         have hzhx517 := hst514.size
         replace hf359 := hf359.stp hst514 (by intro q hq; have hq0 := hf361.lt q hq; omega)
         first | replace hf360 := hf360.stp hst514 (by intro q hq; have hq0 := hf361.lt q hq; omega) | replace hf360 := hf360.stpF flat_shStr hst514 (hf360.ne hf361 rfl)
         first | replace hf362 := hf362.stpF flat_shI64 hst514 hf361 rfl | replace hf362 := hf362.stp hst514 (by intro q hq; have hq0 := hf361.lt q hq; omega)
         first | replace hf363 := hf363.stp hst514 (by intro q hq; have hq0 := hf361.lt q hq; omega) | replace hf363 := hf363.stp hst514 (by intro q hq e; subst e; exact hf361.ne_box hf363 rfl hq)
         replace hS378 := hS378.stp hst514 (by intro q hq; have hq0 := hf361.lt q hq; omega)
         replace ho469 := ho469.stp hst514 (by intro q hq; have hq0 := hf361.lt q hq; omega)
         replace ho503 := ho503.stp hst514 (by intro q hq; have hq0 := hf361.lt q hq; omega)
         replace hN509 := hN509.stp hst514 (by intro q hq; have hq0 := hf361.lt q hq; omega)
         have hsp518 : ∀ q, Value.ownBlock v511 = some q → Value.ownBlock v501 ≠ some q := by intro q hq hb; have hq0 := ho503.lt q hb; rcases hob515 with h | h; (rw [h] at hq; first | (have hq1 := hf361.lt q hq; omega)); (rw [h] at hq; cases hq; omega)
         have hN519 : Nst shI64 2 (fun x : List Int => x) w10.heap.size w512.heap.size w512 ((zs ++ [(((List.replicate ((((q20).1)).length) (0 : Int)) : List Int), (v467 : Value))])) := (hf362.app hN509 (by omega) (by omega) (by omega)).fin (by omega) (by omega)
         have hs520 := (StpL.of_ext (B := fun i => Value.ownBlock v1 = some i ∨ i = w17.heap.size) hs507).trans' (Stp.toL hst514 (by intro q hq; exact Or.inl hq))
         refine ⟨hs520, ?_⟩
         refine dr_val (i := 8) ha516 rfl (by kernel_rfl) (by kernel_rfl) (by kernel_rfl) rfl rfl rfl hs520 (fun w' hw' => op_fieldAddr (sz := 0) ha516 rfl Try.underlying28 rfl rfl ti23 rfl) ?_
         intro a521 ha521; clear ha516 a516
         refine dr_one (i := 9) (by kernel_rfl) ?_
         refine po_effS ha521 rfl rfl rfl (op_store' (off := 1) ha521 rfl ti23 rfl rfl hf363 ho513.cells1 rfl (by intro u hu; have hu : u ∈ ([v511] : List Value) := hu; simp only [List.mem_cons, List.mem_nil_iff, or_false] at hu; rcases hu with rfl <;> first | rfl | exact ho513.one) (Nat.le_of_ble_eq_true rfl)) ?_
         rintro w522 ⟨hb524, hst523, hz525⟩
         have hx526 := hx517.fresh hst523 (by intro q hq; cases hq; exact (by omega))
         have hzhx526 := hst523.size
         replace hf359 := hf359.stp hst523 (by intro q hq; cases hq; omega)
         replace hf360 := hf360.stp hst523 (by intro q hq; cases hq; omega)
         replace hS378 := hS378.stp hst523 (by intro q hq; cases hq; omega)
         replace ho469 := ho469.stp hst523 (by intro q hq; cases hq; omega)
         replace ho503 := ho503.stp hst523 (by intro q hq; cases hq; omega)
         first | replace ho513 := ho513.stp hst523 (by intro q hq; cases hq; omega) | replace ho513 := ho513.stpF flat_shRowN hst523 (by intro q hq; cases hq; exact ho513.ne_box (by assumption) rfl)
         first | replace hN519 := hN519.stp hst523 (by intro q hq; cases hq; omega) | replace hN519 := hN519.stpB flat_shI64 hst523 (by assumption) rfl
         clear hf363
         have hs527 := hs520.trans' (Stp.toL hst523 (by intro q hq; cases hq; exact Or.inr (rfl)))
         refine ⟨hs527, ?_⟩
         refine dr_end (by kernel_rfl) ?_
         refine block_n ?_
         refine round_end (x := (v1, zs)) (v511, (zs ++ [(((List.replicate ((((q20).1)).length) (0 : Int)) : List Int), (v467 : Value))])) ?_ ?_
         ·
          refine ⟨(Sl.cons_ ha521 rfl rfl (Sl.cons_ ha521 rfl rfl (Sl.cons_ ha521 rfl rfl (Sl.nil_ ha521)))), hx526, hS378, hf359, hf360, (ho513.fin (by omega) (by omega) (by omega)), (hN519.fin (by omega) (by omega)), hb524, (by omega), (by first | omega | (simp; omega)), (by intro z hz; rcases List.mem_append.1 hz with hz | hz; (exact hZ z hz); (obtain rfl := List.mem_singleton.1 hz; show 1 ≤ (List.replicate _ _).length ∧ (List.replicate _ _).length ≤ 6; rw [List.length_replicate]; omega))⟩
         ·show (30 - ((zs ++ [(((List.replicate ((((q20).1)).length) (0 : Int)) : List Int), (v467 : Value))])).length : Nat) < 30 - zs.length; first | omega | (simp; omega)
     ·
      rw [decide_eq_false c388] at ha387
      refine cond_f ha387 rfl ?_
      refine wp_exit ?_
      refine then_e ?_
      refine then_e ?_
      refine block_hit ?_
      refine block_n ?_
      refine then_n ?_
      refine wp_seq ?_
      refine wp_region_lit ?_
      refine wl_val ha387 rfl rfl rfl (op_loadS ha387 rfl Try.underlying28 ti28 rfl rfl hf363.cells) ?_
      intro a528 ha528; clear ha387 a387
      refine wl_effS ha528 rfl rfl (op_storeAll' ha528 rfl ti28 rfl rfl hf359 rfl rfl (by intro u hu; have hu : u ∈ ([u26, v1] : List Value) := hu; simp only [List.mem_cons, List.mem_nil_iff, or_false] at hu; rcases hu with rfl | rfl <;> first | rfl | exact hf360.one | exact hf361.one) rfl) ?_
      rintro w529 ⟨hb531, hst530, hz532⟩
      have hx533 := hx384.fresh hst530 (by intro q hq; cases hq; exact (by omega))
      have hzhx533 := hst530.size
      replace hf360 := hf360.stp hst530 (by intro q hq; cases hq; omega)
      replace hf361 := hf361.stp hst530 (by intro q hq; cases hq; omega)
      replace hf362 := hf362.stp hst530 (by intro q hq; cases hq; omega)
      replace hf363 := hf363.stp hst530 (by intro q hq; cases hq; omega)
      replace hS378 := hS378.stp hst530 (by intro q hq; cases hq; omega)
      clear hf359
      refine wpList_nil ?_
      refine then_n ?_
      refine wp_ret ?_
      refine retc ha528 rfl rfl Try.underlying28 ti28 rfl hb531.cells ?_
      clear ha528 a528
      refine ret_mkS hx533 ⟨hS378, ?_⟩
      refine ⟨((((q20).1), (zs.map (·.1))) : Tab), (by first | omega | (show _ ≤ (List.set _ _ _).length; rw [List.length_set]; omega) | (show (List.set _ _ _).length ≤ _; rw [List.length_set]; omega) | (simp; omega)), (by first | omega | (show _ ≤ (List.set _ _ _).length; rw [List.length_set]; omega) | (show (List.set _ _ _).length ≤ _; rw [List.length_set]; omega) | (simp; omega)), (by first | omega | (simp; omega) | (show (List.map _ _).length ≤ _; rw [List.length_map]; first | omega | (rw [List.length_append]; simp; omega))), (by intro r hr; obtain ⟨z, hz, rfl⟩ := List.mem_map.1 hr; exact hZ z hz), ?_⟩
      refine ⟨u26, v1, zs, (by rfl), ?_, hf361.fin (by omega) (by omega) (by omega), hf362.fin (by omega) (by omega), ?_⟩
      ·
       refine (hf360.fin (by omega) (by omega) (by omega)).cast ?_
       rfl
      ·
       rfl
   ·
    rw [decide_eq_false c355] at ha354
    refine cond_f ha354 rfl ?_
    refine wp_skip ?_
    refine block_n ?_
    refine then_n ?_
    refine wp_seq ?_
    refine wp_region_lit ?_
    refine wl_val ha354 rfl rfl rfl (op_loadS ha354 rfl Try.underlying28 ti28 rfl rfl hb44.cells) ?_
    intro a534 ha534; clear ha354 a354
    refine wl_effS ha534 rfl rfl (op_storeAll' ha534 rfl ti28 rfl rfl hb4 rfl rfl (by intro u hu; have hu : u ∈ ([u26, u28] : List Value) := hu; simp only [List.mem_cons, List.mem_nil_iff, or_false] at hu; rcases hu with rfl | rfl <;> first | rfl | exact ho27.one | exact ho29.one) rfl) ?_
    rintro w535 ⟨hb537, hst536, hz538⟩
    have hx539 := hx57.fresh hst536 (by intro q hq; cases hq; exact (by omega))
    have hzhx539 := hst536.size
    replace ho11 := ho11.stp hst536 (by intro q hq; cases hq; omega)
    replace ho27 := ho27.stp hst536 (by intro q hq; cases hq; omega)
    replace ho29 := ho29.stp hst536 (by intro q hq; cases hq; omega)
    replace hN31 := hN31.stp hst536 (by intro q hq; cases hq; omega)
    replace hb44 := hb44.stp hst536 (by intro q hq; cases hq; omega)
    replace hS51 := hS51.stp hst536 (by intro q hq; cases hq; omega)
    clear hb4
    refine wpList_nil ?_
    refine then_n ?_
    refine wp_ret ?_
    refine retc ha534 rfl rfl Try.underlying28 ti28 rfl hb537.cells ?_
    clear ha534 a534
    refine ret_mkS hx539 ⟨hS51, ?_⟩
    refine ⟨((((q20).1), ((q20).2)) : Tab), (by first | omega | (show _ ≤ (List.set _ _ _).length; rw [List.length_set]; omega) | (show (List.set _ _ _).length ≤ _; rw [List.length_set]; omega) | (simp; omega)), (by first | omega | (show _ ≤ (List.set _ _ _).length; rw [List.length_set]; omega) | (show (List.set _ _ _).length ≤ _; rw [List.length_set]; omega) | (simp; omega)), (by first | omega | (simp; omega) | (show (List.map _ _).length ≤ _; rw [List.length_map]; first | omega | (rw [List.length_append]; simp; omega))), (by intro r hr; have h9 := hq24 r hr; omega), ?_⟩
    refine ⟨u26, u28, z30, (by rfl), ?_, ho29.fin (by omega) (by omega) (by omega), hN31.fin (by omega) (by omega), ?_⟩
    ·
     refine (ho27.fin (by omega) (by omega) (by omega)).cast ?_
     rfl
    ·
     exact hE32

set_option maxHeartbeats 4000000 in
theorem c_spec_l31Some (w0 : World) (g_s b_s : Nat) (h_s : Src w0 g_s b_s 102) :
  Calls Try.prog 80 #[.pointer (some (⟨g_s, 0, none⟩ : Addr))] w0 (RetS w0 (some g_s) (fun v w1 => Src w1 g_s b_s 102 ∧ (fun v w1 => ∃ (t : Tab) (c : Int), (1 ≤ t.1.length) ∧ (t.1.length ≤ 6) ∧ (t.2.length ≤ 30) ∧ (∀ r ∈ t.2, 1 ≤ r.length ∧ r.length ≤ 6) ∧ (0 ≤ c) ∧ (c ≤ 100) ∧ (fun v w1 => ∃ r0_0 r0_1 z0_1, v = .tuple #[.agg #[r0_0, r0_1], .int .i64 (c)] ∧ Own shStr 9 w0.heap.size w0.heap.size w1.heap.size w1 r0_0 ((t).1) ∧ Own shRowN 41 w0.heap.size w0.heap.size w1.heap.size w1 r0_1 z0_1 ∧ Nst shI64 2 (fun x : List Int => x) w0.heap.size w1.heap.size w1 z0_1 ∧ z0_1.map (·.1) = ((t).2)) v w1) v w1)) := by
 refine enter (N := 17) Try.func80 rfl rfl rfl ?_
 intro a0 ha0
 have hx0 := Stp.rfl' w0 (some g_s)
 have hgl_s := h_s.lt
 refine wp_seq ?_
 refine wp_region_lit ?_
 refine wl_eff ha0 rfl rfl rfl (op_alloc' rfl ti28 rfl) ?_
 rintro _ w2 ⟨rfl, he3, hb4, hz5⟩ a6 ha6; clear ha0 a0
 have hx7 := hx0.trans' (Stp.of_ext he3 _)
 have hzhx7 := he3.size
 replace h_s := h_s.ext he3
 refine wl_val ha6 rfl rfl rfl (op_assign ha6 rfl rfl) ?_
 intro a8 ha8; clear ha6 a6
 refine wpList_nil ?_
 refine then_n ?_
 refine wp_seq ?_
 refine wp_region_lit ?_
 refine wl_val ha8 rfl rfl rfl (op_move ha8 rfl rfl) ?_
 intro a9 ha9; clear ha8 a8
 refine wl_callS ha9 rfl rfl rfl (op_call ha9 rfl cb82 rfl) (c_spec_l31Draw _ g_s b_s h_s) ?_
 rintro v10 w11 he12 ⟨hS13, ⟨q14, hq15, hq16, hq17, hq18, ⟨u19, u21, z23, rfl, ho20, ho22, hN24, hE25⟩⟩⟩ a26 ha26; clear ha9 a9
 have hx27 := hx7.trans' he12
 have hzhx27 := he12.size
 replace hb4 := hb4.stp he12 (by intro q hq; cases hq; omega)
 have hSlhS13 := hS13.lt
 have hlhE25 := absLen hE25
 refine wl_eff ha26 rfl rfl rfl (op_alloc' rfl ti28 rfl) ?_
 rintro _ w29 ⟨rfl, he30, hb31, hz32⟩ a33 ha33; clear ha26 a26
 have hx34 := hx27.trans' (Stp.of_ext he30 _)
 have hzhx34 := he30.size
 replace hb4 := hb4.ext he30
 replace hS13 := hS13.ext he30
 replace ho20 := ho20.ext he30
 replace ho22 := ho22.ext he30
 replace hN24 := hN24.ext he30
 refine wl_effS ha33 rfl rfl (op_storeAll' ha33 rfl ti28 rfl rfl hb31 rfl rfl (by intro u hu; have hu : u ∈ ([u19, u21] : List Value) := hu; simp only [List.mem_cons, List.mem_nil_iff, or_false] at hu; rcases hu with rfl | rfl <;> first | rfl | exact ho20.one | exact ho22.one) rfl) ?_
 rintro w35 ⟨hb37, hst36, hz38⟩
 have hx39 := hx34.fresh hst36 (by intro q hq; cases hq; exact (by omega))
 have hzhx39 := hst36.size
 replace hb4 := hb4.stp hst36 (by intro q hq; cases hq; omega)
 replace hS13 := hS13.stp hst36 (by intro q hq; cases hq; omega)
 replace ho20 := ho20.stp hst36 (by intro q hq; cases hq; omega)
 replace ho22 := ho22.stp hst36 (by intro q hq; cases hq; omega)
 replace hN24 := hN24.stp hst36 (by intro q hq; cases hq; omega)
 clear hb31
 refine wpList_nil ?_
 refine then_n ?_
 refine wp_seq ?_
 refine dr_enter (fun wa_ wb_ => StpL wa_ wb_ (fun i => i = w0.heap.size ∨ i = g_s)) follows_mixed ?_
 intro w40 he41
 have hx42 := hx39.trans' (Stp.of_ext he41 _)
 have hzhx42 := he41.size
 replace hb4 := hb4.ext he41
 replace hS13 := hS13.ext he41
 replace ho20 := ho20.ext he41
 replace ho22 := ho22.ext he41
 replace hN24 := hN24.ext he41
 replace hb37 := hb37.ext he41
 have hs43 : Ext w40 w40 := Ext.rfl' _
 refine dr_val (i := 0) ha33 rfl (by kernel_rfl) (by kernel_rfl) (by kernel_rfl) rfl rfl rfl (StpL.of_ext hs43) (fun w' hw' => op_loadS ha33 rfl Try.underlying28 ti28 rfl rfl (hb37.stpL hw' (by rintro (q | q) <;> first | omega)).cells) ?_
 intro a44 ha44; clear ha33 a33
 refine dr_val (i := 1) ha44 rfl (by kernel_rfl) (by kernel_rfl) (by kernel_rfl) rfl rfl rfl (StpL.of_ext hs43) (fun w' hw' => op_move ha44 rfl rfl) ?_
 intro a45 ha45; clear ha44 a44
 refine dr_val (i := 2) ha45 rfl (by kernel_rfl) (by kernel_rfl) (by kernel_rfl) rfl rfl rfl (StpL.of_ext hs43) (fun w' hw' => op_fieldAddr (sz := 0) ha45 rfl Try.underlying28 rfl rfl ti22 rfl) ?_
 intro a46 ha46; clear ha45 a45
 refine dr_val (i := 3) ha46 rfl (by kernel_rfl) (by kernel_rfl) (by kernel_rfl) rfl rfl rfl (StpL.of_ext hs43) (fun w' hw' => op_loadF (off := 0) ha46 rfl Try.underlying22 rfl rfl (hb37.stpL hw' (by rintro (q | q) <;> first | omega)).cells rfl) ?_
 intro a47 ha47; clear ha46 a46
 refine dr_val (i := 4) ha47 rfl (by kernel_rfl) (by kernel_rfl) (by kernel_rfl) rfl rfl rfl (StpL.of_ext hs43) (fun w' hw' => op_len_sl ha47 rfl Try.underlying22 rfl (ho20.rds pos_shStr)) ?_
 intro a48 ha48; clear ha47 a47
 refine dr_val (i := 5) ha48 rfl (by kernel_rfl) (by kernel_rfl) (by kernel_rfl) rfl rfl rfl (StpL.of_ext hs43) (fun w' hw' => op_move ha48 rfl rfl) ?_
 intro a49 ha49; clear ha48 a48
 refine dr_one (i := 6) (by kernel_rfl) ?_
 replace hb4 := hb4.ext hs43
 replace hS13 := hS13.ext hs43
 replace ho20 := ho20.ext hs43
 replace ho22 := ho22.ext hs43
 replace hN24 := hN24.ext hs43
 replace hb37 := hb37.ext hs43
 refine po_callS ha49 rfl rfl rfl rfl (op_call ha49 rfl cb81 rfl) (c_spec_l01Next _ g_s b_s (12 : Int) hS13) ?_
 rintro v50 w51 he52 ⟨hS53, ⟨q54, hq55, hq56, hq57, rfl⟩⟩ a58 ha58; clear ha49 a49
 have hx59 := hx42.trans' he52
 have hzhx59 := he52.size
 replace hb4 := hb4.stp he52 (by intro q hq; cases hq; omega)
 first | replace ho20 := ho20.stp he52 (by intro q hq; cases hq; omega) | replace ho20 := ho20.stpF flat_shStr he52 (by intro q hq; cases hq; exact ho20.ne_box (by assumption) rfl)
 first | replace ho22 := ho22.stp he52 (by intro q hq; cases hq; omega) | replace ho22 := ho22.stpF flat_shRowN he52 (by intro q hq; cases hq; exact ho22.ne_box (by assumption) rfl)
 first | replace hN24 := hN24.stp he52 (by intro q hq; cases hq; omega) | replace hN24 := hN24.stpB flat_shI64 he52 (by assumption) rfl
 replace hb37 := hb37.stp he52 (by intro q hq; cases hq; omega)
 clear hS13
 have hSlhS53 := hS53.lt
 have hs60 := (StpL.of_ext (B := fun i => i = w0.heap.size ∨ i = g_s) hs43).trans' (Stp.toL he52 (by intro q hq; cases hq; exact Or.inr (rfl)))
 refine ⟨hs60, ?_⟩
 refine dr_val (i := 7) ha58 rfl (by kernel_rfl) (by kernel_rfl) (by kernel_rfl) rfl rfl rfl hs60 (fun w' hw' => (op_quo ha58 rfl rfl rfl (by omega)).int (IntWalk.i64_quo _ _ (by omega))) ?_
 intro a61 ha61; clear ha58 a58
 refine dr_val (i := 8) ha61 rfl (by kernel_rfl) (by kernel_rfl) (by kernel_rfl) rfl rfl rfl hs60 (fun w' hw' => (op_add ha61 rfl rfl rfl).int (IntWalk.i64_in _ (by omega))) ?_
 intro a62 ha62; clear ha61 a61
 refine dr_one (i := 9) (by kernel_rfl) ?_
 refine po_callS ha62 rfl rfl rfl rfl (op_call ha62 rfl cb81 rfl) (c_spec_l01Next _ g_s b_s ((((((q14).1)).length : Nat) : Int) + ((q54 : Int) / (11 : Int))) hS53) ?_
 rintro v63 w64 he65 ⟨hS66, ⟨q67, hq68, hq69, hq70, rfl⟩⟩ a71 ha71; clear ha62 a62
 have hx72 := hx59.trans' he65
 have hzhx72 := he65.size
 replace hb4 := hb4.stp he65 (by intro q hq; cases hq; omega)
 first | replace ho20 := ho20.stp he65 (by intro q hq; cases hq; omega) | replace ho20 := ho20.stpF flat_shStr he65 (by intro q hq; cases hq; exact ho20.ne_box (by assumption) rfl)
 first | replace ho22 := ho22.stp he65 (by intro q hq; cases hq; omega) | replace ho22 := ho22.stpF flat_shRowN he65 (by intro q hq; cases hq; exact ho22.ne_box (by assumption) rfl)
 first | replace hN24 := hN24.stp he65 (by intro q hq; cases hq; omega) | replace hN24 := hN24.stpB flat_shI64 he65 (by assumption) rfl
 replace hb37 := hb37.stp he65 (by intro q hq; cases hq; omega)
 clear hS53
 have hSlhS66 := hS66.lt
 have hs73 := hs60.trans' (Stp.toL he65 (by intro q hq; cases hq; exact Or.inr (rfl)))
 refine ⟨hs73, ?_⟩
 refine dr_one (i := 10) (by kernel_rfl) ?_
 refine po_effS ha71 rfl rfl rfl (op_storeAll' ha71 rfl ti28 rfl rfl hb4 rfl rfl (by intro u hu; have hu : u ∈ ([u19, u21] : List Value) := hu; simp only [List.mem_cons, List.mem_nil_iff, or_false] at hu; rcases hu with rfl | rfl <;> first | rfl | exact ho20.one | exact ho22.one) rfl) ?_
 rintro w74 ⟨hb76, hst75, hz77⟩
 have hx78 := hx72.fresh hst75 (by intro q hq; cases hq; exact (by omega))
 have hzhx78 := hst75.size
 replace ho20 := ho20.stp hst75 (by intro q hq; cases hq; omega)
 replace ho22 := ho22.stp hst75 (by intro q hq; cases hq; omega)
 replace hN24 := hN24.stp hst75 (by intro q hq; cases hq; omega)
 replace hb37 := hb37.stp hst75 (by intro q hq; cases hq; omega)
 replace hS66 := hS66.stp hst75 (by intro q hq; cases hq; omega)
 clear hb4
 have hs79 := hs73.trans' (Stp.toL hst75 (by intro q hq; cases hq; exact Or.inl rfl))
 refine ⟨hs79, ?_⟩
 refine dr_val (i := 11) ha71 rfl (by kernel_rfl) (by kernel_rfl) (by kernel_rfl) rfl rfl rfl hs79 (fun w' hw' => op_assign ha71 rfl rfl) ?_
 intro a80 ha80; clear ha71 a71
 refine dr_end (by kernel_rfl) ?_
 refine then_n ?_
 refine wp_ret ?_
 refine retct ha80 rfl rfl rfl Try.underlying28 ti28 rfl hb76.cells ?_
 clear ha80 a80
 refine ret_mkS hx78 ⟨hS66, ?_⟩
 refine ⟨((((q14).1), ((q14).2)) : Tab), (q67 : Int), (by exact hq15), (by exact hq16), (by exact hq17), (by exact hq18), (by omega), (by omega), ?_⟩
 refine ⟨u19, u21, z23, (tup2_eq (by rfl) (int_eq (by rfl))), ?_, ho22.fin (by omega) (by omega) (by omega), hN24.fin (by omega) (by omega), ?_⟩
 ·
  refine (ho20.fin (by omega) (by omega) (by omega)).cast ?_
  rfl
 ·
  exact hE25


end Go.Proofs.Ytjpldgicibnkcaa
