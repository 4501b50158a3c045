/- Values to be set, versions to be added drawn. -/
import Derived.Test.YtllpdkidaldkiaaR5
import Derived.Test.YtllpdkidaldkiaaW7
namespace Go.Proofs.Ytllpdkidaldkiaa
open Go Go.RowKit

theorem ret4 {P : Program} {fn : Func} {R : Ending → World → Prop} {a : Act} {w : World} {N : Nat} {l : List (Nat × Value)} {t0 t1 t2 t3 : Tmp} {v0 v1 v2 v3 : Value}
    (ha : Sl N a l) (hr : fn.results = #[.tmp t0, .tmp t1, .tmp t2, .tmp t3]) (x0 : lk l t0 = some v0) (x1 : lk l t1 = some v1) (x2 : lk l t2 = some v2) (x3 : lk l t3 = some v3) (h : R (.returned (.tuple #[v0, v1, v2, v3])) w) : bodyPost P fn R .ret a w := by
  have e0' := ha.get t0 _ x0
  have e1' := ha.get t1 _ x1
  have e2' := ha.get t2 _ x2
  have e3' := ha.get t3 _ x3
  rw [Array.getD_eq_getD_getElem?] at e0' e1' e2' e3'
  refine ⟨ha.defers, _, ?_, h⟩
  simp [results, hr, e0', e1', e2', e3']

set_option maxHeartbeats 4000000 in
theorem c_spec_DrawSetValue (w0 : World) (v_code : Value) (code : List UInt8) {S_code : Nat → Prop} (h_code : Rds shU8 S_code w0 v_code code) :
  Calls Try.prog 25 #[v_code] w0 (Ret w0 (fun v w1 => ∃ (l : List Ver) (a : Int) (k : Str) (n : Int), (l.length ≤ 22) ∧ (∀ c ∈ l, c.2.length ≤ 9) ∧ (I64 a) ∧ (k.length ≤ 17) ∧ (I64 n) ∧ (fun v w1 => ∃ r0 z0, v = .tuple #[r0, .int .i64 (a), St (k), .int .i64 (n)] ∧ Own shVerN 56 w0.heap.size w0.heap.size w1.heap.size w1 r0 z0 ∧ Nst shLine 83 (fun x : Int × List (Str × Int) => x.2) w0.heap.size w1.heap.size w1 z0 ∧ z0.map (·.1) = (l)) v w1)) := by
 refine enter (N := 53) Try.func25 rfl rfl rfl ?_
 intro a0 ha0
 have hx0 := Ext.rfl' w0
 have hl_code := h_code.length_le
 refine wp_seq ?_
 refine wp_region_lit ?_
 refine wl_val ha0 rfl rfl rfl (op_assign ha0 rfl rfl) ?_
 intro a1 ha1; clear ha0 a0
 refine wl_val ha1 rfl rfl rfl (op_assign ha1 rfl rfl) ?_
 intro a2 ha2; clear ha1 a1
 refine wl_val ha2 rfl rfl rfl (op_assign ha2 rfl rfl) ?_
 intro a3 ha3; clear ha2 a2
 refine wl_val ha3 rfl rfl rfl (op_assign ha3 rfl rfl) ?_
 intro a4 ha4; clear ha3 a3
 refine wpList_nil ?_
 refine then_n ?_
 refine wp_seq ?_
 refine wp_region_lit ?_
 refine wl_val ha4 rfl rfl rfl (op_move ha4 rfl rfl) ?_
 intro a5 ha5; clear ha4 a4
 refine wl_callR ha5 rfl rfl rfl (op_call ha5 rfl cb63 rfl) (c_spec_l01From _ v_code code (h_code.low pos_shU8 hx0 (Nat.le_refl _)) (by omega)) ?_
 rintro v6 w7 he8 ⟨g9, rfl, hg10, hS11⟩ a12 ha12; clear ha5 a5
 have hx13 := hx0.trans' he8
 have hzhx13 := he8.size
 have hSlhS11 := hS11.lt
 refine wl_val ha12 rfl rfl rfl (op_assign ha12 rfl rfl) ?_
 intro a14 ha14; clear ha12 a12
 refine wpList_nil ?_
 refine then_n ?_
 refine wp_seq ?_
 refine wp_region_lit ?_
 refine wl_val ha14 rfl rfl rfl (op_move ha14 rfl rfl) ?_
 intro a15 ha15; clear ha14 a14
 refine wl_callR ha15 rfl rfl rfl (op_call ha15 rfl cb45 rfl) (c_spec_DrawValueOf _ v_code code (h_code.ext pos_shU8 hx13)) ?_
 rintro v16 w17 he18 ⟨q19, q20, q21, hq22, hq23, hq24, hq25, ⟨u26, z28, rfl, ho27, hN29, hE30⟩⟩ a31 ha31; clear ha15 a15
 have hx32 := hx13.trans' he18
 have hzhx32 := he18.size
 replace hS11 := hS11.ext he18
 have hlhE30 := absLen hE30
 refine wl_val ha31 rfl rfl rfl (op_move ha31 rfl rfl) ?_
 intro a33 ha33; clear ha31 a31
 refine wl_val ha33 rfl rfl rfl (op_extract ha33 rfl rfl rfl) ?_
 intro a34 ha34; clear ha33 a33
 refine wl_val ha34 rfl rfl rfl (op_extract ha34 rfl rfl rfl) ?_
 intro a35 ha35; clear ha34 a34
 refine wl_val ha35 rfl rfl rfl (op_extract ha35 rfl rfl rfl) ?_
 intro a36 ha36; clear ha35 a35
 refine wl_val ha36 rfl rfl rfl (op_assign ha36 rfl rfl) ?_
 intro a37 ha37; clear ha36 a36
 refine wl_val ha37 rfl rfl rfl (op_assign ha37 rfl rfl) ?_
 intro a38 ha38; clear ha37 a37
 refine wl_val ha38 rfl rfl rfl (op_assign ha38 rfl rfl) ?_
 intro a39 ha39; clear ha38 a38
 refine wpList_nil ?_
 refine then_n ?_
 refine wp_seq ?_
 refine wp_seq ?_
 refine wp_region_lit ?_
 refine wl_val ha39 rfl rfl rfl (op_move ha39 rfl rfl) ?_
 intro a40 ha40; clear ha39 a39
 refine wl_callS ha40 rfl rfl rfl (op_call ha40 rfl cb64 rfl) (c_spec_l01Next _ g9 w0.heap.size (24 : Int) hS11) ?_
 rintro v41 w42 he43 ⟨hS44, ⟨q45, hq46, hq47, hq48, rfl⟩⟩ a49 ha49; clear ha40 a40
 have hx50 := hx32.stp he43 (by intro q hq; cases hq; exact (by omega))
 have hzhx50 := he43.size
 first | replace ho27 := ho27.stp he43 (by intro q hq; cases hq; omega) | replace ho27 := ho27.stpF flat_shVerN he43 (by intro q hq; cases hq; exact ho27.ne_box (by assumption) rfl)
 first | replace hN29 := hN29.stp he43 (by intro q hq; cases hq; omega) | replace hN29 := hN29.stpB flat_shLine he43 (by assumption) rfl
 clear hS11
 have hSlhS44 := hS44.lt
 refine wl_val ha49 rfl rfl rfl (op_eql ha49 rfl rfl rfl) ?_
 intro a51 ha51; clear ha49 a49
 refine wl_val ha51 rfl rfl rfl (op_move ha51 rfl rfl) ?_
 intro a52 ha52; clear ha51 a51
 by_cases c53 : (q45 : Int) = (0 : Int)
 ·
  rw [decide_eq_true c53] at ha52
  refine wl_val ha52 rfl rfl rfl (op_move ha52 rfl rfl) ?_
  intro a54 ha54; clear ha52 a52
  refine wl_val ha54 rfl rfl rfl (op_len_sl ha54 rfl Try.underlying27 rfl (ho27.rds pos_shVerN)) ?_
  intro a55 ha55; clear ha54 a54
  refine wl_val ha55 rfl rfl rfl (op_gtr ha55 rfl rfl rfl) ?_
  intro a56 ha56; clear ha55 a55
  refine wl_val ha56 rfl rfl rfl (op_pick_t ha56 rfl rfl rfl) ?_
  intro a57 ha57; clear ha56 a56
  refine wpList_nil ?_
  refine then_n ?_
  by_cases c58 : (0 : Int) < ((z28.length : Nat) : Int)
  ·
   rw [decide_eq_true c58] at ha57
   refine cond_t ha57 rfl ?_
   refine wp_seq ?_
   clear ho27 hN29 hS44
   refine wp_region_lit ?_
   refine wl_eff ha57 rfl rfl rfl (op_buildSlice (s := shLine) (xs := ([] : List (Str × Int))) (cs := []) (vs := []) (S := fun _ => False) (le := w42.heap.size) ha57 rfl pos_shLine Try.underlying34 ti83 rfl rfl (by decide) (by kernel_rfl) rfl (fun _ h => h.elim)) ?_
   rintro v59 w60 ⟨ho61, he62, hob63⟩ a64 ha64; clear ha57 a57
   have hx65 := hx50.trans' he62
   have hzhx65 := he62.size
   refine wl_val ha64 rfl rfl rfl (op_assign ha64 rfl rfl) ?_
   intro a66 ha66; clear ha64 a64
   refine wpList_nil ?_
   refine then_n ?_
   refine wp_seq ?_
   refine wp_seq ?_
   refine wp_region_lit ?_
   refine wl_val ha66 rfl rfl rfl (op_assign ha66 rfl rfl) ?_
   intro a67 ha67; clear ha66 a66
   refine wpList_nil ?_
   refine then_n ?_
   refine wp_block ?_
   refine loop_inv (X := Nat × Value × (List (Str × Int))) (fun (⟨k, va, la⟩ : Nat × Value × (List (Str × Int))) fr wl => Sl 53 fr [(9, St ((q21))), (10, va), (11, .int .i64 ((k : Nat) : Int))] ∧ Ext w0 wl ∧ Own shLine 83 w42.heap.size w42.heap.size wl.heap.size wl va la ∧ w60.heap.size ≤ wl.heap.size ∧ (k ≤ 8) ∧ (la.length ≤ k)) (fun (⟨k, va, la⟩ : Nat × Value × (List (Str × Int))) => 8 - k) (0, v59, ([] : List (Str × Int))) ?_ ?_
   ·
    exact ⟨(Sl.cons_ ha67 rfl rfl (Sl.cons_ ha67 rfl rfl (Sl.cons_ ha67 rfl (int_eq (by omega)) (Sl.nil_ ha67)))), hx65, (ho61.fin (by omega) (by omega) (by omega)), (by omega), (by omega), (by exact Nat.le_refl _)⟩
   ·
    clear ha67 a67
    rintro ⟨k, va, la⟩ a71 w68 ⟨ha71, hx69, hf70, hzl72, hk, hl⟩
    have hzhx69 := hx69.size
    refine wp_seq ?_
    refine wp_seq ?_
    refine wp_region_lit ?_
    refine wl_val ha71 rfl rfl rfl (op_move ha71 rfl rfl) ?_
    intro a73 ha73; clear ha71 a71
    refine wl_val ha73 rfl rfl rfl (op_lss ha73 rfl rfl rfl) ?_
    intro a74 ha74; clear ha73 a73
    refine wpList_nil ?_
    refine then_n ?_
    by_cases c75 : ((k : Nat) : Int) < (8 : Int)
    ·
     rw [decide_eq_true c75] at ha74
     refine cond_t ha74 rfl ?_
     refine wp_skip ?_
     refine then_n ?_
     refine wp_seq ?_
     refine wp_block ?_
     refine wp_region_lit ?_
     refine wl_val ha74 rfl rfl rfl (op_move ha74 rfl rfl) ?_
     intro a76 ha76; clear ha74 a74
     refine wl_val ha76 rfl rfl rfl (op_move ha76 rfl rfl) ?_
     intro a77 ha77; clear ha76 a76
     refine wl_val ha77 rfl rfl rfl (op_move ha77 rfl rfl) ?_
     intro a78 ha78; clear ha77 a77
     refine wl_val ha78 rfl rfl rfl ((op_add ha78 rfl rfl rfl).int (IntWalk.i64_in _ (by omega))) ?_
     intro a79 ha79; clear ha78 a78
     refine wl_val ha79 rfl rfl rfl (op_slice_str_b (i := k) (j := (k + 1)) (by omega) (by omega) ha79 rfl Try.underlying9 rfl rfl rfl (by first | omega | (simp; omega)) (by first | omega | (simp; omega))) ?_
     intro a80 ha80; clear ha79 a79
     refine wl_val ha80 rfl rfl rfl (op_build (vs := [(0, St (((([97, 98, 99, 100, 101, 102, 103, 104, 105] : Str)).take ((k + 1))).drop k))]) (cs := #[St (((([97, 98, 99, 100, 101, 102, 103, 104, 105] : Str)).take ((k + 1))).drop k), .int .i64 (0 : Int)]) ha80 rfl Try.underlying83 ti83 bp83 rfl rfl) ?_
     intro a81 ha81; clear ha80 a80
     refine wl_eff ha81 rfl rfl rfl (op_buildSlice (s := shLine) (xs := [(((([97, 98, 99, 100, 101, 102, 103, 104, 105] : Str)).take ((k + 1))).drop k, (0 : Int))]) (cs := [St (((([97, 98, 99, 100, 101, 102, 103, 104, 105] : Str)).take ((k + 1))).drop k), .int .i64 (0 : Int)]) (vs := [(0, .agg #[St (((([97, 98, 99, 100, 101, 102, 103, 104, 105] : Str)).take ((k + 1))).drop k), .int .i64 (0 : Int)])]) (S := fun _ => False) (le := w68.heap.size) ha81 rfl pos_shLine Try.underlying34 ti83 rfl rfl (by decide) (by kernel_rfl) (Els.single (mk_shLine ((((([97, 98, 99, 100, 101, 102, 103, 104, 105] : Str)).take ((k + 1))).drop k, (0 : Int))) (by first | omega | (simp only []; omega) | (simp; done) | (simp only [List.length_append, List.length_take, List.length_drop, List.length_cons, List.length_nil]; omega)) (by first | omega | (simp only []; omega) | (simp; done) | (simp only [List.length_append, List.length_take, List.length_drop, List.length_cons, List.length_nil]; omega)))) (fun _ h => h.elim)) ?_
     rintro v82 w83 ⟨ho84, he85, hob86⟩ a87 ha87; clear ha81 a81
     have hx88 := hx69.trans' he85
     have hzhx88 := he85.size
     replace hf70 := hf70.ext he85
     refine wl_eff ha87 rfl rfl rfl (op_append (ts := #[]) (s := shLine) ha87 rfl Try.underlying34 ti83 rfl pos_shLine rfl rfl hf70 (ho84.rds pos_shLine) (by omega) (by omega) (by first | omega | (simp; omega)) (by first | omega | (simp; omega)) (.inl flat_shLine)) ?_
     rintro v89 w90 ⟨ho91, hst92, hob93⟩ a94 ha94; clear ha87 a87
     have hx95 := hx88.stp hst92 (by intro q hq; have hq0 := hf70.lt q hq; omega)
     have hzhx95 := hst92.size
     replace ho84 := ho84.stp hst92 (by intro q hq; have hq0 := hf70.lt q hq; omega)
     have hsp96 : ∀ q, Value.ownBlock v89 = some q → Value.ownBlock v82 ≠ some q := by intro q hq hb; have hq0 := ho84.lt q hb; rcases hob93 with h | h; (rw [h] at hq; first | (have hq1 := hf70.lt q hq; omega)); (rw [h] at hq; cases hq; omega)
     refine wl_val ha94 rfl rfl rfl (op_assign ha94 rfl rfl) ?_
     intro a97 ha97; clear ha94 a94
     refine wpList_nil ?_
     refine block_n ?_
     refine then_n ?_
     clear ho84
     refine wp_region_lit ?_
     refine wl_val ha97 rfl rfl rfl (op_move ha97 rfl rfl) ?_
     intro a98 ha98; clear ha97 a97
     refine wl_val ha98 rfl rfl rfl ((op_add ha98 rfl rfl rfl).int (IntWalk.i64_in _ (by omega))) ?_
     intro a99 ha99; clear ha98 a98
     refine wl_val ha99 rfl rfl rfl (op_assign ha99 rfl rfl) ?_
     intro a100 ha100; clear ha99 a99
     refine wpList_nil ?_
     refine round_end (x := (k, va, la)) ((k + 1), v89, (la ++ [(((([97, 98, 99, 100, 101, 102, 103, 104, 105] : Str)).take ((k + 1))).drop k, (0 : Int))])) ?_ ?_
     ·
      refine ⟨(Sl.cons_ ha100 rfl rfl (Sl.cons_ ha100 rfl rfl (Sl.cons_ ha100 rfl (int_eq (by omega)) (Sl.nil_ ha100)))), hx95, (ho91.fin (by omega) (by omega) (by omega)), (by omega), (by omega), (by first | omega | (simp; omega))⟩
     ·show (8 - ((k + 1)) : Nat) < 8 - k; omega
    ·
     rw [decide_eq_false c75] at ha74
     refine cond_f ha74 rfl ?_
     refine wp_exit ?_
     refine then_e ?_
     refine then_e ?_
     refine block_hit ?_
     refine then_n ?_
     refine wp_seq ?_
     refine wp_region_lit ?_
     refine wl_val ha74 rfl rfl rfl (op_move ha74 rfl rfl) ?_
     intro a101 ha101; clear ha74 a74
     refine wl_val ha101 rfl rfl rfl (op_build (vs := [(0, .int .i64 (-1 : Int)), (1, va)]) (cs := #[.int .i64 (-1 : Int), va]) ha101 rfl Try.underlying56 ti56 bp56 rfl ((fill_one rfl rfl rfl).trans ((fill_one hf70.cells1 rfl rfl).trans rfl))) ?_
     intro a102 ha102; clear ha101 a101
     refine wl_eff ha102 rfl rfl rfl (op_buildSlice (s := shVerN) (xs := [((((-1 : Int), la) : Int × List (Str × Int)), (va : Value))]) (cs := [.int .i64 (-1 : Int), va]) (vs := [(0, .agg #[.int .i64 (-1 : Int), va])]) (S := fun _ => False) (le := w68.heap.size) ha102 rfl pos_shVerN Try.underlying27 ti56 rfl rfl (by decide) (by kernel_rfl) (Els.single (mk_shVerN (((((-1 : Int), la) : Int × List (Str × Int)), (va : Value))) (by first | omega | (simp only []; omega) | (simp; done) | (simp only [List.length_append, List.length_take, List.length_drop, List.length_cons, List.length_nil]; omega)) hf70.one)) (fun _ h => h.elim)) ?_
     rintro v103 w104 ⟨ho105, he106, hob107⟩ a108 ha108; clear ha102 a102
     have hx109 := hx69.trans' he106
     have hzhx109 := he106.size
     replace hf70 := hf70.ext he106
     have hN110 : Nst shLine 83 (fun x : Int × List (Str × Int) => x.2) w42.heap.size w104.heap.size w104 ([((((-1 : Int), la) : Int × List (Str × Int)), (va : Value))]) := Nst.one (hf70.fin (by omega) (by omega) (by omega))
     refine wl_val ha108 rfl rfl rfl (op_move ha108 rfl rfl) ?_
     intro a111 ha111; clear ha108 a108
     refine wl_val ha111 rfl rfl rfl (op_assign ha111 rfl rfl) ?_
     intro a112 ha112; clear ha111 a111
     refine wl_val ha112 rfl rfl rfl (op_assign ha112 rfl rfl) ?_
     intro a113 ha113; clear ha112 a112
     refine wl_val ha113 rfl rfl rfl (op_assign ha113 rfl rfl) ?_
     intro a114 ha114; clear ha113 a113
     refine wl_val ha114 rfl rfl rfl (op_assign ha114 rfl rfl) ?_
     intro a115 ha115; clear ha114 a114
     refine wpList_nil ?_
     refine then_n ?_
     refine wp_ret ?_
     refine then_r ?_
     refine ret4 ha115 rfl rfl rfl rfl rfl ?_
     clear ha115 a115
     refine ret_mk hx109 ?_
     refine ⟨(([((((-1 : Int), la) : Int × List (Str × Int)), (va : Value))].map (·.1)) : List Ver), (0 : Int), ((q21) : Str), (4 : Int), (by first | assumption | omega | (simp; done)), (by first | assumption | (intro c hc; simp only [List.map_cons, List.map_nil, List.mem_cons, List.not_mem_nil, or_false] at hc; subst hc; exact Nat.le_trans hl (by omega))), (by first | assumption | omega | (constructor <;> omega) | (simp; done) | (simp; omega)), (by first | assumption | omega | (constructor <;> omega) | (simp; done) | (simp; omega)), (by first | assumption | omega | (constructor <;> omega) | (simp; done) | (simp; omega)), ?_⟩
     refine ⟨v103, [((((-1 : Int), la) : Int × List (Str × Int)), (va : Value))], (tup4_eq rfl (int_eq (by rfl)) (congrArg St (by rfl)) (int_eq (by rfl))), ho105.fin (by omega) (by omega) (by omega), hN110.fin (by omega) (by omega), ?_⟩
     ·
      rfl
  ·
   rw [decide_eq_false c58] at ha57
   refine cond_f ha57 rfl ?_
   refine wp_skip ?_
   refine then_n ?_
   refine wp_seq ?_
   refine wp_region_lit ?_
   refine wl_val ha57 rfl rfl rfl (op_move ha57 rfl rfl) ?_
   intro a116 ha116; clear ha57 a57
   refine wl_val ha116 rfl rfl rfl (op_move ha116 rfl rfl) ?_
   intro a117 ha117; clear ha116 a116
   refine wl_val ha117 rfl rfl rfl (op_move ha117 rfl rfl) ?_
   intro a118 ha118; clear ha117 a117
   refine wl_val ha118 rfl rfl rfl (op_move ha118 rfl rfl) ?_
   intro a119 ha119; clear ha118 a118
   refine wl_val ha119 rfl rfl rfl (op_move ha119 rfl rfl) ?_
   intro a120 ha120; clear ha119 a119
   refine wl_callS ha120 rfl rfl rfl (op_call ha120 rfl cb64 rfl) (c_spec_l01Next _ g9 w0.heap.size (9 : Int) hS44) ?_
   rintro v121 w122 he123 ⟨hS124, ⟨q125, hq126, hq127, hq128, rfl⟩⟩ a129 ha129; clear ha120 a120
   have hx130 := hx50.stp he123 (by intro q hq; cases hq; exact (by omega))
   have hzhx130 := he123.size
   first | replace ho27 := ho27.stp he123 (by intro q hq; cases hq; omega) | replace ho27 := ho27.stpF flat_shVerN he123 (by intro q hq; cases hq; exact ho27.ne_box (by assumption) rfl)
   first | replace hN29 := hN29.stp he123 (by intro q hq; cases hq; omega) | replace hN29 := hN29.stpB flat_shLine he123 (by assumption) rfl
   clear hS44
   have hSlhS124 := hS124.lt
   refine wl_eff ha129 rfl rfl rfl (op_buildSlice (s := shI64) (xs := [(q125 : Int), (-1 : Int), (0 : Int), (1000000 : Int), (1000001 : Int), (-2 : Int)]) (cs := [.int .i64 (q125 : Int), .int .i64 (-1 : Int), .int .i64 (0 : Int), .int .i64 (1000000 : Int), .int .i64 (1000001 : Int), .int .i64 (-2 : Int)]) (vs := [(0, .int .i64 (q125 : Int)), (1, .int .i64 (-1 : Int)), (2, .int .i64 (0 : Int)), (3, .int .i64 (1000000 : Int)), (4, .int .i64 (1000001 : Int)), (5, .int .i64 (-2 : Int))]) (S := fun _ => False) (le := w122.heap.size) ha129 rfl pos_shI64 Try.underlying46 ti2 rfl rfl (by decide) (by kernel_rfl) ⟨mk_shI64 ((q125 : Int)) (by first | omega | (simp only []; omega) | (simp; done) | (simp only [List.length_append, List.length_take, List.length_drop, List.length_cons, List.length_nil]; omega)), mk_shI64 ((-1 : Int)) (by first | omega | (simp only []; omega) | (simp; done) | (simp only [List.length_append, List.length_take, List.length_drop, List.length_cons, List.length_nil]; omega)), mk_shI64 ((0 : Int)) (by first | omega | (simp only []; omega) | (simp; done) | (simp only [List.length_append, List.length_take, List.length_drop, List.length_cons, List.length_nil]; omega)), mk_shI64 ((1000000 : Int)) (by first | omega | (simp only []; omega) | (simp; done) | (simp only [List.length_append, List.length_take, List.length_drop, List.length_cons, List.length_nil]; omega)), mk_shI64 ((1000001 : Int)) (by first | omega | (simp only []; omega) | (simp; done) | (simp only [List.length_append, List.length_take, List.length_drop, List.length_cons, List.length_nil]; omega)), mk_shI64 ((-2 : Int)) (by first | omega | (simp only []; omega) | (simp; done) | (simp only [List.length_append, List.length_take, List.length_drop, List.length_cons, List.length_nil]; omega)), rfl⟩ (fun _ h => h.elim)) ?_
   rintro v131 w132 ⟨ho133, he134, hob135⟩ a136 ha136; clear ha129 a129
   have hx137 := hx130.trans' he134
   have hzhx137 := he134.size
   replace ho27 := ho27.ext he134
   replace hN29 := hN29.ext he134
   replace hS124 := hS124.ext he134
   refine wl_callS ha136 rfl rfl rfl (op_call ha136 rfl cb65 rfl) (c_spec_l01Pick _ g9 w0.heap.size v131 ([(q125 : Int), (-1 : Int), (0 : Int), (1000000 : Int), (1000001 : Int), (-2 : Int)]) hS124 (ho133.rds pos_shI64) (by rintro ⟨_, _⟩; omega) (by first | assumption | omega | (simp; done) | (simp; omega) | decide)) ?_
   rintro v138 w139 he140 ⟨hS141, ⟨q142, hq143, rfl⟩⟩ a144 ha144; clear ha136 a136
   have hx145 := hx137.stp he140 (by intro q hq; cases hq; exact (by omega))
   have hzhx145 := he140.size
   first | replace ho27 := ho27.stp he140 (by intro q hq; cases hq; omega) | replace ho27 := ho27.stpF flat_shVerN he140 (by intro q hq; cases hq; exact ho27.ne_box (by assumption) rfl)
   first | replace hN29 := hN29.stp he140 (by intro q hq; cases hq; omega) | replace hN29 := hN29.stpB flat_shLine he140 (by assumption) rfl
   first | replace ho133 := ho133.stp he140 (by intro q hq; cases hq; omega) | replace ho133 := ho133.stpF flat_shI64 he140 (by intro q hq; cases hq; exact ho133.ne_box (by assumption) rfl)
   clear hS124
   have hSlhS141 := hS141.lt
   simp only [List.mem_cons, List.not_mem_nil, or_false] at hq143
   refine wl_val ha144 rfl rfl rfl (op_assign ha144 rfl rfl) ?_
   intro a146 ha146; clear ha144 a144
   refine wl_val ha146 rfl rfl rfl (op_assign ha146 rfl rfl) ?_
   intro a147 ha147; clear ha146 a146
   refine wl_val ha147 rfl rfl rfl (op_assign ha147 rfl rfl) ?_
   intro a148 ha148; clear ha147 a147
   refine wl_val ha148 rfl rfl rfl (op_assign ha148 rfl rfl) ?_
   intro a149 ha149; clear ha148 a148
   refine wpList_nil ?_
   refine then_n ?_
   refine wp_ret ?_
   refine ret4 ha149 rfl rfl rfl rfl rfl ?_
   clear ha149 a149
   refine ret_mk hx145 ?_
   refine ⟨(((q19)) : List Ver), (q20 : Int), ((q21) : Str), (q142 : Int), (by first | assumption | omega | (simp; done)), (by first | assumption | (intro c hc; simp only [List.map_cons, List.map_nil, List.mem_cons, List.not_mem_nil, or_false] at hc; subst hc; exact Nat.le_trans hl (by omega))), (by first | assumption | omega | (constructor <;> omega) | (simp; done) | (simp; omega)), (by first | assumption | omega | (constructor <;> omega) | (simp; done) | (simp; omega)), (by first | assumption | omega | (constructor <;> omega) | (simp; done) | (simp; omega)), ?_⟩
   refine ⟨u26, z28, (tup4_eq rfl (int_eq (by rfl)) (congrArg St (by rfl)) (int_eq (by rfl))), ho27.fin (by omega) (by omega) (by omega), hN29.fin (by omega) (by omega), ?_⟩
   ·
    exact hE30
 ·
  rw [decide_eq_false c53] at ha52
  refine wl_skip ha52 rfl rfl rfl ?_
  intro a150 ha150; clear ha52 a52
  refine wl_skip ha150 rfl rfl rfl ?_
  intro a151 ha151; clear ha150 a150
  refine wl_skip ha151 rfl rfl rfl ?_
  intro a152 ha152; clear ha151 a151
  refine wl_val ha152 rfl rfl rfl (op_pick_f ha152 rfl rfl rfl) ?_
  intro a153 ha153; clear ha152 a152
  refine wpList_nil ?_
  refine then_n ?_
  refine cond_f ha153 rfl ?_
  refine wp_skip ?_
  refine then_n ?_
  refine wp_seq ?_
  refine wp_region_lit ?_
  refine wl_val ha153 rfl rfl rfl (op_move ha153 rfl rfl) ?_
  intro a154 ha154; clear ha153 a153
  refine wl_val ha154 rfl rfl rfl (op_move ha154 rfl rfl) ?_
  intro a155 ha155; clear ha154 a154
  refine wl_val ha155 rfl rfl rfl (op_move ha155 rfl rfl) ?_
  intro a156 ha156; clear ha155 a155
  refine wl_val ha156 rfl rfl rfl (op_move ha156 rfl rfl) ?_
  intro a157 ha157; clear ha156 a156
  refine wl_val ha157 rfl rfl rfl (op_move ha157 rfl rfl) ?_
  intro a158 ha158; clear ha157 a157
  refine wl_callS ha158 rfl rfl rfl (op_call ha158 rfl cb64 rfl) (c_spec_l01Next _ g9 w0.heap.size (9 : Int) hS44) ?_
  rintro v159 w160 he161 ⟨hS162, ⟨q163, hq164, hq165, hq166, rfl⟩⟩ a167 ha167; clear ha158 a158
  have hx168 := hx50.stp he161 (by intro q hq; cases hq; exact (by omega))
  have hzhx168 := he161.size
  first | replace ho27 := ho27.stp he161 (by intro q hq; cases hq; omega) | replace ho27 := ho27.stpF flat_shVerN he161 (by intro q hq; cases hq; exact ho27.ne_box (by assumption) rfl)
  first | replace hN29 := hN29.stp he161 (by intro q hq; cases hq; omega) | replace hN29 := hN29.stpB flat_shLine he161 (by assumption) rfl
  clear hS44
  have hSlhS162 := hS162.lt
  refine wl_eff ha167 rfl rfl rfl (op_buildSlice (s := shI64) (xs := [(q163 : Int), (-1 : Int), (0 : Int), (1000000 : Int), (1000001 : Int), (-2 : Int)]) (cs := [.int .i64 (q163 : Int), .int .i64 (-1 : Int), .int .i64 (0 : Int), .int .i64 (1000000 : Int), .int .i64 (1000001 : Int), .int .i64 (-2 : Int)]) (vs := [(0, .int .i64 (q163 : Int)), (1, .int .i64 (-1 : Int)), (2, .int .i64 (0 : Int)), (3, .int .i64 (1000000 : Int)), (4, .int .i64 (1000001 : Int)), (5, .int .i64 (-2 : Int))]) (S := fun _ => False) (le := w160.heap.size) ha167 rfl pos_shI64 Try.underlying46 ti2 rfl rfl (by decide) (by kernel_rfl) ⟨mk_shI64 ((q163 : Int)) (by first | omega | (simp only []; omega) | (simp; done) | (simp only [List.length_append, List.length_take, List.length_drop, List.length_cons, List.length_nil]; omega)), mk_shI64 ((-1 : Int)) (by first | omega | (simp only []; omega) | (simp; done) | (simp only [List.length_append, List.length_take, List.length_drop, List.length_cons, List.length_nil]; omega)), mk_shI64 ((0 : Int)) (by first | omega | (simp only []; omega) | (simp; done) | (simp only [List.length_append, List.length_take, List.length_drop, List.length_cons, List.length_nil]; omega)), mk_shI64 ((1000000 : Int)) (by first | omega | (simp only []; omega) | (simp; done) | (simp only [List.length_append, List.length_take, List.length_drop, List.length_cons, List.length_nil]; omega)), mk_shI64 ((1000001 : Int)) (by first | omega | (simp only []; omega) | (simp; done) | (simp only [List.length_append, List.length_take, List.length_drop, List.length_cons, List.length_nil]; omega)), mk_shI64 ((-2 : Int)) (by first | omega | (simp only []; omega) | (simp; done) | (simp only [List.length_append, List.length_take, List.length_drop, List.length_cons, List.length_nil]; omega)), rfl⟩ (fun _ h => h.elim)) ?_
  rintro v169 w170 ⟨ho171, he172, hob173⟩ a174 ha174; clear ha167 a167
  have hx175 := hx168.trans' he172
  have hzhx175 := he172.size
  replace ho27 := ho27.ext he172
  replace hN29 := hN29.ext he172
  replace hS162 := hS162.ext he172
  refine wl_callS ha174 rfl rfl rfl (op_call ha174 rfl cb65 rfl) (c_spec_l01Pick _ g9 w0.heap.size v169 ([(q163 : Int), (-1 : Int), (0 : Int), (1000000 : Int), (1000001 : Int), (-2 : Int)]) hS162 (ho171.rds pos_shI64) (by rintro ⟨_, _⟩; omega) (by first | assumption | omega | (simp; done) | (simp; omega) | decide)) ?_
  rintro v176 w177 he178 ⟨hS179, ⟨q180, hq181, rfl⟩⟩ a182 ha182; clear ha174 a174
  have hx183 := hx175.stp he178 (by intro q hq; cases hq; exact (by omega))
  have hzhx183 := he178.size
  first | replace ho27 := ho27.stp he178 (by intro q hq; cases hq; omega) | replace ho27 := ho27.stpF flat_shVerN he178 (by intro q hq; cases hq; exact ho27.ne_box (by assumption) rfl)
  first | replace hN29 := hN29.stp he178 (by intro q hq; cases hq; omega) | replace hN29 := hN29.stpB flat_shLine he178 (by assumption) rfl
  first | replace ho171 := ho171.stp he178 (by intro q hq; cases hq; omega) | replace ho171 := ho171.stpF flat_shI64 he178 (by intro q hq; cases hq; exact ho171.ne_box (by assumption) rfl)
  clear hS162
  have hSlhS179 := hS179.lt
  simp only [List.mem_cons, List.not_mem_nil, or_false] at hq181
  refine wl_val ha182 rfl rfl rfl (op_assign ha182 rfl rfl) ?_
  intro a184 ha184; clear ha182 a182
  refine wl_val ha184 rfl rfl rfl (op_assign ha184 rfl rfl) ?_
  intro a185 ha185; clear ha184 a184
  refine wl_val ha185 rfl rfl rfl (op_assign ha185 rfl rfl) ?_
  intro a186 ha186; clear ha185 a185
  refine wl_val ha186 rfl rfl rfl (op_assign ha186 rfl rfl) ?_
  intro a187 ha187; clear ha186 a186
  refine wpList_nil ?_
  refine then_n ?_
  refine wp_ret ?_
  refine ret4 ha187 rfl rfl rfl rfl rfl ?_
  clear ha187 a187
  refine ret_mk hx183 ?_
  refine ⟨(((q19)) : List Ver), (q20 : Int), ((q21) : Str), (q180 : Int), (by first | assumption | omega | (simp; done)), (by first | assumption | (intro c hc; simp only [List.map_cons, List.map_nil, List.mem_cons, List.not_mem_nil, or_false] at hc; subst hc; exact Nat.le_trans hl (by omega))), (by first | assumption | omega | (constructor <;> omega) | (simp; done) | (simp; omega)), (by first | assumption | omega | (constructor <;> omega) | (simp; done) | (simp; omega)), (by first | assumption | omega | (constructor <;> omega) | (simp; done) | (simp; omega)), ?_⟩
  refine ⟨u26, z28, (tup4_eq rfl (int_eq (by rfl)) (congrArg St (by rfl)) (int_eq (by rfl))), ho27.fin (by omega) (by omega) (by omega), hN29.fin (by omega) (by omega), ?_⟩
  ·
   exact hE30

set_option maxHeartbeats 4000000 in
theorem c_spec_DrawWayToFirst (w0 : World) (v_code : Value) (code : List UInt8) {S_code : Nat → Prop} (h_code : Rds shU8 S_code w0 v_code code) :
  Calls Try.prog 28 #[v_code] w0 (Ret w0 (fun v w1 => ∃ (l : List Ver) (a : Int), (l.length ≤ 22) ∧ (∀ c ∈ l, c.2.length ≤ 9) ∧ (I64 a) ∧ (fun v w1 => ∃ r0 z0, v = .tuple #[r0, .int .i64 (a)] ∧ Own shVerN 56 w0.heap.size w0.heap.size w1.heap.size w1 r0 z0 ∧ Nst shLine 83 (fun x : Int × List (Str × Int) => x.2) w0.heap.size w1.heap.size w1 z0 ∧ z0.map (·.1) = (l)) v w1)) := by
 refine enter (N := 15) Try.func28 rfl rfl rfl ?_
 intro a0 ha0
 have hx0 := Ext.rfl' w0
 have hl_code := h_code.length_le
 refine wp_seq ?_
 refine wp_region_lit ?_
 refine wl_val ha0 rfl rfl rfl (op_assign ha0 rfl rfl) ?_
 intro a1 ha1; clear ha0 a0
 refine wl_val ha1 rfl rfl rfl (op_assign ha1 rfl rfl) ?_
 intro a2 ha2; clear ha1 a1
 refine wpList_nil ?_
 refine then_n ?_
 refine wp_seq ?_
 refine wp_region_lit ?_
 refine wl_val ha2 rfl rfl rfl (op_move ha2 rfl rfl) ?_
 intro a3 ha3; clear ha2 a2
 refine wl_callR ha3 rfl rfl rfl (op_call ha3 rfl cb45 rfl) (c_spec_DrawValueOf _ v_code code (h_code.ext pos_shU8 hx0)) ?_
 rintro v4 w5 he6 ⟨q7, q8, q9, hq10, hq11, hq12, hq13, ⟨u14, z16, rfl, ho15, hN17, hE18⟩⟩ a19 ha19; clear ha3 a3
 have hx20 := hx0.trans' he6
 have hzhx20 := he6.size
 have hlhE18 := absLen hE18
 refine wl_val ha19 rfl rfl rfl (op_move ha19 rfl rfl) ?_
 intro a21 ha21; clear ha19 a19
 refine wl_val ha21 rfl rfl rfl (op_extract ha21 rfl rfl rfl) ?_
 intro a22 ha22; clear ha21 a21
 refine wl_val ha22 rfl rfl rfl (op_extract ha22 rfl rfl rfl) ?_
 intro a23 ha23; clear ha22 a22
 refine wl_val ha23 rfl rfl rfl (op_extract ha23 rfl rfl rfl) ?_
 intro a24 ha24; clear ha23 a23
 refine wl_val ha24 rfl rfl rfl (op_assign ha24 rfl rfl) ?_
 intro a25 ha25; clear ha24 a24
 refine wl_val ha25 rfl rfl rfl (op_assign ha25 rfl rfl) ?_
 intro a26 ha26; clear ha25 a25
 refine wl_val ha26 rfl rfl rfl (op_assign ha26 rfl rfl) ?_
 intro a27 ha27; clear ha26 a26
 refine wpList_nil ?_
 refine then_n ?_
 refine wp_seq ?_
 refine wp_region_lit ?_
 refine wl_val ha27 rfl rfl rfl (op_move ha27 rfl rfl) ?_
 intro a28 ha28; clear ha27 a27
 refine wl_val ha28 rfl rfl rfl (op_move ha28 rfl rfl) ?_
 intro a29 ha29; clear ha28 a28
 refine wl_val ha29 rfl rfl rfl (op_assign ha29 rfl rfl) ?_
 intro a30 ha30; clear ha29 a29
 refine wl_val ha30 rfl rfl rfl (op_assign ha30 rfl rfl) ?_
 intro a31 ha31; clear ha30 a30
 refine wpList_nil ?_
 refine then_n ?_
 refine wp_ret ?_
 refine ret2 ha31 rfl rfl rfl ?_
 clear ha31 a31
 refine ret_mk hx20 ?_
 refine ⟨(((q7)) : List Ver), (q8 : Int), (by first | assumption | omega | (constructor <;> omega) | (simp; done) | (simp; omega)), (by first | assumption | omega | (constructor <;> omega) | (simp; done) | (simp; omega)), (by first | assumption | omega | (constructor <;> omega) | (simp; done) | (simp; omega)), ?_⟩
 refine ⟨u14, z16, (tup2_eq rfl (int_eq (by rfl))), ho15.fin (by omega) (by omega) (by omega), hN17.fin (by omega) (by omega), ?_⟩
 ·
  exact hE18

set_option maxHeartbeats 4000000 in
theorem c_spec_DrawAddVersion (w0 : World) (v_code : Value) (code : List UInt8) {S_code : Nat → Prop} (h_code : Rds shU8 S_code w0 v_code code) :
  Calls Try.prog 33 #[v_code] w0 (Ret w0 (fun v w1 => ∃ (l : List Ver) (a : Int) (ls : List Line), (l.length ≤ 22) ∧ (∀ c ∈ l, c.2.length ≤ 9) ∧ (I64 a) ∧ (ls.length ≤ 9) ∧ (fun v w1 => ∃ r0 z0 r2, v = .tuple #[r0, .int .i64 (a), r2] ∧ Own shVerN 56 w0.heap.size w0.heap.size w1.heap.size w1 r0 z0 ∧ Nst shLine 83 (fun x : Int × List (Str × Int) => x.2) w0.heap.size w1.heap.size w1 z0 ∧ z0.map (·.1) = (l) ∧ Own shLine 83 w0.heap.size w0.heap.size w1.heap.size w1 r2 (ls)) v w1)) := by
 refine enter (N := 63) Try.func33 rfl rfl rfl ?_
 intro a0 ha0
 have hx0 := Ext.rfl' w0
 have hl_code := h_code.length_le
 refine wp_seq ?_
 refine wp_region_lit ?_
 refine wl_val ha0 rfl rfl rfl (op_assign ha0 rfl rfl) ?_
 intro a1 ha1; clear ha0 a0
 refine wl_val ha1 rfl rfl rfl (op_assign ha1 rfl rfl) ?_
 intro a2 ha2; clear ha1 a1
 refine wl_val ha2 rfl rfl rfl (op_assign ha2 rfl rfl) ?_
 intro a3 ha3; clear ha2 a2
 refine wpList_nil ?_
 refine then_n ?_
 refine wp_seq ?_
 refine wp_region_lit ?_
 refine wl_val ha3 rfl rfl rfl (op_move ha3 rfl rfl) ?_
 intro a4 ha4; clear ha3 a3
 refine wl_callR ha4 rfl rfl rfl (op_call ha4 rfl cb63 rfl) (c_spec_l01From _ v_code code (h_code.low pos_shU8 hx0 (Nat.le_refl _)) (by omega)) ?_
 rintro v5 w6 he7 ⟨g8, rfl, hg9, hS10⟩ a11 ha11; clear ha4 a4
 have hx12 := hx0.trans' he7
 have hzhx12 := he7.size
 have hSlhS10 := hS10.lt
 refine wl_val ha11 rfl rfl rfl (op_assign ha11 rfl rfl) ?_
 intro a13 ha13; clear ha11 a11
 refine wpList_nil ?_
 refine then_n ?_
 refine wp_seq ?_
 refine wp_region_lit ?_
 refine wl_val ha13 rfl rfl rfl (op_move ha13 rfl rfl) ?_
 intro a14 ha14; clear ha13 a13
 refine wl_callS ha14 rfl rfl rfl (op_call ha14 rfl cb76 rfl) (c_spec_l29Draw _ g8 w0.heap.size hS10) ?_
 rintro v15 w16 he17 ⟨hS18, ⟨q19, hq20, hq21, ⟨z23, ho22, hN24, hE25⟩⟩⟩ a26 ha26; clear ha14 a14
 have hx27 := hx12.stp he17 (by intro q hq; cases hq; exact (by omega))
 have hzhx27 := he17.size
 clear hS10
 have hSlhS18 := hS18.lt
 have hlhE25 := absLen hE25
 refine wl_val ha26 rfl rfl rfl (op_assign ha26 rfl rfl) ?_
 intro a28 ha28; clear ha26 a26
 refine wpList_nil ?_
 refine then_n ?_
 refine wp_seq ?_
 refine wp_region_lit ?_
 refine wl_eff ha28 rfl rfl rfl (op_buildSlice (s := shLine) (xs := ([] : List (Str × Int))) (cs := []) (vs := []) (S := fun _ => False) (le := w16.heap.size) ha28 rfl pos_shLine Try.underlying34 ti83 rfl rfl (by decide) (by kernel_rfl) rfl (fun _ h => h.elim)) ?_
 rintro v29 w30 ⟨ho31, he32, hob33⟩ a34 ha34; clear ha28 a28
 have hx35 := hx27.trans' he32
 have hzhx35 := he32.size
 replace hS18 := hS18.ext he32
 replace ho22 := ho22.ext he32
 replace hN24 := hN24.ext he32
 refine wl_val ha34 rfl rfl rfl (op_assign ha34 rfl rfl) ?_
 intro a36 ha36; clear ha34 a34
 refine wpList_nil ?_
 refine then_n ?_
 refine wp_seq ?_
 refine wp_seq ?_
 refine wp_region_lit ?_
 refine wl_val ha36 rfl rfl rfl (op_move ha36 rfl rfl) ?_
 intro a37 ha37; clear ha36 a36
 refine wl_callS ha37 rfl rfl rfl (op_call ha37 rfl cb64 rfl) (c_spec_l01Next _ g8 w0.heap.size (4 : Int) hS18) ?_
 rintro v38 w39 he40 ⟨hS41, ⟨q42, hq43, hq44, hq45, rfl⟩⟩ a46 ha46; clear ha37 a37
 have hx47 := hx35.stp he40 (by intro q hq; cases hq; exact (by omega))
 have hzhx47 := he40.size
 first | replace ho22 := ho22.stp he40 (by intro q hq; cases hq; omega) | replace ho22 := ho22.stpF flat_shVerN he40 (by intro q hq; cases hq; exact ho22.ne_box (by assumption) rfl)
 first | replace hN24 := hN24.stp he40 (by intro q hq; cases hq; omega) | replace hN24 := hN24.stpB flat_shLine he40 (by assumption) rfl
 first | replace ho31 := ho31.stp he40 (by intro q hq; cases hq; omega) | replace ho31 := ho31.stpF flat_shLine he40 (by intro q hq; cases hq; exact ho31.ne_box (by assumption) rfl)
 clear hS18
 have hSlhS41 := hS41.lt
 refine wl_val ha46 rfl rfl rfl (op_assign ha46 rfl rfl) ?_
 intro a48 ha48; clear ha46 a46
 refine wpList_nil ?_
 refine then_n ?_
 refine wp_block ?_
 refine loop_inv (X := Int × Value × (List (Str × Int))) (fun (⟨m, va, la⟩ : Int × Value × (List (Str × Int))) fr wl => Sl 63 fr [(5, .pointer (some (⟨g8, 0, none⟩ : Addr))), (6, v15), (7, va), (8, .int .i64 m)] ∧ Ext w0 wl ∧ Src wl g8 w0.heap.size 102 ∧ Own shVerN 56 w6.heap.size w6.heap.size w16.heap.size wl v15 z23 ∧ Nst shLine 83 (fun x : Int × List (Str × Int) => x.2) w6.heap.size w16.heap.size wl z23 ∧ Own shLine 83 w16.heap.size w16.heap.size wl.heap.size wl va la ∧ w39.heap.size ≤ wl.heap.size ∧ (0 ≤ m) ∧ ((la.length : Int) + m ≤ 4)) (fun (⟨m, va, la⟩ : Int × Value × (List (Str × Int))) => m.toNat) ((q42 : Int), v29, ([] : List (Str × Int))) ?_ ?_
 ·
  exact ⟨(Sl.cons_ ha48 rfl rfl (Sl.cons_ ha48 rfl rfl (Sl.cons_ ha48 rfl rfl (Sl.cons_ ha48 rfl (int_eq (by omega)) (Sl.nil_ ha48))))), hx47, hS41, ho22, hN24, (ho31.fin (by omega) (by omega) (by omega)), (by omega), (by omega), (by first | omega | (simp; omega))⟩
 ·
  clear ha48 a48
  rintro ⟨m, va, la⟩ a55 w49 ⟨ha55, hx50, hf51, hf52, hf53, hf54, hzl56, hm, hl⟩
  have hzhx50 := hx50.size
  have hgl57 := hf51.lt
  refine wp_seq ?_
  refine wp_seq ?_
  refine wp_region_lit ?_
  refine wl_val ha55 rfl rfl rfl (op_move ha55 rfl rfl) ?_
  intro a58 ha58; clear ha55 a55
  refine wl_val ha58 rfl rfl rfl (op_gtr ha58 rfl rfl rfl) ?_
  intro a59 ha59; clear ha58 a58
  refine wpList_nil ?_
  refine then_n ?_
  by_cases c60 : (0 : Int) < m
  ·
   rw [decide_eq_true c60] at ha59
   refine cond_t ha59 rfl ?_
   refine wp_skip ?_
   refine then_n ?_
   refine wp_seq ?_
   refine wp_block ?_
   refine wp_region_lit ?_
   refine wl_val ha59 rfl rfl rfl (op_move ha59 rfl rfl) ?_
   intro a61 ha61; clear ha59 a59
   refine wl_val ha61 rfl rfl rfl (op_move ha61 rfl rfl) ?_
   intro a62 ha62; clear ha61 a61
   refine wl_callS ha62 rfl rfl rfl (op_call ha62 rfl cb77 rfl) (c_spec_l29Key _ g8 w0.heap.size hf51) ?_
   rintro v63 w64 he65 ⟨hS66, ⟨q67, hq68, rfl⟩⟩ a69 ha69; clear ha62 a62
   have hx70 := hx50.stp he65 (by intro q hq; cases hq; exact (by omega))
   have hzhx70 := he65.size
   first | replace hf52 := hf52.stp he65 (by intro q hq; cases hq; omega) | replace hf52 := hf52.stpF flat_shVerN he65 (by intro q hq; cases hq; exact hf52.ne_box (by assumption) rfl)
   first | replace hf53 := hf53.stp he65 (by intro q hq; cases hq; omega) | replace hf53 := hf53.stpB flat_shLine he65 (by assumption) rfl
   first | replace hf54 := hf54.stp he65 (by intro q hq; cases hq; omega) | replace hf54 := hf54.stpF flat_shLine he65 (by intro q hq; cases hq; exact hf54.ne_box (by assumption) rfl)
   clear hf51
   have hSlhS66 := hS66.lt
   refine wl_val ha69 rfl rfl rfl (op_move ha69 rfl rfl) ?_
   intro a71 ha71; clear ha69 a69
   refine wl_callS ha71 rfl rfl rfl (op_call ha71 rfl cb64 rfl) (c_spec_l01Next _ g8 w0.heap.size (9 : Int) hS66) ?_
   rintro v72 w73 he74 ⟨hS75, ⟨q76, hq77, hq78, hq79, rfl⟩⟩ a80 ha80; clear ha71 a71
   have hx81 := hx70.stp he74 (by intro q hq; cases hq; exact (by omega))
   have hzhx81 := he74.size
   first | replace hf52 := hf52.stp he74 (by intro q hq; cases hq; omega) | replace hf52 := hf52.stpF flat_shVerN he74 (by intro q hq; cases hq; exact hf52.ne_box (by assumption) rfl)
   first | replace hf53 := hf53.stp he74 (by intro q hq; cases hq; omega) | replace hf53 := hf53.stpB flat_shLine he74 (by assumption) rfl
   first | replace hf54 := hf54.stp he74 (by intro q hq; cases hq; omega) | replace hf54 := hf54.stpF flat_shLine he74 (by intro q hq; cases hq; exact hf54.ne_box (by assumption) rfl)
   clear hS66
   have hSlhS75 := hS75.lt
   refine wl_callR ha80 rfl rfl rfl (op_call ha80 rfl cb72 rfl) (c_spec_l29Set _ va la ((q67)) (q76 : Int) (hf54.rds pos_shLine) (by first | assumption | omega | (simp; done) | (simp; omega) | decide) (by first | assumption | omega | (simp; done) | (simp; omega) | decide) (by first | assumption | omega | (simp; done) | (simp; omega) | decide)) ?_
   rintro v82 w83 he84 ho85 a86 ha86; clear ha80 a80
   have hx87 := hx81.trans' he84
   have hzhx87 := he84.size
   replace hf52 := hf52.ext he84
   replace hf53 := hf53.ext he84
   replace hf54 := hf54.ext he84
   replace hS75 := hS75.ext he84
   refine wl_val ha86 rfl rfl rfl (op_assign ha86 rfl rfl) ?_
   intro a88 ha88; clear ha86 a86
   refine wpList_nil ?_
   refine block_n ?_
   refine then_n ?_
   clear hf54
   refine wp_region_lit ?_
   refine wl_val ha88 rfl rfl rfl (op_move ha88 rfl rfl) ?_
   intro a89 ha89; clear ha88 a88
   refine wl_val ha89 rfl rfl rfl ((op_sub ha89 rfl rfl rfl).int (IntWalk.i64_in _ (by omega))) ?_
   intro a90 ha90; clear ha89 a89
   refine wl_val ha90 rfl rfl rfl (op_assign ha90 rfl rfl) ?_
   intro a91 ha91; clear ha90 a90
   refine wpList_nil ?_
   refine round_end (x := (m, va, la)) ((m - (1 : Int)), v82, (stL ((q67)) (q76 : Int) la)) ?_ ?_
   ·
    refine ⟨(Sl.cons_ ha91 rfl rfl (Sl.cons_ ha91 rfl rfl (Sl.cons_ ha91 rfl rfl (Sl.cons_ ha91 rfl (int_eq (by omega)) (Sl.nil_ ha91))))), hx87, hS75, hf52, hf53, (ho85.fin (by omega) (by omega) (by omega)), (by omega), (by omega), (by have h9 := Int.ofNat_le.2 (stL_len _ _ _ : ((stL ((q67)) (q76 : Int) la)).length ≤ la.length + 1); omega)⟩
   ·show (((m - (1 : Int))).toNat : Nat) < m.toNat; omega
  ·
   rw [decide_eq_false c60] at ha59
   refine cond_f ha59 rfl ?_
   refine wp_exit ?_
   refine then_e ?_
   refine then_e ?_
   refine block_hit ?_
   refine then_n ?_
   refine wp_seq ?_
   refine wp_seq ?_
   refine wp_region_lit ?_
   refine wl_val ha59 rfl rfl rfl (op_move ha59 rfl rfl) ?_
   intro a92 ha92; clear ha59 a59
   refine wl_callS ha92 rfl rfl rfl (op_call ha92 rfl cb64 rfl) (c_spec_l01Next _ g8 w0.heap.size (24 : Int) hf51) ?_
   rintro v93 w94 he95 ⟨hS96, ⟨q97, hq98, hq99, hq100, rfl⟩⟩ a101 ha101; clear ha92 a92
   have hx102 := hx50.stp he95 (by intro q hq; cases hq; exact (by omega))
   have hzhx102 := he95.size
   first | replace hf52 := hf52.stp he95 (by intro q hq; cases hq; omega) | replace hf52 := hf52.stpF flat_shVerN he95 (by intro q hq; cases hq; exact hf52.ne_box (by assumption) rfl)
   first | replace hf53 := hf53.stp he95 (by intro q hq; cases hq; omega) | replace hf53 := hf53.stpB flat_shLine he95 (by assumption) rfl
   first | replace hf54 := hf54.stp he95 (by intro q hq; cases hq; omega) | replace hf54 := hf54.stpF flat_shLine he95 (by intro q hq; cases hq; exact hf54.ne_box (by assumption) rfl)
   clear hf51
   have hSlhS96 := hS96.lt
   refine wpList_nil ?_
   refine then_n ?_
   refine wp_block ?_
   refine wp_seq ?_
   refine wp_region_lit ?_
   refine wl_val ha101 rfl rfl rfl (op_eql ha101 rfl rfl rfl) ?_
   intro a103 ha103; clear ha101 a101
   refine wl_val ha103 rfl rfl rfl (op_assign ha103 rfl rfl) ?_
   intro a104 ha104; clear ha103 a103
   refine wpList_nil ?_
   refine then_n ?_
   by_cases c105 : (q97 : Int) = (0 : Int)
   ·
    rw [decide_eq_true c105] at ha104
    refine cond_t ha104 rfl ?_
    refine wp_region_lit ?_
    refine wl_val ha104 rfl rfl rfl (op_move ha104 rfl rfl) ?_
    intro a106 ha106; clear ha104 a104
    refine wl_val ha106 rfl rfl rfl (op_build (vs := [(0, St (([97] : Str)))]) (cs := #[St (([97] : Str)), .int .i64 (0 : Int)]) ha106 rfl Try.underlying83 ti83 bp83 rfl rfl) ?_
    intro a107 ha107; clear ha106 a106
    refine wl_eff ha107 rfl rfl rfl (op_buildSlice (s := shLine) (xs := [(([97] : Str), (0 : Int))]) (cs := [St (([97] : Str)), .int .i64 (0 : Int)]) (vs := [(0, .agg #[St (([97] : Str)), .int .i64 (0 : Int)])]) (S := fun _ => False) (le := w94.heap.size) ha107 rfl pos_shLine Try.underlying34 ti83 rfl rfl (by decide) (by kernel_rfl) (Els.single (mk_shLine ((([97] : Str), (0 : Int))) (by first | omega | (simp only []; omega) | (simp; done) | (simp only [List.length_append, List.length_take, List.length_drop, List.length_cons, List.length_nil]; omega)) (by first | omega | (simp only []; omega) | (simp; done) | (simp only [List.length_append, List.length_take, List.length_drop, List.length_cons, List.length_nil]; omega)))) (fun _ h => h.elim)) ?_
    rintro v108 w109 ⟨ho110, he111, hob112⟩ a113 ha113; clear ha107 a107
    have hx114 := hx102.trans' he111
    have hzhx114 := he111.size
    replace hf52 := hf52.ext he111
    replace hf53 := hf53.ext he111
    replace hf54 := hf54.ext he111
    replace hS96 := hS96.ext he111
    refine wl_eff ha113 rfl rfl rfl (op_append (ts := #[]) (s := shLine) ha113 rfl Try.underlying34 ti83 rfl pos_shLine rfl rfl hf54 (ho110.rds pos_shLine) (by omega) (by omega) (by first | omega | (simp; omega)) (by first | omega | (simp; omega)) (.inl flat_shLine)) ?_
    rintro v115 w116 ⟨ho117, hst118, hob119⟩ a120 ha120; clear ha113 a113
    have hx121 := hx114.stp hst118 (by intro q hq; have hq0 := hf54.lt q hq; omega)
    have hzhx121 := hst118.size
    replace hf52 := hf52.stp hst118 (by intro q hq; have hq0 := hf54.lt q hq; omega)
    replace hf53 := hf53.stp hst118 (by intro q hq; have hq0 := hf54.lt q hq; omega)
    replace hS96 := hS96.stp hst118 (by intro q hq; have hq0 := hf54.lt q hq; omega)
    replace ho110 := ho110.stp hst118 (by intro q hq; have hq0 := hf54.lt q hq; omega)
    have hsp122 : ∀ q, Value.ownBlock v115 = some q → Value.ownBlock v108 ≠ some q := by intro q hq hb; have hq0 := ho110.lt q hb; rcases hob119 with h | h; (rw [h] at hq; first | (have hq1 := hf54.lt q hq; omega)); (rw [h] at hq; cases hq; omega)
    refine wl_val ha120 rfl rfl rfl (op_assign ha120 rfl rfl) ?_
    intro a123 ha123; clear ha120 a120
    refine wpList_nil ?_
    refine block_n ?_
    refine then_n ?_
    refine wp_seq ?_
    clear ho110
    refine wp_region_lit ?_
    refine wl_val ha123 rfl rfl rfl (op_move ha123 rfl rfl) ?_
    intro a124 ha124; clear ha123 a123
    refine wl_val ha124 rfl rfl rfl (op_move ha124 rfl rfl) ?_
    intro a125 ha125; clear ha124 a124
    refine wl_val ha125 rfl rfl rfl (op_move ha125 rfl rfl) ?_
    intro a126 ha126; clear ha125 a125
    refine wl_val ha126 rfl rfl rfl (op_len_sl ha126 rfl Try.underlying27 rfl (hf52.rds pos_shVerN)) ?_
    intro a127 ha127; clear ha126 a126
    refine wl_val ha127 rfl rfl rfl (op_move ha127 rfl rfl) ?_
    intro a128 ha128; clear ha127 a127
    refine wl_callS ha128 rfl rfl rfl (op_call ha128 rfl cb64 rfl) (c_spec_l01Next _ g8 w0.heap.size (12 : Int) hS96) ?_
    rintro v129 w130 he131 ⟨hS132, ⟨q133, hq134, hq135, hq136, rfl⟩⟩ a137 ha137; clear ha128 a128
    have hx138 := hx121.stp he131 (by intro q hq; cases hq; exact (by omega))
    have hzhx138 := he131.size
    first | replace hf52 := hf52.stp he131 (by intro q hq; cases hq; omega) | replace hf52 := hf52.stpF flat_shVerN he131 (by intro q hq; cases hq; exact hf52.ne_box (by assumption) rfl)
    first | replace hf53 := hf53.stp he131 (by intro q hq; cases hq; omega) | replace hf53 := hf53.stpB flat_shLine he131 (by assumption) rfl
    first | replace ho117 := ho117.stp he131 (by intro q hq; cases hq; omega) | replace ho117 := ho117.stpF flat_shLine he131 (by intro q hq; cases hq; exact ho117.ne_box (by assumption) rfl)
    clear hS96
    have hSlhS132 := hS132.lt
    refine wl_val ha137 rfl rfl rfl ((op_quo ha137 rfl rfl rfl (by omega)).int (IntWalk.i64_quo _ _ (by omega))) ?_
    intro a139 ha139; clear ha137 a137
    refine wl_val ha139 rfl rfl rfl ((op_add ha139 rfl rfl rfl).int (IntWalk.i64_in _ (by omega))) ?_
    intro a140 ha140; clear ha139 a139
    refine wl_callS ha140 rfl rfl rfl (op_call ha140 rfl cb64 rfl) (c_spec_l01Next _ g8 w0.heap.size (((z23.length : Nat) : Int) + ((q133 : Int) / (11 : Int))) hS132) ?_
    rintro v141 w142 he143 ⟨hS144, ⟨q145, hq146, hq147, hq148, rfl⟩⟩ a149 ha149; clear ha140 a140
    have hx150 := hx138.stp he143 (by intro q hq; cases hq; exact (by omega))
    have hzhx150 := he143.size
    first | replace hf52 := hf52.stp he143 (by intro q hq; cases hq; omega) | replace hf52 := hf52.stpF flat_shVerN he143 (by intro q hq; cases hq; exact hf52.ne_box (by assumption) rfl)
    first | replace hf53 := hf53.stp he143 (by intro q hq; cases hq; omega) | replace hf53 := hf53.stpB flat_shLine he143 (by assumption) rfl
    first | replace ho117 := ho117.stp he143 (by intro q hq; cases hq; omega) | replace ho117 := ho117.stpF flat_shLine he143 (by intro q hq; cases hq; exact ho117.ne_box (by assumption) rfl)
    clear hS132
    have hSlhS144 := hS144.lt
    refine wl_val ha149 rfl rfl rfl (op_move ha149 rfl rfl) ?_
    intro a151 ha151; clear ha149 a149
    refine wl_val ha151 rfl rfl rfl (op_assign ha151 rfl rfl) ?_
    intro a152 ha152; clear ha151 a151
    refine wl_val ha152 rfl rfl rfl (op_assign ha152 rfl rfl) ?_
    intro a153 ha153; clear ha152 a152
    refine wl_val ha153 rfl rfl rfl (op_assign ha153 rfl rfl) ?_
    intro a154 ha154; clear ha153 a153
    refine wpList_nil ?_
    refine then_n ?_
    refine wp_ret ?_
    refine ret3 ha154 rfl rfl rfl rfl ?_
    clear ha154 a154
    refine ret_mk hx150 ?_
    refine ⟨(((q19)) : List Ver), (q145 : Int), (((la ++ [(([97] : Str), (0 : Int))])) : List Line), (by first | assumption | omega | (constructor <;> omega) | (simp; done) | (simp; omega)), (by first | assumption | omega | (constructor <;> omega) | (simp; done) | (simp; omega)), (by first | assumption | omega | (constructor <;> omega) | (simp; done) | (simp; omega)), (by first | omega | (simp; done) | (simp; omega)), ?_⟩
    refine ⟨v15, z23, v115, (tup3_eq rfl (int_eq (by rfl)) rfl), hf52.fin (by omega) (by omega) (by omega), hf53.fin (by omega) (by omega), ?_, ?_⟩
    ·
     exact hE25
    ·
     refine (ho117.fin (by omega) (by omega) (by omega)).cast ?_
     rfl
   ·
    rw [decide_eq_false c105] at ha104
    refine cond_f ha104 rfl ?_
    refine wp_seq ?_
    refine wp_region_lit ?_
    refine wl_val ha104 rfl rfl rfl (op_eql ha104 rfl rfl rfl) ?_
    intro a155 ha155; clear ha104 a104
    refine wl_val ha155 rfl rfl rfl (op_assign ha155 rfl rfl) ?_
    intro a156 ha156; clear ha155 a155
    refine wpList_nil ?_
    refine then_n ?_
    by_cases c157 : (q97 : Int) = (1 : Int)
    ·
     rw [decide_eq_true c157] at ha156
     refine cond_t ha156 rfl ?_
     refine wp_seq ?_
     clear hf54
     refine wp_region_lit ?_
     refine wl_eff ha156 rfl rfl rfl (op_buildSlice (s := shLine) (xs := ([] : List (Str × Int))) (cs := []) (vs := []) (S := fun _ => False) (le := w94.heap.size) ha156 rfl pos_shLine Try.underlying34 ti83 rfl rfl (by decide) (by kernel_rfl) rfl (fun _ h => h.elim)) ?_
     rintro v158 w159 ⟨ho160, he161, hob162⟩ a163 ha163; clear ha156 a156
     have hx164 := hx102.trans' he161
     have hzhx164 := he161.size
     replace hf52 := hf52.ext he161
     replace hf53 := hf53.ext he161
     replace hS96 := hS96.ext he161
     refine wl_val ha163 rfl rfl rfl (op_assign ha163 rfl rfl) ?_
     intro a165 ha165; clear ha163 a163
     refine wpList_nil ?_
     refine then_n ?_
     refine wp_seq ?_
     refine wp_region_lit ?_
     refine wl_val ha165 rfl rfl rfl (op_assign ha165 rfl rfl) ?_
     intro a166 ha166; clear ha165 a165
     refine wpList_nil ?_
     refine then_n ?_
     refine wp_block ?_
     refine loop_inv (X := Nat × Value × (List (Str × Int))) (fun (⟨k, vb, lb⟩ : Nat × Value × (List (Str × Int))) fr wl => Sl 63 fr [(5, .pointer (some (⟨g8, 0, none⟩ : Addr))), (6, v15), (7, vb), (9, .int .i64 ((k : Nat) : Int))] ∧ Ext w0 wl ∧ Src wl g8 w0.heap.size 102 ∧ Own shVerN 56 w6.heap.size w6.heap.size w16.heap.size wl v15 z23 ∧ Nst shLine 83 (fun x : Int × List (Str × Int) => x.2) w6.heap.size w16.heap.size wl z23 ∧ Own shLine 83 w94.heap.size w94.heap.size wl.heap.size wl vb lb ∧ w159.heap.size ≤ wl.heap.size ∧ (k ≤ 9) ∧ (lb.length ≤ k)) (fun (⟨k, vb, lb⟩ : Nat × Value × (List (Str × Int))) => 9 - k) (0, v158, ([] : List (Str × Int))) ?_ ?_
     ·
      exact ⟨(Sl.cons_ ha166 rfl rfl (Sl.cons_ ha166 rfl rfl (Sl.cons_ ha166 rfl rfl (Sl.cons_ ha166 rfl (int_eq (by omega)) (Sl.nil_ ha166))))), hx164, hS96, hf52, hf53, (ho160.fin (by omega) (by omega) (by omega)), (by omega), (by omega), (by exact Nat.le_refl _)⟩
     ·
      clear ha166 a166
      rintro ⟨k, vb, lb⟩ a173 w167 ⟨ha173, hx168, hf169, hf170, hf171, hf172, hzl174, hk, hlb⟩
      have hzhx168 := hx168.size
      have hgl175 := hf169.lt
      refine wp_seq ?_
      refine wp_seq ?_
      refine wp_region_lit ?_
      refine wl_val ha173 rfl rfl rfl (op_move ha173 rfl rfl) ?_
      intro a176 ha176; clear ha173 a173
      refine wl_val ha176 rfl rfl rfl (op_move ha176 rfl rfl) ?_
      intro a177 ha177; clear ha176 a176
      refine wl_callS ha177 rfl rfl rfl (op_call ha177 rfl cb64 rfl) (c_spec_l01Next _ g8 w0.heap.size (2 : Int) hf169) ?_
      rintro v178 w179 he180 ⟨hS181, ⟨q182, hq183, hq184, hq185, rfl⟩⟩ a186 ha186; clear ha177 a177
      have hx187 := hx168.stp he180 (by intro q hq; cases hq; exact (by omega))
      have hzhx187 := he180.size
      first | replace hf170 := hf170.stp he180 (by intro q hq; cases hq; omega) | replace hf170 := hf170.stpF flat_shVerN he180 (by intro q hq; cases hq; exact hf170.ne_box (by assumption) rfl)
      first | replace hf171 := hf171.stp he180 (by intro q hq; cases hq; omega) | replace hf171 := hf171.stpB flat_shLine he180 (by assumption) rfl
      first | replace hf172 := hf172.stp he180 (by intro q hq; cases hq; omega) | replace hf172 := hf172.stpF flat_shLine he180 (by intro q hq; cases hq; exact hf172.ne_box (by assumption) rfl)
      clear hf169
      have hSlhS181 := hS181.lt
      refine wl_val ha186 rfl rfl rfl ((op_add ha186 rfl rfl rfl).int (IntWalk.i64_in _ (by omega))) ?_
      intro a188 ha188; clear ha186 a186
      refine wl_val ha188 rfl rfl rfl (op_lss ha188 rfl rfl rfl) ?_
      intro a189 ha189; clear ha188 a188
      refine wpList_nil ?_
      refine then_n ?_
      by_cases c190 : ((k : Nat) : Int) < ((8 : Int) + (q182 : Int))
      ·
       rw [decide_eq_true c190] at ha189
       refine cond_t ha189 rfl ?_
       refine wp_skip ?_
       refine then_n ?_
       refine wp_seq ?_
       refine wp_block ?_
       refine wp_region_lit ?_
       refine wl_val ha189 rfl rfl rfl (op_move ha189 rfl rfl) ?_
       intro a191 ha191; clear ha189 a189
       refine wl_val ha191 rfl rfl rfl (op_move ha191 rfl rfl) ?_
       intro a192 ha192; clear ha191 a191
       refine wl_val ha192 rfl rfl rfl (op_move ha192 rfl rfl) ?_
       intro a193 ha193; clear ha192 a192
       refine wl_val ha193 rfl rfl rfl ((op_add ha193 rfl rfl rfl).int (IntWalk.i64_in _ (by omega))) ?_
       intro a194 ha194; clear ha193 a193
       refine wl_val ha194 rfl rfl rfl (op_slice_str_b (i := k) (j := (k + 1)) (by omega) (by omega) ha194 rfl Try.underlying9 rfl rfl rfl (by first | omega | (simp; omega)) (by first | omega | (simp; omega))) ?_
       intro a195 ha195; clear ha194 a194
       refine wl_val ha195 rfl rfl rfl (op_build (vs := [(0, St (((([97, 98, 99, 100, 101, 102, 103, 104, 105] : Str)).take ((k + 1))).drop k))]) (cs := #[St (((([97, 98, 99, 100, 101, 102, 103, 104, 105] : Str)).take ((k + 1))).drop k), .int .i64 (0 : Int)]) ha195 rfl Try.underlying83 ti83 bp83 rfl rfl) ?_
       intro a196 ha196; clear ha195 a195
       refine wl_eff ha196 rfl rfl rfl (op_buildSlice (s := shLine) (xs := [(((([97, 98, 99, 100, 101, 102, 103, 104, 105] : Str)).take ((k + 1))).drop k, (0 : Int))]) (cs := [St (((([97, 98, 99, 100, 101, 102, 103, 104, 105] : Str)).take ((k + 1))).drop k), .int .i64 (0 : Int)]) (vs := [(0, .agg #[St (((([97, 98, 99, 100, 101, 102, 103, 104, 105] : Str)).take ((k + 1))).drop k), .int .i64 (0 : Int)])]) (S := fun _ => False) (le := w179.heap.size) ha196 rfl pos_shLine Try.underlying34 ti83 rfl rfl (by decide) (by kernel_rfl) (Els.single (mk_shLine ((((([97, 98, 99, 100, 101, 102, 103, 104, 105] : Str)).take ((k + 1))).drop k, (0 : Int))) (by first | omega | (simp only []; omega) | (simp; done) | (simp only [List.length_append, List.length_take, List.length_drop, List.length_cons, List.length_nil]; omega)) (by first | omega | (simp only []; omega) | (simp; done) | (simp only [List.length_append, List.length_take, List.length_drop, List.length_cons, List.length_nil]; omega)))) (fun _ h => h.elim)) ?_
       rintro v197 w198 ⟨ho199, he200, hob201⟩ a202 ha202; clear ha196 a196
       have hx203 := hx187.trans' he200
       have hzhx203 := he200.size
       replace hf170 := hf170.ext he200
       replace hf171 := hf171.ext he200
       replace hf172 := hf172.ext he200
       replace hS181 := hS181.ext he200
       refine wl_eff ha202 rfl rfl rfl (op_append (ts := #[]) (s := shLine) ha202 rfl Try.underlying34 ti83 rfl pos_shLine rfl rfl hf172 (ho199.rds pos_shLine) (by omega) (by omega) (by first | omega | (simp; omega)) (by first | omega | (simp; omega)) (.inl flat_shLine)) ?_
       rintro v204 w205 ⟨ho206, hst207, hob208⟩ a209 ha209; clear ha202 a202
       have hx210 := hx203.stp hst207 (by intro q hq; have hq0 := hf172.lt q hq; omega)
       have hzhx210 := hst207.size
       replace hf170 := hf170.stp hst207 (by intro q hq; have hq0 := hf172.lt q hq; omega)
       replace hf171 := hf171.stp hst207 (by intro q hq; have hq0 := hf172.lt q hq; omega)
       replace hS181 := hS181.stp hst207 (by intro q hq; have hq0 := hf172.lt q hq; omega)
       replace ho199 := ho199.stp hst207 (by intro q hq; have hq0 := hf172.lt q hq; omega)
       have hsp211 : ∀ q, Value.ownBlock v204 = some q → Value.ownBlock v197 ≠ some q := by intro q hq hb; have hq0 := ho199.lt q hb; rcases hob208 with h | h; (rw [h] at hq; first | (have hq1 := hf172.lt q hq; omega)); (rw [h] at hq; cases hq; omega)
       refine wl_val ha209 rfl rfl rfl (op_assign ha209 rfl rfl) ?_
       intro a212 ha212; clear ha209 a209
       refine wpList_nil ?_
       refine block_n ?_
       refine then_n ?_
       clear ho199
       refine wp_region_lit ?_
       refine wl_val ha212 rfl rfl rfl (op_move ha212 rfl rfl) ?_
       intro a213 ha213; clear ha212 a212
       refine wl_val ha213 rfl rfl rfl ((op_add ha213 rfl rfl rfl).int (IntWalk.i64_in _ (by omega))) ?_
       intro a214 ha214; clear ha213 a213
       refine wl_val ha214 rfl rfl rfl (op_assign ha214 rfl rfl) ?_
       intro a215 ha215; clear ha214 a214
       refine wpList_nil ?_
       refine round_end (x := (k, vb, lb)) ((k + 1), v204, (lb ++ [(((([97, 98, 99, 100, 101, 102, 103, 104, 105] : Str)).take ((k + 1))).drop k, (0 : Int))])) ?_ ?_
       ·
        refine ⟨(Sl.cons_ ha215 rfl rfl (Sl.cons_ ha215 rfl rfl (Sl.cons_ ha215 rfl rfl (Sl.cons_ ha215 rfl (int_eq (by omega)) (Sl.nil_ ha215))))), hx210, hS181, hf170, hf171, (ho206.fin (by omega) (by omega) (by omega)), (by omega), (by omega), (by first | omega | (simp; omega))⟩
       ·show (9 - ((k + 1)) : Nat) < 9 - k; omega
      ·
       rw [decide_eq_false c190] at ha189
       refine cond_f ha189 rfl ?_
       refine wp_exit ?_
       refine then_e ?_
       refine then_e ?_
       refine block_hit ?_
       refine block_n ?_
       refine then_n ?_
       refine wp_seq ?_
       refine wp_region_lit ?_
       refine wl_val ha189 rfl rfl rfl (op_move ha189 rfl rfl) ?_
       intro a216 ha216; clear ha189 a189
       refine wl_val ha216 rfl rfl rfl (op_move ha216 rfl rfl) ?_
       intro a217 ha217; clear ha216 a216
       refine wl_val ha217 rfl rfl rfl (op_move ha217 rfl rfl) ?_
       intro a218 ha218; clear ha217 a217
       refine wl_val ha218 rfl rfl rfl (op_len_sl ha218 rfl Try.underlying27 rfl (hf170.rds pos_shVerN)) ?_
       intro a219 ha219; clear ha218 a218
       refine wl_val ha219 rfl rfl rfl (op_move ha219 rfl rfl) ?_
       intro a220 ha220; clear ha219 a219
       refine wl_callS ha220 rfl rfl rfl (op_call ha220 rfl cb64 rfl) (c_spec_l01Next _ g8 w0.heap.size (12 : Int) hS181) ?_
       rintro v221 w222 he223 ⟨hS224, ⟨q225, hq226, hq227, hq228, rfl⟩⟩ a229 ha229; clear ha220 a220
       have hx230 := hx187.stp he223 (by intro q hq; cases hq; exact (by omega))
       have hzhx230 := he223.size
       first | replace hf170 := hf170.stp he223 (by intro q hq; cases hq; omega) | replace hf170 := hf170.stpF flat_shVerN he223 (by intro q hq; cases hq; exact hf170.ne_box (by assumption) rfl)
       first | replace hf171 := hf171.stp he223 (by intro q hq; cases hq; omega) | replace hf171 := hf171.stpB flat_shLine he223 (by assumption) rfl
       first | replace hf172 := hf172.stp he223 (by intro q hq; cases hq; omega) | replace hf172 := hf172.stpF flat_shLine he223 (by intro q hq; cases hq; exact hf172.ne_box (by assumption) rfl)
       clear hS181
       have hSlhS224 := hS224.lt
       refine wl_val ha229 rfl rfl rfl ((op_quo ha229 rfl rfl rfl (by omega)).int (IntWalk.i64_quo _ _ (by omega))) ?_
       intro a231 ha231; clear ha229 a229
       refine wl_val ha231 rfl rfl rfl ((op_add ha231 rfl rfl rfl).int (IntWalk.i64_in _ (by omega))) ?_
       intro a232 ha232; clear ha231 a231
       refine wl_callS ha232 rfl rfl rfl (op_call ha232 rfl cb64 rfl) (c_spec_l01Next _ g8 w0.heap.size (((z23.length : Nat) : Int) + ((q225 : Int) / (11 : Int))) hS224) ?_
       rintro v233 w234 he235 ⟨hS236, ⟨q237, hq238, hq239, hq240, rfl⟩⟩ a241 ha241; clear ha232 a232
       have hx242 := hx230.stp he235 (by intro q hq; cases hq; exact (by omega))
       have hzhx242 := he235.size
       first | replace hf170 := hf170.stp he235 (by intro q hq; cases hq; omega) | replace hf170 := hf170.stpF flat_shVerN he235 (by intro q hq; cases hq; exact hf170.ne_box (by assumption) rfl)
       first | replace hf171 := hf171.stp he235 (by intro q hq; cases hq; omega) | replace hf171 := hf171.stpB flat_shLine he235 (by assumption) rfl
       first | replace hf172 := hf172.stp he235 (by intro q hq; cases hq; omega) | replace hf172 := hf172.stpF flat_shLine he235 (by intro q hq; cases hq; exact hf172.ne_box (by assumption) rfl)
       clear hS224
       have hSlhS236 := hS236.lt
       refine wl_val ha241 rfl rfl rfl (op_move ha241 rfl rfl) ?_
       intro a243 ha243; clear ha241 a241
       refine wl_val ha243 rfl rfl rfl (op_assign ha243 rfl rfl) ?_
       intro a244 ha244; clear ha243 a243
       refine wl_val ha244 rfl rfl rfl (op_assign ha244 rfl rfl) ?_
       intro a245 ha245; clear ha244 a244
       refine wl_val ha245 rfl rfl rfl (op_assign ha245 rfl rfl) ?_
       intro a246 ha246; clear ha245 a245
       refine wpList_nil ?_
       refine then_n ?_
       refine wp_ret ?_
       refine ret3 ha246 rfl rfl rfl rfl ?_
       clear ha246 a246
       refine ret_mk hx242 ?_
       refine ⟨(((q19)) : List Ver), (q237 : Int), ((lb) : List Line), (by first | assumption | omega | (constructor <;> omega) | (simp; done) | (simp; omega)), (by first | assumption | omega | (constructor <;> omega) | (simp; done) | (simp; omega)), (by first | assumption | omega | (constructor <;> omega) | (simp; done) | (simp; omega)), (by first | omega | (simp; done) | (simp; omega)), ?_⟩
       refine ⟨v15, z23, vb, (tup3_eq rfl (int_eq (by rfl)) rfl), hf170.fin (by omega) (by omega) (by omega), hf171.fin (by omega) (by omega), ?_, ?_⟩
       ·
        exact hE25
       ·
        refine (hf172.fin (by omega) (by omega) (by omega)).cast ?_
        rfl
    ·
     rw [decide_eq_false c157] at ha156
     refine cond_f ha156 rfl ?_
     refine wp_skip ?_
     refine block_n ?_
     refine then_n ?_
     refine wp_seq ?_
     refine wp_region_lit ?_
     refine wl_val ha156 rfl rfl rfl (op_move ha156 rfl rfl) ?_
     intro a247 ha247; clear ha156 a156
     refine wl_val ha247 rfl rfl rfl (op_move ha247 rfl rfl) ?_
     intro a248 ha248; clear ha247 a247
     refine wl_val ha248 rfl rfl rfl (op_move ha248 rfl rfl) ?_
     intro a249 ha249; clear ha248 a248
     refine wl_val ha249 rfl rfl rfl (op_len_sl ha249 rfl Try.underlying27 rfl (hf52.rds pos_shVerN)) ?_
     intro a250 ha250; clear ha249 a249
     refine wl_val ha250 rfl rfl rfl (op_move ha250 rfl rfl) ?_
     intro a251 ha251; clear ha250 a250
     refine wl_callS ha251 rfl rfl rfl (op_call ha251 rfl cb64 rfl) (c_spec_l01Next _ g8 w0.heap.size (12 : Int) hS96) ?_
     rintro v252 w253 he254 ⟨hS255, ⟨q256, hq257, hq258, hq259, rfl⟩⟩ a260 ha260; clear ha251 a251
     have hx261 := hx102.stp he254 (by intro q hq; cases hq; exact (by omega))
     have hzhx261 := he254.size
     first | replace hf52 := hf52.stp he254 (by intro q hq; cases hq; omega) | replace hf52 := hf52.stpF flat_shVerN he254 (by intro q hq; cases hq; exact hf52.ne_box (by assumption) rfl)
     first | replace hf53 := hf53.stp he254 (by intro q hq; cases hq; omega) | replace hf53 := hf53.stpB flat_shLine he254 (by assumption) rfl
     first | replace hf54 := hf54.stp he254 (by intro q hq; cases hq; omega) | replace hf54 := hf54.stpF flat_shLine he254 (by intro q hq; cases hq; exact hf54.ne_box (by assumption) rfl)
     clear hS96
     have hSlhS255 := hS255.lt
     refine wl_val ha260 rfl rfl rfl ((op_quo ha260 rfl rfl rfl (by omega)).int (IntWalk.i64_quo _ _ (by omega))) ?_
     intro a262 ha262; clear ha260 a260
     refine wl_val ha262 rfl rfl rfl ((op_add ha262 rfl rfl rfl).int (IntWalk.i64_in _ (by omega))) ?_
     intro a263 ha263; clear ha262 a262
     refine wl_callS ha263 rfl rfl rfl (op_call ha263 rfl cb64 rfl) (c_spec_l01Next _ g8 w0.heap.size (((z23.length : Nat) : Int) + ((q256 : Int) / (11 : Int))) hS255) ?_
     rintro v264 w265 he266 ⟨hS267, ⟨q268, hq269, hq270, hq271, rfl⟩⟩ a272 ha272; clear ha263 a263
     have hx273 := hx261.stp he266 (by intro q hq; cases hq; exact (by omega))
     have hzhx273 := he266.size
     first | replace hf52 := hf52.stp he266 (by intro q hq; cases hq; omega) | replace hf52 := hf52.stpF flat_shVerN he266 (by intro q hq; cases hq; exact hf52.ne_box (by assumption) rfl)
     first | replace hf53 := hf53.stp he266 (by intro q hq; cases hq; omega) | replace hf53 := hf53.stpB flat_shLine he266 (by assumption) rfl
     first | replace hf54 := hf54.stp he266 (by intro q hq; cases hq; omega) | replace hf54 := hf54.stpF flat_shLine he266 (by intro q hq; cases hq; exact hf54.ne_box (by assumption) rfl)
     clear hS255
     have hSlhS267 := hS267.lt
     refine wl_val ha272 rfl rfl rfl (op_move ha272 rfl rfl) ?_
     intro a274 ha274; clear ha272 a272
     refine wl_val ha274 rfl rfl rfl (op_assign ha274 rfl rfl) ?_
     intro a275 ha275; clear ha274 a274
     refine wl_val ha275 rfl rfl rfl (op_assign ha275 rfl rfl) ?_
     intro a276 ha276; clear ha275 a275
     refine wl_val ha276 rfl rfl rfl (op_assign ha276 rfl rfl) ?_
     intro a277 ha277; clear ha276 a276
     refine wpList_nil ?_
     refine then_n ?_
     refine wp_ret ?_
     refine ret3 ha277 rfl rfl rfl rfl ?_
     clear ha277 a277
     refine ret_mk hx273 ?_
     refine ⟨(((q19)) : List Ver), (q268 : Int), ((la) : List Line), (by first | assumption | omega | (constructor <;> omega) | (simp; done) | (simp; omega)), (by first | assumption | omega | (constructor <;> omega) | (simp; done) | (simp; omega)), (by first | assumption | omega | (constructor <;> omega) | (simp; done) | (simp; omega)), (by first | omega | (simp; done) | (simp; omega)), ?_⟩
     refine ⟨v15, z23, va, (tup3_eq rfl (int_eq (by rfl)) rfl), hf52.fin (by omega) (by omega) (by omega), hf53.fin (by omega) (by omega), ?_, ?_⟩
     ·
      exact hE25
     ·
      refine (hf54.fin (by omega) (by omega) (by omega)).cast ?_
      rfl


end Go.Proofs.Ytllpdkidaldkiaa
