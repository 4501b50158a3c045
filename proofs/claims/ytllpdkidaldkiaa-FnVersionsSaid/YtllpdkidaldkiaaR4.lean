/- Versions drawn, rarely others. -/
import Derived.Test.YtllpdkidaldkiaaR3
namespace Go.Proofs.Ytllpdkidaldkiaa
open Go Go.RowKit

set_option maxHeartbeats 4000000 in
theorem c_spec_l29Draw (w0 : World) (g_s b_s : Nat) (h_s : Src w0 g_s b_s 102) :
  Calls Try.prog 76 #[.pointer (some (⟨g_s, 0, none⟩ : Addr))] w0 (RetS w0 (some g_s) (fun v w1 => Src w1 g_s b_s 102 ∧ (fun v w1 => ∃ (l : List Ver), (l.length ≤ 22) ∧ (∀ c ∈ l, c.2.length ≤ 9) ∧ (fun v w1 => ∃ z, Own shVerN 56 w0.heap.size w0.heap.size w1.heap.size w1 v z ∧ Nst shLine 83 (fun x : Int × List (Str × Int) => x.2) w0.heap.size w1.heap.size w1 z ∧ z.map (·.1) = (l)) v w1) v w1)) := by
 refine enter (N := 45) Try.func76 rfl rfl rfl ?_
 intro a0 ha0
 have hx0 := Stp.rfl' w0 (some g_s)
 have hgl_s := h_s.lt
 refine wp_seq ?_
 refine wp_region_lit ?_
 refine wl_val ha0 rfl rfl rfl (op_assign ha0 rfl rfl) ?_
 intro a1 ha1; clear ha0 a0
 refine wpList_nil ?_
 refine then_n ?_
 refine wp_seq ?_
 refine wp_region_lit ?_
 refine wl_val ha1 rfl rfl rfl (op_move ha1 rfl rfl) ?_
 intro a2 ha2; clear ha1 a1
 refine wl_callS ha2 rfl rfl rfl (op_call ha2 rfl cb87 rfl) (c_spec_l29Good _ g_s b_s h_s) ?_
 rintro v3 w4 he5 ⟨hS6, ⟨q7, hq8, ⟨z10, ho9, hN11, hE12⟩⟩⟩ a13 ha13; clear ha2 a2
 have hx14 := hx0.trans' he5
 have hzhx14 := he5.size
 have hSlhS6 := hS6.lt
 have hlhE12 := absLen hE12
 have hvl := veB_len hq8
 have hvm := ve_lines hq8
 refine wl_val ha13 rfl rfl rfl (op_assign ha13 rfl rfl) ?_
 intro a15 ha15; clear ha13 a13
 refine wpList_nil ?_
 refine then_n ?_
 refine wp_seq ?_
 refine wp_seq ?_
 refine wp_region_lit ?_
 refine wl_val ha15 rfl rfl rfl (op_move ha15 rfl rfl) ?_
 intro a16 ha16; clear ha15 a15
 refine wl_callS ha16 rfl rfl rfl (op_call ha16 rfl cb64 rfl) (c_spec_l01Next _ g_s b_s (40 : Int) hS6) ?_
 rintro v17 w18 he19 ⟨hS20, ⟨q21, hq22, hq23, hq24, rfl⟩⟩ a25 ha25; clear ha16 a16
 have hx26 := hx14.trans' he19
 have hzhx26 := he19.size
 first | replace ho9 := ho9.stp he19 (by intro q hq; cases hq; omega) | replace ho9 := ho9.stpF flat_shVerN he19 (by intro q hq; cases hq; exact ho9.ne_box (by assumption) rfl)
 first | replace hN11 := hN11.stp he19 (by intro q hq; cases hq; omega) | replace hN11 := hN11.stpB flat_shLine he19 (by assumption) rfl
 clear hS6
 have hSlhS20 := hS20.lt
 refine wpList_nil ?_
 refine then_n ?_
 refine wp_block ?_
 refine wp_seq ?_
 refine wp_region_lit ?_
 refine wl_val ha25 rfl rfl rfl (op_eql ha25 rfl rfl rfl) ?_
 intro a27 ha27; clear ha25 a25
 refine wl_val ha27 rfl rfl rfl (op_assign ha27 rfl rfl) ?_
 intro a28 ha28; clear ha27 a27
 refine wpList_nil ?_
 refine then_n ?_
 by_cases c29 : (q21 : Int) = (0 : Int)
 ·
  rw [decide_eq_true c29] at ha28
  refine cond_t ha28 rfl ?_
  refine wp_region_lit ?_
  refine wl_val ha28 rfl rfl rfl (op_move ha28 rfl rfl) ?_
  intro a30 ha30; clear ha28 a28
  obtain ⟨x31, hx31⟩ := get_ex (xs := z10) (j := 0) (by first | omega | (simp only [List.length_cons, List.length_nil]; omega))
  obtain ⟨p32, c33, hi34, hc35, hr36, hs37⟩ := Rds.at_ (ho9.rds pos_shVerN) hx31
  obtain ⟨rfl, b38, b39⟩ := inv_shVerN hr36
  have hn40 : Own shLine 83 w0.heap.size w0.heap.size w4.heap.size w18 x31.2 x31.1.2 := hN11.get hx31
  obtain ⟨_, _⟩ : _ ∧ _ := hs37
  refine wl_val ha30 rfl rfl rfl (op_indexAddr ha30 rfl Try.underlying27 ti56 rfl rfl (by omega) hi34) ?_
  intro a41 ha41; clear ha30 a30
  refine wl_val ha41 rfl rfl rfl (op_fieldAddr (sz := 0) ha41 rfl Try.underlying56 rfl rfl ti2 rfl) ?_
  intro a42 ha42; clear ha41 a41
  refine wl_effS ha42 rfl rfl (op_setCells (s := shVerN) (off := 0) (ds := [.int .i64 (0 : Int)]) (S' := fun _ => False) ha42 rfl ti2 rfl rfl rfl rfl (by simp [Value.oneCell']) ho9 hi34 (by first | omega | (simp only [List.length_cons, List.length_nil]; omega)) (Nat.le_of_ble_eq_true rfl) hc35 rfl (mk_shVerN (((((0 : Int), x31.1.2) : Int × List (Str × Int)), (x31.2 : Value))) (by first | omega | (simp only []; omega) | (simp; done)) hn40.one) (fun _ h => h.elim)) ?_
  rintro w43 ⟨ho45, hst44, hz46⟩
  have hx47 := hx26.fresh hst44 (by intro q hq; have hq0 := ho9.lt q hq; omega)
  have hzhx47 := hst44.size
  first | replace hN11 := hN11.stpF flat_shLine hst44 ho9 rfl | replace hN11 := hN11.stp hst44 (by intro q hq; have hq0 := ho9.lt q hq; omega)
  replace hS20 := hS20.stp hst44 (by intro q hq; have hq0 := ho9.lt q hq; omega)
  first | replace hn40 := hn40.stp hst44 (by intro q hq; have hq0 := ho9.lt q hq; omega) | replace hn40 := hn40.stpF flat_shLine hst44 (hn40.ne ho9 rfl)
  clear ho9
  have hlsho45 : ((z10.set 0 (((((0 : Int), x31.1.2) : Int × List (Str × Int)), (x31.2 : Value))))).length = z10.length := List.length_set
  have hN48 : Nst shLine 83 (fun x : Int × List (Str × Int) => x.2) w0.heap.size w4.heap.size w43 ((z10.set 0 (((((0 : Int), x31.1.2) : Int × List (Str × Int)), (x31.2 : Value))))) := hN11.stay hx31 rfl
  refine wpList_nil ?_
  refine block_n ?_
  refine then_n ?_
  refine wp_seq ?_
  refine wp_region_lit ?_
  refine wl_val ha42 rfl rfl rfl (op_move ha42 rfl rfl) ?_
  intro a49 ha49; clear ha42 a42
  refine wl_val ha49 rfl rfl rfl (op_assign ha49 rfl rfl) ?_
  intro a50 ha50; clear ha49 a49
  refine wpList_nil ?_
  refine then_n ?_
  refine wp_ret ?_
  refine ret1 ha50 rfl rfl ?_
  clear ha50 a50
  refine ret_mkS hx47 ⟨hS20, ?_⟩
  refine ⟨(((z10.set 0 (((((0 : Int), x31.1.2) : Int × List (Str × Int)), (x31.2 : Value)))).map (·.1)) : List Ver), (by first | omega | (simp; done) | (simp; omega)), (by intro c hc; first | (obtain ⟨z, hz, rfl⟩ := List.mem_map.1 hc; first | (have h9 := ve_lines hq8 z.1 (by rw [← hE12]; exact List.mem_map_of_mem hz); omega) | (exact hZ z hz) | (rcases List.mem_or_eq_of_mem_set hz with hz | hz; (have h9 := ve_lines hq8 z.1 (by rw [← hE12]; exact List.mem_map_of_mem hz); omega); (subst hz; have h9 := ve_lines hq8 _ (by rw [← hE12]; exact List.mem_map_of_mem (List.mem_of_getElem? (by assumption))); exact Nat.le_trans h9 (by decide))) | (rcases List.mem_append.1 hz with hz | hz; (have h9 := ve_lines hq8 z.1 (by rw [← hE12]; exact List.mem_map_of_mem hz); omega); (obtain rfl := List.mem_singleton.1 hz; exact Nat.le_of_ble_eq_true rfl)) | (cases hz; done))), ?_⟩
  refine ⟨(z10.set 0 (((((0 : Int), x31.1.2) : Int × List (Str × Int)), (x31.2 : Value)))), ho45.fin (by omega) (by omega) (by omega), hN48.fin (by omega) (by omega), ?_⟩
  ·
   rfl
 ·
  rw [decide_eq_false c29] at ha28
  refine cond_f ha28 rfl ?_
  refine wp_seq ?_
  refine wp_region_lit ?_
  refine wl_val ha28 rfl rfl rfl (op_eql ha28 rfl rfl rfl) ?_
  intro a51 ha51; clear ha28 a28
  refine wl_val ha51 rfl rfl rfl (op_assign ha51 rfl rfl) ?_
  intro a52 ha52; clear ha51 a51
  refine wpList_nil ?_
  refine then_n ?_
  by_cases c53 : (q21 : Int) = (1 : Int)
  ·
   rw [decide_eq_true c53] at ha52
   refine cond_t ha52 rfl ?_
   refine wp_region_lit ?_
   refine wl_val ha52 rfl rfl rfl (op_move ha52 rfl rfl) ?_
   intro a54 ha54; clear ha52 a52
   refine wl_val ha54 rfl rfl rfl (op_move ha54 rfl rfl) ?_
   intro a55 ha55; clear ha54 a54
   refine wl_eff ha55 rfl rfl rfl (op_buildSlice (s := shI64) (xs := [(-1 : Int), (0 : Int), (30 : Int)]) (cs := [.int .i64 (-1 : Int), .int .i64 (0 : Int), .int .i64 (30 : Int)]) (vs := [(0, .int .i64 (-1 : Int)), (1, .int .i64 (0 : Int)), (2, .int .i64 (30 : Int))]) (S := fun _ => False) (le := w18.heap.size) ha55 rfl pos_shI64 Try.underlying46 ti2 rfl rfl (by decide) (by kernel_rfl) ⟨mk_shI64 ((-1 : Int)) (by first | omega | (simp only []; omega) | (simp; done)), mk_shI64 ((0 : Int)) (by first | omega | (simp only []; omega) | (simp; done)), mk_shI64 ((30 : Int)) (by first | omega | (simp only []; omega) | (simp; done)), rfl⟩ (fun _ h => h.elim)) ?_
   rintro v56 w57 ⟨ho58, he59, hob60⟩ a61 ha61; clear ha55 a55
   have hx62 := hx26.trans' (Stp.of_ext he59 _)
   have hzhx62 := he59.size
   replace ho9 := ho9.ext he59
   replace hN11 := hN11.ext he59
   replace hS20 := hS20.ext he59
   refine wl_callS ha61 rfl rfl rfl (op_call ha61 rfl cb65 rfl) (c_spec_l01Pick _ g_s b_s v56 ([(-1 : Int), (0 : Int), (30 : Int)]) hS20 (ho58.rds pos_shI64) (by rintro ⟨_, _⟩; omega) (by first | assumption | omega | (simp; done) | (simp; omega) | decide)) ?_
   rintro v63 w64 he65 ⟨hS66, ⟨q67, hq68, rfl⟩⟩ a69 ha69; clear ha61 a61
   have hx70 := hx62.trans' he65
   have hzhx70 := he65.size
   first | replace ho9 := ho9.stp he65 (by intro q hq; cases hq; omega) | replace ho9 := ho9.stpF flat_shVerN he65 (by intro q hq; cases hq; exact ho9.ne_box (by assumption) rfl)
   first | replace hN11 := hN11.stp he65 (by intro q hq; cases hq; omega) | replace hN11 := hN11.stpB flat_shLine he65 (by assumption) rfl
   first | replace ho58 := ho58.stp he65 (by intro q hq; cases hq; omega) | replace ho58 := ho58.stpF flat_shI64 he65 (by intro q hq; cases hq; exact ho58.ne_box (by assumption) rfl)
   clear hS20
   have hSlhS66 := hS66.lt
   simp only [List.mem_cons, List.not_mem_nil, or_false] at hq68
   refine wl_val ha69 rfl rfl rfl (op_move ha69 rfl rfl) ?_
   intro a71 ha71; clear ha69 a69
   refine wl_callS ha71 rfl rfl rfl (op_call ha71 rfl cb83 rfl) (c_spec_l01DrawWord _ g_s b_s hS66) ?_
   rintro v72 w73 he74 ⟨hS75, ⟨q76, hq77, rfl⟩⟩ a78 ha78; clear ha71 a71
   have hx79 := hx70.trans' he74
   have hzhx79 := he74.size
   first | replace ho9 := ho9.stp he74 (by intro q hq; cases hq; omega) | replace ho9 := ho9.stpF flat_shVerN he74 (by intro q hq; cases hq; exact ho9.ne_box (by assumption) rfl)
   first | replace hN11 := hN11.stp he74 (by intro q hq; cases hq; omega) | replace hN11 := hN11.stpB flat_shLine he74 (by assumption) rfl
   first | replace ho58 := ho58.stp he74 (by intro q hq; cases hq; omega) | replace ho58 := ho58.stpF flat_shI64 he74 (by intro q hq; cases hq; exact ho58.ne_box (by assumption) rfl)
   clear hS66
   have hSlhS75 := hS75.lt
   refine wl_val ha78 rfl rfl rfl (op_move ha78 rfl rfl) ?_
   intro a80 ha80; clear ha78 a78
   refine wl_eff ha80 rfl rfl rfl (op_buildSlice (s := shI64) (xs := [(-1 : Int), (0 : Int), (1000000 : Int), (1000001 : Int)]) (cs := [.int .i64 (-1 : Int), .int .i64 (0 : Int), .int .i64 (1000000 : Int), .int .i64 (1000001 : Int)]) (vs := [(0, .int .i64 (-1 : Int)), (1, .int .i64 (0 : Int)), (2, .int .i64 (1000000 : Int)), (3, .int .i64 (1000001 : Int))]) (S := fun _ => False) (le := w73.heap.size) ha80 rfl pos_shI64 Try.underlying46 ti2 rfl rfl (by decide) (by kernel_rfl) ⟨mk_shI64 ((-1 : Int)) (by first | omega | (simp only []; omega) | (simp; done)), mk_shI64 ((0 : Int)) (by first | omega | (simp only []; omega) | (simp; done)), mk_shI64 ((1000000 : Int)) (by first | omega | (simp only []; omega) | (simp; done)), mk_shI64 ((1000001 : Int)) (by first | omega | (simp only []; omega) | (simp; done)), rfl⟩ (fun _ h => h.elim)) ?_
   rintro v81 w82 ⟨ho83, he84, hob85⟩ a86 ha86; clear ha80 a80
   have hx87 := hx79.trans' (Stp.of_ext he84 _)
   have hzhx87 := he84.size
   replace ho9 := ho9.ext he84
   replace hN11 := hN11.ext he84
   replace ho58 := ho58.ext he84
   replace hS75 := hS75.ext he84
   refine wl_callS ha86 rfl rfl rfl (op_call ha86 rfl cb65 rfl) (c_spec_l01Pick _ g_s b_s v81 ([(-1 : Int), (0 : Int), (1000000 : Int), (1000001 : Int)]) hS75 (ho83.rds pos_shI64) (by rintro ⟨_, _⟩; omega) (by first | assumption | omega | (simp; done) | (simp; omega) | decide)) ?_
   rintro v88 w89 he90 ⟨hS91, ⟨q92, hq93, rfl⟩⟩ a94 ha94; clear ha86 a86
   have hx95 := hx87.trans' he90
   have hzhx95 := he90.size
   first | replace ho9 := ho9.stp he90 (by intro q hq; cases hq; omega) | replace ho9 := ho9.stpF flat_shVerN he90 (by intro q hq; cases hq; exact ho9.ne_box (by assumption) rfl)
   first | replace hN11 := hN11.stp he90 (by intro q hq; cases hq; omega) | replace hN11 := hN11.stpB flat_shLine he90 (by assumption) rfl
   first | replace ho58 := ho58.stp he90 (by intro q hq; cases hq; omega) | replace ho58 := ho58.stpF flat_shI64 he90 (by intro q hq; cases hq; exact ho58.ne_box (by assumption) rfl)
   first | replace ho83 := ho83.stp he90 (by intro q hq; cases hq; omega) | replace ho83 := ho83.stpF flat_shI64 he90 (by intro q hq; cases hq; exact ho83.ne_box (by assumption) rfl)
   clear hS75
   have hSlhS91 := hS91.lt
   simp only [List.mem_cons, List.not_mem_nil, or_false] at hq93
   refine wl_val ha94 rfl rfl rfl (op_build (vs := [(0, St ((q76))), (1, .int .i64 (q92 : Int))]) (cs := #[St ((q76)), .int .i64 (q92 : Int)]) ha94 rfl Try.underlying83 ti83 bp83 rfl rfl) ?_
   intro a96 ha96; clear ha94 a94
   refine wl_eff ha96 rfl rfl rfl (op_buildSlice (s := shLine) (xs := [((q76), (q92 : Int))]) (cs := [St ((q76)), .int .i64 (q92 : Int)]) (vs := [(0, .agg #[St ((q76)), .int .i64 (q92 : Int)])]) (S := fun _ => False) (le := w89.heap.size) ha96 rfl pos_shLine Try.underlying34 ti83 rfl rfl (by decide) (by kernel_rfl) (Els.single (mk_shLine (((q76), (q92 : Int))) (by first | omega | (simp only []; omega) | (simp; done)) (by first | omega | (simp only []; omega) | (simp; done)))) (fun _ h => h.elim)) ?_
   rintro v97 w98 ⟨ho99, he100, hob101⟩ a102 ha102; clear ha96 a96
   have hx103 := hx95.trans' (Stp.of_ext he100 _)
   have hzhx103 := he100.size
   replace ho9 := ho9.ext he100
   replace hN11 := hN11.ext he100
   replace ho58 := ho58.ext he100
   replace ho83 := ho83.ext he100
   replace hS91 := hS91.ext he100
   refine wl_val ha102 rfl rfl rfl (op_build (vs := [(0, .int .i64 (q67 : Int)), (1, v97)]) (cs := #[.int .i64 (q67 : Int), v97]) ha102 rfl Try.underlying56 ti56 bp56 rfl ((fill_one rfl rfl rfl).trans ((fill_one ho99.cells1 rfl rfl).trans rfl))) ?_
   intro a104 ha104; clear ha102 a102
   refine wl_eff ha104 rfl rfl rfl (op_buildSlice (s := shVerN) (xs := [((((q67 : Int), [((q76), (q92 : Int))]) : Int × List (Str × Int)), (v97 : Value))]) (cs := [.int .i64 (q67 : Int), v97]) (vs := [(0, .agg #[.int .i64 (q67 : Int), v97])]) (S := fun _ => False) (le := w98.heap.size) ha104 rfl pos_shVerN Try.underlying27 ti56 rfl rfl (by decide) (by kernel_rfl) (Els.single (mk_shVerN (((((q67 : Int), [((q76), (q92 : Int))]) : Int × List (Str × Int)), (v97 : Value))) (by first | omega | (simp only []; omega) | (simp; done)) ho99.one)) (fun _ h => h.elim)) ?_
   rintro v105 w106 ⟨ho107, he108, hob109⟩ a110 ha110; clear ha104 a104
   have hx111 := hx103.trans' (Stp.of_ext he108 _)
   have hzhx111 := he108.size
   replace ho9 := ho9.ext he108
   replace hN11 := hN11.ext he108
   replace ho58 := ho58.ext he108
   replace ho83 := ho83.ext he108
   replace hS91 := hS91.ext he108
   replace ho99 := ho99.ext he108
   have hN112 : Nst shLine 83 (fun x : Int × List (Str × Int) => x.2) w89.heap.size w106.heap.size w106 ([((((q67 : Int), [((q76), (q92 : Int))]) : Int × List (Str × Int)), (v97 : Value))]) := Nst.one (ho99.fin (by omega) (by omega) (by omega))
   refine wl_eff ha110 rfl rfl rfl (op_append (ts := #[]) (s := shVerN) ha110 rfl Try.underlying27 ti56 rfl pos_shVerN rfl rfl ho9 (ho107.rds pos_shVerN) (by omega) (by omega) (by first | omega | (simp; omega)) (by first | omega | (simp; omega)) (.inl flat_shVerN)) ?_
   rintro v113 w114 ⟨ho115, hst116, hob117⟩ a118 ha118; clear ha110 a110
   have hx119 := hx111.fresh hst116 (by intro q hq; have hq0 := ho9.lt q hq; omega)
   have hzhx119 := hst116.size
   first | replace hN11 := hN11.stpF flat_shLine hst116 ho9 rfl | replace hN11 := hN11.stp hst116 (by intro q hq; have hq0 := ho9.lt q hq; omega)
   replace ho58 := ho58.stp hst116 (by intro q hq; have hq0 := ho9.lt q hq; omega)
   replace ho83 := ho83.stp hst116 (by intro q hq; have hq0 := ho9.lt q hq; omega)
   replace hS91 := hS91.stp hst116 (by intro q hq; have hq0 := ho9.lt q hq; omega)
   replace ho99 := ho99.stp hst116 (by intro q hq; have hq0 := ho9.lt q hq; omega)
   replace ho107 := ho107.stp hst116 (by intro q hq; have hq0 := ho9.lt q hq; omega)
   replace hN112 := hN112.stp hst116 (by intro q hq; have hq0 := ho9.lt q hq; omega)
   have hsp120 : ∀ q, Value.ownBlock v113 = some q → Value.ownBlock v105 ≠ some q := by intro q hq hb; have hq0 := ho107.lt q hb; rcases hob117 with h | h; (rw [h] at hq; first | (have hq1 := ho9.lt q hq; omega)); (rw [h] at hq; cases hq; omega)
   have hN121 : Nst shLine 83 (fun x : Int × List (Str × Int) => x.2) w0.heap.size w114.heap.size w114 ((z10 ++ [((((q67 : Int), [((q76), (q92 : Int))]) : Int × List (Str × Int)), (v97 : Value))])) := (hN11.app hN112 (by omega) (by omega) (by omega)).fin (by omega) (by omega)
   refine wl_val ha118 rfl rfl rfl (op_assign ha118 rfl rfl) ?_
   intro a122 ha122; clear ha118 a118
   refine wpList_nil ?_
   refine block_n ?_
   refine then_n ?_
   refine wp_seq ?_
   refine wp_region_lit ?_
   refine wl_val ha122 rfl rfl rfl (op_move ha122 rfl rfl) ?_
   intro a123 ha123; clear ha122 a122
   refine wl_val ha123 rfl rfl rfl (op_assign ha123 rfl rfl) ?_
   intro a124 ha124; clear ha123 a123
   refine wpList_nil ?_
   refine then_n ?_
   refine wp_ret ?_
   refine ret1 ha124 rfl rfl ?_
   clear ha124 a124
   refine ret_mkS hx119 ⟨hS91, ?_⟩
   refine ⟨(((z10 ++ [((((q67 : Int), [((q76), (q92 : Int))]) : Int × List (Str × Int)), (v97 : Value))]).map (·.1)) : List Ver), (by first | omega | (simp; done) | (simp; omega)), (by intro c hc; first | (obtain ⟨z, hz, rfl⟩ := List.mem_map.1 hc; first | (have h9 := ve_lines hq8 z.1 (by rw [← hE12]; exact List.mem_map_of_mem hz); omega) | (exact hZ z hz) | (rcases List.mem_or_eq_of_mem_set hz with hz | hz; (have h9 := ve_lines hq8 z.1 (by rw [← hE12]; exact List.mem_map_of_mem hz); omega); (subst hz; have h9 := ve_lines hq8 _ (by rw [← hE12]; exact List.mem_map_of_mem (List.mem_of_getElem? (by assumption))); exact Nat.le_trans h9 (by decide))) | (rcases List.mem_append.1 hz with hz | hz; (have h9 := ve_lines hq8 z.1 (by rw [← hE12]; exact List.mem_map_of_mem hz); omega); (obtain rfl := List.mem_singleton.1 hz; exact Nat.le_of_ble_eq_true rfl)) | (cases hz; done))), ?_⟩
   refine ⟨(z10 ++ [((((q67 : Int), [((q76), (q92 : Int))]) : Int × List (Str × Int)), (v97 : Value))]), ho115.fin (by omega) (by omega) (by omega), hN121.fin (by omega) (by omega), ?_⟩
   ·
    rfl
  ·
   rw [decide_eq_false c53] at ha52
   refine cond_f ha52 rfl ?_
   refine wp_seq ?_
   refine wp_region_lit ?_
   refine wl_val ha52 rfl rfl rfl (op_eql ha52 rfl rfl rfl) ?_
   intro a125 ha125; clear ha52 a52
   refine wl_val ha125 rfl rfl rfl (op_assign ha125 rfl rfl) ?_
   intro a126 ha126; clear ha125 a125
   refine wpList_nil ?_
   refine then_n ?_
   by_cases c127 : (q21 : Int) = (2 : Int)
   ·
    rw [decide_eq_true c127] at ha126
    refine cond_t ha126 rfl ?_
    refine wp_block ?_
    refine loop_inv (X := Value × (List ((Int × List (Str × Int)) × Value))) (fun (⟨v, zs⟩ : Value × (List ((Int × List (Str × Int)) × Value))) fr wl => Sl 45 fr [(0, .pointer (some (⟨g_s, 0, none⟩ : Addr))), (3, v)] ∧ Stp w0 wl (some g_s) ∧ Src wl g_s b_s 102 ∧ Own shVerN 56 w0.heap.size w0.heap.size wl.heap.size wl v zs ∧ Nst shLine 83 (fun x : Int × List (Str × Int) => x.2) w0.heap.size wl.heap.size wl zs ∧ w18.heap.size ≤ wl.heap.size ∧ (zs.length ≤ 21) ∧ (∀ z ∈ zs, z.1.2.length ≤ 9)) (fun (⟨v, zs⟩ : Value × (List ((Int × List (Str × Int)) × Value))) => 22 - zs.length) (v3, z10) ?_ ?_
    ·
     exact ⟨(Sl.cons_ ha126 rfl rfl (Sl.cons_ ha126 rfl rfl (Sl.nil_ ha126))), hx26, hS20, (ho9.fin (by omega) (by omega) (by omega)), (hN11.fin (by omega) (by omega)), (by omega), (by omega), (by intro z hz; have h9 := ve_lines hq8 z.1 (by rw [← hE12]; exact List.mem_map_of_mem hz); omega)⟩
    ·
     clear ha126 a126
     rintro ⟨v, zs⟩ a133 w128 ⟨ha133, hx129, hf130, hf131, hf132, hzl134, hl, hZ⟩
     have hzhx129 := hx129.size
     have hgl135 := hf130.lt
     refine wp_seq ?_
     refine wp_seq ?_
     refine wp_region_lit ?_
     refine wl_val ha133 rfl rfl rfl (op_move ha133 rfl rfl) ?_
     intro a136 ha136; clear ha133 a133
     refine wl_val ha136 rfl rfl rfl (op_len_sl ha136 rfl Try.underlying27 rfl (hf131.rds pos_shVerN)) ?_
     intro a137 ha137; clear ha136 a136
     refine wl_val ha137 rfl rfl rfl (op_move ha137 rfl rfl) ?_
     intro a138 ha138; clear ha137 a137
     refine wl_callS ha138 rfl rfl rfl (op_call ha138 rfl cb64 rfl) (c_spec_l01Next _ g_s b_s (2 : Int) hf130) ?_
     rintro v139 w140 he141 ⟨hS142, ⟨q143, hq144, hq145, hq146, rfl⟩⟩ a147 ha147; clear ha138 a138
     have hx148 := hx129.trans' he141
     have hzhx148 := he141.size
     first | replace hf131 := hf131.stp he141 (by intro q hq; cases hq; omega) | replace hf131 := hf131.stpF flat_shVerN he141 (by intro q hq; cases hq; exact hf131.ne_box (by assumption) rfl)
     first | replace hf132 := hf132.stp he141 (by intro q hq; cases hq; omega) | replace hf132 := hf132.stpB flat_shLine he141 (by assumption) rfl
     clear hf130
     have hSlhS142 := hS142.lt
     refine wl_val ha147 rfl rfl rfl ((op_add ha147 rfl rfl rfl).int (IntWalk.i64_in _ (by omega))) ?_
     intro a149 ha149; clear ha147 a147
     refine wl_val ha149 rfl rfl rfl (op_lss ha149 rfl rfl rfl) ?_
     intro a150 ha150; clear ha149 a149
     refine wpList_nil ?_
     refine then_n ?_
     by_cases c151 : ((zs.length : Nat) : Int) < ((20 : Int) + (q143 : Int))
     ·
      rw [decide_eq_true c151] at ha150
      refine cond_t ha150 rfl ?_
      refine wp_skip ?_
      refine then_n ?_
      refine wp_block ?_
      refine wp_region_lit ?_
      refine wl_val ha150 rfl rfl rfl (op_move ha150 rfl rfl) ?_
      intro a152 ha152; clear ha150 a150
      refine wl_val ha152 rfl rfl rfl (op_build (vs := [(0, .int .i64 (0 : Int))]) (cs := #[.int .i64 (0 : Int), .slice none 0 0]) ha152 rfl Try.underlying56 ti56 bp56 rfl rfl) ?_
      intro a153 ha153; clear ha152 a152
      refine wl_eff ha153 rfl rfl rfl (op_buildSlice (s := shVerN) (xs := [((((0 : Int), []) : Int × List (Str × Int)), (.slice none 0 0 : Value))]) (cs := [.int .i64 (0 : Int), .slice none 0 0]) (vs := [(0, .agg #[.int .i64 (0 : Int), .slice none 0 0])]) (S := fun _ => False) (le := w140.heap.size) ha153 rfl pos_shVerN Try.underlying27 ti56 rfl rfl (by decide) (by kernel_rfl) (Els.single (mk_shVerN (((((0 : Int), []) : Int × List (Str × Int)), (.slice none 0 0 : Value))) (by first | omega | (simp only []; omega) | (simp; done)) (by first | rfl | assumption | exact Own.one (by assumption) | exact Rds.one (by assumption)))) (fun _ h => h.elim)) ?_
      rintro v154 w155 ⟨ho156, he157, hob158⟩ a159 ha159; clear ha153 a153
      have hx160 := hx148.trans' (Stp.of_ext he157 _)
      have hzhx160 := he157.size
      replace hf131 := hf131.ext he157
      replace hf132 := hf132.ext he157
      replace hS142 := hS142.ext he157
      have hN161 : Nst shLine 83 (fun x : Int × List (Str × Int) => x.2) w140.heap.size w155.heap.size w155 ([((((0 : Int), []) : Int × List (Str × Int)), (.slice none 0 0 : Value))]) := Nst.one (Own.nil _ _ _ _ _ _)
      refine wl_eff ha159 rfl rfl rfl (op_append (ts := #[]) (s := shVerN) ha159 rfl Try.underlying27 ti56 rfl pos_shVerN rfl rfl hf131 (ho156.rds pos_shVerN) (by omega) (by omega) (by first | omega | (simp; omega)) (by first | omega | (simp; omega)) (.inl flat_shVerN)) ?_
      rintro v162 w163 ⟨ho164, hst165, hob166⟩ a167 ha167; clear ha159 a159
      have hx168 := hx160.fresh hst165 (by intro q hq; have hq0 := hf131.lt q hq; omega)
      have hzhx168 := hst165.size
      first | replace hf132 := hf132.stpF flat_shLine hst165 hf131 rfl | replace hf132 := hf132.stp hst165 (by intro q hq; have hq0 := hf131.lt q hq; omega)
      replace hS142 := hS142.stp hst165 (by intro q hq; have hq0 := hf131.lt q hq; omega)
      replace ho156 := ho156.stp hst165 (by intro q hq; have hq0 := hf131.lt q hq; omega)
      replace hN161 := hN161.stp hst165 (by intro q hq; have hq0 := hf131.lt q hq; omega)
      have hsp169 : ∀ q, Value.ownBlock v162 = some q → Value.ownBlock v154 ≠ some q := by intro q hq hb; have hq0 := ho156.lt q hb; rcases hob166 with h | h; (rw [h] at hq; first | (have hq1 := hf131.lt q hq; omega)); (rw [h] at hq; cases hq; omega)
      have hN170 : Nst shLine 83 (fun x : Int × List (Str × Int) => x.2) w0.heap.size w163.heap.size w163 ((zs ++ [((((0 : Int), []) : Int × List (Str × Int)), (.slice none 0 0 : Value))])) := (hf132.app hN161 (by omega) (by omega) (by omega)).fin (by omega) (by omega)
      refine wl_val ha167 rfl rfl rfl (op_assign ha167 rfl rfl) ?_
      intro a171 ha171; clear ha167 a167
      refine wpList_nil ?_
      refine block_n ?_
      refine round_end (x := (v, zs)) (v162, (zs ++ [((((0 : Int), []) : Int × List (Str × Int)), (.slice none 0 0 : Value))])) ?_ ?_
      ·
       refine ⟨(Sl.cons_ ha171 rfl rfl (Sl.cons_ ha171 rfl rfl (Sl.nil_ ha171))), hx168, hS142, (ho164.fin (by omega) (by omega) (by omega)), (hN170.fin (by omega) (by omega)), (by omega), (by first | omega | (simp; omega)), (by intro z hz; rcases List.mem_append.1 hz with hz | hz; (exact hZ z hz); (obtain rfl := List.mem_singleton.1 hz; exact Nat.zero_le _))⟩
      ·show (22 - ((zs ++ [((((0 : Int), []) : Int × List (Str × Int)), (.slice none 0 0 : Value))])).length : Nat) < 22 - zs.length; simp only [List.length_append, List.length_cons, List.length_nil]; omega
     ·
      rw [decide_eq_false c151] at ha150
      refine cond_f ha150 rfl ?_
      refine wp_exit ?_
      refine then_e ?_
      refine then_e ?_
      refine block_hit ?_
      refine block_n ?_
      refine then_n ?_
      refine wp_seq ?_
      refine wp_region_lit ?_
      refine wl_val ha150 rfl rfl rfl (op_move ha150 rfl rfl) ?_
      intro a172 ha172; clear ha150 a150
      refine wl_val ha172 rfl rfl rfl (op_assign ha172 rfl rfl) ?_
      intro a173 ha173; clear ha172 a172
      refine wpList_nil ?_
      refine then_n ?_
      refine wp_ret ?_
      refine ret1 ha173 rfl rfl ?_
      clear ha173 a173
      refine ret_mkS hx148 ⟨hS142, ?_⟩
      refine ⟨((zs.map (·.1)) : List Ver), (by first | omega | (simp; done) | (simp; omega)), (by intro c hc; first | (obtain ⟨z, hz, rfl⟩ := List.mem_map.1 hc; first | (have h9 := ve_lines hq8 z.1 (by rw [← hE12]; exact List.mem_map_of_mem hz); omega) | (exact hZ z hz) | (rcases List.mem_or_eq_of_mem_set hz with hz | hz; (have h9 := ve_lines hq8 z.1 (by rw [← hE12]; exact List.mem_map_of_mem hz); omega); (subst hz; have h9 := ve_lines hq8 _ (by rw [← hE12]; exact List.mem_map_of_mem (List.mem_of_getElem? (by assumption))); exact Nat.le_trans h9 (by decide))) | (rcases List.mem_append.1 hz with hz | hz; (have h9 := ve_lines hq8 z.1 (by rw [← hE12]; exact List.mem_map_of_mem hz); omega); (obtain rfl := List.mem_singleton.1 hz; exact Nat.le_of_ble_eq_true rfl)) | (cases hz; done))), ?_⟩
      refine ⟨zs, hf131.fin (by omega) (by omega) (by omega), hf132.fin (by omega) (by omega), ?_⟩
      ·
       rfl
   ·
    rw [decide_eq_false c127] at ha126
    refine cond_f ha126 rfl ?_
    refine wp_seq ?_
    refine wp_region_lit ?_
    refine wl_val ha126 rfl rfl rfl (op_eql ha126 rfl rfl rfl) ?_
    intro a174 ha174; clear ha126 a126
    refine wl_val ha174 rfl rfl rfl (op_assign ha174 rfl rfl) ?_
    intro a175 ha175; clear ha174 a174
    refine wpList_nil ?_
    refine then_n ?_
    by_cases c176 : (q21 : Int) = (3 : Int)
    ·
     rw [decide_eq_true c176] at ha175
     refine cond_t ha175 rfl ?_
     refine wp_seq ?_
     refine wp_region_lit ?_
     refine wl_eff ha175 rfl rfl rfl (op_buildSlice (s := shVerN) (xs := ([] : List ((Int × List (Str × Int)) × Value))) (cs := []) (vs := []) (S := fun _ => False) (le := w18.heap.size) ha175 rfl pos_shVerN Try.underlying27 ti56 rfl rfl (by decide) (by kernel_rfl) rfl (fun _ h => h.elim)) ?_
     rintro v177 w178 ⟨ho179, he180, hob181⟩ a182 ha182; clear ha175 a175
     have hx183 := hx26.trans' (Stp.of_ext he180 _)
     have hzhx183 := he180.size
     replace ho9 := ho9.ext he180
     replace hN11 := hN11.ext he180
     replace hS20 := hS20.ext he180
     have hN184 : Nst shLine 83 (fun x : Int × List (Str × Int) => x.2) w18.heap.size w178.heap.size w178 (([] : List ((Int × List (Str × Int)) × Value))) := Nst.nil _ _ _ _ _ _
     refine wl_val ha182 rfl rfl rfl (op_assign ha182 rfl rfl) ?_
     intro a185 ha185; clear ha182 a182
     refine wpList_nil ?_
     refine then_n ?_
     refine wp_ret ?_
     refine block_r ?_
     refine then_r ?_
     refine ret1 ha185 rfl rfl ?_
     clear ha185 a185
     refine ret_mkS hx183 ⟨hS20, ?_⟩
     refine ⟨((([] : List ((Int × List (Str × Int)) × Value)).map (·.1)) : List Ver), (by first | omega | (simp; done) | (simp; omega)), (by intro c hc; first | (obtain ⟨z, hz, rfl⟩ := List.mem_map.1 hc; first | (have h9 := ve_lines hq8 z.1 (by rw [← hE12]; exact List.mem_map_of_mem hz); omega) | (exact hZ z hz) | (rcases List.mem_or_eq_of_mem_set hz with hz | hz; (have h9 := ve_lines hq8 z.1 (by rw [← hE12]; exact List.mem_map_of_mem hz); omega); (subst hz; have h9 := ve_lines hq8 _ (by rw [← hE12]; exact List.mem_map_of_mem (List.mem_of_getElem? (by assumption))); exact Nat.le_trans h9 (by decide))) | (rcases List.mem_append.1 hz with hz | hz; (have h9 := ve_lines hq8 z.1 (by rw [← hE12]; exact List.mem_map_of_mem hz); omega); (obtain rfl := List.mem_singleton.1 hz; exact Nat.le_of_ble_eq_true rfl)) | (cases hz; done))), ?_⟩
     refine ⟨([] : List ((Int × List (Str × Int)) × Value)), ho179.fin (by omega) (by omega) (by omega), hN184.fin (by omega) (by omega), ?_⟩
     ·
      rfl
    ·
     rw [decide_eq_false c176] at ha175
     refine cond_f ha175 rfl ?_
     refine wp_skip ?_
     refine block_n ?_
     refine then_n ?_
     refine wp_seq ?_
     refine wp_region_lit ?_
     refine wl_val ha175 rfl rfl rfl (op_move ha175 rfl rfl) ?_
     intro a186 ha186; clear ha175 a175
     refine wl_val ha186 rfl rfl rfl (op_assign ha186 rfl rfl) ?_
     intro a187 ha187; clear ha186 a186
     refine wpList_nil ?_
     refine then_n ?_
     refine wp_ret ?_
     refine ret1 ha187 rfl rfl ?_
     clear ha187 a187
     refine ret_mkS hx26 ⟨hS20, ?_⟩
     refine ⟨((z10.map (·.1)) : List Ver), (by first | omega | (simp; done) | (simp; omega)), (by intro c hc; first | (obtain ⟨z, hz, rfl⟩ := List.mem_map.1 hc; first | (have h9 := ve_lines hq8 z.1 (by rw [← hE12]; exact List.mem_map_of_mem hz); omega) | (exact hZ z hz) | (rcases List.mem_or_eq_of_mem_set hz with hz | hz; (have h9 := ve_lines hq8 z.1 (by rw [← hE12]; exact List.mem_map_of_mem hz); omega); (subst hz; have h9 := ve_lines hq8 _ (by rw [← hE12]; exact List.mem_map_of_mem (List.mem_of_getElem? (by assumption))); exact Nat.le_trans h9 (by decide))) | (rcases List.mem_append.1 hz with hz | hz; (have h9 := ve_lines hq8 z.1 (by rw [← hE12]; exact List.mem_map_of_mem hz); omega); (obtain rfl := List.mem_singleton.1 hz; exact Nat.le_of_ble_eq_true rfl)) | (cases hz; done))), ?_⟩
     refine ⟨z10, ho9.fin (by omega) (by omega) (by omega), hN11.fin (by omega) (by omega), ?_⟩
     ·
      rfl


end Go.Proofs.Ytllpdkidaldkiaa
