/- Customers drawn, rarely others. -/
import Derived.Test.YthbkedflhmeohaaR2
namespace Go.Proofs.Ythbkedflhmeohaa
open Go Go.RowKit

set_option maxHeartbeats 8000000 in
theorem c_spec_l30Draw (w0 : World) (g_s b_s : Nat) (h_s : Src w0 g_s b_s 82) :
  Calls Try.prog 73 #[.pointer (some (⟨g_s, 0, none⟩ : Addr))] w0 (RetS w0 (some g_s) (fun v w1 => Src w1 g_s b_s 82 ∧ (fun v w1 => ∃ (l : List Cust), (l.length ≤ 22) ∧ (∀ c ∈ l, c.2.2.length ≤ 10) ∧ (fun v w1 => ∃ z, Own shCustN 55 w0.heap.size w0.heap.size w1.heap.size w1 v z ∧ Nst shStr 9 (fun x : Str × Int × List Str => x.2.2) w0.heap.size w1.heap.size w1 z ∧ z.map (·.1) = (l)) v w1) v w1)) := by
 refine enter (N := 55) Try.func73 rfl rfl rfl ?_
 intro a0 ha0
 have hx0 := Stp.rfl' w0 (some g_s)
 have hgl_s := h_s.lt
 refine wp_seq ?_
 refine wp_region_lit ?_
 refine wl_val ha0 rfl rfl rfl (op_assign ha0 rfl rfl) ?_
 intro a1 ha1; clear ha0 a0
 refine wpList_nil ?_
 refine then_n ?_
 refine wp_seq ?_
 refine wp_region_lit ?_
 refine wl_val ha1 rfl rfl rfl (op_move ha1 rfl rfl) ?_
 intro a2 ha2; clear ha1 a1
 refine wl_callS ha2 rfl rfl rfl (op_call ha2 rfl cb81 rfl) (c_spec_l30Good _ g_s b_s h_s) ?_
 rintro v3 w4 he5 ⟨hS6, ⟨q7, hq8, hq9, ⟨z11, ho10, hN12, hE13⟩⟩⟩ a14 ha14; clear ha2 a2
 have hx15 := hx0.trans' he5
 have hzhx15 := he5.size
 have hSlhS6 := hS6.lt
 have hlhE13 := absLen hE13
 refine wl_val ha14 rfl rfl rfl (op_assign ha14 rfl rfl) ?_
 intro a16 ha16; clear ha14 a14
 refine wpList_nil ?_
 refine then_n ?_
 refine wp_seq ?_
 refine wp_seq ?_
 refine wp_region_lit ?_
 refine wl_val ha16 rfl rfl rfl (op_move ha16 rfl rfl) ?_
 intro a17 ha17; clear ha16 a16
 refine wl_callS ha17 rfl rfl rfl (op_call ha17 rfl cb75 rfl) (c_spec_l01Next _ g_s b_s (40 : Int) hS6) ?_
 rintro v18 w19 he20 ⟨hS21, ⟨q22, hq23, hq24, hq25, rfl⟩⟩ a26 ha26; clear ha17 a17
 have hx27 := hx15.trans' he20
 have hzhx27 := he20.size
 first | replace ho10 := ho10.stp he20 (by intro q hq; cases hq; omega) | replace ho10 := ho10.stpF flat_shCustN he20 (by intro q hq; cases hq; exact ho10.ne_box (by assumption) rfl)
 first | replace hN12 := hN12.stp he20 (by intro q hq; cases hq; omega) | replace hN12 := hN12.stpB flat_shStr he20 (by assumption) rfl
 clear hS6
 have hSlhS21 := hS21.lt
 refine wpList_nil ?_
 refine then_n ?_
 refine wp_block ?_
 refine wp_seq ?_
 refine wp_region_lit ?_
 refine wl_val ha26 rfl rfl rfl (op_eql ha26 rfl rfl rfl) ?_
 intro a28 ha28; clear ha26 a26
 refine wl_val ha28 rfl rfl rfl (op_assign ha28 rfl rfl) ?_
 intro a29 ha29; clear ha28 a28
 refine wpList_nil ?_
 refine then_n ?_
 by_cases c30 : (q22 : Int) = (0 : Int)
 ·
  rw [decide_eq_true c30] at ha29
  refine cond_t ha29 rfl ?_
  refine dr_enter (fun wa_ wb_ => StpL wa_ wb_ (fun i => Value.ownBlock v3 = some i ∨ i = g_s)) follows_mixed ?_
  intro w31 he32
  have hx33 := hx27.trans' (Stp.of_ext he32 _)
  have hzhx33 := he32.size
  replace ho10 := ho10.ext he32
  replace hN12 := hN12.ext he32
  replace hS21 := hS21.ext he32
  have hs34 : Ext w31 w31 := Ext.rfl' _
  refine dr_share (fun fr wl S => ∃ (q35 : Str) (q36 : Int) (q37 : Value), S = (fun w' => StpL wl w' (fun i => Value.ownBlock v3 = some i ∨ i = g_s)) ∧ Sl 55 fr [(0, .pointer (some (⟨g_s, 0, none⟩ : Addr))), (11, v3), (21, .agg #[St q35, .int .i64 (q36 : Int), q37])] ∧ Stp w0 wl (some g_s) ∧ Src wl g_s b_s 82 ∧ Own shCustN 55 w0.heap.size w0.heap.size w4.heap.size wl v3 z11 ∧ Nst shStr 9 (fun x : Str × Int × List Str => x.2.2) w0.heap.size w4.heap.size wl z11 ∧ Own shStr 9 w31.heap.size w31.heap.size wl.heap.size wl q37 ([([107, 97, 97] : Str)]) ∧ z11.map (·.1) = (q7) ∧ (q35.length ≤ 17) ∧ (q36 ∈ ([(-1 : Int), (0 : Int), (100000 : Int), (100001 : Int)])) ∧ w31.heap.size ≤ wl.heap.size) 3 #[true, true, true, true, true, true, true, true, true, true, true, false, false, false] ?_ ?_
  ·
   rintro a49 w38 _ ⟨q35, q36, q37, rfl, ha49, hx39, hf40, hf41, hf44, hf43, hE42, hg46, hg47, hzl45⟩
   try simp only [List.mem_cons, List.not_mem_nil, or_false] at hg47
   have hzhx39 := hx39.size
   have hgl48 := hf40.lt
   have hs50 : Ext w38 w38 := Ext.rfl' _
   refine dr_one (i := 11) (by kernel_rfl) ?_
   refine po_eff ha49 rfl rfl rfl rfl (op_buildSlice (s := shCustN) (xs := [(((q35, (q36 : Int), [([107, 97, 97] : Str)]) : Str × Int × List Str), (q37 : Value))]) (cs := [St q35, .int .i64 (q36 : Int), q37]) (vs := [(0, .agg #[St q35, .int .i64 (q36 : Int), q37])]) (S := fun _ => False) (le := w38.heap.size) ha49 rfl pos_shCustN Try.underlying25 ti55 rfl rfl (by decide) (by kernel_rfl) (Els.single (mk_shCustN ((((q35, (q36 : Int), [([107, 97, 97] : Str)]) : Str × Int × List Str), (q37 : Value))) (by first | assumption | omega | (constructor <;> omega) | (dsimp only; omega) | (simp; done) | (simp; omega) | (simp only [List.length_append, List.length_take, List.length_drop, List.length_cons, List.length_nil]; omega)) (by first | assumption | omega | (constructor <;> omega) | (dsimp only; omega) | (simp; done) | (simp; omega) | (simp only [List.length_append, List.length_take, List.length_drop, List.length_cons, List.length_nil]; omega)) hf43.one)) (fun _ h => h.elim)) ?_
   rintro v51 w52 ⟨ho53, he54, hob55⟩ a56 ha56; clear ha49 a49
   have hs57 := hs50.trans' he54
   have hx58 := hx39.trans' (Stp.of_ext he54 _)
   have hzhx58 := he54.size
   refine ⟨(StpL.of_ext hs57), ?_⟩
   replace hf40 := hf40.ext hs57
   replace hf41 := hf41.ext hs57
   replace hf44 := hf44.ext hs57
   replace hf43 := hf43.ext hs57
   refine dr_narrow (S' := fun w' => StpL w52 w' _) (fun w' h' => (StpL.of_ext hs57).trans' h') _ _ _ _ ?_
   have hs59 : Ext w52 w52 := Ext.rfl' _
   have hN60 : Nst shStr 9 (fun x : Str × Int × List Str => x.2.2) w31.heap.size w52.heap.size w52 ([(((q35, (q36 : Int), [([107, 97, 97] : Str)]) : Str × Int × List Str), (q37 : Value))]) := Nst.one (hf43.fin (by omega) (by omega) (by omega))
   refine dr_one (i := 12) (by kernel_rfl) ?_
   refine po_eff ha56 rfl rfl rfl rfl (op_append (ts := #[]) (s := shCustN) ha56 rfl Try.underlying25 ti55 rfl pos_shCustN rfl rfl hf41 (ho53.rds pos_shCustN) (by omega) (by omega) (by first | omega | (simp; omega)) (by first | omega | (simp; omega)) (.inl flat_shCustN)) ?_
   rintro v61 w62 ⟨ho63, hst64, hob65⟩ a66 ha66; clear ha56 a56
   have hx67 := hx58.fresh hst64 (by intro q hq; have hq0 := hf41.lt q hq; omega)
   have hzhx67 := hst64.size
   replace hf40 := hf40.stp hst64 (by intro q hq; have hq0 := hf41.lt q hq; omega)
   first | replace hf44 := hf44.stpF flat_shStr hst64 hf41 rfl | replace hf44 := hf44.stp hst64 (by intro q hq; have hq0 := hf41.lt q hq; omega)
   replace hf43 := hf43.stp hst64 (by intro q hq; have hq0 := hf41.lt q hq; omega)
   replace ho53 := ho53.stp hst64 (by intro q hq; have hq0 := hf41.lt q hq; omega)
   replace hN60 := hN60.stp hst64 (by intro q hq; have hq0 := hf41.lt q hq; omega)
   have hsp68 : ∀ q, Value.ownBlock v61 = some q → Value.ownBlock v51 ≠ some q := by intro q hq hb; have hq0 := ho53.lt q hb; rcases hob65 with h | h; (rw [h] at hq; first | (have hq1 := hf41.lt q hq; omega)); (rw [h] at hq; cases hq; omega)
   have hN69 : Nst shStr 9 (fun x : Str × Int × List Str => x.2.2) w0.heap.size w62.heap.size w62 ((z11 ++ [(((q35, (q36 : Int), [([107, 97, 97] : Str)]) : Str × Int × List Str), (q37 : Value))])) := (hf44.app hN60 (by omega) (by omega) (by omega)).fin (by omega) (by omega)
   have hs70 := (StpL.of_ext (B := fun i => Value.ownBlock v3 = some i ∨ i = g_s) hs59).trans' (Stp.toL hst64 (by intro q hq; exact Or.inl hq))
   refine ⟨hs70, ?_⟩
   refine dr_narrow (S' := fun w' => StpL w62 w' _) (fun w' h' => hs70.trans' h') _ _ _ _ ?_
   have hs71 : Ext w62 w62 := Ext.rfl' _
   refine dr_val (i := 13) ha66 rfl (by kernel_rfl) (by kernel_rfl) (by kernel_rfl) rfl rfl rfl (StpL.of_ext hs71) (fun w' hw' => op_assign ha66 rfl rfl) ?_
   intro a72 ha72; clear ha66 a66
   refine dr_end (by kernel_rfl) ?_
   refine block_n ?_
   refine then_n ?_
   refine wp_seq ?_
   refine wp_region_lit ?_
   refine wl_val ha72 rfl rfl rfl (op_move ha72 rfl rfl) ?_
   intro a73 ha73; clear ha72 a72
   refine wl_val ha73 rfl rfl rfl (op_assign ha73 rfl rfl) ?_
   intro a74 ha74; clear ha73 a73
   refine wpList_nil ?_
   refine then_n ?_
   refine wp_ret ?_
   refine ret1 ha74 rfl rfl ?_
   clear ha74 a74
   refine ret_mkS hx67 ⟨hf40, ?_⟩
   refine ⟨(((z11 ++ [(((q35, (q36 : Int), [([107, 97, 97] : Str)]) : Str × Int × List Str), (q37 : Value))]).map (·.1)) : List Cust), (by first | omega | (simp; done) | (simp; omega)), (by intro c hc; obtain ⟨z, hz, rfl⟩ := List.mem_map.1 hc; first | (exact hB z hz) | (have h9 := hq9 z.1 (by rw [← hE13]; exact List.mem_map_of_mem hz); omega) | (rcases List.mem_append.1 hz with hz | hz; (have h9 := hq9 z.1 (by rw [← hE13]; exact List.mem_map_of_mem hz); omega); (obtain rfl := List.mem_singleton.1 hz; first | exact Nat.le_of_ble_eq_true rfl | (simp; done) | (simp; omega) | (dsimp only; rw [List.length_take]; omega)))), ?_⟩
   refine ⟨(z11 ++ [(((q35, (q36 : Int), [([107, 97, 97] : Str)]) : Str × Int × List Str), (q37 : Value))]), ho63.fin (by omega) (by omega) (by omega), hN69.fin (by omega) (by omega), ?_⟩
   ·
    rfl
  intro hk75
  refine dr_share (fun fr wl S => ∃ (q76 : Str) (q77 : Int), S = (fun w' => StpL wl w' (fun i => Value.ownBlock v3 = some i ∨ i = g_s)) ∧ Sl 55 fr [(0, .pointer (some (⟨g_s, 0, none⟩ : Addr))), (11, v3), (16, St q76), (19, .int .i64 (q77 : Int))] ∧ Stp w0 wl (some g_s) ∧ Src wl g_s b_s 82 ∧ Own shCustN 55 w0.heap.size w0.heap.size w4.heap.size wl v3 z11 ∧ Nst shStr 9 (fun x : Str × Int × List Str => x.2.2) w0.heap.size w4.heap.size wl z11 ∧ z11.map (·.1) = (q7) ∧ (q76.length ≤ 17) ∧ (q77 ∈ ([(-1 : Int), (0 : Int), (100000 : Int), (100001 : Int)])) ∧ w31.heap.size ≤ wl.heap.size) 5 #[true, true, true, true, true, true, true, true, true, false, false, false, false, false] ?_ ?_
  ·
   rintro a88 w78 _ ⟨q76, q77, rfl, ha88, hx79, hf80, hf81, hf83, hE82, hg85, hg86, hzl84⟩
   try simp only [List.mem_cons, List.not_mem_nil, or_false] at hg86
   have hzhx79 := hx79.size
   have hgl87 := hf80.lt
   have hs89 : Ext w78 w78 := Ext.rfl' _
   refine dr_one (i := 9) (by kernel_rfl) ?_
   refine po_eff ha88 rfl rfl rfl rfl (op_buildSlice (s := shStr) (xs := [([107, 97, 97] : Str)]) (cs := [St (([107, 97, 97] : Str))]) (vs := [(0, St (([107, 97, 97] : Str)))]) (S := fun _ => False) (le := w78.heap.size) ha88 rfl pos_shStr Try.underlying34 ti9 rfl rfl (by decide) (by kernel_rfl) (Els.single (mk_shStr (([107, 97, 97] : Str)) (by first | assumption | omega | (constructor <;> omega) | (dsimp only; omega) | (simp; done) | (simp; omega) | (simp only [List.length_append, List.length_take, List.length_drop, List.length_cons, List.length_nil]; omega)))) (fun _ h => h.elim)) ?_
   rintro v90 w91 ⟨ho92, he93, hob94⟩ a95 ha95; clear ha88 a88
   have hs96 := hs89.trans' he93
   have hx97 := hx79.trans' (Stp.of_ext he93 _)
   have hzhx97 := he93.size
   refine ⟨(StpL.of_ext hs96), ?_⟩
   replace hf80 := hf80.ext hs96
   replace hf81 := hf81.ext hs96
   replace hf83 := hf83.ext hs96
   refine dr_narrow (S' := fun w' => StpL w91 w' _) (fun w' h' => (StpL.of_ext hs96).trans' h') _ _ _ _ ?_
   have hs98 : Ext w91 w91 := Ext.rfl' _
   refine dr_val (i := 10) ha95 rfl (by kernel_rfl) (by kernel_rfl) (by kernel_rfl) rfl rfl rfl (StpL.of_ext hs98) (fun w' hw' => op_build (vs := [(0, St q76), (1, .int .i64 (q77 : Int)), (2, v90)]) (cs := #[St q76, .int .i64 (q77 : Int), v90]) ha95 rfl Try.underlying55 ti55 bp55 rfl ((fill_one rfl rfl rfl).trans ((fill_one rfl rfl rfl).trans ((fill_one ho92.cells1 rfl rfl).trans rfl)))) ?_
   intro a99 ha99; clear ha95 a95
   exact dr_listed (by kernel_rfl) (hk75 _ _ _ ⟨q76, q77, v90, rfl, (Sl.cons_ ha99 rfl rfl (Sl.cons_ ha99 rfl rfl (Sl.cons_ ha99 rfl rfl (Sl.nil_ ha99)))), hx97, hf80, (hf81.fin (by omega) (by omega) (by omega)), (hf83.fin (by omega) (by omega)), (ho92.fin (by omega) (by omega) (by omega)), hE82, (by omega), (by first | assumption | omega | (simp only [List.mem_cons, List.not_mem_nil, or_false]; omega) | (constructor <;> omega)), (by omega)⟩)
  intro hk100
  refine dr_share (fun fr wl S => ∃ (q101 : Str) (q102 : Value) (q103 : Value), S = (fun w' => StpL wl w' (fun i => Value.ownBlock v3 = some i ∨ i = g_s)) ∧ Sl 55 fr [(0, .pointer (some (⟨g_s, 0, none⟩ : Addr))), (11, v3), (16, St q101), (17, .pointer (some (⟨g_s, 0, none⟩ : Addr))), (18, q102), (20, q103)] ∧ Stp w0 wl (some g_s) ∧ Src wl g_s b_s 82 ∧ Own shCustN 55 w0.heap.size w0.heap.size w4.heap.size wl v3 z11 ∧ Nst shStr 9 (fun x : Str × Int × List Str => x.2.2) w0.heap.size w4.heap.size wl z11 ∧ Own shI64 2 w31.heap.size w31.heap.size wl.heap.size wl q102 ([(-1 : Int), (0 : Int), (100000 : Int), (100001 : Int)]) ∧ Own shStr 9 w31.heap.size w31.heap.size wl.heap.size wl q103 ([([107, 97, 97] : Str)]) ∧ z11.map (·.1) = (q7) ∧ (q101.length ≤ 17) ∧ w31.heap.size ≤ wl.heap.size) 5 #[true, true, true, true, true, true, true, true, false, true, false, false, false, false] ?_ ?_
  ·
   rintro a115 w104 _ ⟨q101, q102, q103, rfl, ha115, hx105, hf106, hf107, hf111, hf109, hf110, hE108, hg113, hzl112⟩
   have hzhx105 := hx105.size
   have hgl114 := hf106.lt
   have hs116 : Ext w104 w104 := Ext.rfl' _
   refine dr_one (i := 8) (by kernel_rfl) ?_
   refine po_callS ha115 rfl rfl rfl rfl (op_call ha115 rfl cb77 rfl) (c_spec_l01Pick _ g_s b_s q102 ([(-1 : Int), (0 : Int), (100000 : Int), (100001 : Int)]) hf106 (hf109.rds pos_shI64) (by rintro ⟨_, _⟩; omega) (by first | assumption | omega | (constructor <;> omega) | (dsimp only; omega) | (simp; done) | (simp; omega))) ?_
   rintro v117 w118 he119 ⟨hS120, ⟨q121, hq122, rfl⟩⟩ a123 ha123; clear ha115 a115
   have hx124 := hx105.trans' he119
   have hzhx124 := he119.size
   first | replace hf107 := hf107.stp he119 (by intro q hq; cases hq; omega) | replace hf107 := hf107.stpF flat_shCustN he119 (by intro q hq; cases hq; exact hf107.ne_box (by assumption) rfl)
   first | replace hf111 := hf111.stp he119 (by intro q hq; cases hq; omega) | replace hf111 := hf111.stpB flat_shStr he119 (by assumption) rfl
   first | replace hf109 := hf109.stp he119 (by intro q hq; cases hq; omega) | replace hf109 := hf109.stpF flat_shI64 he119 (by intro q hq; cases hq; exact hf109.ne_box (by assumption) rfl)
   first | replace hf110 := hf110.stp he119 (by intro q hq; cases hq; omega) | replace hf110 := hf110.stpF flat_shStr he119 (by intro q hq; cases hq; exact hf110.ne_box (by assumption) rfl)
   clear hf106
   have hSlhS120 := hS120.lt
   have hs125 := (StpL.of_ext (B := fun i => Value.ownBlock v3 = some i ∨ i = g_s) hs116).trans' (Stp.toL he119 (by intro q hq; cases hq; exact Or.inr (rfl)))
   refine ⟨hs125, ?_⟩
   simp only [List.mem_cons, List.not_mem_nil, or_false] at hq122
   refine dr_narrow (S' := fun w' => StpL w118 w' _) (fun w' h' => hs125.trans' h') _ _ _ _ ?_
   have hs126 : Ext w118 w118 := Ext.rfl' _
   refine dr_val (i := 10) ha123 rfl (by kernel_rfl) (by kernel_rfl) (by kernel_rfl) rfl rfl rfl (StpL.of_ext hs126) (fun w' hw' => op_build (vs := [(0, St q101), (1, .int .i64 (q121 : Int)), (2, q103)]) (cs := #[St q101, .int .i64 (q121 : Int), q103]) ha123 rfl Try.underlying55 ti55 bp55 rfl ((fill_one rfl rfl rfl).trans ((fill_one rfl rfl rfl).trans ((fill_one hf110.cells1 rfl rfl).trans rfl)))) ?_
   intro a127 ha127; clear ha123 a123
   exact dr_listed (by kernel_rfl) (hk75 _ _ _ ⟨q101, q121, q103, rfl, (Sl.cons_ ha127 rfl rfl (Sl.cons_ ha127 rfl rfl (Sl.cons_ ha127 rfl rfl (Sl.nil_ ha127)))), hx124, hS120, (hf107.fin (by omega) (by omega) (by omega)), (hf111.fin (by omega) (by omega)), (hf110.fin (by omega) (by omega) (by omega)), hE108, (by omega), (by first | assumption | omega | (simp only [List.mem_cons, List.not_mem_nil, or_false]; omega) | (constructor <;> omega)), (by omega)⟩)
  intro hk128
  refine dr_share (fun fr wl S => ∃ (q129 : Str) (q130 : Value), S = (fun w' => StpL wl w' (fun i => Value.ownBlock v3 = some i ∨ i = g_s)) ∧ Sl 55 fr [(0, .pointer (some (⟨g_s, 0, none⟩ : Addr))), (11, v3), (16, St q129), (17, .pointer (some (⟨g_s, 0, none⟩ : Addr))), (18, q130)] ∧ Stp w0 wl (some g_s) ∧ Src wl g_s b_s 82 ∧ Own shCustN 55 w0.heap.size w0.heap.size w4.heap.size wl v3 z11 ∧ Nst shStr 9 (fun x : Str × Int × List Str => x.2.2) w0.heap.size w4.heap.size wl z11 ∧ Own shI64 2 w31.heap.size w31.heap.size wl.heap.size wl q130 ([(-1 : Int), (0 : Int), (100000 : Int), (100001 : Int)]) ∧ z11.map (·.1) = (q7) ∧ (q129.length ≤ 17) ∧ w31.heap.size ≤ wl.heap.size) 6 #[true, true, true, true, true, true, true, true, false, false, false, false, false, false] ?_ ?_
  ·
   rintro a141 w131 _ ⟨q129, q130, rfl, ha141, hx132, hf133, hf134, hf137, hf136, hE135, hg139, hzl138⟩
   have hzhx132 := hx132.size
   have hgl140 := hf133.lt
   have hs142 : Ext w131 w131 := Ext.rfl' _
   refine dr_two (i := 8) (j := 9) (by kernel_rfl) ?_ ?_
   ·
    refine po_callS ha141 rfl rfl rfl rfl (op_call ha141 rfl cb77 rfl) (c_spec_l01Pick _ g_s b_s q130 ([(-1 : Int), (0 : Int), (100000 : Int), (100001 : Int)]) hf133 (hf136.rds pos_shI64) (by rintro ⟨_, _⟩; omega) (by first | assumption | omega | (constructor <;> omega) | (dsimp only; omega) | (simp; done) | (simp; omega))) ?_
    rintro v143 w144 he145 ⟨hS146, ⟨q147, hq148, rfl⟩⟩ a149 ha149; clear ha141 a141
    have hx150 := hx132.trans' he145
    have hzhx150 := he145.size
    first | replace hf134 := hf134.stp he145 (by intro q hq; cases hq; omega) | replace hf134 := hf134.stpF flat_shCustN he145 (by intro q hq; cases hq; exact hf134.ne_box (by assumption) rfl)
    first | replace hf137 := hf137.stp he145 (by intro q hq; cases hq; omega) | replace hf137 := hf137.stpB flat_shStr he145 (by assumption) rfl
    first | replace hf136 := hf136.stp he145 (by intro q hq; cases hq; omega) | replace hf136 := hf136.stpF flat_shI64 he145 (by intro q hq; cases hq; exact hf136.ne_box (by assumption) rfl)
    clear hf133
    have hSlhS146 := hS146.lt
    have hs151 := (StpL.of_ext (B := fun i => Value.ownBlock v3 = some i ∨ i = g_s) hs142).trans' (Stp.toL he145 (by intro q hq; cases hq; exact Or.inr (rfl)))
    refine ⟨hs151, ?_⟩
    simp only [List.mem_cons, List.not_mem_nil, or_false] at hq148
    refine dr_narrow (S' := fun w' => StpL w144 w' _) (fun w' h' => hs151.trans' h') _ _ _ _ ?_
    have hs152 : Ext w144 w144 := Ext.rfl' _
    exact dr_listed (by kernel_rfl) (hk100 _ _ _ ⟨q129, q147, rfl, (Sl.cons_ ha149 rfl rfl (Sl.cons_ ha149 rfl rfl (Sl.cons_ ha149 rfl rfl (Sl.cons_ ha149 rfl rfl (Sl.nil_ ha149))))), hx150, hS146, (hf134.fin (by omega) (by omega) (by omega)), (hf137.fin (by omega) (by omega)), hE135, (by omega), (by first | assumption | omega | (simp only [List.mem_cons, List.not_mem_nil, or_false]; omega) | (constructor <;> omega)), (by omega)⟩)
   ·
    refine po_eff ha141 rfl rfl rfl rfl (op_buildSlice (s := shStr) (xs := [([107, 97, 97] : Str)]) (cs := [St (([107, 97, 97] : Str))]) (vs := [(0, St (([107, 97, 97] : Str)))]) (S := fun _ => False) (le := w131.heap.size) ha141 rfl pos_shStr Try.underlying34 ti9 rfl rfl (by decide) (by kernel_rfl) (Els.single (mk_shStr (([107, 97, 97] : Str)) (by first | assumption | omega | (constructor <;> omega) | (dsimp only; omega) | (simp; done) | (simp; omega) | (simp only [List.length_append, List.length_take, List.length_drop, List.length_cons, List.length_nil]; omega)))) (fun _ h => h.elim)) ?_
    rintro v153 w154 ⟨ho155, he156, hob157⟩ a158 ha158; clear ha141 a141
    have hs159 := hs142.trans' he156
    have hx160 := hx132.trans' (Stp.of_ext he156 _)
    have hzhx160 := he156.size
    refine ⟨(StpL.of_ext hs159), ?_⟩
    replace hf133 := hf133.ext hs159
    replace hf134 := hf134.ext hs159
    replace hf137 := hf137.ext hs159
    replace hf136 := hf136.ext hs159
    refine dr_narrow (S' := fun w' => StpL w154 w' _) (fun w' h' => (StpL.of_ext hs159).trans' h') _ _ _ _ ?_
    have hs161 : Ext w154 w154 := Ext.rfl' _
    exact dr_listed (by kernel_rfl) (hk128 _ _ _ ⟨q129, q130, v153, rfl, (Sl.cons_ ha158 rfl rfl (Sl.cons_ ha158 rfl rfl (Sl.cons_ ha158 rfl rfl (Sl.cons_ ha158 rfl rfl (Sl.cons_ ha158 rfl rfl (Sl.cons_ ha158 rfl rfl (Sl.nil_ ha158))))))), hx160, hf133, (hf134.fin (by omega) (by omega) (by omega)), (hf137.fin (by omega) (by omega)), (hf136.fin (by omega) (by omega) (by omega)), (ho155.fin (by omega) (by omega) (by omega)), hE135, (by omega), (by omega)⟩)
  intro hk162
  refine dr_share (fun fr wl S => ∃ (q163 : Str) (q164 : Value), S = (fun w' => StpL wl w' (fun i => Value.ownBlock v3 = some i ∨ i = g_s)) ∧ Sl 55 fr [(0, .pointer (some (⟨g_s, 0, none⟩ : Addr))), (11, v3), (16, St q163), (17, .pointer (some (⟨g_s, 0, none⟩ : Addr))), (20, q164)] ∧ Stp w0 wl (some g_s) ∧ Src wl g_s b_s 82 ∧ Own shCustN 55 w0.heap.size w0.heap.size w4.heap.size wl v3 z11 ∧ Nst shStr 9 (fun x : Str × Int × List Str => x.2.2) w0.heap.size w4.heap.size wl z11 ∧ Own shStr 9 w31.heap.size w31.heap.size wl.heap.size wl q164 ([([107, 97, 97] : Str)]) ∧ z11.map (·.1) = (q7) ∧ (q163.length ≤ 17) ∧ w31.heap.size ≤ wl.heap.size) 6 #[true, true, true, true, true, true, true, false, false, true, false, false, false, false] ?_ ?_
  ·
   rintro a175 w165 _ ⟨q163, q164, rfl, ha175, hx166, hf167, hf168, hf171, hf170, hE169, hg173, hzl172⟩
   have hzhx166 := hx166.size
   have hgl174 := hf167.lt
   have hs176 : Ext w165 w165 := Ext.rfl' _
   refine dr_one (i := 7) (by kernel_rfl) ?_
   refine po_eff ha175 rfl rfl rfl rfl (op_buildSlice (s := shI64) (xs := [(-1 : Int), (0 : Int), (100000 : Int), (100001 : Int)]) (cs := [.int .i64 (-1 : Int), .int .i64 (0 : Int), .int .i64 (100000 : Int), .int .i64 (100001 : Int)]) (vs := [(0, .int .i64 (-1 : Int)), (1, .int .i64 (0 : Int)), (2, .int .i64 (100000 : Int)), (3, .int .i64 (100001 : Int))]) (S := fun _ => False) (le := w165.heap.size) ha175 rfl pos_shI64 Try.underlying69 ti2 rfl rfl (by decide) (by kernel_rfl) ⟨mk_shI64 ((-1 : Int)) (by first | assumption | omega | (constructor <;> omega) | (dsimp only; omega) | (simp; done) | (simp; omega) | (simp only [List.length_append, List.length_take, List.length_drop, List.length_cons, List.length_nil]; omega)), mk_shI64 ((0 : Int)) (by first | assumption | omega | (constructor <;> omega) | (dsimp only; omega) | (simp; done) | (simp; omega) | (simp only [List.length_append, List.length_take, List.length_drop, List.length_cons, List.length_nil]; omega)), mk_shI64 ((100000 : Int)) (by first | assumption | omega | (constructor <;> omega) | (dsimp only; omega) | (simp; done) | (simp; omega) | (simp only [List.length_append, List.length_take, List.length_drop, List.length_cons, List.length_nil]; omega)), mk_shI64 ((100001 : Int)) (by first | assumption | omega | (constructor <;> omega) | (dsimp only; omega) | (simp; done) | (simp; omega) | (simp only [List.length_append, List.length_take, List.length_drop, List.length_cons, List.length_nil]; omega)), rfl⟩ (fun _ h => h.elim)) ?_
   rintro v177 w178 ⟨ho179, he180, hob181⟩ a182 ha182; clear ha175 a175
   have hs183 := hs176.trans' he180
   have hx184 := hx166.trans' (Stp.of_ext he180 _)
   have hzhx184 := he180.size
   refine ⟨(StpL.of_ext hs183), ?_⟩
   replace hf167 := hf167.ext hs183
   replace hf168 := hf168.ext hs183
   replace hf171 := hf171.ext hs183
   replace hf170 := hf170.ext hs183
   refine dr_narrow (S' := fun w' => StpL w178 w' _) (fun w' h' => (StpL.of_ext hs183).trans' h') _ _ _ _ ?_
   have hs185 : Ext w178 w178 := Ext.rfl' _
   exact dr_listed (by kernel_rfl) (hk128 _ _ _ ⟨q163, v177, q164, rfl, (Sl.cons_ ha182 rfl rfl (Sl.cons_ ha182 rfl rfl (Sl.cons_ ha182 rfl rfl (Sl.cons_ ha182 rfl rfl (Sl.cons_ ha182 rfl rfl (Sl.cons_ ha182 rfl rfl (Sl.nil_ ha182))))))), hx184, hf167, (hf168.fin (by omega) (by omega) (by omega)), (hf171.fin (by omega) (by omega)), (ho179.fin (by omega) (by omega) (by omega)), (hf170.fin (by omega) (by omega) (by omega)), hE169, (by omega), (by omega)⟩)
  intro hk186
  refine dr_share (fun fr wl S => ∃ (q187 : Str), S = (fun w' => StpL wl w' (fun i => Value.ownBlock v3 = some i ∨ i = g_s)) ∧ Sl 55 fr [(0, .pointer (some (⟨g_s, 0, none⟩ : Addr))), (11, v3), (16, St q187), (17, .pointer (some (⟨g_s, 0, none⟩ : Addr)))] ∧ Stp w0 wl (some g_s) ∧ Src wl g_s b_s 82 ∧ Own shCustN 55 w0.heap.size w0.heap.size w4.heap.size wl v3 z11 ∧ Nst shStr 9 (fun x : Str × Int × List Str => x.2.2) w0.heap.size w4.heap.size wl z11 ∧ z11.map (·.1) = (q7) ∧ (q187.length ≤ 17) ∧ w31.heap.size ≤ wl.heap.size) 7 #[true, true, true, true, true, true, true, false, false, false, false, false, false, false] ?_ ?_
  ·
   rintro a197 w188 _ ⟨q187, rfl, ha197, hx189, hf190, hf191, hf193, hE192, hg195, hzl194⟩
   have hzhx189 := hx189.size
   have hgl196 := hf190.lt
   have hs198 : Ext w188 w188 := Ext.rfl' _
   refine dr_two (i := 7) (j := 9) (by kernel_rfl) ?_ ?_
   ·
    refine po_eff ha197 rfl rfl rfl rfl (op_buildSlice (s := shI64) (xs := [(-1 : Int), (0 : Int), (100000 : Int), (100001 : Int)]) (cs := [.int .i64 (-1 : Int), .int .i64 (0 : Int), .int .i64 (100000 : Int), .int .i64 (100001 : Int)]) (vs := [(0, .int .i64 (-1 : Int)), (1, .int .i64 (0 : Int)), (2, .int .i64 (100000 : Int)), (3, .int .i64 (100001 : Int))]) (S := fun _ => False) (le := w188.heap.size) ha197 rfl pos_shI64 Try.underlying69 ti2 rfl rfl (by decide) (by kernel_rfl) ⟨mk_shI64 ((-1 : Int)) (by first | assumption | omega | (constructor <;> omega) | (dsimp only; omega) | (simp; done) | (simp; omega) | (simp only [List.length_append, List.length_take, List.length_drop, List.length_cons, List.length_nil]; omega)), mk_shI64 ((0 : Int)) (by first | assumption | omega | (constructor <;> omega) | (dsimp only; omega) | (simp; done) | (simp; omega) | (simp only [List.length_append, List.length_take, List.length_drop, List.length_cons, List.length_nil]; omega)), mk_shI64 ((100000 : Int)) (by first | assumption | omega | (constructor <;> omega) | (dsimp only; omega) | (simp; done) | (simp; omega) | (simp only [List.length_append, List.length_take, List.length_drop, List.length_cons, List.length_nil]; omega)), mk_shI64 ((100001 : Int)) (by first | assumption | omega | (constructor <;> omega) | (dsimp only; omega) | (simp; done) | (simp; omega) | (simp only [List.length_append, List.length_take, List.length_drop, List.length_cons, List.length_nil]; omega)), rfl⟩ (fun _ h => h.elim)) ?_
    rintro v199 w200 ⟨ho201, he202, hob203⟩ a204 ha204; clear ha197 a197
    have hs205 := hs198.trans' he202
    have hx206 := hx189.trans' (Stp.of_ext he202 _)
    have hzhx206 := he202.size
    refine ⟨(StpL.of_ext hs205), ?_⟩
    replace hf190 := hf190.ext hs205
    replace hf191 := hf191.ext hs205
    replace hf193 := hf193.ext hs205
    refine dr_narrow (S' := fun w' => StpL w200 w' _) (fun w' h' => (StpL.of_ext hs205).trans' h') _ _ _ _ ?_
    have hs207 : Ext w200 w200 := Ext.rfl' _
    exact dr_listed (by kernel_rfl) (hk162 _ _ _ ⟨q187, v199, rfl, (Sl.cons_ ha204 rfl rfl (Sl.cons_ ha204 rfl rfl (Sl.cons_ ha204 rfl rfl (Sl.cons_ ha204 rfl rfl (Sl.cons_ ha204 rfl rfl (Sl.nil_ ha204)))))), hx206, hf190, (hf191.fin (by omega) (by omega) (by omega)), (hf193.fin (by omega) (by omega)), (ho201.fin (by omega) (by omega) (by omega)), hE192, (by omega), (by omega)⟩)
   ·
    refine po_eff ha197 rfl rfl rfl rfl (op_buildSlice (s := shStr) (xs := [([107, 97, 97] : Str)]) (cs := [St (([107, 97, 97] : Str))]) (vs := [(0, St (([107, 97, 97] : Str)))]) (S := fun _ => False) (le := w188.heap.size) ha197 rfl pos_shStr Try.underlying34 ti9 rfl rfl (by decide) (by kernel_rfl) (Els.single (mk_shStr (([107, 97, 97] : Str)) (by first | assumption | omega | (constructor <;> omega) | (dsimp only; omega) | (simp; done) | (simp; omega) | (simp only [List.length_append, List.length_take, List.length_drop, List.length_cons, List.length_nil]; omega)))) (fun _ h => h.elim)) ?_
    rintro v208 w209 ⟨ho210, he211, hob212⟩ a213 ha213; clear ha197 a197
    have hs214 := hs198.trans' he211
    have hx215 := hx189.trans' (Stp.of_ext he211 _)
    have hzhx215 := he211.size
    refine ⟨(StpL.of_ext hs214), ?_⟩
    replace hf190 := hf190.ext hs214
    replace hf191 := hf191.ext hs214
    replace hf193 := hf193.ext hs214
    refine dr_narrow (S' := fun w' => StpL w209 w' _) (fun w' h' => (StpL.of_ext hs214).trans' h') _ _ _ _ ?_
    have hs216 : Ext w209 w209 := Ext.rfl' _
    exact dr_listed (by kernel_rfl) (hk186 _ _ _ ⟨q187, v208, rfl, (Sl.cons_ ha213 rfl rfl (Sl.cons_ ha213 rfl rfl (Sl.cons_ ha213 rfl rfl (Sl.cons_ ha213 rfl rfl (Sl.cons_ ha213 rfl rfl (Sl.nil_ ha213)))))), hx215, hf190, (hf191.fin (by omega) (by omega) (by omega)), (hf193.fin (by omega) (by omega)), (ho210.fin (by omega) (by omega) (by omega)), hE192, (by omega), (by omega)⟩)
  intro hk217
  refine dr_share (fun fr wl S => ∃ (q218 : Int) (q219 : Int) (q220 : Value), S = (fun w' => StpL wl w' (fun i => Value.ownBlock v3 = some i ∨ i = g_s)) ∧ Sl 55 fr [(0, .pointer (some (⟨g_s, 0, none⟩ : Addr))), (11, v3), (14, .int .i64 (q218 : Int)), (19, .int .i64 (q219 : Int)), (20, q220)] ∧ Stp w0 wl (some g_s) ∧ Src wl g_s b_s 82 ∧ Own shCustN 55 w0.heap.size w0.heap.size w4.heap.size wl v3 z11 ∧ Nst shStr 9 (fun x : Str × Int × List Str => x.2.2) w0.heap.size w4.heap.size wl z11 ∧ Own shStr 9 w31.heap.size w31.heap.size wl.heap.size wl q220 ([([107, 97, 97] : Str)]) ∧ z11.map (·.1) = (q7) ∧ (0 ≤ q218) ∧ ((3 : Int) ≤ 1 → q218 = 0) ∧ (1 < (3 : Int) → q218 < (3 : Int)) ∧ (q219 ∈ ([(-1 : Int), (0 : Int), (100000 : Int), (100001 : Int)])) ∧ w31.heap.size ≤ wl.heap.size) 7 #[true, false, true, true, false, false, true, true, true, true, false, false, false, false] ?_ ?_
  ·
   rintro a234 w221 _ ⟨q218, q219, q220, rfl, ha234, hx222, hf223, hf224, hf227, hf226, hE225, hg229, hg230, hg231, hg232, hzl228⟩
   try simp only [List.mem_cons, List.not_mem_nil, or_false] at hg232
   have hzhx222 := hx222.size
   have hgl233 := hf223.lt
   have hs235 : Ext w221 w221 := Ext.rfl' _
   refine dr_one (i := 1) (by kernel_rfl) ?_
   refine po_eff ha234 rfl rfl rfl rfl (op_buildSlice (s := shStr) (xs := [([97, 100, 97] : Str), ([90] : Str), ([122, 111, 101] : Str)]) (cs := [St (([97, 100, 97] : Str)), St (([90] : Str)), St (([122, 111, 101] : Str))]) (vs := [(0, St (([97, 100, 97] : Str))), (1, St (([90] : Str))), (2, St (([122, 111, 101] : Str)))]) (S := fun _ => False) (le := w221.heap.size) ha234 rfl pos_shStr Try.underlying34 ti9 rfl rfl (by decide) (by kernel_rfl) ⟨mk_shStr (([97, 100, 97] : Str)) (by first | assumption | omega | (constructor <;> omega) | (dsimp only; omega) | (simp; done) | (simp; omega) | (simp only [List.length_append, List.length_take, List.length_drop, List.length_cons, List.length_nil]; omega)), mk_shStr (([90] : Str)) (by first | assumption | omega | (constructor <;> omega) | (dsimp only; omega) | (simp; done) | (simp; omega) | (simp only [List.length_append, List.length_take, List.length_drop, List.length_cons, List.length_nil]; omega)), mk_shStr (([122, 111, 101] : Str)) (by first | assumption | omega | (constructor <;> omega) | (dsimp only; omega) | (simp; done) | (simp; omega) | (simp only [List.length_append, List.length_take, List.length_drop, List.length_cons, List.length_nil]; omega)), rfl⟩ (fun _ h => h.elim)) ?_
   rintro v236 w237 ⟨ho238, he239, hob240⟩ a241 ha241; clear ha234 a234
   have hs242 := hs235.trans' he239
   have hx243 := hx222.trans' (Stp.of_ext he239 _)
   have hzhx243 := he239.size
   refine ⟨(StpL.of_ext hs242), ?_⟩
   replace hf223 := hf223.ext hs242
   replace hf224 := hf224.ext hs242
   replace hf227 := hf227.ext hs242
   replace hf226 := hf226.ext hs242
   refine dr_narrow (S' := fun w' => StpL w237 w' _) (fun w' h' => (StpL.of_ext hs242).trans' h') _ _ _ _ ?_
   have hs244 : Ext w237 w237 := Ext.rfl' _
   obtain ⟨x245, hx245⟩ := get_ex (xs := [([97, 100, 97] : Str), ([90] : Str), ([122, 111, 101] : Str)]) (j := ((q218 : Int)).toNat) (by first | omega | (simp only [List.length_cons, List.length_nil]; omega))
   obtain ⟨p246, c247, hi248, hc249, hr250, hs251⟩ := Rds.at_ (ho238.rds pos_shStr) hx245
   obtain ⟨rfl, b252⟩ := inv_shStr hr250
   obtain ⟨_, _⟩ : _ ∧ _ := hs251
   have hdlx245 := el_len 17 (by rfl) hx245
   refine dr_val (i := 4) ha241 rfl (by kernel_rfl) (by kernel_rfl) (by kernel_rfl) rfl rfl rfl (StpL.of_ext hs244) (fun w' hw' => op_indexAddr ha241 rfl Try.underlying34 ti9 rfl rfl (by omega) hi248) ?_
   intro a253 ha253; clear ha241 a241
   refine dr_val (i := 5) ha253 rfl (by kernel_rfl) (by kernel_rfl) (by kernel_rfl) rfl rfl rfl (StpL.of_ext hs244) (fun w' hw' => op_loadH ha253 rfl Try.underlying9 rfl rfl (hc249.stpL hw' (by rintro (q | q) <;> first | omega | (have hq0 := hf224.lt _ q; omega))) rfl) ?_
   intro a254 ha254; clear ha253 a253
   refine dr_val (i := 10) ha254 rfl (by kernel_rfl) (by kernel_rfl) (by kernel_rfl) rfl rfl rfl (StpL.of_ext hs244) (fun w' hw' => op_build (vs := [(0, St x245), (1, .int .i64 (q219 : Int)), (2, q220)]) (cs := #[St x245, .int .i64 (q219 : Int), q220]) ha254 rfl Try.underlying55 ti55 bp55 rfl ((fill_one rfl rfl rfl).trans ((fill_one rfl rfl rfl).trans ((fill_one hf226.cells1 rfl rfl).trans rfl)))) ?_
   intro a255 ha255; clear ha254 a254
   exact dr_listed (by kernel_rfl) (hk75 _ _ _ ⟨x245, q219, q220, rfl, (Sl.cons_ ha255 rfl rfl (Sl.cons_ ha255 rfl rfl (Sl.cons_ ha255 rfl rfl (Sl.nil_ ha255)))), hx243, hf223, (hf224.fin (by omega) (by omega) (by omega)), (hf227.fin (by omega) (by omega)), (hf226.fin (by omega) (by omega) (by omega)), hE225, (by omega), (by first | assumption | omega | (simp only [List.mem_cons, List.not_mem_nil, or_false]; omega) | (constructor <;> omega)), (by omega)⟩)
  intro hk256
  refine dr_share (fun fr wl S => ∃ (q257 : Value) (q258 : Value) (q259 : Value), S = (fun w' => StpL wl w' (fun i => Value.ownBlock v3 = some i ∨ i = g_s)) ∧ Sl 55 fr [(0, .pointer (some (⟨g_s, 0, none⟩ : Addr))), (11, v3), (12, q257), (13, .pointer (some (⟨g_s, 0, none⟩ : Addr))), (17, .pointer (some (⟨g_s, 0, none⟩ : Addr))), (18, q258), (20, q259)] ∧ Stp w0 wl (some g_s) ∧ Src wl g_s b_s 82 ∧ Own shCustN 55 w0.heap.size w0.heap.size w4.heap.size wl v3 z11 ∧ Nst shStr 9 (fun x : Str × Int × List Str => x.2.2) w0.heap.size w4.heap.size wl z11 ∧ Own shStr 9 w31.heap.size w31.heap.size wl.heap.size wl q257 ([([97, 100, 97] : Str), ([90] : Str), ([122, 111, 101] : Str)]) ∧ Own shI64 2 w31.heap.size w31.heap.size wl.heap.size wl q258 ([(-1 : Int), (0 : Int), (100000 : Int), (100001 : Int)]) ∧ Own shStr 9 w31.heap.size w31.heap.size wl.heap.size wl q259 ([([107, 97, 97] : Str)]) ∧ z11.map (·.1) = (q7) ∧ w31.heap.size ≤ wl.heap.size) 8 #[true, true, true, false, false, false, true, true, false, true, false, false, false, false] ?_ ?_
  ·
   rintro a271 w260 _ ⟨q257, q258, q259, rfl, ha271, hx261, hf262, hf263, hf268, hf265, hf266, hf267, hE264, hzl269⟩
   have hzhx261 := hx261.size
   have hgl270 := hf262.lt
   have hs272 : Ext w260 w260 := Ext.rfl' _
   refine dr_one (i := 3) (by kernel_rfl) ?_
   refine po_callS ha271 rfl rfl rfl rfl (op_call ha271 rfl cb75 rfl) (c_spec_l01Next _ g_s b_s (3 : Int) hf262) ?_
   rintro v273 w274 he275 ⟨hS276, ⟨q277, hq278, hq279, hq280, rfl⟩⟩ a281 ha281; clear ha271 a271
   have hx282 := hx261.trans' he275
   have hzhx282 := he275.size
   first | replace hf263 := hf263.stp he275 (by intro q hq; cases hq; omega) | replace hf263 := hf263.stpF flat_shCustN he275 (by intro q hq; cases hq; exact hf263.ne_box (by assumption) rfl)
   first | replace hf268 := hf268.stp he275 (by intro q hq; cases hq; omega) | replace hf268 := hf268.stpB flat_shStr he275 (by assumption) rfl
   first | replace hf265 := hf265.stp he275 (by intro q hq; cases hq; omega) | replace hf265 := hf265.stpF flat_shStr he275 (by intro q hq; cases hq; exact hf265.ne_box (by assumption) rfl)
   first | replace hf266 := hf266.stp he275 (by intro q hq; cases hq; omega) | replace hf266 := hf266.stpF flat_shI64 he275 (by intro q hq; cases hq; exact hf266.ne_box (by assumption) rfl)
   first | replace hf267 := hf267.stp he275 (by intro q hq; cases hq; omega) | replace hf267 := hf267.stpF flat_shStr he275 (by intro q hq; cases hq; exact hf267.ne_box (by assumption) rfl)
   clear hf262
   have hSlhS276 := hS276.lt
   have hs283 := (StpL.of_ext (B := fun i => Value.ownBlock v3 = some i ∨ i = g_s) hs272).trans' (Stp.toL he275 (by intro q hq; cases hq; exact Or.inr (rfl)))
   refine ⟨hs283, ?_⟩
   refine dr_narrow (S' := fun w' => StpL w274 w' _) (fun w' h' => hs283.trans' h') _ _ _ _ ?_
   have hs284 : Ext w274 w274 := Ext.rfl' _
   obtain ⟨x285, hx285⟩ := get_ex (xs := [([97, 100, 97] : Str), ([90] : Str), ([122, 111, 101] : Str)]) (j := ((q277 : Int)).toNat) (by first | omega | (simp only [List.length_cons, List.length_nil]; omega))
   obtain ⟨p286, c287, hi288, hc289, hr290, hs291⟩ := Rds.at_ (hf265.rds pos_shStr) hx285
   obtain ⟨rfl, b292⟩ := inv_shStr hr290
   obtain ⟨_, _⟩ : _ ∧ _ := hs291
   have hdlx285 := el_len 17 (by rfl) hx285
   refine dr_val (i := 4) ha281 rfl (by kernel_rfl) (by kernel_rfl) (by kernel_rfl) rfl rfl rfl (StpL.of_ext hs284) (fun w' hw' => op_indexAddr ha281 rfl Try.underlying34 ti9 rfl rfl (by omega) hi288) ?_
   intro a293 ha293; clear ha281 a281
   refine dr_val (i := 5) ha293 rfl (by kernel_rfl) (by kernel_rfl) (by kernel_rfl) rfl rfl rfl (StpL.of_ext hs284) (fun w' hw' => op_loadH ha293 rfl Try.underlying9 rfl rfl (hc289.stpL hw' (by rintro (q | q) <;> first | omega | (have hq0 := hf263.lt _ q; omega))) rfl) ?_
   intro a294 ha294; clear ha293 a293
   exact dr_listed (by kernel_rfl) (hk128 _ _ _ ⟨x285, q258, q259, rfl, (Sl.cons_ ha294 rfl rfl (Sl.cons_ ha294 rfl rfl (Sl.cons_ ha294 rfl rfl (Sl.cons_ ha294 rfl rfl (Sl.cons_ ha294 rfl rfl (Sl.cons_ ha294 rfl rfl (Sl.nil_ ha294))))))), hx282, hS276, (hf263.fin (by omega) (by omega) (by omega)), (hf268.fin (by omega) (by omega)), (hf266.fin (by omega) (by omega) (by omega)), (hf267.fin (by omega) (by omega) (by omega)), hE264, (by omega), (by omega)⟩)
  intro hk295
  refine dr_share (fun fr wl S => ∃ (q296 : Int) (q297 : Value) (q298 : Value), S = (fun w' => StpL wl w' (fun i => Value.ownBlock v3 = some i ∨ i = g_s)) ∧ Sl 55 fr [(0, .pointer (some (⟨g_s, 0, none⟩ : Addr))), (11, v3), (14, .int .i64 (q296 : Int)), (17, .pointer (some (⟨g_s, 0, none⟩ : Addr))), (18, q297), (20, q298)] ∧ Stp w0 wl (some g_s) ∧ Src wl g_s b_s 82 ∧ Own shCustN 55 w0.heap.size w0.heap.size w4.heap.size wl v3 z11 ∧ Nst shStr 9 (fun x : Str × Int × List Str => x.2.2) w0.heap.size w4.heap.size wl z11 ∧ Own shI64 2 w31.heap.size w31.heap.size wl.heap.size wl q297 ([(-1 : Int), (0 : Int), (100000 : Int), (100001 : Int)]) ∧ Own shStr 9 w31.heap.size w31.heap.size wl.heap.size wl q298 ([([107, 97, 97] : Str)]) ∧ z11.map (·.1) = (q7) ∧ (0 ≤ q296) ∧ ((3 : Int) ≤ 1 → q296 = 0) ∧ (1 < (3 : Int) → q296 < (3 : Int)) ∧ w31.heap.size ≤ wl.heap.size) 8 #[true, false, true, true, false, false, true, true, false, true, false, false, false, false] ?_ ?_
  ·
   rintro a312 w299 _ ⟨q296, q297, q298, rfl, ha312, hx300, hf301, hf302, hf306, hf304, hf305, hE303, hg308, hg309, hg310, hzl307⟩
   have hzhx300 := hx300.size
   have hgl311 := hf301.lt
   have hs313 : Ext w299 w299 := Ext.rfl' _
   refine dr_two (i := 1) (j := 8) (by kernel_rfl) ?_ ?_
   ·
    refine po_eff ha312 rfl rfl rfl rfl (op_buildSlice (s := shStr) (xs := [([97, 100, 97] : Str), ([90] : Str), ([122, 111, 101] : Str)]) (cs := [St (([97, 100, 97] : Str)), St (([90] : Str)), St (([122, 111, 101] : Str))]) (vs := [(0, St (([97, 100, 97] : Str))), (1, St (([90] : Str))), (2, St (([122, 111, 101] : Str)))]) (S := fun _ => False) (le := w299.heap.size) ha312 rfl pos_shStr Try.underlying34 ti9 rfl rfl (by decide) (by kernel_rfl) ⟨mk_shStr (([97, 100, 97] : Str)) (by first | assumption | omega | (constructor <;> omega) | (dsimp only; omega) | (simp; done) | (simp; omega) | (simp only [List.length_append, List.length_take, List.length_drop, List.length_cons, List.length_nil]; omega)), mk_shStr (([90] : Str)) (by first | assumption | omega | (constructor <;> omega) | (dsimp only; omega) | (simp; done) | (simp; omega) | (simp only [List.length_append, List.length_take, List.length_drop, List.length_cons, List.length_nil]; omega)), mk_shStr (([122, 111, 101] : Str)) (by first | assumption | omega | (constructor <;> omega) | (dsimp only; omega) | (simp; done) | (simp; omega) | (simp only [List.length_append, List.length_take, List.length_drop, List.length_cons, List.length_nil]; omega)), rfl⟩ (fun _ h => h.elim)) ?_
    rintro v314 w315 ⟨ho316, he317, hob318⟩ a319 ha319; clear ha312 a312
    have hs320 := hs313.trans' he317
    have hx321 := hx300.trans' (Stp.of_ext he317 _)
    have hzhx321 := he317.size
    refine ⟨(StpL.of_ext hs320), ?_⟩
    replace hf301 := hf301.ext hs320
    replace hf302 := hf302.ext hs320
    replace hf306 := hf306.ext hs320
    replace hf304 := hf304.ext hs320
    replace hf305 := hf305.ext hs320
    refine dr_narrow (S' := fun w' => StpL w315 w' _) (fun w' h' => (StpL.of_ext hs320).trans' h') _ _ _ _ ?_
    have hs322 : Ext w315 w315 := Ext.rfl' _
    obtain ⟨x323, hx323⟩ := get_ex (xs := [([97, 100, 97] : Str), ([90] : Str), ([122, 111, 101] : Str)]) (j := ((q296 : Int)).toNat) (by first | omega | (simp only [List.length_cons, List.length_nil]; omega))
    obtain ⟨p324, c325, hi326, hc327, hr328, hs329⟩ := Rds.at_ (ho316.rds pos_shStr) hx323
    obtain ⟨rfl, b330⟩ := inv_shStr hr328
    obtain ⟨_, _⟩ : _ ∧ _ := hs329
    have hdlx323 := el_len 17 (by rfl) hx323
    refine dr_val (i := 4) ha319 rfl (by kernel_rfl) (by kernel_rfl) (by kernel_rfl) rfl rfl rfl (StpL.of_ext hs322) (fun w' hw' => op_indexAddr ha319 rfl Try.underlying34 ti9 rfl rfl (by omega) hi326) ?_
    intro a331 ha331; clear ha319 a319
    refine dr_val (i := 5) ha331 rfl (by kernel_rfl) (by kernel_rfl) (by kernel_rfl) rfl rfl rfl (StpL.of_ext hs322) (fun w' hw' => op_loadH ha331 rfl Try.underlying9 rfl rfl (hc327.stpL hw' (by rintro (q | q) <;> first | omega | (have hq0 := hf302.lt _ q; omega))) rfl) ?_
    intro a332 ha332; clear ha331 a331
    exact dr_listed (by kernel_rfl) (hk128 _ _ _ ⟨x323, q297, q298, rfl, (Sl.cons_ ha332 rfl rfl (Sl.cons_ ha332 rfl rfl (Sl.cons_ ha332 rfl rfl (Sl.cons_ ha332 rfl rfl (Sl.cons_ ha332 rfl rfl (Sl.cons_ ha332 rfl rfl (Sl.nil_ ha332))))))), hx321, hf301, (hf302.fin (by omega) (by omega) (by omega)), (hf306.fin (by omega) (by omega)), (hf304.fin (by omega) (by omega) (by omega)), (hf305.fin (by omega) (by omega) (by omega)), hE303, (by omega), (by omega)⟩)
   ·
    refine po_callS ha312 rfl rfl rfl rfl (op_call ha312 rfl cb77 rfl) (c_spec_l01Pick _ g_s b_s q297 ([(-1 : Int), (0 : Int), (100000 : Int), (100001 : Int)]) hf301 (hf304.rds pos_shI64) (by rintro ⟨_, _⟩; omega) (by first | assumption | omega | (constructor <;> omega) | (dsimp only; omega) | (simp; done) | (simp; omega))) ?_
    rintro v333 w334 he335 ⟨hS336, ⟨q337, hq338, rfl⟩⟩ a339 ha339; clear ha312 a312
    have hx340 := hx300.trans' he335
    have hzhx340 := he335.size
    first | replace hf302 := hf302.stp he335 (by intro q hq; cases hq; omega) | replace hf302 := hf302.stpF flat_shCustN he335 (by intro q hq; cases hq; exact hf302.ne_box (by assumption) rfl)
    first | replace hf306 := hf306.stp he335 (by intro q hq; cases hq; omega) | replace hf306 := hf306.stpB flat_shStr he335 (by assumption) rfl
    first | replace hf304 := hf304.stp he335 (by intro q hq; cases hq; omega) | replace hf304 := hf304.stpF flat_shI64 he335 (by intro q hq; cases hq; exact hf304.ne_box (by assumption) rfl)
    first | replace hf305 := hf305.stp he335 (by intro q hq; cases hq; omega) | replace hf305 := hf305.stpF flat_shStr he335 (by intro q hq; cases hq; exact hf305.ne_box (by assumption) rfl)
    clear hf301
    have hSlhS336 := hS336.lt
    have hs341 := (StpL.of_ext (B := fun i => Value.ownBlock v3 = some i ∨ i = g_s) hs313).trans' (Stp.toL he335 (by intro q hq; cases hq; exact Or.inr (rfl)))
    refine ⟨hs341, ?_⟩
    simp only [List.mem_cons, List.not_mem_nil, or_false] at hq338
    refine dr_narrow (S' := fun w' => StpL w334 w' _) (fun w' h' => hs341.trans' h') _ _ _ _ ?_
    have hs342 : Ext w334 w334 := Ext.rfl' _
    exact dr_listed (by kernel_rfl) (hk256 _ _ _ ⟨q296, q337, q298, rfl, (Sl.cons_ ha339 rfl rfl (Sl.cons_ ha339 rfl rfl (Sl.cons_ ha339 rfl rfl (Sl.cons_ ha339 rfl rfl (Sl.cons_ ha339 rfl rfl (Sl.nil_ ha339)))))), hx340, hS336, (hf302.fin (by omega) (by omega) (by omega)), (hf306.fin (by omega) (by omega)), (hf305.fin (by omega) (by omega) (by omega)), hE303, (by omega), (by first | assumption | omega | (simp only [List.mem_cons, List.not_mem_nil, or_false]; omega) | (constructor <;> omega)), (by omega), (by first | assumption | omega | (simp only [List.mem_cons, List.not_mem_nil, or_false]; omega) | (constructor <;> omega)), (by omega)⟩)
  intro hk343
  refine dr_share (fun fr wl S => ∃ (q344 : Value) (q345 : Value), S = (fun w' => StpL wl w' (fun i => Value.ownBlock v3 = some i ∨ i = g_s)) ∧ Sl 55 fr [(0, .pointer (some (⟨g_s, 0, none⟩ : Addr))), (11, v3), (12, q344), (13, .pointer (some (⟨g_s, 0, none⟩ : Addr))), (17, .pointer (some (⟨g_s, 0, none⟩ : Addr))), (18, q345)] ∧ Stp w0 wl (some g_s) ∧ Src wl g_s b_s 82 ∧ Own shCustN 55 w0.heap.size w0.heap.size w4.heap.size wl v3 z11 ∧ Nst shStr 9 (fun x : Str × Int × List Str => x.2.2) w0.heap.size w4.heap.size wl z11 ∧ Own shStr 9 w31.heap.size w31.heap.size wl.heap.size wl q344 ([([97, 100, 97] : Str), ([90] : Str), ([122, 111, 101] : Str)]) ∧ Own shI64 2 w31.heap.size w31.heap.size wl.heap.size wl q345 ([(-1 : Int), (0 : Int), (100000 : Int), (100001 : Int)]) ∧ z11.map (·.1) = (q7) ∧ w31.heap.size ≤ wl.heap.size) 9 #[true, true, true, false, false, false, true, true, false, false, false, false, false, false] ?_ ?_
  ·
   rintro a356 w346 _ ⟨q344, q345, rfl, ha356, hx347, hf348, hf349, hf353, hf351, hf352, hE350, hzl354⟩
   have hzhx347 := hx347.size
   have hgl355 := hf348.lt
   have hs357 : Ext w346 w346 := Ext.rfl' _
   refine dr_two (i := 3) (j := 9) (by kernel_rfl) ?_ ?_
   ·
    refine po_callS ha356 rfl rfl rfl rfl (op_call ha356 rfl cb75 rfl) (c_spec_l01Next _ g_s b_s (3 : Int) hf348) ?_
    rintro v358 w359 he360 ⟨hS361, ⟨q362, hq363, hq364, hq365, rfl⟩⟩ a366 ha366; clear ha356 a356
    have hx367 := hx347.trans' he360
    have hzhx367 := he360.size
    first | replace hf349 := hf349.stp he360 (by intro q hq; cases hq; omega) | replace hf349 := hf349.stpF flat_shCustN he360 (by intro q hq; cases hq; exact hf349.ne_box (by assumption) rfl)
    first | replace hf353 := hf353.stp he360 (by intro q hq; cases hq; omega) | replace hf353 := hf353.stpB flat_shStr he360 (by assumption) rfl
    first | replace hf351 := hf351.stp he360 (by intro q hq; cases hq; omega) | replace hf351 := hf351.stpF flat_shStr he360 (by intro q hq; cases hq; exact hf351.ne_box (by assumption) rfl)
    first | replace hf352 := hf352.stp he360 (by intro q hq; cases hq; omega) | replace hf352 := hf352.stpF flat_shI64 he360 (by intro q hq; cases hq; exact hf352.ne_box (by assumption) rfl)
    clear hf348
    have hSlhS361 := hS361.lt
    have hs368 := (StpL.of_ext (B := fun i => Value.ownBlock v3 = some i ∨ i = g_s) hs357).trans' (Stp.toL he360 (by intro q hq; cases hq; exact Or.inr (rfl)))
    refine ⟨hs368, ?_⟩
    refine dr_narrow (S' := fun w' => StpL w359 w' _) (fun w' h' => hs368.trans' h') _ _ _ _ ?_
    have hs369 : Ext w359 w359 := Ext.rfl' _
    obtain ⟨x370, hx370⟩ := get_ex (xs := [([97, 100, 97] : Str), ([90] : Str), ([122, 111, 101] : Str)]) (j := ((q362 : Int)).toNat) (by first | omega | (simp only [List.length_cons, List.length_nil]; omega))
    obtain ⟨p371, c372, hi373, hc374, hr375, hs376⟩ := Rds.at_ (hf351.rds pos_shStr) hx370
    obtain ⟨rfl, b377⟩ := inv_shStr hr375
    obtain ⟨_, _⟩ : _ ∧ _ := hs376
    have hdlx370 := el_len 17 (by rfl) hx370
    refine dr_val (i := 4) ha366 rfl (by kernel_rfl) (by kernel_rfl) (by kernel_rfl) rfl rfl rfl (StpL.of_ext hs369) (fun w' hw' => op_indexAddr ha366 rfl Try.underlying34 ti9 rfl rfl (by omega) hi373) ?_
    intro a378 ha378; clear ha366 a366
    refine dr_val (i := 5) ha378 rfl (by kernel_rfl) (by kernel_rfl) (by kernel_rfl) rfl rfl rfl (StpL.of_ext hs369) (fun w' hw' => op_loadH ha378 rfl Try.underlying9 rfl rfl (hc374.stpL hw' (by rintro (q | q) <;> first | omega | (have hq0 := hf349.lt _ q; omega))) rfl) ?_
    intro a379 ha379; clear ha378 a378
    exact dr_listed (by kernel_rfl) (hk162 _ _ _ ⟨x370, q345, rfl, (Sl.cons_ ha379 rfl rfl (Sl.cons_ ha379 rfl rfl (Sl.cons_ ha379 rfl rfl (Sl.cons_ ha379 rfl rfl (Sl.cons_ ha379 rfl rfl (Sl.nil_ ha379)))))), hx367, hS361, (hf349.fin (by omega) (by omega) (by omega)), (hf353.fin (by omega) (by omega)), (hf352.fin (by omega) (by omega) (by omega)), hE350, (by omega), (by omega)⟩)
   ·
    refine po_eff ha356 rfl rfl rfl rfl (op_buildSlice (s := shStr) (xs := [([107, 97, 97] : Str)]) (cs := [St (([107, 97, 97] : Str))]) (vs := [(0, St (([107, 97, 97] : Str)))]) (S := fun _ => False) (le := w346.heap.size) ha356 rfl pos_shStr Try.underlying34 ti9 rfl rfl (by decide) (by kernel_rfl) (Els.single (mk_shStr (([107, 97, 97] : Str)) (by first | assumption | omega | (constructor <;> omega) | (dsimp only; omega) | (simp; done) | (simp; omega) | (simp only [List.length_append, List.length_take, List.length_drop, List.length_cons, List.length_nil]; omega)))) (fun _ h => h.elim)) ?_
    rintro v380 w381 ⟨ho382, he383, hob384⟩ a385 ha385; clear ha356 a356
    have hs386 := hs357.trans' he383
    have hx387 := hx347.trans' (Stp.of_ext he383 _)
    have hzhx387 := he383.size
    refine ⟨(StpL.of_ext hs386), ?_⟩
    replace hf348 := hf348.ext hs386
    replace hf349 := hf349.ext hs386
    replace hf353 := hf353.ext hs386
    replace hf351 := hf351.ext hs386
    replace hf352 := hf352.ext hs386
    refine dr_narrow (S' := fun w' => StpL w381 w' _) (fun w' h' => (StpL.of_ext hs386).trans' h') _ _ _ _ ?_
    have hs388 : Ext w381 w381 := Ext.rfl' _
    exact dr_listed (by kernel_rfl) (hk295 _ _ _ ⟨q344, q345, v380, rfl, (Sl.cons_ ha385 rfl rfl (Sl.cons_ ha385 rfl rfl (Sl.cons_ ha385 rfl rfl (Sl.cons_ ha385 rfl rfl (Sl.cons_ ha385 rfl rfl (Sl.cons_ ha385 rfl rfl (Sl.cons_ ha385 rfl rfl (Sl.nil_ ha385)))))))), hx387, hf348, (hf349.fin (by omega) (by omega) (by omega)), (hf353.fin (by omega) (by omega)), (hf351.fin (by omega) (by omega) (by omega)), (hf352.fin (by omega) (by omega) (by omega)), (ho382.fin (by omega) (by omega) (by omega)), hE350, (by omega)⟩)
  intro hk389
  refine dr_share (fun fr wl S => ∃ (q390 : Value) (q391 : Value), S = (fun w' => StpL wl w' (fun i => Value.ownBlock v3 = some i ∨ i = g_s)) ∧ Sl 55 fr [(0, .pointer (some (⟨g_s, 0, none⟩ : Addr))), (11, v3), (12, q390), (13, .pointer (some (⟨g_s, 0, none⟩ : Addr))), (17, .pointer (some (⟨g_s, 0, none⟩ : Addr))), (20, q391)] ∧ Stp w0 wl (some g_s) ∧ Src wl g_s b_s 82 ∧ Own shCustN 55 w0.heap.size w0.heap.size w4.heap.size wl v3 z11 ∧ Nst shStr 9 (fun x : Str × Int × List Str => x.2.2) w0.heap.size w4.heap.size wl z11 ∧ Own shStr 9 w31.heap.size w31.heap.size wl.heap.size wl q390 ([([97, 100, 97] : Str), ([90] : Str), ([122, 111, 101] : Str)]) ∧ Own shStr 9 w31.heap.size w31.heap.size wl.heap.size wl q391 ([([107, 97, 97] : Str)]) ∧ z11.map (·.1) = (q7) ∧ w31.heap.size ≤ wl.heap.size) 9 #[true, true, true, false, false, false, true, false, false, true, false, false, false, false] ?_ ?_
  ·
   rintro a402 w392 _ ⟨q390, q391, rfl, ha402, hx393, hf394, hf395, hf399, hf397, hf398, hE396, hzl400⟩
   have hzhx393 := hx393.size
   have hgl401 := hf394.lt
   have hs403 : Ext w392 w392 := Ext.rfl' _
   refine dr_two (i := 3) (j := 7) (by kernel_rfl) ?_ ?_
   ·
    refine po_callS ha402 rfl rfl rfl rfl (op_call ha402 rfl cb75 rfl) (c_spec_l01Next _ g_s b_s (3 : Int) hf394) ?_
    rintro v404 w405 he406 ⟨hS407, ⟨q408, hq409, hq410, hq411, rfl⟩⟩ a412 ha412; clear ha402 a402
    have hx413 := hx393.trans' he406
    have hzhx413 := he406.size
    first | replace hf395 := hf395.stp he406 (by intro q hq; cases hq; omega) | replace hf395 := hf395.stpF flat_shCustN he406 (by intro q hq; cases hq; exact hf395.ne_box (by assumption) rfl)
    first | replace hf399 := hf399.stp he406 (by intro q hq; cases hq; omega) | replace hf399 := hf399.stpB flat_shStr he406 (by assumption) rfl
    first | replace hf397 := hf397.stp he406 (by intro q hq; cases hq; omega) | replace hf397 := hf397.stpF flat_shStr he406 (by intro q hq; cases hq; exact hf397.ne_box (by assumption) rfl)
    first | replace hf398 := hf398.stp he406 (by intro q hq; cases hq; omega) | replace hf398 := hf398.stpF flat_shStr he406 (by intro q hq; cases hq; exact hf398.ne_box (by assumption) rfl)
    clear hf394
    have hSlhS407 := hS407.lt
    have hs414 := (StpL.of_ext (B := fun i => Value.ownBlock v3 = some i ∨ i = g_s) hs403).trans' (Stp.toL he406 (by intro q hq; cases hq; exact Or.inr (rfl)))
    refine ⟨hs414, ?_⟩
    refine dr_narrow (S' := fun w' => StpL w405 w' _) (fun w' h' => hs414.trans' h') _ _ _ _ ?_
    have hs415 : Ext w405 w405 := Ext.rfl' _
    obtain ⟨x416, hx416⟩ := get_ex (xs := [([97, 100, 97] : Str), ([90] : Str), ([122, 111, 101] : Str)]) (j := ((q408 : Int)).toNat) (by first | omega | (simp only [List.length_cons, List.length_nil]; omega))
    obtain ⟨p417, c418, hi419, hc420, hr421, hs422⟩ := Rds.at_ (hf397.rds pos_shStr) hx416
    obtain ⟨rfl, b423⟩ := inv_shStr hr421
    obtain ⟨_, _⟩ : _ ∧ _ := hs422
    have hdlx416 := el_len 17 (by rfl) hx416
    refine dr_val (i := 4) ha412 rfl (by kernel_rfl) (by kernel_rfl) (by kernel_rfl) rfl rfl rfl (StpL.of_ext hs415) (fun w' hw' => op_indexAddr ha412 rfl Try.underlying34 ti9 rfl rfl (by omega) hi419) ?_
    intro a424 ha424; clear ha412 a412
    refine dr_val (i := 5) ha424 rfl (by kernel_rfl) (by kernel_rfl) (by kernel_rfl) rfl rfl rfl (StpL.of_ext hs415) (fun w' hw' => op_loadH ha424 rfl Try.underlying9 rfl rfl (hc420.stpL hw' (by rintro (q | q) <;> first | omega | (have hq0 := hf395.lt _ q; omega))) rfl) ?_
    intro a425 ha425; clear ha424 a424
    exact dr_listed (by kernel_rfl) (hk186 _ _ _ ⟨x416, q391, rfl, (Sl.cons_ ha425 rfl rfl (Sl.cons_ ha425 rfl rfl (Sl.cons_ ha425 rfl rfl (Sl.cons_ ha425 rfl rfl (Sl.cons_ ha425 rfl rfl (Sl.nil_ ha425)))))), hx413, hS407, (hf395.fin (by omega) (by omega) (by omega)), (hf399.fin (by omega) (by omega)), (hf398.fin (by omega) (by omega) (by omega)), hE396, (by omega), (by omega)⟩)
   ·
    refine po_eff ha402 rfl rfl rfl rfl (op_buildSlice (s := shI64) (xs := [(-1 : Int), (0 : Int), (100000 : Int), (100001 : Int)]) (cs := [.int .i64 (-1 : Int), .int .i64 (0 : Int), .int .i64 (100000 : Int), .int .i64 (100001 : Int)]) (vs := [(0, .int .i64 (-1 : Int)), (1, .int .i64 (0 : Int)), (2, .int .i64 (100000 : Int)), (3, .int .i64 (100001 : Int))]) (S := fun _ => False) (le := w392.heap.size) ha402 rfl pos_shI64 Try.underlying69 ti2 rfl rfl (by decide) (by kernel_rfl) ⟨mk_shI64 ((-1 : Int)) (by first | assumption | omega | (constructor <;> omega) | (dsimp only; omega) | (simp; done) | (simp; omega) | (simp only [List.length_append, List.length_take, List.length_drop, List.length_cons, List.length_nil]; omega)), mk_shI64 ((0 : Int)) (by first | assumption | omega | (constructor <;> omega) | (dsimp only; omega) | (simp; done) | (simp; omega) | (simp only [List.length_append, List.length_take, List.length_drop, List.length_cons, List.length_nil]; omega)), mk_shI64 ((100000 : Int)) (by first | assumption | omega | (constructor <;> omega) | (dsimp only; omega) | (simp; done) | (simp; omega) | (simp only [List.length_append, List.length_take, List.length_drop, List.length_cons, List.length_nil]; omega)), mk_shI64 ((100001 : Int)) (by first | assumption | omega | (constructor <;> omega) | (dsimp only; omega) | (simp; done) | (simp; omega) | (simp only [List.length_append, List.length_take, List.length_drop, List.length_cons, List.length_nil]; omega)), rfl⟩ (fun _ h => h.elim)) ?_
    rintro v426 w427 ⟨ho428, he429, hob430⟩ a431 ha431; clear ha402 a402
    have hs432 := hs403.trans' he429
    have hx433 := hx393.trans' (Stp.of_ext he429 _)
    have hzhx433 := he429.size
    refine ⟨(StpL.of_ext hs432), ?_⟩
    replace hf394 := hf394.ext hs432
    replace hf395 := hf395.ext hs432
    replace hf399 := hf399.ext hs432
    replace hf397 := hf397.ext hs432
    replace hf398 := hf398.ext hs432
    refine dr_narrow (S' := fun w' => StpL w427 w' _) (fun w' h' => (StpL.of_ext hs432).trans' h') _ _ _ _ ?_
    have hs434 : Ext w427 w427 := Ext.rfl' _
    exact dr_listed (by kernel_rfl) (hk295 _ _ _ ⟨q390, v426, q391, rfl, (Sl.cons_ ha431 rfl rfl (Sl.cons_ ha431 rfl rfl (Sl.cons_ ha431 rfl rfl (Sl.cons_ ha431 rfl rfl (Sl.cons_ ha431 rfl rfl (Sl.cons_ ha431 rfl rfl (Sl.cons_ ha431 rfl rfl (Sl.nil_ ha431)))))))), hx433, hf394, (hf395.fin (by omega) (by omega) (by omega)), (hf399.fin (by omega) (by omega)), (hf397.fin (by omega) (by omega) (by omega)), (ho428.fin (by omega) (by omega) (by omega)), (hf398.fin (by omega) (by omega) (by omega)), hE396, (by omega)⟩)
  intro hk435
  refine dr_share (fun fr wl S => ∃ (q436 : Int) (q437 : Value), S = (fun w' => StpL wl w' (fun i => Value.ownBlock v3 = some i ∨ i = g_s)) ∧ Sl 55 fr [(0, .pointer (some (⟨g_s, 0, none⟩ : Addr))), (11, v3), (14, .int .i64 (q436 : Int)), (17, .pointer (some (⟨g_s, 0, none⟩ : Addr))), (18, q437)] ∧ Stp w0 wl (some g_s) ∧ Src wl g_s b_s 82 ∧ Own shCustN 55 w0.heap.size w0.heap.size w4.heap.size wl v3 z11 ∧ Nst shStr 9 (fun x : Str × Int × List Str => x.2.2) w0.heap.size w4.heap.size wl z11 ∧ Own shI64 2 w31.heap.size w31.heap.size wl.heap.size wl q437 ([(-1 : Int), (0 : Int), (100000 : Int), (100001 : Int)]) ∧ z11.map (·.1) = (q7) ∧ (0 ≤ q436) ∧ ((3 : Int) ≤ 1 → q436 = 0) ∧ (1 < (3 : Int) → q436 < (3 : Int)) ∧ w31.heap.size ≤ wl.heap.size) 9 #[true, false, true, true, false, false, true, true, false, false, false, false, false, false] ?_ ?_
  ·
   rintro a450 w438 _ ⟨q436, q437, rfl, ha450, hx439, hf440, hf441, hf444, hf443, hE442, hg446, hg447, hg448, hzl445⟩
   have hzhx439 := hx439.size
   have hgl449 := hf440.lt
   have hs451 : Ext w438 w438 := Ext.rfl' _
   refine dr_three (i := 1) (j := 8) (k := 9) (by kernel_rfl) ?_ ?_ ?_
   ·
    refine po_eff ha450 rfl rfl rfl rfl (op_buildSlice (s := shStr) (xs := [([97, 100, 97] : Str), ([90] : Str), ([122, 111, 101] : Str)]) (cs := [St (([97, 100, 97] : Str)), St (([90] : Str)), St (([122, 111, 101] : Str))]) (vs := [(0, St (([97, 100, 97] : Str))), (1, St (([90] : Str))), (2, St (([122, 111, 101] : Str)))]) (S := fun _ => False) (le := w438.heap.size) ha450 rfl pos_shStr Try.underlying34 ti9 rfl rfl (by decide) (by kernel_rfl) ⟨mk_shStr (([97, 100, 97] : Str)) (by first | assumption | omega | (constructor <;> omega) | (dsimp only; omega) | (simp; done) | (simp; omega) | (simp only [List.length_append, List.length_take, List.length_drop, List.length_cons, List.length_nil]; omega)), mk_shStr (([90] : Str)) (by first | assumption | omega | (constructor <;> omega) | (dsimp only; omega) | (simp; done) | (simp; omega) | (simp only [List.length_append, List.length_take, List.length_drop, List.length_cons, List.length_nil]; omega)), mk_shStr (([122, 111, 101] : Str)) (by first | assumption | omega | (constructor <;> omega) | (dsimp only; omega) | (simp; done) | (simp; omega) | (simp only [List.length_append, List.length_take, List.length_drop, List.length_cons, List.length_nil]; omega)), rfl⟩ (fun _ h => h.elim)) ?_
    rintro v452 w453 ⟨ho454, he455, hob456⟩ a457 ha457; clear ha450 a450
    have hs458 := hs451.trans' he455
    have hx459 := hx439.trans' (Stp.of_ext he455 _)
    have hzhx459 := he455.size
    refine ⟨(StpL.of_ext hs458), ?_⟩
    replace hf440 := hf440.ext hs458
    replace hf441 := hf441.ext hs458
    replace hf444 := hf444.ext hs458
    replace hf443 := hf443.ext hs458
    refine dr_narrow (S' := fun w' => StpL w453 w' _) (fun w' h' => (StpL.of_ext hs458).trans' h') _ _ _ _ ?_
    have hs460 : Ext w453 w453 := Ext.rfl' _
    obtain ⟨x461, hx461⟩ := get_ex (xs := [([97, 100, 97] : Str), ([90] : Str), ([122, 111, 101] : Str)]) (j := ((q436 : Int)).toNat) (by first | omega | (simp only [List.length_cons, List.length_nil]; omega))
    obtain ⟨p462, c463, hi464, hc465, hr466, hs467⟩ := Rds.at_ (ho454.rds pos_shStr) hx461
    obtain ⟨rfl, b468⟩ := inv_shStr hr466
    obtain ⟨_, _⟩ : _ ∧ _ := hs467
    have hdlx461 := el_len 17 (by rfl) hx461
    refine dr_val (i := 4) ha457 rfl (by kernel_rfl) (by kernel_rfl) (by kernel_rfl) rfl rfl rfl (StpL.of_ext hs460) (fun w' hw' => op_indexAddr ha457 rfl Try.underlying34 ti9 rfl rfl (by omega) hi464) ?_
    intro a469 ha469; clear ha457 a457
    refine dr_val (i := 5) ha469 rfl (by kernel_rfl) (by kernel_rfl) (by kernel_rfl) rfl rfl rfl (StpL.of_ext hs460) (fun w' hw' => op_loadH ha469 rfl Try.underlying9 rfl rfl (hc465.stpL hw' (by rintro (q | q) <;> first | omega | (have hq0 := hf441.lt _ q; omega))) rfl) ?_
    intro a470 ha470; clear ha469 a469
    exact dr_listed (by kernel_rfl) (hk162 _ _ _ ⟨x461, q437, rfl, (Sl.cons_ ha470 rfl rfl (Sl.cons_ ha470 rfl rfl (Sl.cons_ ha470 rfl rfl (Sl.cons_ ha470 rfl rfl (Sl.cons_ ha470 rfl rfl (Sl.nil_ ha470)))))), hx459, hf440, (hf441.fin (by omega) (by omega) (by omega)), (hf444.fin (by omega) (by omega)), (hf443.fin (by omega) (by omega) (by omega)), hE442, (by omega), (by omega)⟩)
   ·
    refine po_callS ha450 rfl rfl rfl rfl (op_call ha450 rfl cb77 rfl) (c_spec_l01Pick _ g_s b_s q437 ([(-1 : Int), (0 : Int), (100000 : Int), (100001 : Int)]) hf440 (hf443.rds pos_shI64) (by rintro ⟨_, _⟩; omega) (by first | assumption | omega | (constructor <;> omega) | (dsimp only; omega) | (simp; done) | (simp; omega))) ?_
    rintro v471 w472 he473 ⟨hS474, ⟨q475, hq476, rfl⟩⟩ a477 ha477; clear ha450 a450
    have hx478 := hx439.trans' he473
    have hzhx478 := he473.size
    first | replace hf441 := hf441.stp he473 (by intro q hq; cases hq; omega) | replace hf441 := hf441.stpF flat_shCustN he473 (by intro q hq; cases hq; exact hf441.ne_box (by assumption) rfl)
    first | replace hf444 := hf444.stp he473 (by intro q hq; cases hq; omega) | replace hf444 := hf444.stpB flat_shStr he473 (by assumption) rfl
    first | replace hf443 := hf443.stp he473 (by intro q hq; cases hq; omega) | replace hf443 := hf443.stpF flat_shI64 he473 (by intro q hq; cases hq; exact hf443.ne_box (by assumption) rfl)
    clear hf440
    have hSlhS474 := hS474.lt
    have hs479 := (StpL.of_ext (B := fun i => Value.ownBlock v3 = some i ∨ i = g_s) hs451).trans' (Stp.toL he473 (by intro q hq; cases hq; exact Or.inr (rfl)))
    refine ⟨hs479, ?_⟩
    simp only [List.mem_cons, List.not_mem_nil, or_false] at hq476
    refine dr_narrow (S' := fun w' => StpL w472 w' _) (fun w' h' => hs479.trans' h') _ _ _ _ ?_
    have hs480 : Ext w472 w472 := Ext.rfl' _
    refine dr_two (i := 1) (j := 9) (by kernel_rfl) ?_ ?_
    ·
     refine po_eff ha477 rfl rfl rfl rfl (op_buildSlice (s := shStr) (xs := [([97, 100, 97] : Str), ([90] : Str), ([122, 111, 101] : Str)]) (cs := [St (([97, 100, 97] : Str)), St (([90] : Str)), St (([122, 111, 101] : Str))]) (vs := [(0, St (([97, 100, 97] : Str))), (1, St (([90] : Str))), (2, St (([122, 111, 101] : Str)))]) (S := fun _ => False) (le := w472.heap.size) ha477 rfl pos_shStr Try.underlying34 ti9 rfl rfl (by decide) (by kernel_rfl) ⟨mk_shStr (([97, 100, 97] : Str)) (by first | assumption | omega | (constructor <;> omega) | (dsimp only; omega) | (simp; done) | (simp; omega) | (simp only [List.length_append, List.length_take, List.length_drop, List.length_cons, List.length_nil]; omega)), mk_shStr (([90] : Str)) (by first | assumption | omega | (constructor <;> omega) | (dsimp only; omega) | (simp; done) | (simp; omega) | (simp only [List.length_append, List.length_take, List.length_drop, List.length_cons, List.length_nil]; omega)), mk_shStr (([122, 111, 101] : Str)) (by first | assumption | omega | (constructor <;> omega) | (dsimp only; omega) | (simp; done) | (simp; omega) | (simp only [List.length_append, List.length_take, List.length_drop, List.length_cons, List.length_nil]; omega)), rfl⟩ (fun _ h => h.elim)) ?_
     rintro v481 w482 ⟨ho483, he484, hob485⟩ a486 ha486; clear ha477 a477
     have hs487 := hs480.trans' he484
     have hx488 := hx478.trans' (Stp.of_ext he484 _)
     have hzhx488 := he484.size
     refine ⟨(StpL.of_ext hs487), ?_⟩
     replace hf441 := hf441.ext hs487
     replace hf444 := hf444.ext hs487
     replace hf443 := hf443.ext hs487
     replace hS474 := hS474.ext hs487
     refine dr_narrow (S' := fun w' => StpL w482 w' _) (fun w' h' => (StpL.of_ext hs487).trans' h') _ _ _ _ ?_
     have hs489 : Ext w482 w482 := Ext.rfl' _
     obtain ⟨x490, hx490⟩ := get_ex (xs := [([97, 100, 97] : Str), ([90] : Str), ([122, 111, 101] : Str)]) (j := ((q436 : Int)).toNat) (by first | omega | (simp only [List.length_cons, List.length_nil]; omega))
     obtain ⟨p491, c492, hi493, hc494, hr495, hs496⟩ := Rds.at_ (ho483.rds pos_shStr) hx490
     obtain ⟨rfl, b497⟩ := inv_shStr hr495
     obtain ⟨_, _⟩ : _ ∧ _ := hs496
     have hdlx490 := el_len 17 (by rfl) hx490
     refine dr_val (i := 4) ha486 rfl (by kernel_rfl) (by kernel_rfl) (by kernel_rfl) rfl rfl rfl (StpL.of_ext hs489) (fun w' hw' => op_indexAddr ha486 rfl Try.underlying34 ti9 rfl rfl (by omega) hi493) ?_
     intro a498 ha498; clear ha486 a486
     refine dr_val (i := 5) ha498 rfl (by kernel_rfl) (by kernel_rfl) (by kernel_rfl) rfl rfl rfl (StpL.of_ext hs489) (fun w' hw' => op_loadH ha498 rfl Try.underlying9 rfl rfl (hc494.stpL hw' (by rintro (q | q) <;> first | omega | (have hq0 := hf441.lt _ q; omega))) rfl) ?_
     intro a499 ha499; clear ha498 a498
     exact dr_listed (by kernel_rfl) (hk100 _ _ _ ⟨x490, q475, rfl, (Sl.cons_ ha499 rfl rfl (Sl.cons_ ha499 rfl rfl (Sl.cons_ ha499 rfl rfl (Sl.cons_ ha499 rfl rfl (Sl.nil_ ha499))))), hx488, hS474, (hf441.fin (by omega) (by omega) (by omega)), (hf444.fin (by omega) (by omega)), hE442, (by omega), (by first | assumption | omega | (simp only [List.mem_cons, List.not_mem_nil, or_false]; omega) | (constructor <;> omega)), (by omega)⟩)
    ·
     refine po_eff ha477 rfl rfl rfl rfl (op_buildSlice (s := shStr) (xs := [([107, 97, 97] : Str)]) (cs := [St (([107, 97, 97] : Str))]) (vs := [(0, St (([107, 97, 97] : Str)))]) (S := fun _ => False) (le := w472.heap.size) ha477 rfl pos_shStr Try.underlying34 ti9 rfl rfl (by decide) (by kernel_rfl) (Els.single (mk_shStr (([107, 97, 97] : Str)) (by first | assumption | omega | (constructor <;> omega) | (dsimp only; omega) | (simp; done) | (simp; omega) | (simp only [List.length_append, List.length_take, List.length_drop, List.length_cons, List.length_nil]; omega)))) (fun _ h => h.elim)) ?_
     rintro v500 w501 ⟨ho502, he503, hob504⟩ a505 ha505; clear ha477 a477
     have hs506 := hs480.trans' he503
     have hx507 := hx478.trans' (Stp.of_ext he503 _)
     have hzhx507 := he503.size
     refine ⟨(StpL.of_ext hs506), ?_⟩
     replace hf441 := hf441.ext hs506
     replace hf444 := hf444.ext hs506
     replace hf443 := hf443.ext hs506
     replace hS474 := hS474.ext hs506
     refine dr_narrow (S' := fun w' => StpL w501 w' _) (fun w' h' => (StpL.of_ext hs506).trans' h') _ _ _ _ ?_
     have hs508 : Ext w501 w501 := Ext.rfl' _
     exact dr_listed (by kernel_rfl) (hk256 _ _ _ ⟨q436, q475, v500, rfl, (Sl.cons_ ha505 rfl rfl (Sl.cons_ ha505 rfl rfl (Sl.cons_ ha505 rfl rfl (Sl.cons_ ha505 rfl rfl (Sl.cons_ ha505 rfl rfl (Sl.nil_ ha505)))))), hx507, hS474, (hf441.fin (by omega) (by omega) (by omega)), (hf444.fin (by omega) (by omega)), (ho502.fin (by omega) (by omega) (by omega)), hE442, (by omega), (by first | assumption | omega | (simp only [List.mem_cons, List.not_mem_nil, or_false]; omega) | (constructor <;> omega)), (by omega), (by first | assumption | omega | (simp only [List.mem_cons, List.not_mem_nil, or_false]; omega) | (constructor <;> omega)), (by omega)⟩)
   ·
    refine po_eff ha450 rfl rfl rfl rfl (op_buildSlice (s := shStr) (xs := [([107, 97, 97] : Str)]) (cs := [St (([107, 97, 97] : Str))]) (vs := [(0, St (([107, 97, 97] : Str)))]) (S := fun _ => False) (le := w438.heap.size) ha450 rfl pos_shStr Try.underlying34 ti9 rfl rfl (by decide) (by kernel_rfl) (Els.single (mk_shStr (([107, 97, 97] : Str)) (by first | assumption | omega | (constructor <;> omega) | (dsimp only; omega) | (simp; done) | (simp; omega) | (simp only [List.length_append, List.length_take, List.length_drop, List.length_cons, List.length_nil]; omega)))) (fun _ h => h.elim)) ?_
    rintro v509 w510 ⟨ho511, he512, hob513⟩ a514 ha514; clear ha450 a450
    have hs515 := hs451.trans' he512
    have hx516 := hx439.trans' (Stp.of_ext he512 _)
    have hzhx516 := he512.size
    refine ⟨(StpL.of_ext hs515), ?_⟩
    replace hf440 := hf440.ext hs515
    replace hf441 := hf441.ext hs515
    replace hf444 := hf444.ext hs515
    replace hf443 := hf443.ext hs515
    refine dr_narrow (S' := fun w' => StpL w510 w' _) (fun w' h' => (StpL.of_ext hs515).trans' h') _ _ _ _ ?_
    have hs517 : Ext w510 w510 := Ext.rfl' _
    exact dr_listed (by kernel_rfl) (hk343 _ _ _ ⟨q436, q437, v509, rfl, (Sl.cons_ ha514 rfl rfl (Sl.cons_ ha514 rfl rfl (Sl.cons_ ha514 rfl rfl (Sl.cons_ ha514 rfl rfl (Sl.cons_ ha514 rfl rfl (Sl.cons_ ha514 rfl rfl (Sl.nil_ ha514))))))), hx516, hf440, (hf441.fin (by omega) (by omega) (by omega)), (hf444.fin (by omega) (by omega)), (hf443.fin (by omega) (by omega) (by omega)), (ho511.fin (by omega) (by omega) (by omega)), hE442, (by omega), (by first | assumption | omega | (simp only [List.mem_cons, List.not_mem_nil, or_false]; omega) | (constructor <;> omega)), (by omega), (by omega)⟩)
  intro hk518
  refine dr_share (fun fr wl S => ∃ (q519 : Int) (q520 : Value), S = (fun w' => StpL wl w' (fun i => Value.ownBlock v3 = some i ∨ i = g_s)) ∧ Sl 55 fr [(0, .pointer (some (⟨g_s, 0, none⟩ : Addr))), (11, v3), (14, .int .i64 (q519 : Int)), (17, .pointer (some (⟨g_s, 0, none⟩ : Addr))), (20, q520)] ∧ Stp w0 wl (some g_s) ∧ Src wl g_s b_s 82 ∧ Own shCustN 55 w0.heap.size w0.heap.size w4.heap.size wl v3 z11 ∧ Nst shStr 9 (fun x : Str × Int × List Str => x.2.2) w0.heap.size w4.heap.size wl z11 ∧ Own shStr 9 w31.heap.size w31.heap.size wl.heap.size wl q520 ([([107, 97, 97] : Str)]) ∧ z11.map (·.1) = (q7) ∧ (0 ≤ q519) ∧ ((3 : Int) ≤ 1 → q519 = 0) ∧ (1 < (3 : Int) → q519 < (3 : Int)) ∧ w31.heap.size ≤ wl.heap.size) 9 #[true, false, true, true, false, false, true, false, false, true, false, false, false, false] ?_ ?_
  ·
   rintro a533 w521 _ ⟨q519, q520, rfl, ha533, hx522, hf523, hf524, hf527, hf526, hE525, hg529, hg530, hg531, hzl528⟩
   have hzhx522 := hx522.size
   have hgl532 := hf523.lt
   have hs534 : Ext w521 w521 := Ext.rfl' _
   refine dr_two (i := 1) (j := 7) (by kernel_rfl) ?_ ?_
   ·
    refine po_eff ha533 rfl rfl rfl rfl (op_buildSlice (s := shStr) (xs := [([97, 100, 97] : Str), ([90] : Str), ([122, 111, 101] : Str)]) (cs := [St (([97, 100, 97] : Str)), St (([90] : Str)), St (([122, 111, 101] : Str))]) (vs := [(0, St (([97, 100, 97] : Str))), (1, St (([90] : Str))), (2, St (([122, 111, 101] : Str)))]) (S := fun _ => False) (le := w521.heap.size) ha533 rfl pos_shStr Try.underlying34 ti9 rfl rfl (by decide) (by kernel_rfl) ⟨mk_shStr (([97, 100, 97] : Str)) (by first | assumption | omega | (constructor <;> omega) | (dsimp only; omega) | (simp; done) | (simp; omega) | (simp only [List.length_append, List.length_take, List.length_drop, List.length_cons, List.length_nil]; omega)), mk_shStr (([90] : Str)) (by first | assumption | omega | (constructor <;> omega) | (dsimp only; omega) | (simp; done) | (simp; omega) | (simp only [List.length_append, List.length_take, List.length_drop, List.length_cons, List.length_nil]; omega)), mk_shStr (([122, 111, 101] : Str)) (by first | assumption | omega | (constructor <;> omega) | (dsimp only; omega) | (simp; done) | (simp; omega) | (simp only [List.length_append, List.length_take, List.length_drop, List.length_cons, List.length_nil]; omega)), rfl⟩ (fun _ h => h.elim)) ?_
    rintro v535 w536 ⟨ho537, he538, hob539⟩ a540 ha540; clear ha533 a533
    have hs541 := hs534.trans' he538
    have hx542 := hx522.trans' (Stp.of_ext he538 _)
    have hzhx542 := he538.size
    refine ⟨(StpL.of_ext hs541), ?_⟩
    replace hf523 := hf523.ext hs541
    replace hf524 := hf524.ext hs541
    replace hf527 := hf527.ext hs541
    replace hf526 := hf526.ext hs541
    refine dr_narrow (S' := fun w' => StpL w536 w' _) (fun w' h' => (StpL.of_ext hs541).trans' h') _ _ _ _ ?_
    have hs543 : Ext w536 w536 := Ext.rfl' _
    obtain ⟨x544, hx544⟩ := get_ex (xs := [([97, 100, 97] : Str), ([90] : Str), ([122, 111, 101] : Str)]) (j := ((q519 : Int)).toNat) (by first | omega | (simp only [List.length_cons, List.length_nil]; omega))
    obtain ⟨p545, c546, hi547, hc548, hr549, hs550⟩ := Rds.at_ (ho537.rds pos_shStr) hx544
    obtain ⟨rfl, b551⟩ := inv_shStr hr549
    obtain ⟨_, _⟩ : _ ∧ _ := hs550
    have hdlx544 := el_len 17 (by rfl) hx544
    refine dr_val (i := 4) ha540 rfl (by kernel_rfl) (by kernel_rfl) (by kernel_rfl) rfl rfl rfl (StpL.of_ext hs543) (fun w' hw' => op_indexAddr ha540 rfl Try.underlying34 ti9 rfl rfl (by omega) hi547) ?_
    intro a552 ha552; clear ha540 a540
    refine dr_val (i := 5) ha552 rfl (by kernel_rfl) (by kernel_rfl) (by kernel_rfl) rfl rfl rfl (StpL.of_ext hs543) (fun w' hw' => op_loadH ha552 rfl Try.underlying9 rfl rfl (hc548.stpL hw' (by rintro (q | q) <;> first | omega | (have hq0 := hf524.lt _ q; omega))) rfl) ?_
    intro a553 ha553; clear ha552 a552
    exact dr_listed (by kernel_rfl) (hk186 _ _ _ ⟨x544, q520, rfl, (Sl.cons_ ha553 rfl rfl (Sl.cons_ ha553 rfl rfl (Sl.cons_ ha553 rfl rfl (Sl.cons_ ha553 rfl rfl (Sl.cons_ ha553 rfl rfl (Sl.nil_ ha553)))))), hx542, hf523, (hf524.fin (by omega) (by omega) (by omega)), (hf527.fin (by omega) (by omega)), (hf526.fin (by omega) (by omega) (by omega)), hE525, (by omega), (by omega)⟩)
   ·
    refine po_eff ha533 rfl rfl rfl rfl (op_buildSlice (s := shI64) (xs := [(-1 : Int), (0 : Int), (100000 : Int), (100001 : Int)]) (cs := [.int .i64 (-1 : Int), .int .i64 (0 : Int), .int .i64 (100000 : Int), .int .i64 (100001 : Int)]) (vs := [(0, .int .i64 (-1 : Int)), (1, .int .i64 (0 : Int)), (2, .int .i64 (100000 : Int)), (3, .int .i64 (100001 : Int))]) (S := fun _ => False) (le := w521.heap.size) ha533 rfl pos_shI64 Try.underlying69 ti2 rfl rfl (by decide) (by kernel_rfl) ⟨mk_shI64 ((-1 : Int)) (by first | assumption | omega | (constructor <;> omega) | (dsimp only; omega) | (simp; done) | (simp; omega) | (simp only [List.length_append, List.length_take, List.length_drop, List.length_cons, List.length_nil]; omega)), mk_shI64 ((0 : Int)) (by first | assumption | omega | (constructor <;> omega) | (dsimp only; omega) | (simp; done) | (simp; omega) | (simp only [List.length_append, List.length_take, List.length_drop, List.length_cons, List.length_nil]; omega)), mk_shI64 ((100000 : Int)) (by first | assumption | omega | (constructor <;> omega) | (dsimp only; omega) | (simp; done) | (simp; omega) | (simp only [List.length_append, List.length_take, List.length_drop, List.length_cons, List.length_nil]; omega)), mk_shI64 ((100001 : Int)) (by first | assumption | omega | (constructor <;> omega) | (dsimp only; omega) | (simp; done) | (simp; omega) | (simp only [List.length_append, List.length_take, List.length_drop, List.length_cons, List.length_nil]; omega)), rfl⟩ (fun _ h => h.elim)) ?_
    rintro v554 w555 ⟨ho556, he557, hob558⟩ a559 ha559; clear ha533 a533
    have hs560 := hs534.trans' he557
    have hx561 := hx522.trans' (Stp.of_ext he557 _)
    have hzhx561 := he557.size
    refine ⟨(StpL.of_ext hs560), ?_⟩
    replace hf523 := hf523.ext hs560
    replace hf524 := hf524.ext hs560
    replace hf527 := hf527.ext hs560
    replace hf526 := hf526.ext hs560
    refine dr_narrow (S' := fun w' => StpL w555 w' _) (fun w' h' => (StpL.of_ext hs560).trans' h') _ _ _ _ ?_
    have hs562 : Ext w555 w555 := Ext.rfl' _
    exact dr_listed (by kernel_rfl) (hk343 _ _ _ ⟨q519, v554, q520, rfl, (Sl.cons_ ha559 rfl rfl (Sl.cons_ ha559 rfl rfl (Sl.cons_ ha559 rfl rfl (Sl.cons_ ha559 rfl rfl (Sl.cons_ ha559 rfl rfl (Sl.cons_ ha559 rfl rfl (Sl.nil_ ha559))))))), hx561, hf523, (hf524.fin (by omega) (by omega) (by omega)), (hf527.fin (by omega) (by omega)), (ho556.fin (by omega) (by omega) (by omega)), (hf526.fin (by omega) (by omega) (by omega)), hE525, (by omega), (by first | assumption | omega | (simp only [List.mem_cons, List.not_mem_nil, or_false]; omega) | (constructor <;> omega)), (by omega), (by omega)⟩)
  intro hk563
  refine dr_share (fun fr wl S => ∃ (q564 : Value) (q565 : Value), S = (fun w' => StpL wl w' (fun i => Value.ownBlock v3 = some i ∨ i = g_s)) ∧ Sl 55 fr [(0, .pointer (some (⟨g_s, 0, none⟩ : Addr))), (11, v3), (13, .pointer (some (⟨g_s, 0, none⟩ : Addr))), (17, .pointer (some (⟨g_s, 0, none⟩ : Addr))), (18, q564), (20, q565)] ∧ Stp w0 wl (some g_s) ∧ Src wl g_s b_s 82 ∧ Own shCustN 55 w0.heap.size w0.heap.size w4.heap.size wl v3 z11 ∧ Nst shStr 9 (fun x : Str × Int × List Str => x.2.2) w0.heap.size w4.heap.size wl z11 ∧ Own shI64 2 w31.heap.size w31.heap.size wl.heap.size wl q564 ([(-1 : Int), (0 : Int), (100000 : Int), (100001 : Int)]) ∧ Own shStr 9 w31.heap.size w31.heap.size wl.heap.size wl q565 ([([107, 97, 97] : Str)]) ∧ z11.map (·.1) = (q7) ∧ w31.heap.size ≤ wl.heap.size) 9 #[true, false, true, false, false, false, true, true, false, true, false, false, false, false] ?_ ?_
  ·
   rintro a576 w566 _ ⟨q564, q565, rfl, ha576, hx567, hf568, hf569, hf573, hf571, hf572, hE570, hzl574⟩
   have hzhx567 := hx567.size
   have hgl575 := hf568.lt
   have hs577 : Ext w566 w566 := Ext.rfl' _
   refine dr_two (i := 1) (j := 3) (by kernel_rfl) ?_ ?_
   ·
    refine po_eff ha576 rfl rfl rfl rfl (op_buildSlice (s := shStr) (xs := [([97, 100, 97] : Str), ([90] : Str), ([122, 111, 101] : Str)]) (cs := [St (([97, 100, 97] : Str)), St (([90] : Str)), St (([122, 111, 101] : Str))]) (vs := [(0, St (([97, 100, 97] : Str))), (1, St (([90] : Str))), (2, St (([122, 111, 101] : Str)))]) (S := fun _ => False) (le := w566.heap.size) ha576 rfl pos_shStr Try.underlying34 ti9 rfl rfl (by decide) (by kernel_rfl) ⟨mk_shStr (([97, 100, 97] : Str)) (by first | assumption | omega | (constructor <;> omega) | (dsimp only; omega) | (simp; done) | (simp; omega) | (simp only [List.length_append, List.length_take, List.length_drop, List.length_cons, List.length_nil]; omega)), mk_shStr (([90] : Str)) (by first | assumption | omega | (constructor <;> omega) | (dsimp only; omega) | (simp; done) | (simp; omega) | (simp only [List.length_append, List.length_take, List.length_drop, List.length_cons, List.length_nil]; omega)), mk_shStr (([122, 111, 101] : Str)) (by first | assumption | omega | (constructor <;> omega) | (dsimp only; omega) | (simp; done) | (simp; omega) | (simp only [List.length_append, List.length_take, List.length_drop, List.length_cons, List.length_nil]; omega)), rfl⟩ (fun _ h => h.elim)) ?_
    rintro v578 w579 ⟨ho580, he581, hob582⟩ a583 ha583; clear ha576 a576
    have hs584 := hs577.trans' he581
    have hx585 := hx567.trans' (Stp.of_ext he581 _)
    have hzhx585 := he581.size
    refine ⟨(StpL.of_ext hs584), ?_⟩
    replace hf568 := hf568.ext hs584
    replace hf569 := hf569.ext hs584
    replace hf573 := hf573.ext hs584
    replace hf571 := hf571.ext hs584
    replace hf572 := hf572.ext hs584
    refine dr_narrow (S' := fun w' => StpL w579 w' _) (fun w' h' => (StpL.of_ext hs584).trans' h') _ _ _ _ ?_
    have hs586 : Ext w579 w579 := Ext.rfl' _
    exact dr_listed (by kernel_rfl) (hk295 _ _ _ ⟨v578, q564, q565, rfl, (Sl.cons_ ha583 rfl rfl (Sl.cons_ ha583 rfl rfl (Sl.cons_ ha583 rfl rfl (Sl.cons_ ha583 rfl rfl (Sl.cons_ ha583 rfl rfl (Sl.cons_ ha583 rfl rfl (Sl.cons_ ha583 rfl rfl (Sl.nil_ ha583)))))))), hx585, hf568, (hf569.fin (by omega) (by omega) (by omega)), (hf573.fin (by omega) (by omega)), (ho580.fin (by omega) (by omega) (by omega)), (hf571.fin (by omega) (by omega) (by omega)), (hf572.fin (by omega) (by omega) (by omega)), hE570, (by omega)⟩)
   ·
    refine po_callS ha576 rfl rfl rfl rfl (op_call ha576 rfl cb75 rfl) (c_spec_l01Next _ g_s b_s (3 : Int) hf568) ?_
    rintro v587 w588 he589 ⟨hS590, ⟨q591, hq592, hq593, hq594, rfl⟩⟩ a595 ha595; clear ha576 a576
    have hx596 := hx567.trans' he589
    have hzhx596 := he589.size
    first | replace hf569 := hf569.stp he589 (by intro q hq; cases hq; omega) | replace hf569 := hf569.stpF flat_shCustN he589 (by intro q hq; cases hq; exact hf569.ne_box (by assumption) rfl)
    first | replace hf573 := hf573.stp he589 (by intro q hq; cases hq; omega) | replace hf573 := hf573.stpB flat_shStr he589 (by assumption) rfl
    first | replace hf571 := hf571.stp he589 (by intro q hq; cases hq; omega) | replace hf571 := hf571.stpF flat_shI64 he589 (by intro q hq; cases hq; exact hf571.ne_box (by assumption) rfl)
    first | replace hf572 := hf572.stp he589 (by intro q hq; cases hq; omega) | replace hf572 := hf572.stpF flat_shStr he589 (by intro q hq; cases hq; exact hf572.ne_box (by assumption) rfl)
    clear hf568
    have hSlhS590 := hS590.lt
    have hs597 := (StpL.of_ext (B := fun i => Value.ownBlock v3 = some i ∨ i = g_s) hs577).trans' (Stp.toL he589 (by intro q hq; cases hq; exact Or.inr (rfl)))
    refine ⟨hs597, ?_⟩
    refine dr_narrow (S' := fun w' => StpL w588 w' _) (fun w' h' => hs597.trans' h') _ _ _ _ ?_
    have hs598 : Ext w588 w588 := Ext.rfl' _
    exact dr_listed (by kernel_rfl) (hk343 _ _ _ ⟨q591, q564, q565, rfl, (Sl.cons_ ha595 rfl rfl (Sl.cons_ ha595 rfl rfl (Sl.cons_ ha595 rfl rfl (Sl.cons_ ha595 rfl rfl (Sl.cons_ ha595 rfl rfl (Sl.cons_ ha595 rfl rfl (Sl.nil_ ha595))))))), hx596, hS590, (hf569.fin (by omega) (by omega) (by omega)), (hf573.fin (by omega) (by omega)), (hf571.fin (by omega) (by omega) (by omega)), (hf572.fin (by omega) (by omega) (by omega)), hE570, (by omega), (by first | assumption | omega | (simp only [List.mem_cons, List.not_mem_nil, or_false]; omega) | (constructor <;> omega)), (by omega), (by omega)⟩)
  intro hk599
  refine dr_val (i := 0) ha29 rfl (by kernel_rfl) (by kernel_rfl) (by kernel_rfl) rfl rfl rfl (StpL.of_ext hs34) (fun w' hw' => op_move ha29 rfl rfl) ?_
  intro a600 ha600; clear ha29 a29
  refine dr_val (i := 2) ha600 rfl (by kernel_rfl) (by kernel_rfl) (by kernel_rfl) rfl rfl rfl (StpL.of_ext hs34) (fun w' hw' => op_move ha600 rfl rfl) ?_
  intro a601 ha601; clear ha600 a600
  refine dr_val (i := 6) ha601 rfl (by kernel_rfl) (by kernel_rfl) (by kernel_rfl) rfl rfl rfl (StpL.of_ext hs34) (fun w' hw' => op_move ha601 rfl rfl) ?_
  intro a602 ha602; clear ha601 a601
  refine dr_four (i := 1) (j := 3) (k := 7) (m := 9) (by kernel_rfl) ?_ ?_ ?_ ?_
  ·
   refine po_eff ha602 rfl rfl rfl rfl (op_buildSlice (s := shStr) (xs := [([97, 100, 97] : Str), ([90] : Str), ([122, 111, 101] : Str)]) (cs := [St (([97, 100, 97] : Str)), St (([90] : Str)), St (([122, 111, 101] : Str))]) (vs := [(0, St (([97, 100, 97] : Str))), (1, St (([90] : Str))), (2, St (([122, 111, 101] : Str)))]) (S := fun _ => False) (le := w31.heap.size) ha602 rfl pos_shStr Try.underlying34 ti9 rfl rfl (by decide) (by kernel_rfl) ⟨mk_shStr (([97, 100, 97] : Str)) (by first | assumption | omega | (constructor <;> omega) | (dsimp only; omega) | (simp; done) | (simp; omega) | (simp only [List.length_append, List.length_take, List.length_drop, List.length_cons, List.length_nil]; omega)), mk_shStr (([90] : Str)) (by first | assumption | omega | (constructor <;> omega) | (dsimp only; omega) | (simp; done) | (simp; omega) | (simp only [List.length_append, List.length_take, List.length_drop, List.length_cons, List.length_nil]; omega)), mk_shStr (([122, 111, 101] : Str)) (by first | assumption | omega | (constructor <;> omega) | (dsimp only; omega) | (simp; done) | (simp; omega) | (simp only [List.length_append, List.length_take, List.length_drop, List.length_cons, List.length_nil]; omega)), rfl⟩ (fun _ h => h.elim)) ?_
   rintro v603 w604 ⟨ho605, he606, hob607⟩ a608 ha608; clear ha602 a602
   have hs609 := hs34.trans' he606
   have hx610 := hx33.trans' (Stp.of_ext he606 _)
   have hzhx610 := he606.size
   refine ⟨(StpL.of_ext hs609), ?_⟩
   replace ho10 := ho10.ext hs609
   replace hN12 := hN12.ext hs609
   replace hS21 := hS21.ext hs609
   refine dr_narrow (S' := fun w' => StpL w604 w' _) (fun w' h' => (StpL.of_ext hs609).trans' h') _ _ _ _ ?_
   have hs611 : Ext w604 w604 := Ext.rfl' _
   refine dr_three (i := 3) (j := 7) (k := 9) (by kernel_rfl) ?_ ?_ ?_
   ·
    refine po_callS ha608 rfl rfl rfl rfl (op_call ha608 rfl cb75 rfl) (c_spec_l01Next _ g_s b_s (3 : Int) hS21) ?_
    rintro v612 w613 he614 ⟨hS615, ⟨q616, hq617, hq618, hq619, rfl⟩⟩ a620 ha620; clear ha608 a608
    have hx621 := hx610.trans' he614
    have hzhx621 := he614.size
    first | replace ho10 := ho10.stp he614 (by intro q hq; cases hq; omega) | replace ho10 := ho10.stpF flat_shCustN he614 (by intro q hq; cases hq; exact ho10.ne_box (by assumption) rfl)
    first | replace hN12 := hN12.stp he614 (by intro q hq; cases hq; omega) | replace hN12 := hN12.stpB flat_shStr he614 (by assumption) rfl
    first | replace ho605 := ho605.stp he614 (by intro q hq; cases hq; omega) | replace ho605 := ho605.stpF flat_shStr he614 (by intro q hq; cases hq; exact ho605.ne_box (by assumption) rfl)
    clear hS21
    have hSlhS615 := hS615.lt
    have hs622 := (StpL.of_ext (B := fun i => Value.ownBlock v3 = some i ∨ i = g_s) hs611).trans' (Stp.toL he614 (by intro q hq; cases hq; exact Or.inr (rfl)))
    refine ⟨hs622, ?_⟩
    refine dr_narrow (S' := fun w' => StpL w613 w' _) (fun w' h' => hs622.trans' h') _ _ _ _ ?_
    have hs623 : Ext w613 w613 := Ext.rfl' _
    obtain ⟨x624, hx624⟩ := get_ex (xs := [([97, 100, 97] : Str), ([90] : Str), ([122, 111, 101] : Str)]) (j := ((q616 : Int)).toNat) (by first | omega | (simp only [List.length_cons, List.length_nil]; omega))
    obtain ⟨p625, c626, hi627, hc628, hr629, hs630⟩ := Rds.at_ (ho605.rds pos_shStr) hx624
    obtain ⟨rfl, b631⟩ := inv_shStr hr629
    obtain ⟨_, _⟩ : _ ∧ _ := hs630
    have hdlx624 := el_len 17 (by rfl) hx624
    refine dr_val (i := 4) ha620 rfl (by kernel_rfl) (by kernel_rfl) (by kernel_rfl) rfl rfl rfl (StpL.of_ext hs623) (fun w' hw' => op_indexAddr ha620 rfl Try.underlying34 ti9 rfl rfl (by omega) hi627) ?_
    intro a632 ha632; clear ha620 a620
    refine dr_val (i := 5) ha632 rfl (by kernel_rfl) (by kernel_rfl) (by kernel_rfl) rfl rfl rfl (StpL.of_ext hs623) (fun w' hw' => op_loadH ha632 rfl Try.underlying9 rfl rfl (hc628.stpL hw' (by rintro (q | q) <;> first | omega | (have hq0 := ho10.lt _ q; omega))) rfl) ?_
    intro a633 ha633; clear ha632 a632
    exact dr_listed (by kernel_rfl) (hk217 _ _ _ ⟨x624, rfl, (Sl.cons_ ha633 rfl rfl (Sl.cons_ ha633 rfl rfl (Sl.cons_ ha633 rfl rfl (Sl.cons_ ha633 rfl rfl (Sl.nil_ ha633))))), hx621, hS615, (ho10.fin (by omega) (by omega) (by omega)), (hN12.fin (by omega) (by omega)), hE13, (by omega), (by omega)⟩)
   ·
    refine po_eff ha608 rfl rfl rfl rfl (op_buildSlice (s := shI64) (xs := [(-1 : Int), (0 : Int), (100000 : Int), (100001 : Int)]) (cs := [.int .i64 (-1 : Int), .int .i64 (0 : Int), .int .i64 (100000 : Int), .int .i64 (100001 : Int)]) (vs := [(0, .int .i64 (-1 : Int)), (1, .int .i64 (0 : Int)), (2, .int .i64 (100000 : Int)), (3, .int .i64 (100001 : Int))]) (S := fun _ => False) (le := w604.heap.size) ha608 rfl pos_shI64 Try.underlying69 ti2 rfl rfl (by decide) (by kernel_rfl) ⟨mk_shI64 ((-1 : Int)) (by first | assumption | omega | (constructor <;> omega) | (dsimp only; omega) | (simp; done) | (simp; omega) | (simp only [List.length_append, List.length_take, List.length_drop, List.length_cons, List.length_nil]; omega)), mk_shI64 ((0 : Int)) (by first | assumption | omega | (constructor <;> omega) | (dsimp only; omega) | (simp; done) | (simp; omega) | (simp only [List.length_append, List.length_take, List.length_drop, List.length_cons, List.length_nil]; omega)), mk_shI64 ((100000 : Int)) (by first | assumption | omega | (constructor <;> omega) | (dsimp only; omega) | (simp; done) | (simp; omega) | (simp only [List.length_append, List.length_take, List.length_drop, List.length_cons, List.length_nil]; omega)), mk_shI64 ((100001 : Int)) (by first | assumption | omega | (constructor <;> omega) | (dsimp only; omega) | (simp; done) | (simp; omega) | (simp only [List.length_append, List.length_take, List.length_drop, List.length_cons, List.length_nil]; omega)), rfl⟩ (fun _ h => h.elim)) ?_
    rintro v634 w635 ⟨ho636, he637, hob638⟩ a639 ha639; clear ha608 a608
    have hs640 := hs611.trans' he637
    have hx641 := hx610.trans' (Stp.of_ext he637 _)
    have hzhx641 := he637.size
    refine ⟨(StpL.of_ext hs640), ?_⟩
    replace ho10 := ho10.ext hs640
    replace hN12 := hN12.ext hs640
    replace hS21 := hS21.ext hs640
    replace ho605 := ho605.ext hs640
    refine dr_narrow (S' := fun w' => StpL w635 w' _) (fun w' h' => (StpL.of_ext hs640).trans' h') _ _ _ _ ?_
    have hs642 : Ext w635 w635 := Ext.rfl' _
    exact dr_listed (by kernel_rfl) (hk389 _ _ _ ⟨v603, v634, rfl, (Sl.cons_ ha639 rfl rfl (Sl.cons_ ha639 rfl rfl (Sl.cons_ ha639 rfl rfl (Sl.cons_ ha639 rfl rfl (Sl.cons_ ha639 rfl rfl (Sl.cons_ ha639 rfl rfl (Sl.nil_ ha639))))))), hx641, hS21, (ho10.fin (by omega) (by omega) (by omega)), (hN12.fin (by omega) (by omega)), (ho605.fin (by omega) (by omega) (by omega)), (ho636.fin (by omega) (by omega) (by omega)), hE13, (by omega)⟩)
   ·
    refine po_eff ha608 rfl rfl rfl rfl (op_buildSlice (s := shStr) (xs := [([107, 97, 97] : Str)]) (cs := [St (([107, 97, 97] : Str))]) (vs := [(0, St (([107, 97, 97] : Str)))]) (S := fun _ => False) (le := w604.heap.size) ha608 rfl pos_shStr Try.underlying34 ti9 rfl rfl (by decide) (by kernel_rfl) (Els.single (mk_shStr (([107, 97, 97] : Str)) (by first | assumption | omega | (constructor <;> omega) | (dsimp only; omega) | (simp; done) | (simp; omega) | (simp only [List.length_append, List.length_take, List.length_drop, List.length_cons, List.length_nil]; omega)))) (fun _ h => h.elim)) ?_
    rintro v643 w644 ⟨ho645, he646, hob647⟩ a648 ha648; clear ha608 a608
    have hs649 := hs611.trans' he646
    have hx650 := hx610.trans' (Stp.of_ext he646 _)
    have hzhx650 := he646.size
    refine ⟨(StpL.of_ext hs649), ?_⟩
    replace ho10 := ho10.ext hs649
    replace hN12 := hN12.ext hs649
    replace hS21 := hS21.ext hs649
    replace ho605 := ho605.ext hs649
    refine dr_narrow (S' := fun w' => StpL w644 w' _) (fun w' h' => (StpL.of_ext hs649).trans' h') _ _ _ _ ?_
    have hs651 : Ext w644 w644 := Ext.rfl' _
    exact dr_listed (by kernel_rfl) (hk435 _ _ _ ⟨v603, v643, rfl, (Sl.cons_ ha648 rfl rfl (Sl.cons_ ha648 rfl rfl (Sl.cons_ ha648 rfl rfl (Sl.cons_ ha648 rfl rfl (Sl.cons_ ha648 rfl rfl (Sl.cons_ ha648 rfl rfl (Sl.nil_ ha648))))))), hx650, hS21, (ho10.fin (by omega) (by omega) (by omega)), (hN12.fin (by omega) (by omega)), (ho605.fin (by omega) (by omega) (by omega)), (ho645.fin (by omega) (by omega) (by omega)), hE13, (by omega)⟩)
  ·
   refine po_callS ha602 rfl rfl rfl rfl (op_call ha602 rfl cb75 rfl) (c_spec_l01Next _ g_s b_s (3 : Int) hS21) ?_
   rintro v652 w653 he654 ⟨hS655, ⟨q656, hq657, hq658, hq659, rfl⟩⟩ a660 ha660; clear ha602 a602
   have hx661 := hx33.trans' he654
   have hzhx661 := he654.size
   first | replace ho10 := ho10.stp he654 (by intro q hq; cases hq; omega) | replace ho10 := ho10.stpF flat_shCustN he654 (by intro q hq; cases hq; exact ho10.ne_box (by assumption) rfl)
   first | replace hN12 := hN12.stp he654 (by intro q hq; cases hq; omega) | replace hN12 := hN12.stpB flat_shStr he654 (by assumption) rfl
   clear hS21
   have hSlhS655 := hS655.lt
   have hs662 := (StpL.of_ext (B := fun i => Value.ownBlock v3 = some i ∨ i = g_s) hs34).trans' (Stp.toL he654 (by intro q hq; cases hq; exact Or.inr (rfl)))
   refine ⟨hs662, ?_⟩
   refine dr_narrow (S' := fun w' => StpL w653 w' _) (fun w' h' => hs662.trans' h') _ _ _ _ ?_
   have hs663 : Ext w653 w653 := Ext.rfl' _
   refine dr_three (i := 1) (j := 7) (k := 9) (by kernel_rfl) ?_ ?_ ?_
   ·
    refine po_eff ha660 rfl rfl rfl rfl (op_buildSlice (s := shStr) (xs := [([97, 100, 97] : Str), ([90] : Str), ([122, 111, 101] : Str)]) (cs := [St (([97, 100, 97] : Str)), St (([90] : Str)), St (([122, 111, 101] : Str))]) (vs := [(0, St (([97, 100, 97] : Str))), (1, St (([90] : Str))), (2, St (([122, 111, 101] : Str)))]) (S := fun _ => False) (le := w653.heap.size) ha660 rfl pos_shStr Try.underlying34 ti9 rfl rfl (by decide) (by kernel_rfl) ⟨mk_shStr (([97, 100, 97] : Str)) (by first | assumption | omega | (constructor <;> omega) | (dsimp only; omega) | (simp; done) | (simp; omega) | (simp only [List.length_append, List.length_take, List.length_drop, List.length_cons, List.length_nil]; omega)), mk_shStr (([90] : Str)) (by first | assumption | omega | (constructor <;> omega) | (dsimp only; omega) | (simp; done) | (simp; omega) | (simp only [List.length_append, List.length_take, List.length_drop, List.length_cons, List.length_nil]; omega)), mk_shStr (([122, 111, 101] : Str)) (by first | assumption | omega | (constructor <;> omega) | (dsimp only; omega) | (simp; done) | (simp; omega) | (simp only [List.length_append, List.length_take, List.length_drop, List.length_cons, List.length_nil]; omega)), rfl⟩ (fun _ h => h.elim)) ?_
    rintro v664 w665 ⟨ho666, he667, hob668⟩ a669 ha669; clear ha660 a660
    have hs670 := hs663.trans' he667
    have hx671 := hx661.trans' (Stp.of_ext he667 _)
    have hzhx671 := he667.size
    refine ⟨(StpL.of_ext hs670), ?_⟩
    replace ho10 := ho10.ext hs670
    replace hN12 := hN12.ext hs670
    replace hS655 := hS655.ext hs670
    refine dr_narrow (S' := fun w' => StpL w665 w' _) (fun w' h' => (StpL.of_ext hs670).trans' h') _ _ _ _ ?_
    have hs672 : Ext w665 w665 := Ext.rfl' _
    obtain ⟨x673, hx673⟩ := get_ex (xs := [([97, 100, 97] : Str), ([90] : Str), ([122, 111, 101] : Str)]) (j := ((q656 : Int)).toNat) (by first | omega | (simp only [List.length_cons, List.length_nil]; omega))
    obtain ⟨p674, c675, hi676, hc677, hr678, hs679⟩ := Rds.at_ (ho666.rds pos_shStr) hx673
    obtain ⟨rfl, b680⟩ := inv_shStr hr678
    obtain ⟨_, _⟩ : _ ∧ _ := hs679
    have hdlx673 := el_len 17 (by rfl) hx673
    refine dr_val (i := 4) ha669 rfl (by kernel_rfl) (by kernel_rfl) (by kernel_rfl) rfl rfl rfl (StpL.of_ext hs672) (fun w' hw' => op_indexAddr ha669 rfl Try.underlying34 ti9 rfl rfl (by omega) hi676) ?_
    intro a681 ha681; clear ha669 a669
    refine dr_val (i := 5) ha681 rfl (by kernel_rfl) (by kernel_rfl) (by kernel_rfl) rfl rfl rfl (StpL.of_ext hs672) (fun w' hw' => op_loadH ha681 rfl Try.underlying9 rfl rfl (hc677.stpL hw' (by rintro (q | q) <;> first | omega | (have hq0 := ho10.lt _ q; omega))) rfl) ?_
    intro a682 ha682; clear ha681 a681
    exact dr_listed (by kernel_rfl) (hk217 _ _ _ ⟨x673, rfl, (Sl.cons_ ha682 rfl rfl (Sl.cons_ ha682 rfl rfl (Sl.cons_ ha682 rfl rfl (Sl.cons_ ha682 rfl rfl (Sl.nil_ ha682))))), hx671, hS655, (ho10.fin (by omega) (by omega) (by omega)), (hN12.fin (by omega) (by omega)), hE13, (by omega), (by omega)⟩)
   ·
    refine po_eff ha660 rfl rfl rfl rfl (op_buildSlice (s := shI64) (xs := [(-1 : Int), (0 : Int), (100000 : Int), (100001 : Int)]) (cs := [.int .i64 (-1 : Int), .int .i64 (0 : Int), .int .i64 (100000 : Int), .int .i64 (100001 : Int)]) (vs := [(0, .int .i64 (-1 : Int)), (1, .int .i64 (0 : Int)), (2, .int .i64 (100000 : Int)), (3, .int .i64 (100001 : Int))]) (S := fun _ => False) (le := w653.heap.size) ha660 rfl pos_shI64 Try.underlying69 ti2 rfl rfl (by decide) (by kernel_rfl) ⟨mk_shI64 ((-1 : Int)) (by first | assumption | omega | (constructor <;> omega) | (dsimp only; omega) | (simp; done) | (simp; omega) | (simp only [List.length_append, List.length_take, List.length_drop, List.length_cons, List.length_nil]; omega)), mk_shI64 ((0 : Int)) (by first | assumption | omega | (constructor <;> omega) | (dsimp only; omega) | (simp; done) | (simp; omega) | (simp only [List.length_append, List.length_take, List.length_drop, List.length_cons, List.length_nil]; omega)), mk_shI64 ((100000 : Int)) (by first | assumption | omega | (constructor <;> omega) | (dsimp only; omega) | (simp; done) | (simp; omega) | (simp only [List.length_append, List.length_take, List.length_drop, List.length_cons, List.length_nil]; omega)), mk_shI64 ((100001 : Int)) (by first | assumption | omega | (constructor <;> omega) | (dsimp only; omega) | (simp; done) | (simp; omega) | (simp only [List.length_append, List.length_take, List.length_drop, List.length_cons, List.length_nil]; omega)), rfl⟩ (fun _ h => h.elim)) ?_
    rintro v683 w684 ⟨ho685, he686, hob687⟩ a688 ha688; clear ha660 a660
    have hs689 := hs663.trans' he686
    have hx690 := hx661.trans' (Stp.of_ext he686 _)
    have hzhx690 := he686.size
    refine ⟨(StpL.of_ext hs689), ?_⟩
    replace ho10 := ho10.ext hs689
    replace hN12 := hN12.ext hs689
    replace hS655 := hS655.ext hs689
    refine dr_narrow (S' := fun w' => StpL w684 w' _) (fun w' h' => (StpL.of_ext hs689).trans' h') _ _ _ _ ?_
    have hs691 : Ext w684 w684 := Ext.rfl' _
    exact dr_listed (by kernel_rfl) (hk518 _ _ _ ⟨q656, v683, rfl, (Sl.cons_ ha688 rfl rfl (Sl.cons_ ha688 rfl rfl (Sl.cons_ ha688 rfl rfl (Sl.cons_ ha688 rfl rfl (Sl.cons_ ha688 rfl rfl (Sl.nil_ ha688)))))), hx690, hS655, (ho10.fin (by omega) (by omega) (by omega)), (hN12.fin (by omega) (by omega)), (ho685.fin (by omega) (by omega) (by omega)), hE13, (by omega), (by first | assumption | omega | (simp only [List.mem_cons, List.not_mem_nil, or_false]; omega) | (constructor <;> omega)), (by omega), (by omega)⟩)
   ·
    refine po_eff ha660 rfl rfl rfl rfl (op_buildSlice (s := shStr) (xs := [([107, 97, 97] : Str)]) (cs := [St (([107, 97, 97] : Str))]) (vs := [(0, St (([107, 97, 97] : Str)))]) (S := fun _ => False) (le := w653.heap.size) ha660 rfl pos_shStr Try.underlying34 ti9 rfl rfl (by decide) (by kernel_rfl) (Els.single (mk_shStr (([107, 97, 97] : Str)) (by first | assumption | omega | (constructor <;> omega) | (dsimp only; omega) | (simp; done) | (simp; omega) | (simp only [List.length_append, List.length_take, List.length_drop, List.length_cons, List.length_nil]; omega)))) (fun _ h => h.elim)) ?_
    rintro v692 w693 ⟨ho694, he695, hob696⟩ a697 ha697; clear ha660 a660
    have hs698 := hs663.trans' he695
    have hx699 := hx661.trans' (Stp.of_ext he695 _)
    have hzhx699 := he695.size
    refine ⟨(StpL.of_ext hs698), ?_⟩
    replace ho10 := ho10.ext hs698
    replace hN12 := hN12.ext hs698
    replace hS655 := hS655.ext hs698
    refine dr_narrow (S' := fun w' => StpL w693 w' _) (fun w' h' => (StpL.of_ext hs698).trans' h') _ _ _ _ ?_
    have hs700 : Ext w693 w693 := Ext.rfl' _
    exact dr_listed (by kernel_rfl) (hk563 _ _ _ ⟨q656, v692, rfl, (Sl.cons_ ha697 rfl rfl (Sl.cons_ ha697 rfl rfl (Sl.cons_ ha697 rfl rfl (Sl.cons_ ha697 rfl rfl (Sl.cons_ ha697 rfl rfl (Sl.nil_ ha697)))))), hx699, hS655, (ho10.fin (by omega) (by omega) (by omega)), (hN12.fin (by omega) (by omega)), (ho694.fin (by omega) (by omega) (by omega)), hE13, (by omega), (by first | assumption | omega | (simp only [List.mem_cons, List.not_mem_nil, or_false]; omega) | (constructor <;> omega)), (by omega), (by omega)⟩)
  ·
   refine po_eff ha602 rfl rfl rfl rfl (op_buildSlice (s := shI64) (xs := [(-1 : Int), (0 : Int), (100000 : Int), (100001 : Int)]) (cs := [.int .i64 (-1 : Int), .int .i64 (0 : Int), .int .i64 (100000 : Int), .int .i64 (100001 : Int)]) (vs := [(0, .int .i64 (-1 : Int)), (1, .int .i64 (0 : Int)), (2, .int .i64 (100000 : Int)), (3, .int .i64 (100001 : Int))]) (S := fun _ => False) (le := w31.heap.size) ha602 rfl pos_shI64 Try.underlying69 ti2 rfl rfl (by decide) (by kernel_rfl) ⟨mk_shI64 ((-1 : Int)) (by first | assumption | omega | (constructor <;> omega) | (dsimp only; omega) | (simp; done) | (simp; omega) | (simp only [List.length_append, List.length_take, List.length_drop, List.length_cons, List.length_nil]; omega)), mk_shI64 ((0 : Int)) (by first | assumption | omega | (constructor <;> omega) | (dsimp only; omega) | (simp; done) | (simp; omega) | (simp only [List.length_append, List.length_take, List.length_drop, List.length_cons, List.length_nil]; omega)), mk_shI64 ((100000 : Int)) (by first | assumption | omega | (constructor <;> omega) | (dsimp only; omega) | (simp; done) | (simp; omega) | (simp only [List.length_append, List.length_take, List.length_drop, List.length_cons, List.length_nil]; omega)), mk_shI64 ((100001 : Int)) (by first | assumption | omega | (constructor <;> omega) | (dsimp only; omega) | (simp; done) | (simp; omega) | (simp only [List.length_append, List.length_take, List.length_drop, List.length_cons, List.length_nil]; omega)), rfl⟩ (fun _ h => h.elim)) ?_
   rintro v701 w702 ⟨ho703, he704, hob705⟩ a706 ha706; clear ha602 a602
   have hs707 := hs34.trans' he704
   have hx708 := hx33.trans' (Stp.of_ext he704 _)
   have hzhx708 := he704.size
   refine ⟨(StpL.of_ext hs707), ?_⟩
   replace ho10 := ho10.ext hs707
   replace hN12 := hN12.ext hs707
   replace hS21 := hS21.ext hs707
   refine dr_narrow (S' := fun w' => StpL w702 w' _) (fun w' h' => (StpL.of_ext hs707).trans' h') _ _ _ _ ?_
   have hs709 : Ext w702 w702 := Ext.rfl' _
   refine dr_three (i := 1) (j := 3) (k := 9) (by kernel_rfl) ?_ ?_ ?_
   ·
    refine po_eff ha706 rfl rfl rfl rfl (op_buildSlice (s := shStr) (xs := [([97, 100, 97] : Str), ([90] : Str), ([122, 111, 101] : Str)]) (cs := [St (([97, 100, 97] : Str)), St (([90] : Str)), St (([122, 111, 101] : Str))]) (vs := [(0, St (([97, 100, 97] : Str))), (1, St (([90] : Str))), (2, St (([122, 111, 101] : Str)))]) (S := fun _ => False) (le := w702.heap.size) ha706 rfl pos_shStr Try.underlying34 ti9 rfl rfl (by decide) (by kernel_rfl) ⟨mk_shStr (([97, 100, 97] : Str)) (by first | assumption | omega | (constructor <;> omega) | (dsimp only; omega) | (simp; done) | (simp; omega) | (simp only [List.length_append, List.length_take, List.length_drop, List.length_cons, List.length_nil]; omega)), mk_shStr (([90] : Str)) (by first | assumption | omega | (constructor <;> omega) | (dsimp only; omega) | (simp; done) | (simp; omega) | (simp only [List.length_append, List.length_take, List.length_drop, List.length_cons, List.length_nil]; omega)), mk_shStr (([122, 111, 101] : Str)) (by first | assumption | omega | (constructor <;> omega) | (dsimp only; omega) | (simp; done) | (simp; omega) | (simp only [List.length_append, List.length_take, List.length_drop, List.length_cons, List.length_nil]; omega)), rfl⟩ (fun _ h => h.elim)) ?_
    rintro v710 w711 ⟨ho712, he713, hob714⟩ a715 ha715; clear ha706 a706
    have hs716 := hs709.trans' he713
    have hx717 := hx708.trans' (Stp.of_ext he713 _)
    have hzhx717 := he713.size
    refine ⟨(StpL.of_ext hs716), ?_⟩
    replace ho10 := ho10.ext hs716
    replace hN12 := hN12.ext hs716
    replace hS21 := hS21.ext hs716
    replace ho703 := ho703.ext hs716
    refine dr_narrow (S' := fun w' => StpL w711 w' _) (fun w' h' => (StpL.of_ext hs716).trans' h') _ _ _ _ ?_
    have hs718 : Ext w711 w711 := Ext.rfl' _
    exact dr_listed (by kernel_rfl) (hk389 _ _ _ ⟨v710, v701, rfl, (Sl.cons_ ha715 rfl rfl (Sl.cons_ ha715 rfl rfl (Sl.cons_ ha715 rfl rfl (Sl.cons_ ha715 rfl rfl (Sl.cons_ ha715 rfl rfl (Sl.cons_ ha715 rfl rfl (Sl.nil_ ha715))))))), hx717, hS21, (ho10.fin (by omega) (by omega) (by omega)), (hN12.fin (by omega) (by omega)), (ho712.fin (by omega) (by omega) (by omega)), (ho703.fin (by omega) (by omega) (by omega)), hE13, (by omega)⟩)
   ·
    refine po_callS ha706 rfl rfl rfl rfl (op_call ha706 rfl cb75 rfl) (c_spec_l01Next _ g_s b_s (3 : Int) hS21) ?_
    rintro v719 w720 he721 ⟨hS722, ⟨q723, hq724, hq725, hq726, rfl⟩⟩ a727 ha727; clear ha706 a706
    have hx728 := hx708.trans' he721
    have hzhx728 := he721.size
    first | replace ho10 := ho10.stp he721 (by intro q hq; cases hq; omega) | replace ho10 := ho10.stpF flat_shCustN he721 (by intro q hq; cases hq; exact ho10.ne_box (by assumption) rfl)
    first | replace hN12 := hN12.stp he721 (by intro q hq; cases hq; omega) | replace hN12 := hN12.stpB flat_shStr he721 (by assumption) rfl
    first | replace ho703 := ho703.stp he721 (by intro q hq; cases hq; omega) | replace ho703 := ho703.stpF flat_shI64 he721 (by intro q hq; cases hq; exact ho703.ne_box (by assumption) rfl)
    clear hS21
    have hSlhS722 := hS722.lt
    have hs729 := (StpL.of_ext (B := fun i => Value.ownBlock v3 = some i ∨ i = g_s) hs709).trans' (Stp.toL he721 (by intro q hq; cases hq; exact Or.inr (rfl)))
    refine ⟨hs729, ?_⟩
    refine dr_narrow (S' := fun w' => StpL w720 w' _) (fun w' h' => hs729.trans' h') _ _ _ _ ?_
    have hs730 : Ext w720 w720 := Ext.rfl' _
    exact dr_listed (by kernel_rfl) (hk518 _ _ _ ⟨q723, v701, rfl, (Sl.cons_ ha727 rfl rfl (Sl.cons_ ha727 rfl rfl (Sl.cons_ ha727 rfl rfl (Sl.cons_ ha727 rfl rfl (Sl.cons_ ha727 rfl rfl (Sl.nil_ ha727)))))), hx728, hS722, (ho10.fin (by omega) (by omega) (by omega)), (hN12.fin (by omega) (by omega)), (ho703.fin (by omega) (by omega) (by omega)), hE13, (by omega), (by first | assumption | omega | (simp only [List.mem_cons, List.not_mem_nil, or_false]; omega) | (constructor <;> omega)), (by omega), (by omega)⟩)
   ·
    refine po_eff ha706 rfl rfl rfl rfl (op_buildSlice (s := shStr) (xs := [([107, 97, 97] : Str)]) (cs := [St (([107, 97, 97] : Str))]) (vs := [(0, St (([107, 97, 97] : Str)))]) (S := fun _ => False) (le := w702.heap.size) ha706 rfl pos_shStr Try.underlying34 ti9 rfl rfl (by decide) (by kernel_rfl) (Els.single (mk_shStr (([107, 97, 97] : Str)) (by first | assumption | omega | (constructor <;> omega) | (dsimp only; omega) | (simp; done) | (simp; omega) | (simp only [List.length_append, List.length_take, List.length_drop, List.length_cons, List.length_nil]; omega)))) (fun _ h => h.elim)) ?_
    rintro v731 w732 ⟨ho733, he734, hob735⟩ a736 ha736; clear ha706 a706
    have hs737 := hs709.trans' he734
    have hx738 := hx708.trans' (Stp.of_ext he734 _)
    have hzhx738 := he734.size
    refine ⟨(StpL.of_ext hs737), ?_⟩
    replace ho10 := ho10.ext hs737
    replace hN12 := hN12.ext hs737
    replace hS21 := hS21.ext hs737
    replace ho703 := ho703.ext hs737
    refine dr_narrow (S' := fun w' => StpL w732 w' _) (fun w' h' => (StpL.of_ext hs737).trans' h') _ _ _ _ ?_
    have hs739 : Ext w732 w732 := Ext.rfl' _
    exact dr_listed (by kernel_rfl) (hk599 _ _ _ ⟨v701, v731, rfl, (Sl.cons_ ha736 rfl rfl (Sl.cons_ ha736 rfl rfl (Sl.cons_ ha736 rfl rfl (Sl.cons_ ha736 rfl rfl (Sl.cons_ ha736 rfl rfl (Sl.cons_ ha736 rfl rfl (Sl.nil_ ha736))))))), hx738, hS21, (ho10.fin (by omega) (by omega) (by omega)), (hN12.fin (by omega) (by omega)), (ho703.fin (by omega) (by omega) (by omega)), (ho733.fin (by omega) (by omega) (by omega)), hE13, (by omega)⟩)
  ·
   refine po_eff ha602 rfl rfl rfl rfl (op_buildSlice (s := shStr) (xs := [([107, 97, 97] : Str)]) (cs := [St (([107, 97, 97] : Str))]) (vs := [(0, St (([107, 97, 97] : Str)))]) (S := fun _ => False) (le := w31.heap.size) ha602 rfl pos_shStr Try.underlying34 ti9 rfl rfl (by decide) (by kernel_rfl) (Els.single (mk_shStr (([107, 97, 97] : Str)) (by first | assumption | omega | (constructor <;> omega) | (dsimp only; omega) | (simp; done) | (simp; omega) | (simp only [List.length_append, List.length_take, List.length_drop, List.length_cons, List.length_nil]; omega)))) (fun _ h => h.elim)) ?_
   rintro v740 w741 ⟨ho742, he743, hob744⟩ a745 ha745; clear ha602 a602
   have hs746 := hs34.trans' he743
   have hx747 := hx33.trans' (Stp.of_ext he743 _)
   have hzhx747 := he743.size
   refine ⟨(StpL.of_ext hs746), ?_⟩
   replace ho10 := ho10.ext hs746
   replace hN12 := hN12.ext hs746
   replace hS21 := hS21.ext hs746
   refine dr_narrow (S' := fun w' => StpL w741 w' _) (fun w' h' => (StpL.of_ext hs746).trans' h') _ _ _ _ ?_
   have hs748 : Ext w741 w741 := Ext.rfl' _
   refine dr_three (i := 1) (j := 3) (k := 7) (by kernel_rfl) ?_ ?_ ?_
   ·
    refine po_eff ha745 rfl rfl rfl rfl (op_buildSlice (s := shStr) (xs := [([97, 100, 97] : Str), ([90] : Str), ([122, 111, 101] : Str)]) (cs := [St (([97, 100, 97] : Str)), St (([90] : Str)), St (([122, 111, 101] : Str))]) (vs := [(0, St (([97, 100, 97] : Str))), (1, St (([90] : Str))), (2, St (([122, 111, 101] : Str)))]) (S := fun _ => False) (le := w741.heap.size) ha745 rfl pos_shStr Try.underlying34 ti9 rfl rfl (by decide) (by kernel_rfl) ⟨mk_shStr (([97, 100, 97] : Str)) (by first | assumption | omega | (constructor <;> omega) | (dsimp only; omega) | (simp; done) | (simp; omega) | (simp only [List.length_append, List.length_take, List.length_drop, List.length_cons, List.length_nil]; omega)), mk_shStr (([90] : Str)) (by first | assumption | omega | (constructor <;> omega) | (dsimp only; omega) | (simp; done) | (simp; omega) | (simp only [List.length_append, List.length_take, List.length_drop, List.length_cons, List.length_nil]; omega)), mk_shStr (([122, 111, 101] : Str)) (by first | assumption | omega | (constructor <;> omega) | (dsimp only; omega) | (simp; done) | (simp; omega) | (simp only [List.length_append, List.length_take, List.length_drop, List.length_cons, List.length_nil]; omega)), rfl⟩ (fun _ h => h.elim)) ?_
    rintro v749 w750 ⟨ho751, he752, hob753⟩ a754 ha754; clear ha745 a745
    have hs755 := hs748.trans' he752
    have hx756 := hx747.trans' (Stp.of_ext he752 _)
    have hzhx756 := he752.size
    refine ⟨(StpL.of_ext hs755), ?_⟩
    replace ho10 := ho10.ext hs755
    replace hN12 := hN12.ext hs755
    replace hS21 := hS21.ext hs755
    replace ho742 := ho742.ext hs755
    refine dr_narrow (S' := fun w' => StpL w750 w' _) (fun w' h' => (StpL.of_ext hs755).trans' h') _ _ _ _ ?_
    have hs757 : Ext w750 w750 := Ext.rfl' _
    exact dr_listed (by kernel_rfl) (hk435 _ _ _ ⟨v749, v740, rfl, (Sl.cons_ ha754 rfl rfl (Sl.cons_ ha754 rfl rfl (Sl.cons_ ha754 rfl rfl (Sl.cons_ ha754 rfl rfl (Sl.cons_ ha754 rfl rfl (Sl.cons_ ha754 rfl rfl (Sl.nil_ ha754))))))), hx756, hS21, (ho10.fin (by omega) (by omega) (by omega)), (hN12.fin (by omega) (by omega)), (ho751.fin (by omega) (by omega) (by omega)), (ho742.fin (by omega) (by omega) (by omega)), hE13, (by omega)⟩)
   ·
    refine po_callS ha745 rfl rfl rfl rfl (op_call ha745 rfl cb75 rfl) (c_spec_l01Next _ g_s b_s (3 : Int) hS21) ?_
    rintro v758 w759 he760 ⟨hS761, ⟨q762, hq763, hq764, hq765, rfl⟩⟩ a766 ha766; clear ha745 a745
    have hx767 := hx747.trans' he760
    have hzhx767 := he760.size
    first | replace ho10 := ho10.stp he760 (by intro q hq; cases hq; omega) | replace ho10 := ho10.stpF flat_shCustN he760 (by intro q hq; cases hq; exact ho10.ne_box (by assumption) rfl)
    first | replace hN12 := hN12.stp he760 (by intro q hq; cases hq; omega) | replace hN12 := hN12.stpB flat_shStr he760 (by assumption) rfl
    first | replace ho742 := ho742.stp he760 (by intro q hq; cases hq; omega) | replace ho742 := ho742.stpF flat_shStr he760 (by intro q hq; cases hq; exact ho742.ne_box (by assumption) rfl)
    clear hS21
    have hSlhS761 := hS761.lt
    have hs768 := (StpL.of_ext (B := fun i => Value.ownBlock v3 = some i ∨ i = g_s) hs748).trans' (Stp.toL he760 (by intro q hq; cases hq; exact Or.inr (rfl)))
    refine ⟨hs768, ?_⟩
    refine dr_narrow (S' := fun w' => StpL w759 w' _) (fun w' h' => hs768.trans' h') _ _ _ _ ?_
    have hs769 : Ext w759 w759 := Ext.rfl' _
    exact dr_listed (by kernel_rfl) (hk563 _ _ _ ⟨q762, v740, rfl, (Sl.cons_ ha766 rfl rfl (Sl.cons_ ha766 rfl rfl (Sl.cons_ ha766 rfl rfl (Sl.cons_ ha766 rfl rfl (Sl.cons_ ha766 rfl rfl (Sl.nil_ ha766)))))), hx767, hS761, (ho10.fin (by omega) (by omega) (by omega)), (hN12.fin (by omega) (by omega)), (ho742.fin (by omega) (by omega) (by omega)), hE13, (by omega), (by first | assumption | omega | (simp only [List.mem_cons, List.not_mem_nil, or_false]; omega) | (constructor <;> omega)), (by omega), (by omega)⟩)
   ·
    refine po_eff ha745 rfl rfl rfl rfl (op_buildSlice (s := shI64) (xs := [(-1 : Int), (0 : Int), (100000 : Int), (100001 : Int)]) (cs := [.int .i64 (-1 : Int), .int .i64 (0 : Int), .int .i64 (100000 : Int), .int .i64 (100001 : Int)]) (vs := [(0, .int .i64 (-1 : Int)), (1, .int .i64 (0 : Int)), (2, .int .i64 (100000 : Int)), (3, .int .i64 (100001 : Int))]) (S := fun _ => False) (le := w741.heap.size) ha745 rfl pos_shI64 Try.underlying69 ti2 rfl rfl (by decide) (by kernel_rfl) ⟨mk_shI64 ((-1 : Int)) (by first | assumption | omega | (constructor <;> omega) | (dsimp only; omega) | (simp; done) | (simp; omega) | (simp only [List.length_append, List.length_take, List.length_drop, List.length_cons, List.length_nil]; omega)), mk_shI64 ((0 : Int)) (by first | assumption | omega | (constructor <;> omega) | (dsimp only; omega) | (simp; done) | (simp; omega) | (simp only [List.length_append, List.length_take, List.length_drop, List.length_cons, List.length_nil]; omega)), mk_shI64 ((100000 : Int)) (by first | assumption | omega | (constructor <;> omega) | (dsimp only; omega) | (simp; done) | (simp; omega) | (simp only [List.length_append, List.length_take, List.length_drop, List.length_cons, List.length_nil]; omega)), mk_shI64 ((100001 : Int)) (by first | assumption | omega | (constructor <;> omega) | (dsimp only; omega) | (simp; done) | (simp; omega) | (simp only [List.length_append, List.length_take, List.length_drop, List.length_cons, List.length_nil]; omega)), rfl⟩ (fun _ h => h.elim)) ?_
    rintro v770 w771 ⟨ho772, he773, hob774⟩ a775 ha775; clear ha745 a745
    have hs776 := hs748.trans' he773
    have hx777 := hx747.trans' (Stp.of_ext he773 _)
    have hzhx777 := he773.size
    refine ⟨(StpL.of_ext hs776), ?_⟩
    replace ho10 := ho10.ext hs776
    replace hN12 := hN12.ext hs776
    replace hS21 := hS21.ext hs776
    replace ho742 := ho742.ext hs776
    refine dr_narrow (S' := fun w' => StpL w771 w' _) (fun w' h' => (StpL.of_ext hs776).trans' h') _ _ _ _ ?_
    have hs778 : Ext w771 w771 := Ext.rfl' _
    exact dr_listed (by kernel_rfl) (hk599 _ _ _ ⟨v770, v740, rfl, (Sl.cons_ ha775 rfl rfl (Sl.cons_ ha775 rfl rfl (Sl.cons_ ha775 rfl rfl (Sl.cons_ ha775 rfl rfl (Sl.cons_ ha775 rfl rfl (Sl.cons_ ha775 rfl rfl (Sl.nil_ ha775))))))), hx777, hS21, (ho10.fin (by omega) (by omega) (by omega)), (hN12.fin (by omega) (by omega)), (ho772.fin (by omega) (by omega) (by omega)), (ho742.fin (by omega) (by omega) (by omega)), hE13, (by omega)⟩)
 ·
  rw [decide_eq_false c30] at ha29
  refine cond_f ha29 rfl ?_
  refine wp_seq ?_
  refine wp_region_lit ?_
  refine wl_val ha29 rfl rfl rfl (op_eql ha29 rfl rfl rfl) ?_
  intro a779 ha779; clear ha29 a29
  refine wl_val ha779 rfl rfl rfl (op_assign ha779 rfl rfl) ?_
  intro a780 ha780; clear ha779 a779
  refine wpList_nil ?_
  refine then_n ?_
  by_cases c781 : (q22 : Int) = (1 : Int)
  ·
   rw [decide_eq_true c781] at ha780
   refine cond_t ha780 rfl ?_
   refine wp_seq ?_
   refine wp_region_lit ?_
   refine wl_val ha780 rfl rfl rfl (op_assign ha780 rfl rfl) ?_
   intro a782 ha782; clear ha780 a780
   refine wpList_nil ?_
   refine then_n ?_
   refine wp_block ?_
   refine loop_inv (X := Nat × Value × (List ((Str × Int × List Str) × Value))) (fun (⟨k, v, zs⟩ : Nat × Value × (List ((Str × Int × List Str) × Value))) fr wl => Sl 55 fr [(0, .pointer (some (⟨g_s, 0, none⟩ : Addr))), (3, v), (4, .int .i64 ((k : Nat) : Int))] ∧ Stp w0 wl (some g_s) ∧ Src wl g_s b_s 82 ∧ Own shCustN 55 w0.heap.size w0.heap.size wl.heap.size wl v zs ∧ Nst shStr 9 (fun x : Str × Int × List Str => x.2.2) w0.heap.size wl.heap.size wl zs ∧ w19.heap.size ≤ wl.heap.size ∧ (zs.length ≤ 21) ∧ (k ≤ zs.length) ∧ (∀ z ∈ zs, z.1.2.2.length ≤ 10)) (fun (⟨k, v, zs⟩ : Nat × Value × (List ((Str × Int × List Str) × Value))) => 22 - zs.length) (0, v3, z11) ?_ ?_
   ·
    exact ⟨(Sl.cons_ ha782 rfl rfl (Sl.cons_ ha782 rfl rfl (Sl.cons_ ha782 rfl (int_eq (by omega)) (Sl.nil_ ha782)))), hx27, hS21, (ho10.fin (by omega) (by omega) (by omega)), (hN12.fin (by omega) (by omega)), (by omega), (by omega), (by omega), (by intro z hz; have h9 := hq9 z.1 (by rw [← hE13]; exact List.mem_map_of_mem hz); omega)⟩
   ·
    clear ha782 a782
    rintro ⟨k, v, zs⟩ a788 w783 ⟨ha788, hx784, hf785, hf786, hf787, hzl789, hl, hk, hB⟩
    have hzhx784 := hx784.size
    have hgl790 := hf785.lt
    refine wp_seq ?_
    refine wp_seq ?_
    refine wp_region_lit ?_
    refine wl_val ha788 rfl rfl rfl (op_move ha788 rfl rfl) ?_
    intro a791 ha791; clear ha788 a788
    refine wl_val ha791 rfl rfl rfl (op_len_sl ha791 rfl Try.underlying25 rfl (hf786.rds pos_shCustN)) ?_
    intro a792 ha792; clear ha791 a791
    refine wl_val ha792 rfl rfl rfl (op_move ha792 rfl rfl) ?_
    intro a793 ha793; clear ha792 a792
    refine wl_callS ha793 rfl rfl rfl (op_call ha793 rfl cb75 rfl) (c_spec_l01Next _ g_s b_s (2 : Int) hf785) ?_
    rintro v794 w795 he796 ⟨hS797, ⟨q798, hq799, hq800, hq801, rfl⟩⟩ a802 ha802; clear ha793 a793
    have hx803 := hx784.trans' he796
    have hzhx803 := he796.size
    first | replace hf786 := hf786.stp he796 (by intro q hq; cases hq; omega) | replace hf786 := hf786.stpF flat_shCustN he796 (by intro q hq; cases hq; exact hf786.ne_box (by assumption) rfl)
    first | replace hf787 := hf787.stp he796 (by intro q hq; cases hq; omega) | replace hf787 := hf787.stpB flat_shStr he796 (by assumption) rfl
    clear hf785
    have hSlhS797 := hS797.lt
    refine wl_val ha802 rfl rfl rfl ((op_add ha802 rfl rfl rfl).int (IntWalk.i64_in _ (by omega))) ?_
    intro a804 ha804; clear ha802 a802
    refine wl_val ha804 rfl rfl rfl (op_lss ha804 rfl rfl rfl) ?_
    intro a805 ha805; clear ha804 a804
    refine wpList_nil ?_
    refine then_n ?_
    by_cases c806 : ((zs.length : Nat) : Int) < ((20 : Int) + (q798 : Int))
    ·
     rw [decide_eq_true c806] at ha805
     refine cond_t ha805 rfl ?_
     refine wp_skip ?_
     refine then_n ?_
     refine wp_seq ?_
     refine wp_block ?_
     refine wp_region_lit ?_
     refine wl_val ha805 rfl rfl rfl (op_move ha805 rfl rfl) ?_
     intro a807 ha807; clear ha805 a805
     refine wl_val ha807 rfl rfl rfl (op_move ha807 rfl rfl) ?_
     intro a808 ha808; clear ha807 a807
     refine wl_val ha808 rfl rfl rfl (op_move ha808 rfl rfl) ?_
     intro a809 ha809; clear ha808 a808
     refine wl_val ha809 rfl rfl rfl ((op_add ha809 rfl rfl rfl).int (IntWalk.i64_in _ (by omega))) ?_
     intro a810 ha810; clear ha809 a809
     refine wl_val ha810 rfl rfl rfl (op_slice_str_b (i := k) (j := (k + 1)) (by omega) (by omega) ha810 rfl Try.underlying9 rfl rfl rfl (by first | omega | (simp; omega)) (by first | omega | (simp; omega))) ?_
     intro a811 ha811; clear ha810 a810
     refine wl_val ha811 rfl rfl rfl (op_sadd ha811 rfl rfl rfl (by simp; try omega)) ?_
     intro a812 ha812; clear ha811 a811
     refine wl_val ha812 rfl rfl rfl (op_build (vs := [(0, St ((([120] : Str)) ++ (((([97, 98, 99, 100, 101, 102, 103, 104, 105, 106, 107, 108, 109, 110, 111, 112, 113, 114, 115, 116, 117, 118] : Str)).take ((k + 1))).drop k)))]) (cs := #[St ((([120] : Str)) ++ (((([97, 98, 99, 100, 101, 102, 103, 104, 105, 106, 107, 108, 109, 110, 111, 112, 113, 114, 115, 116, 117, 118] : Str)).take ((k + 1))).drop k)), .int .i64 (0 : Int), .slice none 0 0]) ha812 rfl Try.underlying55 ti55 bp55 rfl rfl) ?_
     intro a813 ha813; clear ha812 a812
     refine wl_eff ha813 rfl rfl rfl (op_buildSlice (s := shCustN) (xs := [((((([120] : Str)) ++ (((([97, 98, 99, 100, 101, 102, 103, 104, 105, 106, 107, 108, 109, 110, 111, 112, 113, 114, 115, 116, 117, 118] : Str)).take ((k + 1))).drop k), (0 : Int), []) : Str × Int × List Str), (.slice none 0 0 : Value))]) (cs := [St ((([120] : Str)) ++ (((([97, 98, 99, 100, 101, 102, 103, 104, 105, 106, 107, 108, 109, 110, 111, 112, 113, 114, 115, 116, 117, 118] : Str)).take ((k + 1))).drop k)), .int .i64 (0 : Int), .slice none 0 0]) (vs := [(0, .agg #[St ((([120] : Str)) ++ (((([97, 98, 99, 100, 101, 102, 103, 104, 105, 106, 107, 108, 109, 110, 111, 112, 113, 114, 115, 116, 117, 118] : Str)).take ((k + 1))).drop k)), .int .i64 (0 : Int), .slice none 0 0])]) (S := fun _ => False) (le := w795.heap.size) ha813 rfl pos_shCustN Try.underlying25 ti55 rfl rfl (by decide) (by kernel_rfl) (Els.single (mk_shCustN (((((([120] : Str)) ++ (((([97, 98, 99, 100, 101, 102, 103, 104, 105, 106, 107, 108, 109, 110, 111, 112, 113, 114, 115, 116, 117, 118] : Str)).take ((k + 1))).drop k), (0 : Int), []) : Str × Int × List Str), (.slice none 0 0 : Value))) (by first | assumption | omega | (constructor <;> omega) | (dsimp only; omega) | (simp; done) | (simp; omega) | (simp only [List.length_append, List.length_take, List.length_drop, List.length_cons, List.length_nil]; omega)) (by first | assumption | omega | (constructor <;> omega) | (dsimp only; omega) | (simp; done) | (simp; omega) | (simp only [List.length_append, List.length_take, List.length_drop, List.length_cons, List.length_nil]; omega)) (by first | rfl | assumption | exact Own.one (by assumption) | exact Rds.one (by assumption)))) (fun _ h => h.elim)) ?_
     rintro v814 w815 ⟨ho816, he817, hob818⟩ a819 ha819; clear ha813 a813
     have hx820 := hx803.trans' (Stp.of_ext he817 _)
     have hzhx820 := he817.size
     replace hf786 := hf786.ext he817
     replace hf787 := hf787.ext he817
     replace hS797 := hS797.ext he817
     have hN821 : Nst shStr 9 (fun x : Str × Int × List Str => x.2.2) w795.heap.size w815.heap.size w815 ([((((([120] : Str)) ++ (((([97, 98, 99, 100, 101, 102, 103, 104, 105, 106, 107, 108, 109, 110, 111, 112, 113, 114, 115, 116, 117, 118] : Str)).take ((k + 1))).drop k), (0 : Int), []) : Str × Int × List Str), (.slice none 0 0 : Value))]) := Nst.one (Own.nil _ _ _ _ _ _)
     refine wl_eff ha819 rfl rfl rfl (op_append (ts := #[]) (s := shCustN) ha819 rfl Try.underlying25 ti55 rfl pos_shCustN rfl rfl hf786 (ho816.rds pos_shCustN) (by omega) (by omega) (by first | omega | (simp; omega)) (by first | omega | (simp; omega)) (.inl flat_shCustN)) ?_
     rintro v822 w823 ⟨ho824, hst825, hob826⟩ a827 ha827; clear ha819 a819
     have hx828 := hx820.fresh hst825 (by intro q hq; have hq0 := hf786.lt q hq; omega)
     have hzhx828 := hst825.size
     first | replace hf787 := hf787.stpF flat_shStr hst825 hf786 rfl | replace hf787 := hf787.stp hst825 (by intro q hq; have hq0 := hf786.lt q hq; omega)
     replace hS797 := hS797.stp hst825 (by intro q hq; have hq0 := hf786.lt q hq; omega)
     replace ho816 := ho816.stp hst825 (by intro q hq; have hq0 := hf786.lt q hq; omega)
     replace hN821 := hN821.stp hst825 (by intro q hq; have hq0 := hf786.lt q hq; omega)
     have hsp829 : ∀ q, Value.ownBlock v822 = some q → Value.ownBlock v814 ≠ some q := by intro q hq hb; have hq0 := ho816.lt q hb; rcases hob826 with h | h; (rw [h] at hq; first | (have hq1 := hf786.lt q hq; omega)); (rw [h] at hq; cases hq; omega)
     have hN830 : Nst shStr 9 (fun x : Str × Int × List Str => x.2.2) w0.heap.size w823.heap.size w823 ((zs ++ [((((([120] : Str)) ++ (((([97, 98, 99, 100, 101, 102, 103, 104, 105, 106, 107, 108, 109, 110, 111, 112, 113, 114, 115, 116, 117, 118] : Str)).take ((k + 1))).drop k), (0 : Int), []) : Str × Int × List Str), (.slice none 0 0 : Value))])) := (hf787.app hN821 (by omega) (by omega) (by omega)).fin (by omega) (by omega)
     refine wl_val ha827 rfl rfl rfl (op_assign ha827 rfl rfl) ?_
     intro a831 ha831; clear ha827 a827
     refine wpList_nil ?_
     refine block_n ?_
     refine then_n ?_
     refine wp_region_lit ?_
     refine wl_val ha831 rfl rfl rfl (op_move ha831 rfl rfl) ?_
     intro a832 ha832; clear ha831 a831
     refine wl_val ha832 rfl rfl rfl ((op_add ha832 rfl rfl rfl).int (IntWalk.i64_in _ (by omega))) ?_
     intro a833 ha833; clear ha832 a832
     refine wl_val ha833 rfl rfl rfl (op_assign ha833 rfl rfl) ?_
     intro a834 ha834; clear ha833 a833
     refine wpList_nil ?_
     refine round_end (x := (k, v, zs)) ((k + 1), v822, (zs ++ [((((([120] : Str)) ++ (((([97, 98, 99, 100, 101, 102, 103, 104, 105, 106, 107, 108, 109, 110, 111, 112, 113, 114, 115, 116, 117, 118] : Str)).take ((k + 1))).drop k), (0 : Int), []) : Str × Int × List Str), (.slice none 0 0 : Value))])) ?_ ?_
     ·
      refine ⟨(Sl.cons_ ha834 rfl rfl (Sl.cons_ ha834 rfl rfl (Sl.cons_ ha834 rfl (int_eq (by omega)) (Sl.nil_ ha834)))), hx828, hS797, (ho824.fin (by omega) (by omega) (by omega)), (hN830.fin (by omega) (by omega)), (by omega), (by first | omega | (simp; omega)), (by first | omega | (simp; omega)), (by intro z hz; rcases List.mem_append.1 hz with hz | hz; (exact hB z hz); (obtain rfl := List.mem_singleton.1 hz; exact Nat.zero_le _))⟩
     ·show (22 - ((zs ++ [((((([120] : Str)) ++ (((([97, 98, 99, 100, 101, 102, 103, 104, 105, 106, 107, 108, 109, 110, 111, 112, 113, 114, 115, 116, 117, 118] : Str)).take ((k + 1))).drop k), (0 : Int), []) : Str × Int × List Str), (.slice none 0 0 : Value))])).length : Nat) < 22 - zs.length; simp only [List.length_append, List.length_cons, List.length_nil]; omega
    ·
     rw [decide_eq_false c806] at ha805
     refine cond_f ha805 rfl ?_
     refine wp_exit ?_
     refine then_e ?_
     refine then_e ?_
     refine block_hit ?_
     refine block_n ?_
     refine then_n ?_
     refine wp_seq ?_
     refine wp_region_lit ?_
     refine wl_val ha805 rfl rfl rfl (op_move ha805 rfl rfl) ?_
     intro a835 ha835; clear ha805 a805
     refine wl_val ha835 rfl rfl rfl (op_assign ha835 rfl rfl) ?_
     intro a836 ha836; clear ha835 a835
     refine wpList_nil ?_
     refine then_n ?_
     refine wp_ret ?_
     refine ret1 ha836 rfl rfl ?_
     clear ha836 a836
     refine ret_mkS hx803 ⟨hS797, ?_⟩
     refine ⟨((zs.map (·.1)) : List Cust), (by first | omega | (simp; done) | (simp; omega)), (by intro c hc; obtain ⟨z, hz, rfl⟩ := List.mem_map.1 hc; first | (exact hB z hz) | (have h9 := hq9 z.1 (by rw [← hE13]; exact List.mem_map_of_mem hz); omega) | (rcases List.mem_append.1 hz with hz | hz; (have h9 := hq9 z.1 (by rw [← hE13]; exact List.mem_map_of_mem hz); omega); (obtain rfl := List.mem_singleton.1 hz; first | exact Nat.le_of_ble_eq_true rfl | (simp; done) | (simp; omega) | (dsimp only; rw [List.length_take]; omega)))), ?_⟩
     refine ⟨zs, hf786.fin (by omega) (by omega) (by omega), hf787.fin (by omega) (by omega), ?_⟩
     ·
      rfl
  ·
   rw [decide_eq_false c781] at ha780
   refine cond_f ha780 rfl ?_
   refine wp_seq ?_
   refine wp_region_lit ?_
   refine wl_val ha780 rfl rfl rfl (op_eql ha780 rfl rfl rfl) ?_
   intro a837 ha837; clear ha780 a780
   refine wl_val ha837 rfl rfl rfl (op_assign ha837 rfl rfl) ?_
   intro a838 ha838; clear ha837 a837
   refine wpList_nil ?_
   refine then_n ?_
   by_cases c839 : (q22 : Int) = (2 : Int)
   ·
    rw [decide_eq_true c839] at ha838
    refine cond_t ha838 rfl ?_
    refine wp_region_lit ?_
    refine wl_val ha838 rfl rfl rfl (op_move ha838 rfl rfl) ?_
    intro a840 ha840; clear ha838 a838
    refine wl_eff ha840 rfl rfl rfl (op_buildSlice (s := shStr) (xs := [([109, 97] : Str), ([109, 98] : Str), ([109, 99] : Str), ([109, 100] : Str), ([109, 101] : Str), ([109, 102] : Str)]) (cs := [St (([109, 97] : Str)), St (([109, 98] : Str)), St (([109, 99] : Str)), St (([109, 100] : Str)), St (([109, 101] : Str)), St (([109, 102] : Str))]) (vs := [(0, St (([109, 97] : Str))), (1, St (([109, 98] : Str))), (2, St (([109, 99] : Str))), (3, St (([109, 100] : Str))), (4, St (([109, 101] : Str))), (5, St (([109, 102] : Str)))]) (S := fun _ => False) (le := w19.heap.size) ha840 rfl pos_shStr Try.underlying34 ti9 rfl rfl (by decide) (by kernel_rfl) ⟨mk_shStr (([109, 97] : Str)) (by first | assumption | omega | (constructor <;> omega) | (dsimp only; omega) | (simp; done) | (simp; omega) | (simp only [List.length_append, List.length_take, List.length_drop, List.length_cons, List.length_nil]; omega)), mk_shStr (([109, 98] : Str)) (by first | assumption | omega | (constructor <;> omega) | (dsimp only; omega) | (simp; done) | (simp; omega) | (simp only [List.length_append, List.length_take, List.length_drop, List.length_cons, List.length_nil]; omega)), mk_shStr (([109, 99] : Str)) (by first | assumption | omega | (constructor <;> omega) | (dsimp only; omega) | (simp; done) | (simp; omega) | (simp only [List.length_append, List.length_take, List.length_drop, List.length_cons, List.length_nil]; omega)), mk_shStr (([109, 100] : Str)) (by first | assumption | omega | (constructor <;> omega) | (dsimp only; omega) | (simp; done) | (simp; omega) | (simp only [List.length_append, List.length_take, List.length_drop, List.length_cons, List.length_nil]; omega)), mk_shStr (([109, 101] : Str)) (by first | assumption | omega | (constructor <;> omega) | (dsimp only; omega) | (simp; done) | (simp; omega) | (simp only [List.length_append, List.length_take, List.length_drop, List.length_cons, List.length_nil]; omega)), mk_shStr (([109, 102] : Str)) (by first | assumption | omega | (constructor <;> omega) | (dsimp only; omega) | (simp; done) | (simp; omega) | (simp only [List.length_append, List.length_take, List.length_drop, List.length_cons, List.length_nil]; omega)), rfl⟩ (fun _ h => h.elim)) ?_
    rintro v841 w842 ⟨ho843, he844, hob845⟩ a846 ha846; clear ha840 a840
    have hx847 := hx27.trans' (Stp.of_ext he844 _)
    have hzhx847 := he844.size
    replace ho10 := ho10.ext he844
    replace hN12 := hN12.ext he844
    replace hS21 := hS21.ext he844
    refine wl_val ha846 rfl rfl rfl (op_move ha846 rfl rfl) ?_
    intro a848 ha848; clear ha846 a846
    refine wl_callS ha848 rfl rfl rfl (op_call ha848 rfl cb75 rfl) (c_spec_l01Next _ g_s b_s (2 : Int) hS21) ?_
    rintro v849 w850 he851 ⟨hS852, ⟨q853, hq854, hq855, hq856, rfl⟩⟩ a857 ha857; clear ha848 a848
    have hx858 := hx847.trans' he851
    have hzhx858 := he851.size
    first | replace ho10 := ho10.stp he851 (by intro q hq; cases hq; omega) | replace ho10 := ho10.stpF flat_shCustN he851 (by intro q hq; cases hq; exact ho10.ne_box (by assumption) rfl)
    first | replace hN12 := hN12.stp he851 (by intro q hq; cases hq; omega) | replace hN12 := hN12.stpB flat_shStr he851 (by assumption) rfl
    first | replace ho843 := ho843.stp he851 (by intro q hq; cases hq; omega) | replace ho843 := ho843.stpF flat_shStr he851 (by intro q hq; cases hq; exact ho843.ne_box (by assumption) rfl)
    clear hS21
    have hSlhS852 := hS852.lt
    refine wl_val ha857 rfl rfl rfl ((op_add ha857 rfl rfl rfl).int (IntWalk.i64_in _ (by omega))) ?_
    intro a859 ha859; clear ha857 a857
    obtain ⟨u860, hu861, ho863⟩ := Own.head ho843 pos_shStr (by simp; try omega) Try.underlying34 ti9 (some (.int .i64 ((5 + ((q853 : Int)).toNat) : Nat))) ((5 + ((q853 : Int)).toNat)) (.inr ⟨.i64, rfl⟩) (by first | omega | (simp; omega))
    clear ho843
    refine wl_val ha859 rfl rfl rfl (op_slice_t (by omega) ha859 rfl rfl rfl hu861) ?_
    intro a864 ha864; clear ha859 a859
    refine wl_val ha864 rfl rfl rfl (op_build (vs := [(0, St (([122, 111, 101] : Str))), (2, u860)]) (cs := #[St (([122, 111, 101] : Str)), .int .i64 (0 : Int), u860]) ha864 rfl Try.underlying55 ti55 bp55 rfl ((fill_one rfl rfl rfl).trans ((fill_one ho863.cells1 rfl rfl).trans rfl))) ?_
    intro a865 ha865; clear ha864 a864
    refine wl_eff ha865 rfl rfl rfl (op_buildSlice (s := shCustN) (xs := [(((([122, 111, 101] : Str), (0 : Int), (([([109, 97] : Str), ([109, 98] : Str), ([109, 99] : Str), ([109, 100] : Str), ([109, 101] : Str), ([109, 102] : Str)]).take ((5 + ((q853 : Int)).toNat)))) : Str × Int × List Str), (u860 : Value))]) (cs := [St (([122, 111, 101] : Str)), .int .i64 (0 : Int), u860]) (vs := [(0, .agg #[St (([122, 111, 101] : Str)), .int .i64 (0 : Int), u860])]) (S := fun _ => False) (le := w850.heap.size) ha865 rfl pos_shCustN Try.underlying25 ti55 rfl rfl (by decide) (by kernel_rfl) (Els.single (mk_shCustN ((((([122, 111, 101] : Str), (0 : Int), (([([109, 97] : Str), ([109, 98] : Str), ([109, 99] : Str), ([109, 100] : Str), ([109, 101] : Str), ([109, 102] : Str)]).take ((5 + ((q853 : Int)).toNat)))) : Str × Int × List Str), (u860 : Value))) (by first | assumption | omega | (constructor <;> omega) | (dsimp only; omega) | (simp; done) | (simp; omega) | (simp only [List.length_append, List.length_take, List.length_drop, List.length_cons, List.length_nil]; omega)) (by first | assumption | omega | (constructor <;> omega) | (dsimp only; omega) | (simp; done) | (simp; omega) | (simp only [List.length_append, List.length_take, List.length_drop, List.length_cons, List.length_nil]; omega)) ho863.one)) (fun _ h => h.elim)) ?_
    rintro v866 w867 ⟨ho868, he869, hob870⟩ a871 ha871; clear ha865 a865
    have hx872 := hx858.trans' (Stp.of_ext he869 _)
    have hzhx872 := he869.size
    replace ho10 := ho10.ext he869
    replace hN12 := hN12.ext he869
    replace hS852 := hS852.ext he869
    replace ho863 := ho863.ext he869
    have hN873 : Nst shStr 9 (fun x : Str × Int × List Str => x.2.2) w19.heap.size w867.heap.size w867 ([(((([122, 111, 101] : Str), (0 : Int), (([([109, 97] : Str), ([109, 98] : Str), ([109, 99] : Str), ([109, 100] : Str), ([109, 101] : Str), ([109, 102] : Str)]).take ((5 + ((q853 : Int)).toNat)))) : Str × Int × List Str), (u860 : Value))]) := Nst.one (ho863.fin (by omega) (by omega) (by omega))
    refine wl_eff ha871 rfl rfl rfl (op_append (ts := #[]) (s := shCustN) ha871 rfl Try.underlying25 ti55 rfl pos_shCustN rfl rfl ho10 (ho868.rds pos_shCustN) (by omega) (by omega) (by first | omega | (simp; omega)) (by first | omega | (simp; omega)) (.inl flat_shCustN)) ?_
    rintro v874 w875 ⟨ho876, hst877, hob878⟩ a879 ha879; clear ha871 a871
    have hx880 := hx872.fresh hst877 (by intro q hq; have hq0 := ho10.lt q hq; omega)
    have hzhx880 := hst877.size
    first | replace hN12 := hN12.stpF flat_shStr hst877 ho10 rfl | replace hN12 := hN12.stp hst877 (by intro q hq; have hq0 := ho10.lt q hq; omega)
    replace hS852 := hS852.stp hst877 (by intro q hq; have hq0 := ho10.lt q hq; omega)
    replace ho863 := ho863.stp hst877 (by intro q hq; have hq0 := ho10.lt q hq; omega)
    replace ho868 := ho868.stp hst877 (by intro q hq; have hq0 := ho10.lt q hq; omega)
    replace hN873 := hN873.stp hst877 (by intro q hq; have hq0 := ho10.lt q hq; omega)
    have hsp881 : ∀ q, Value.ownBlock v874 = some q → Value.ownBlock v866 ≠ some q := by intro q hq hb; have hq0 := ho868.lt q hb; rcases hob878 with h | h; (rw [h] at hq; first | (have hq1 := ho10.lt q hq; omega)); (rw [h] at hq; cases hq; omega)
    have hN882 : Nst shStr 9 (fun x : Str × Int × List Str => x.2.2) w0.heap.size w875.heap.size w875 ((z11 ++ [(((([122, 111, 101] : Str), (0 : Int), (([([109, 97] : Str), ([109, 98] : Str), ([109, 99] : Str), ([109, 100] : Str), ([109, 101] : Str), ([109, 102] : Str)]).take ((5 + ((q853 : Int)).toNat)))) : Str × Int × List Str), (u860 : Value))])) := (hN12.app hN873 (by omega) (by omega) (by omega)).fin (by omega) (by omega)
    refine wl_val ha879 rfl rfl rfl (op_assign ha879 rfl rfl) ?_
    intro a883 ha883; clear ha879 a879
    refine wpList_nil ?_
    refine block_n ?_
    refine then_n ?_
    refine wp_seq ?_
    refine wp_region_lit ?_
    refine wl_val ha883 rfl rfl rfl (op_move ha883 rfl rfl) ?_
    intro a884 ha884; clear ha883 a883
    refine wl_val ha884 rfl rfl rfl (op_assign ha884 rfl rfl) ?_
    intro a885 ha885; clear ha884 a884
    refine wpList_nil ?_
    refine then_n ?_
    refine wp_ret ?_
    refine ret1 ha885 rfl rfl ?_
    clear ha885 a885
    refine ret_mkS hx880 ⟨hS852, ?_⟩
    refine ⟨(((z11 ++ [(((([122, 111, 101] : Str), (0 : Int), (([([109, 97] : Str), ([109, 98] : Str), ([109, 99] : Str), ([109, 100] : Str), ([109, 101] : Str), ([109, 102] : Str)]).take ((5 + ((q853 : Int)).toNat)))) : Str × Int × List Str), (u860 : Value))]).map (·.1)) : List Cust), (by first | omega | (simp; done) | (simp; omega)), (by intro c hc; obtain ⟨z, hz, rfl⟩ := List.mem_map.1 hc; first | (exact hB z hz) | (have h9 := hq9 z.1 (by rw [← hE13]; exact List.mem_map_of_mem hz); omega) | (rcases List.mem_append.1 hz with hz | hz; (have h9 := hq9 z.1 (by rw [← hE13]; exact List.mem_map_of_mem hz); omega); (obtain rfl := List.mem_singleton.1 hz; first | exact Nat.le_of_ble_eq_true rfl | (simp; done) | (simp; omega) | (dsimp only; rw [List.length_take]; omega)))), ?_⟩
    refine ⟨(z11 ++ [(((([122, 111, 101] : Str), (0 : Int), (([([109, 97] : Str), ([109, 98] : Str), ([109, 99] : Str), ([109, 100] : Str), ([109, 101] : Str), ([109, 102] : Str)]).take ((5 + ((q853 : Int)).toNat)))) : Str × Int × List Str), (u860 : Value))]), ho876.fin (by omega) (by omega) (by omega), hN882.fin (by omega) (by omega), ?_⟩
    ·
     rfl
   ·
    rw [decide_eq_false c839] at ha838
    refine cond_f ha838 rfl ?_
    refine wp_skip ?_
    refine block_n ?_
    refine then_n ?_
    refine wp_seq ?_
    refine wp_region_lit ?_
    refine wl_val ha838 rfl rfl rfl (op_move ha838 rfl rfl) ?_
    intro a886 ha886; clear ha838 a838
    refine wl_val ha886 rfl rfl rfl (op_assign ha886 rfl rfl) ?_
    intro a887 ha887; clear ha886 a886
    refine wpList_nil ?_
    refine then_n ?_
    refine wp_ret ?_
    refine ret1 ha887 rfl rfl ?_
    clear ha887 a887
    refine ret_mkS hx27 ⟨hS21, ?_⟩
    refine ⟨((z11.map (·.1)) : List Cust), (by first | omega | (simp; done) | (simp; omega)), (by intro c hc; obtain ⟨z, hz, rfl⟩ := List.mem_map.1 hc; first | (exact hB z hz) | (have h9 := hq9 z.1 (by rw [← hE13]; exact List.mem_map_of_mem hz); omega) | (rcases List.mem_append.1 hz with hz | hz; (have h9 := hq9 z.1 (by rw [← hE13]; exact List.mem_map_of_mem hz); omega); (obtain rfl := List.mem_singleton.1 hz; first | exact Nat.le_of_ble_eq_true rfl | (simp; done) | (simp; omega) | (dsimp only; rw [List.length_take]; omega)))), ?_⟩
    refine ⟨z11, ho10.fin (by omega) (by omega) (by omega), hN12.fin (by omega) (by omega), ?_⟩
    ·
     rfl


end Go.Proofs.Ythbkedflhmeohaa
