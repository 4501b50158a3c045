/- The helpers of the laws that mark customers. -/
import Derived.Test.YthbkedflhmeohaaL2
namespace Go.Proofs.Ythbkedflhmeohaa
open Go Go.RowKit

theorem c_laws_markCustomerS (w0 : World) (v_a : Value) (a : List ((Str × Int × List Str) × Value)) {lo_a hi_a : Nat} (k : Int) (h_a : Own shCustN 55 lo_a lo_a hi_a w0 v_a a) (n_a : Nst shStr 9 (fun x : Str × Int × List Str => x.2.2) lo_a hi_a w0 a) (k_a : hi_a ≤ w0.heap.size) (g0 : 0 ≤ k) (g1 : kkCu (a.map (·.1)) k ≤ 4611686018427) (g2 : (a.map (·.1)).length ≤ 4611686018427) :
    Calls Try.prog 26 #[v_a, .int .i64 k] w0 (RetI w0 lo_a hi_a (fun v w1 => ∃ z, v = .int .i64 (kkCu (a.map (·.1)) k) ∧ Own shCustN 55 lo_a lo_a hi_a w1 v_a z ∧ Nst shStr 9 (fun x : Str × Int × List Str => x.2.2) lo_a hi_a w1 z ∧ z.map (·.1) = mkCu (a.map (·.1)) k)) := by
  refine enter (N := 35) Try.func26 rfl rfl rfl ?_
  intro a0 ha0
  have hx0 := StpI.rfl' w0 lo_a hi_a
  have hl_a := (h_a.rds pos_shCustN).length_le
  have hln : (a.map (·.1)).length = a.length := List.length_map _
  refine wp_seq ?_
  refine wp_region_lit ?_
  refine wl_val ha0 rfl rfl rfl (op_assign ha0 rfl rfl) ?_
  intro a1 ha1; clear ha0 a0
  refine wpList_nil ?_
  refine then_n ?_
  refine wp_seq ?_
  refine wp_seq ?_
  refine wp_region_lit ?_
  refine wl_val ha1 rfl rfl rfl (op_assign ha1 rfl rfl) ?_
  intro a2 ha2; clear ha1 a1
  refine wpList_nil ?_
  refine then_n ?_
  refine wp_block ?_
  refine loop_inv (X := Nat × Int × (List ((Str × Int × List Str) × Value))) (fun (⟨i, q, zs⟩ : Nat × Int × (List ((Str × Int × List Str) × Value))) fr wl => Sl 35 fr [(0, v_a), (1, .int .i64 q), (5, .int .i64 ((i : Nat) : Int))] ∧ StpI w0 wl lo_a hi_a ∧ Own shCustN 55 lo_a lo_a hi_a wl v_a zs ∧ Nst shStr 9 (fun x : Str × Int × List Str => x.2.2) lo_a hi_a wl zs ∧ w0.heap.size ≤ wl.heap.size ∧ (i ≤ a.length) ∧ (zs.length = a.length) ∧ (0 ≤ q) ∧ (q ≤ kkCu ((a.map (·.1)).drop i) q) ∧ ((zs.drop i).map (·.1) = (a.map (·.1)).drop i) ∧ ((zs.take i).map (·.1) ++ mkCu ((a.map (·.1)).drop i) q = mkCu (a.map (·.1)) k) ∧ (kkCu ((a.map (·.1)).drop i) q = kkCu (a.map (·.1)) k)) (fun (⟨i, q, zs⟩ : Nat × Int × (List ((Str × Int × List Str) × Value))) => a.length - i) (0, k, a) ?_ ?_
  ·
    exact ⟨(Sl.cons_ ha2 rfl rfl (Sl.cons_ ha2 rfl (int_eq (by omega)) (Sl.cons_ ha2 rfl (int_eq (by omega)) (Sl.nil_ ha2)))), hx0, h_a, (n_a.fin (by omega) (by omega)), (by omega), (by omega), (by rfl), (by omega), (by exact kkCu_ge _ _), (by simp), (by simp), (by rfl)⟩
  ·
    clear ha2 a2
    rintro ⟨i, q, zs⟩ a7 w3 ⟨ha7, hx4, hf5, hf6, hzl8, hi, hl, hq0, hq1, hd, hF, hG⟩
    have hzhx4 := hx4.size
    have hbound : kkCu ((a.map (·.1)).drop i) q ≤ 4611686018427 := by rw [hG]; assumption
    refine wp_seq ?_
    refine wp_seq ?_
    refine wp_region_lit ?_
    refine wl_val ha7 rfl rfl rfl (op_move ha7 rfl rfl) ?_
    intro a9 ha9; clear ha7 a7
    refine wl_val ha9 rfl rfl rfl (op_move ha9 rfl rfl) ?_
    intro a10 ha10; clear ha9 a9
    refine wl_val ha10 rfl rfl rfl (op_len_sl ha10 rfl Try.underlying25 rfl (hf5.rds pos_shCustN)) ?_
    intro a11 ha11; clear ha10 a10
    refine wl_val ha11 rfl rfl rfl (op_lss ha11 rfl rfl rfl) ?_
    intro a12 ha12; clear ha11 a11
    refine wpList_nil ?_
    refine then_n ?_
    by_cases c13 : ((i : Nat) : Int) < ((zs.length : Nat) : Int)
    ·
      rw [decide_eq_true c13] at ha12
      refine cond_t ha12 rfl ?_
      refine wp_skip ?_
      refine then_n ?_
      refine wp_seq ?_
      refine wp_block ?_
      refine wp_seq ?_
      refine wp_region_lit ?_
      refine wl_val ha12 rfl rfl rfl (op_move ha12 rfl rfl) ?_
      intro a14 ha14; clear ha12 a12
      refine wl_val ha14 rfl rfl rfl (op_move ha14 rfl rfl) ?_
      intro a15 ha15; clear ha14 a14
      refine wl_val ha15 rfl rfl rfl (op_move ha15 rfl rfl) ?_
      intro a16 ha16; clear ha15 a15
      refine wl_callR ha16 rfl rfl rfl (op_call ha16 rfl cb61 rfl) (c_laws_markText _ q (by first | assumption | omega | (simp; omega) | (have hat0 := mark_at hd (by assumption); omega))) ?_
      rintro v17 w18 he19 rfl a20 ha20; clear ha16 a16
      have hx21 := hx4.trans' (StpI.of_ext he19 _ _)
      have hzhx21 := he19.size
      replace hf5 := hf5.ext he19
      replace hf6 := hf6.ext he19
      obtain ⟨x22, hx22⟩ := get_ex (xs := zs) (j := i) (by first | omega | (simp only [List.length_set]; omega))
      obtain ⟨p23, c24, hi25, hc26, hr27, hs28⟩ := Rds.at_ (hf5.rds pos_shCustN) hx22
      obtain ⟨rfl, b29, b30, b31⟩ := inv_shCustN hr27
      have hn32 : Own shStr 9 lo_a lo_a hi_a w18 x22.2 x22.1.2.2 := hf6.get hx22
      obtain ⟨_, _⟩ : _ ∧ _ := hs28
      have hatx22 := mark_at hd hx22
      have hkkx22 : nxCu x22.1 q ≤ kkCu ((a.map (·.1)).drop i) q := by rw [drop_cons hatx22, kkCu]; exact kkCu_ge _ _
      unfold nxCu at hkkx22
      refine wl_val ha20 rfl rfl rfl (op_indexAddr ha20 rfl Try.underlying25 ti55 rfl rfl (by omega) hi25) ?_
      intro a33 ha33; clear ha20 a20
      refine wl_val ha33 rfl rfl rfl (op_fieldAddr (sz := 0) ha33 rfl Try.underlying55 rfl rfl ti9 rfl) ?_
      intro a34 ha34; clear ha33 a33
      refine wl_effS ha34 rfl rfl (op_setCells (s := shCustN) (off := 0) (ds := [St ((mkT q))]) (S' := fun _ => False) ha34 rfl ti9 rfl rfl rfl rfl (by simp [Value.oneCell']) hf5 hi25 (by first | omega | (simp only [List.length_set]; omega)) (Nat.le_of_ble_eq_true rfl) hc26 rfl (mk_shCustN (((((mkT q), x22.1.2.1, x22.1.2.2) : Str × Int × List Str), (x22.2 : Value))) (by first | assumption | omega | (dsimp only; omega) | exact Nat.le_trans (mkT_len (by omega)) (by omega)) (by first | assumption | omega | (dsimp only; omega) | exact Nat.le_trans (mkT_len (by omega)) (by omega)) hn32.one) (fun _ h => h.elim)) ?_
      rintro w35 ⟨ho37, hst36, hz38⟩
      have hx39 := hx21.trans' (StpI.of_stp hst36 (by intro q hq; have hq0 := hf5.lt q hq; omega))
      have hzhx39 := hst36.size
      replace hf6 : Nst shStr 9 (fun x : Str × Int × List Str => x.2.2) lo_a hi_a w35 zs := by first | exact hf6.stpF flat_shStr hst36 hf5 rfl | exact hf6.stp hst36 (by intro q hq; have hq0 := hf5.lt q hq; omega)
      replace hn32 : Own shStr 9 lo_a lo_a hi_a w35 x22.2 x22.1.2.2 := by first | exact hn32.stp hst36 (by intro q hq; have hq0 := hf5.lt q hq; omega) | exact hn32.stpF flat_shStr hst36 (hn32.ne hf5 rfl)
      clear hf5
      have hlsho37 : ((zs.set i (((((mkT q), x22.1.2.1, x22.1.2.2) : Str × Int × List Str), (x22.2 : Value))))).length = zs.length := List.length_set
      have hN40 : Nst shStr 9 (fun x : Str × Int × List Str => x.2.2) lo_a hi_a w35 ((zs.set i (((((mkT q), x22.1.2.1, x22.1.2.2) : Str × Int × List Str), (x22.2 : Value))))) := hf6.stay hx22 rfl
      refine wpList_nil ?_
      refine then_n ?_
      refine wp_seq ?_
      refine wp_region_lit ?_
      refine wl_val ha34 rfl rfl rfl (op_move ha34 rfl rfl) ?_
      intro a41 ha41; clear ha34 a34
      refine wl_val ha41 rfl rfl rfl ((op_add ha41 rfl rfl rfl).int (IntWalk.i64_in _ (by omega))) ?_
      intro a42 ha42; clear ha41 a41
      refine wl_val ha42 rfl rfl rfl (op_assign ha42 rfl rfl) ?_
      intro a43 ha43; clear ha42 a42
      refine wpList_nil ?_
      refine then_n ?_
      refine wp_seq ?_
      refine wp_region_lit ?_
      refine wl_val ha43 rfl rfl rfl (op_move ha43 rfl rfl) ?_
      intro a44 ha44; clear ha43 a43
      refine wl_val ha44 rfl rfl rfl (op_move ha44 rfl rfl) ?_
      intro a45 ha45; clear ha44 a44
      refine wl_val ha45 rfl rfl rfl (op_move ha45 rfl rfl) ?_
      intro a46 ha46; clear ha45 a45
      obtain ⟨x47, hx47⟩ := get_ex (xs := (zs.set i (((((mkT q), x22.1.2.1, x22.1.2.2) : Str × Int × List Str), (x22.2 : Value))))) (j := i) (by first | omega | (simp only [List.length_set]; omega))
      obtain ⟨p48, c49, hi50, hc51, hr52, hs53⟩ := Rds.at_ (ho37.rds pos_shCustN) hx47
      obtain ⟨rfl, b54, b55, b56⟩ := inv_shCustN hr52
      have hn57 : Own shStr 9 lo_a lo_a hi_a w35 x47.2 x47.1.2.2 := hN40.get hx47
      obtain ⟨_, _⟩ : _ ∧ _ := hs53
      have hqlx47 : x47.1.2.2.length = x22.1.2.2.length := congrArg (fun z => z.1.2.2.length) (hset_self hx47 (by first | omega | (simp only [List.length_set]; omega)))
      refine wl_val ha46 rfl rfl rfl (op_indexAddr ha46 rfl Try.underlying25 ti55 rfl rfl (by omega) hi50) ?_
      intro a58 ha58; clear ha46 a46
      refine wl_val ha58 rfl rfl rfl (op_fieldAddr (sz := 0) ha58 rfl Try.underlying55 rfl rfl ti2 rfl) ?_
      intro a59 ha59; clear ha58 a58
      refine wl_effS ha59 rfl rfl (op_setCells (s := shCustN) (off := 1) (ds := [.int .i64 (q + (1 : Int))]) (S' := fun _ => False) ha59 rfl ti2 rfl rfl rfl rfl (by simp [Value.oneCell']) ho37 hi50 (by first | omega | (simp only [List.length_set]; omega)) (Nat.le_of_ble_eq_true rfl) hc51 rfl (mk_shCustN ((((x47.1.1, (q + (1 : Int)), x47.1.2.2) : Str × Int × List Str), (x47.2 : Value))) (by first | assumption | omega | (dsimp only; omega) | exact Nat.le_trans (mkT_len (by omega)) (by omega)) (by first | assumption | omega | (dsimp only; omega) | exact Nat.le_trans (mkT_len (by omega)) (by omega)) hn57.one) (fun _ h => h.elim)) ?_
      rintro w60 ⟨ho62, hst61, hz63⟩
      have hx64 := hx39.trans' (StpI.of_stp hst61 (by intro q hq; have hq0 := ho37.lt q hq; omega))
      have hzhx64 := hst61.size
      replace hn32 : Own shStr 9 lo_a lo_a hi_a w60 x22.2 x22.1.2.2 := by first | exact hn32.stp hst61 (by intro q hq; have hq0 := ho37.lt q hq; omega) | exact hn32.stpF flat_shStr hst61 (hn32.ne ho37 rfl)
      replace hN40 : Nst shStr 9 (fun x : Str × Int × List Str => x.2.2) lo_a hi_a w60 ((zs.set i (((((mkT q), x22.1.2.1, x22.1.2.2) : Str × Int × List Str), (x22.2 : Value))))) := by first | exact hN40.stpF flat_shStr hst61 ho37 rfl | exact hN40.stp hst61 (by intro q hq; have hq0 := ho37.lt q hq; omega)
      replace hn57 : Own shStr 9 lo_a lo_a hi_a w60 x47.2 x47.1.2.2 := by first | exact hn57.stp hst61 (by intro q hq; have hq0 := ho37.lt q hq; omega) | exact hn57.stpF flat_shStr hst61 (hn57.ne ho37 rfl)
      clear ho37
      have hlsho62 : ((((zs.set i (((((mkT q), x22.1.2.1, x22.1.2.2) : Str × Int × List Str), (x22.2 : Value))))).set i ((((x47.1.1, (q + (1 : Int)), x47.1.2.2) : Str × Int × List Str), (x47.2 : Value))))).length = ((zs.set i (((((mkT q), x22.1.2.1, x22.1.2.2) : Str × Int × List Str), (x22.2 : Value))))).length := List.length_set
      have hN65 : Nst shStr 9 (fun x : Str × Int × List Str => x.2.2) lo_a hi_a w60 ((((zs.set i (((((mkT q), x22.1.2.1, x22.1.2.2) : Str × Int × List Str), (x22.2 : Value))))).set i ((((x47.1.1, (q + (1 : Int)), x47.1.2.2) : Str × Int × List Str), (x47.2 : Value))))) := hN40.stay hx47 rfl
      refine wpList_nil ?_
      refine then_n ?_
      refine wp_seq ?_
      refine wp_region_lit ?_
      refine wl_val ha59 rfl rfl rfl (op_move ha59 rfl rfl) ?_
      intro a66 ha66; clear ha59 a59
      refine wl_val ha66 rfl rfl rfl ((op_add ha66 rfl rfl rfl).int (IntWalk.i64_in _ (by omega))) ?_
      intro a67 ha67; clear ha66 a66
      refine wl_val ha67 rfl rfl rfl (op_assign ha67 rfl rfl) ?_
      intro a68 ha68; clear ha67 a67
      refine wpList_nil ?_
      refine then_n ?_
      refine wp_region_lit ?_
      refine wl_val ha68 rfl rfl rfl (op_move ha68 rfl rfl) ?_
      intro a69 ha69; clear ha68 a68
      refine wl_val ha69 rfl rfl rfl (op_move ha69 rfl rfl) ?_
      intro a70 ha70; clear ha69 a69
      obtain ⟨x71, hx71⟩ := get_ex (xs := (((zs.set i (((((mkT q), x22.1.2.1, x22.1.2.2) : Str × Int × List Str), (x22.2 : Value))))).set i ((((x47.1.1, (q + (1 : Int)), x47.1.2.2) : Str × Int × List Str), (x47.2 : Value))))) (j := i) (by first | omega | (simp only [List.length_set]; omega))
      obtain ⟨p72, c73, hi74, hc75, hr76, hs77⟩ := Rds.at_ (ho62.rds pos_shCustN) hx71
      obtain ⟨rfl, b78, b79, b80⟩ := inv_shCustN hr76
      have hn81 : Own shStr 9 lo_a lo_a hi_a w60 x71.2 x71.1.2.2 := hN65.get hx71
      obtain ⟨_, _⟩ : _ ∧ _ := hs77
      have hqlx71 : x71.1.2.2.length = x47.1.2.2.length := congrArg (fun z => z.1.2.2.length) (hset_self hx71 (by first | omega | (simp only [List.length_set]; omega)))
      refine wl_val ha70 rfl rfl rfl (op_indexAddr ha70 rfl Try.underlying25 ti55 rfl rfl (by omega) hi74) ?_
      intro a82 ha82; clear ha70 a70
      refine wl_val ha82 rfl rfl rfl (op_fieldAddr (sz := 0) ha82 rfl Try.underlying55 rfl rfl ti34 rfl) ?_
      intro a83 ha83; clear ha82 a82
      refine wl_val ha83 rfl rfl rfl (op_loadF (off := 2) ha83 rfl Try.underlying34 rfl rfl hc75 rfl) ?_
      intro a84 ha84; clear ha83 a83
      refine wl_val ha84 rfl rfl rfl (op_move ha84 rfl rfl) ?_
      intro a85 ha85; clear ha84 a84
      refine wl_callS ha85 rfl rfl rfl (op_call ha85 rfl cb27 rfl) (c_laws_markStringS _ x71.2 x71.1.2.2 ((q + (1 : Int)) + (1 : Int)) hn81 (by first | assumption | omega | (simp; omega) | (have hat0 := mark_at hd (by assumption); omega)) (by first | assumption | omega | (simp; omega) | (have hat0 := mark_at hd (by assumption); omega)) (by first | assumption | omega | (simp; omega) | (have hat0 := mark_at hd (by assumption); omega))) ?_
      rintro v86 w87 he88 ⟨rfl, ho89⟩ a90 ha90; clear ha85 a85
      have hx91 := hx64.trans' (StpI.of_stp he88 (by intro q hq; have hq0 := hn81.lt q hq; omega))
      have hzhx91 := he88.size
      replace ho62 : Own shCustN 55 lo_a lo_a hi_a w87 v_a ((((zs.set i (((((mkT q), x22.1.2.1, x22.1.2.2) : Str × Int × List Str), (x22.2 : Value))))).set i ((((x47.1.1, (q + (1 : Int)), x47.1.2.2) : Str × Int × List Str), (x47.2 : Value))))) := by first | exact ho62.stp he88 (by intro q hq; have hq0 := hn81.lt q hq; omega) | exact ho62.stpF flat_shCustN he88 (ho62.ne hn81 rfl)
      clear hn81
      have ho92 : Own shCustN 55 lo_a lo_a hi_a w87 v_a ((((((zs.set i (((((mkT q), x22.1.2.1, x22.1.2.2) : Str × Int × List Str), (x22.2 : Value))))).set i ((((x47.1.1, (q + (1 : Int)), x47.1.2.2) : Str × Int × List Str), (x47.2 : Value))))).set i (((x71.1.1, x71.1.2.1, (mkN mkS 1 x71.1.2.2.length (((q + (1 : Int)) + (1 : Int))))) : Str × Int × List Str), (x71.2 : Value)))) := ho62.ghost hx71 fun _ _ _ h => h
      have hN93 : Nst shStr 9 (fun x : Str × Int × List Str => x.2.2) lo_a hi_a w87 ((((((zs.set i (((((mkT q), x22.1.2.1, x22.1.2.2) : Str × Int × List Str), (x22.2 : Value))))).set i ((((x47.1.1, (q + (1 : Int)), x47.1.2.2) : Str × Int × List Str), (x47.2 : Value))))).set i (((x71.1.1, x71.1.2.1, (mkN mkS 1 x71.1.2.2.length (((q + (1 : Int)) + (1 : Int))))) : Str × Int × List Str), (x71.2 : Value)))) := hN65.put flat_shStr hx71 he88 ho89 (.inl rfl) (by omega)
      clear ho62 hN65
      have hlsho92 : ((((((zs.set i (((((mkT q), x22.1.2.1, x22.1.2.2) : Str × Int × List Str), (x22.2 : Value))))).set i ((((x47.1.1, (q + (1 : Int)), x47.1.2.2) : Str × Int × List Str), (x47.2 : Value))))).set i (((x71.1.1, x71.1.2.1, (mkN mkS 1 x71.1.2.2.length (((q + (1 : Int)) + (1 : Int))))) : Str × Int × List Str), (x71.2 : Value)))).length = ((((zs.set i (((((mkT q), x22.1.2.1, x22.1.2.2) : Str × Int × List Str), (x22.2 : Value))))).set i ((((x47.1.1, (q + (1 : Int)), x47.1.2.2) : Str × Int × List Str), (x47.2 : Value))))).length := List.length_set
      refine wl_val ha90 rfl rfl rfl (op_assign ha90 rfl rfl) ?_
      intro a94 ha94; clear ha90 a90
      refine wpList_nil ?_
      refine block_n ?_
      refine then_n ?_
      refine wp_region_lit ?_
      refine wl_val ha94 rfl rfl rfl (op_move ha94 rfl rfl) ?_
      intro a95 ha95; clear ha94 a94
      refine wl_val ha95 rfl rfl rfl ((op_add ha95 rfl rfl rfl).int (IntWalk.i64_in _ (by omega))) ?_
      intro a96 ha96; clear ha95 a95
      refine wl_val ha96 rfl rfl rfl (op_assign ha96 rfl rfl) ?_
      intro a97 ha97; clear ha96 a96
      refine wpList_nil ?_
      refine round_end (x := (i, q, zs)) ((i + 1), ((((q + (1 : Int)) + (1 : Int))) + 1 * (x71.1.2.2.length : Nat) : Int), (((((zs.set i (((((mkT q), x22.1.2.1, x22.1.2.2) : Str × Int × List Str), (x22.2 : Value))))).set i ((((x47.1.1, (q + (1 : Int)), x47.1.2.2) : Str × Int × List Str), (x47.2 : Value))))).set i (((x71.1.1, x71.1.2.1, (mkN mkS 1 x71.1.2.2.length (((q + (1 : Int)) + (1 : Int))))) : Str × Int × List Str), (x71.2 : Value)))) ?_ ?_
      ·
        refine ⟨(Sl.cons_ ha97 rfl rfl (Sl.cons_ ha97 rfl (int_eq (by omega)) (Sl.cons_ ha97 rfl (int_eq (by omega)) (Sl.nil_ ha97)))), hx91, ho92, (hN93.fin (by omega) (by omega)), (by omega), (by omega), (by simp only [List.length_set]; exact hl), (by omega), (by exact kkCu_ge _ _), (by have e5 := hset_self hx47 (by first | omega | (simp only [List.length_set]; omega)); subst e5; have e5 := hset_self hx71 (by first | omega | (simp only [List.length_set]; omega)); subst e5; have hat := mark_at hd hx22; rw [drop_cons hat, mkCu] at hF; (try simp only [List.set_set]); exact (mark_step hd (by first | omega | (simp only [List.length_set]; omega)) hF rfl).1), (by have e5 := hset_self hx47 (by first | omega | (simp only [List.length_set]; omega)); subst e5; have e5 := hset_self hx71 (by first | omega | (simp only [List.length_set]; omega)); subst e5; have hat := mark_at hd hx22; rw [drop_cons hat, mkCu] at hF; (try simp only [List.set_set]); exact (mark_step hd (by first | omega | (simp only [List.length_set]; omega)) hF rfl).2), (by have e5 := hset_self hx47 (by first | omega | (simp only [List.length_set]; omega)); subst e5; have e5 := hset_self hx71 (by first | omega | (simp only [List.length_set]; omega)); subst e5; have hat := mark_at hd hx22; rw [drop_cons hat, kkCu] at hG; exact hG)⟩
      · show (a.length - ((i + 1)) : Nat) < a.length - i; omega
    ·
      rw [decide_eq_false c13] at ha12
      refine cond_f ha12 rfl ?_
      refine wp_exit ?_
      refine then_e ?_
      refine then_e ?_
      refine block_hit ?_
      refine then_n ?_
      refine wp_seq ?_
      refine wp_region_lit ?_
      refine wl_val ha12 rfl rfl rfl (op_move ha12 rfl rfl) ?_
      intro a98 ha98; clear ha12 a12
      refine wl_val ha98 rfl rfl rfl (op_assign ha98 rfl rfl) ?_
      intro a99 ha99; clear ha98 a98
      refine wpList_nil ?_
      refine then_n ?_
      refine wp_ret ?_
      refine ret1 ha99 rfl rfl ?_
      clear ha99 a99
      exact ret_mkI hx4 ⟨_, int_eq (by rw [drop_nil (by simp; omega), kkCu] at hG; exact hG), hf5.fin (by omega) (by omega) (by omega), hf6.fin (by omega) (by omega), (by rw [List.take_of_length_le (by omega), drop_nil (by simp; omega), mkCu, List.append_nil] at hF; exact hF)⟩

theorem c_laws_heldCustomerS (w0 : World) (v_a : Value) (a : List (Str × Int × List Str)) {S_a : Nat → Prop} (k : Int) (h_a : Rds shCust S_a w0 v_a a) (g0 : 0 ≤ k) (g1 : kkCu a k ≤ 4611686018427) :
    Calls Try.prog 33 #[v_a, .int .i64 k] w0 (Ret w0 (fun v _ => v = .int .i64 (heldCu a k))) := by
  refine enter (N := 41) Try.func33 rfl rfl rfl ?_
  intro a0 ha0
  have hx0 := Ext.rfl' w0
  have hl_a := h_a.length_le
  refine wp_seq ?_
  refine wp_region_lit ?_
  refine wl_val ha0 rfl rfl rfl (op_assign ha0 rfl rfl) ?_
  intro a1 ha1; clear ha0 a0
  refine wpList_nil ?_
  refine then_n ?_
  refine wp_seq ?_
  refine wp_seq ?_
  refine wp_region_lit ?_
  refine wl_val ha1 rfl rfl rfl (op_assign ha1 rfl rfl) ?_
  intro a2 ha2; clear ha1 a1
  refine wpList_nil ?_
  refine then_n ?_
  refine wp_block ?_
  refine loop_inv (X := Nat × Int) (fun (⟨i, q⟩ : Nat × Int) fr wl => Sl 41 fr [(0, v_a), (1, .int .i64 q), (5, .int .i64 ((i : Nat) : Int))] ∧ Ext w0 wl ∧ w0.heap.size ≤ wl.heap.size ∧ (i ≤ a.length) ∧ (0 ≤ q) ∧ (kkCu (a.drop i) q ≤ 4611686018427) ∧ (heldCu (a.drop i) q = heldCu a k)) (fun (⟨i, q⟩ : Nat × Int) => a.length - i) (0, k) ?_ ?_
  ·
    exact ⟨(Sl.cons_ ha2 rfl rfl (Sl.cons_ ha2 rfl (int_eq (by omega)) (Sl.cons_ ha2 rfl (int_eq (by omega)) (Sl.nil_ ha2)))), hx0, (by omega), (by omega), (by omega), (by assumption), (by rfl)⟩
  ·
    clear ha2 a2
    rintro ⟨i, q⟩ a5 w3 ⟨ha5, hx4, hzl6, hi, hq, hqb, hF⟩
    have hzhx4 := hx4.size
    refine wp_seq ?_
    refine wp_seq ?_
    refine wp_region_lit ?_
    refine wl_val ha5 rfl rfl rfl (op_move ha5 rfl rfl) ?_
    intro a7 ha7; clear ha5 a5
    refine wl_val ha7 rfl rfl rfl (op_move ha7 rfl rfl) ?_
    intro a8 ha8; clear ha7 a7
    refine wl_val ha8 rfl rfl rfl (op_len_sl ha8 rfl Try.underlying25 rfl h_a) ?_
    intro a9 ha9; clear ha8 a8
    refine wl_val ha9 rfl rfl rfl (op_lss ha9 rfl rfl rfl) ?_
    intro a10 ha10; clear ha9 a9
    refine wpList_nil ?_
    refine then_n ?_
    by_cases c11 : ((i : Nat) : Int) < ((a.length : Nat) : Int)
    ·
      rw [decide_eq_true c11] at ha10
      refine cond_t ha10 rfl ?_
      refine wp_skip ?_
      refine then_n ?_
      refine wp_seq ?_
      refine wp_block ?_
      refine wp_seq ?_
      refine wp_seq ?_
      refine dr_enter Ext follows_mixed ?_
      intro w12 he13
      have hx14 := hx4.trans' he13
      have hzhx14 := he13.size
      have hs15 : Ext w12 w12 := Ext.rfl' _
      refine dr_val (i := 0) ha10 rfl (by kernel_rfl) (by kernel_rfl) (by kernel_rfl) rfl rfl rfl hs15 (fun w' hw' => op_move ha10 rfl rfl) ?_
      intro a16 ha16; clear ha10 a10
      refine dr_val (i := 1) ha16 rfl (by kernel_rfl) (by kernel_rfl) (by kernel_rfl) rfl rfl rfl hs15 (fun w' hw' => op_move ha16 rfl rfl) ?_
      intro a17 ha17; clear ha16 a16
      obtain ⟨x18, hx18⟩ := get_ex (xs := a) (j := i) (by omega)
      obtain ⟨p19, c20, hi21, hc22, hr23, hs24⟩ := Rds.at_ h_a hx18
      obtain ⟨v25, rfl, b26, b27, b28⟩ := inv_shCust hr23
      have hlb28 := b28.length_le
      have hkqx18 : kkCu (a.drop i) q = kkCu (a.drop (i + 1)) (nxCu x18 q) := by rw [drop_cons hx18, kkCu]
      have hkgx18 := kkCu_ge (a.drop (i + 1)) (nxCu x18 q)
      have hnxx18 : nxCu x18 q = q + 1 + 1 + 1 * (x18.2.2.length : Nat) := rfl
      refine dr_val (i := 2) ha17 rfl (by kernel_rfl) (by kernel_rfl) (by kernel_rfl) rfl rfl rfl hs15 (fun w' hw' => op_indexAddr ha17 rfl Try.underlying25 ti55 rfl rfl (by omega) hi21) ?_
      intro a29 ha29; clear ha17 a17
      refine dr_val (i := 3) ha29 rfl (by kernel_rfl) (by kernel_rfl) (by kernel_rfl) rfl rfl rfl hs15 (fun w' hw' => op_fieldAddr (sz := 0) ha29 rfl Try.underlying55 rfl rfl ti9 rfl) ?_
      intro a30 ha30; clear ha29 a29
      refine dr_val (i := 4) ha30 rfl (by kernel_rfl) (by kernel_rfl) (by kernel_rfl) rfl rfl rfl hs15 (fun w' hw' => op_loadF (off := 0) ha30 rfl Try.underlying9 rfl rfl (hc22.ext (hx14.trans' hw')) rfl) ?_
      intro a31 ha31; clear ha30 a30
      refine dr_val (i := 5) ha31 rfl (by kernel_rfl) (by kernel_rfl) (by kernel_rfl) rfl rfl rfl hs15 (fun w' hw' => op_move ha31 rfl rfl) ?_
      intro a32 ha32; clear ha31 a31
      refine dr_one (i := 6) (by kernel_rfl) ?_
      refine po_callR ha32 rfl rfl rfl rfl (op_call ha32 rfl cb61 rfl) (c_laws_markText _ q (by first | assumption | omega | (simp; omega))) ?_
      rintro v33 w34 he35 rfl a36 ha36; clear ha32 a32
      have hs37 := hs15.trans' he35
      have hx38 := hx14.trans' he35
      have hzhx38 := he35.size
      refine ⟨hs37, ?_⟩
      refine dr_val (i := 7) ha36 rfl (by kernel_rfl) (by kernel_rfl) (by kernel_rfl) rfl rfl rfl hs37 (fun w' hw' => (op_sneq ha36 rfl rfl rfl).to (congrArg Value.bool decide_not)) ?_
      intro a39 ha39; clear ha36 a36
      refine dr_end (by kernel_rfl) ?_
      refine then_n ?_
      by_cases c40 : x18.1 = (mkT q)
      ·
        rw [decide_eq_true c40] at ha39
        refine cond_f ha39 rfl ?_
        refine wp_skip ?_
        refine then_n ?_
        refine wp_seq ?_
        refine wp_region_lit ?_
        refine wl_val ha39 rfl rfl rfl (op_move ha39 rfl rfl) ?_
        intro a41 ha41; clear ha39 a39
        refine wl_val ha41 rfl rfl rfl ((op_add ha41 rfl rfl rfl).int (IntWalk.i64_in _ (by omega))) ?_
        intro a42 ha42; clear ha41 a41
        refine wl_val ha42 rfl rfl rfl (op_assign ha42 rfl rfl) ?_
        intro a43 ha43; clear ha42 a42
        refine wpList_nil ?_
        refine then_n ?_
        refine wp_seq ?_
        refine wp_seq ?_
        refine wp_region_lit ?_
        refine wl_val ha43 rfl rfl rfl (op_move ha43 rfl rfl) ?_
        intro a44 ha44; clear ha43 a43
        refine wl_val ha44 rfl rfl rfl (op_move ha44 rfl rfl) ?_
        intro a45 ha45; clear ha44 a44
        refine wl_val ha45 rfl rfl rfl (op_indexAddr ha45 rfl Try.underlying25 ti55 rfl rfl (by omega) hi21) ?_
        intro a46 ha46; clear ha45 a45
        refine wl_val ha46 rfl rfl rfl (op_fieldAddr (sz := 0) ha46 rfl Try.underlying55 rfl rfl ti2 rfl) ?_
        intro a47 ha47; clear ha46 a46
        refine wl_val ha47 rfl rfl rfl (op_loadF (off := 1) ha47 rfl Try.underlying2 rfl rfl (hc22.ext hx38) rfl) ?_
        intro a48 ha48; clear ha47 a47
        refine wl_val ha48 rfl rfl rfl (op_move ha48 rfl rfl) ?_
        intro a49 ha49; clear ha48 a48
        refine wl_val ha49 rfl rfl rfl ((op_neq ha49 rfl rfl rfl).to (congrArg Value.bool decide_not)) ?_
        intro a50 ha50; clear ha49 a49
        refine wpList_nil ?_
        refine then_n ?_
        by_cases c51 : x18.2.1 = (q + (1 : Int))
        ·
          rw [decide_eq_true c51] at ha50
          refine cond_f ha50 rfl ?_
          refine wp_skip ?_
          refine then_n ?_
          refine wp_seq ?_
          refine wp_region_lit ?_
          refine wl_val ha50 rfl rfl rfl (op_move ha50 rfl rfl) ?_
          intro a52 ha52; clear ha50 a50
          refine wl_val ha52 rfl rfl rfl ((op_add ha52 rfl rfl rfl).int (IntWalk.i64_in _ (by omega))) ?_
          intro a53 ha53; clear ha52 a52
          refine wl_val ha53 rfl rfl rfl (op_assign ha53 rfl rfl) ?_
          intro a54 ha54; clear ha53 a53
          refine wpList_nil ?_
          refine then_n ?_
          refine wp_seq ?_
          refine wp_region_lit ?_
          refine wl_val ha54 rfl rfl rfl (op_move ha54 rfl rfl) ?_
          intro a55 ha55; clear ha54 a54
          refine wl_val ha55 rfl rfl rfl (op_move ha55 rfl rfl) ?_
          intro a56 ha56; clear ha55 a55
          refine wl_val ha56 rfl rfl rfl (op_indexAddr ha56 rfl Try.underlying25 ti55 rfl rfl (by omega) hi21) ?_
          intro a57 ha57; clear ha56 a56
          refine wl_val ha57 rfl rfl rfl (op_fieldAddr (sz := 0) ha57 rfl Try.underlying55 rfl rfl ti34 rfl) ?_
          intro a58 ha58; clear ha57 a57
          refine wl_val ha58 rfl rfl rfl (op_loadF (off := 2) ha58 rfl Try.underlying34 rfl rfl (hc22.ext hx38) rfl) ?_
          intro a59 ha59; clear ha58 a58
          refine wl_val ha59 rfl rfl rfl (op_move ha59 rfl rfl) ?_
          intro a60 ha60; clear ha59 a59
          refine wl_callR ha60 rfl rfl rfl (op_call ha60 rfl cb28 rfl) (c_laws_heldStringS _ v25 x18.2.2 ((q + (1 : Int)) + (1 : Int)) (b28.ext pos_shStr hx38) (by first | assumption | omega | (simp; omega)) (by first | assumption | omega | (simp; omega)) (by first | assumption | omega | (simp; omega))) ?_
          rintro v61 w62 he63 rfl a64 ha64; clear ha60 a60
          have hx65 := hx38.trans' he63
          have hzhx65 := he63.size
          refine wl_val ha64 rfl rfl rfl (op_assign ha64 rfl rfl) ?_
          intro a66 ha66; clear ha64 a64
          refine wpList_nil ?_
          refine then_n ?_
          refine wp_seq ?_
          refine wp_region_lit ?_
          refine wl_val ha66 rfl rfl rfl (op_move ha66 rfl rfl) ?_
          intro a67 ha67; clear ha66 a66
          refine wl_val ha67 rfl rfl rfl (op_lss ha67 rfl rfl rfl) ?_
          intro a68 ha68; clear ha67 a67
          refine wpList_nil ?_
          refine then_n ?_
          by_cases c69 : (heldG okS 1 x18.2.2 ((q + (1 : Int)) + (1 : Int)) : Int) < (0 : Int)
          ·
            rw [decide_eq_true c69] at ha68
            refine cond_t ha68 rfl ?_
            refine wp_seq ?_
            refine wp_region_lit ?_
            refine wl_val ha68 rfl rfl rfl (op_assign ha68 rfl rfl) ?_
            intro a70 ha70; clear ha68 a68
            refine wpList_nil ?_
            refine then_n ?_
            refine wp_ret ?_
            refine block_r ?_
            refine then_r ?_
            refine then_r ?_
            refine block_r ?_
            refine then_r ?_
            refine ret1 ha70 rfl rfl ?_
            clear ha70 a70
            rw [drop_cons hx18, heldCu] at hF
            rw [if_pos (by simp [c11, c40, c51, c69]), if_pos (by assumption)] at hF
            exact ret_mk hx65 (int_eq (by exact hF))
          ·
            rw [decide_eq_false c69] at ha68
            refine cond_f ha68 rfl ?_
            refine wp_skip ?_
            refine block_n ?_
            refine then_n ?_
            refine wp_region_lit ?_
            refine wl_val ha68 rfl rfl rfl (op_move ha68 rfl rfl) ?_
            intro a71 ha71; clear ha68 a68
            refine wl_val ha71 rfl rfl rfl ((op_add ha71 rfl rfl rfl).int (IntWalk.i64_in _ (by omega))) ?_
            intro a72 ha72; clear ha71 a71
            refine wl_val ha72 rfl rfl rfl (op_assign ha72 rfl rfl) ?_
            intro a73 ha73; clear ha72 a72
            refine wpList_nil ?_
            refine round_end (x := (i, q)) ((i + 1), (heldG okS 1 x18.2.2 ((q + (1 : Int)) + (1 : Int)) : Int)) ?_ ?_
            ·
              refine ⟨(Sl.cons_ ha73 rfl rfl (Sl.cons_ ha73 rfl (int_eq (by omega)) (Sl.cons_ ha73 rfl (int_eq (by omega)) (Sl.nil_ ha73)))), hx65, (by omega), (by omega), (by omega), (by have hv := heldG_val (ok := okS) (st := 1) (xs := x18.2.2) (k := q + 1 + 1) (by omega) (by omega); have e : heldG okS 1 x18.2.2 (q + 1 + 1) = nxCu x18 q := (by unfold nxCu; omega); rw [e]; omega), (by rw [drop_cons hx18, heldCu, if_pos (by simp [c11, c40, c51, c69]), if_neg (by omega)] at hF; exact hF)⟩
            · show (a.length - ((i + 1)) : Nat) < a.length - i; omega
        ·
          rw [decide_eq_false c51] at ha50
          refine cond_t ha50 rfl ?_
          refine wp_seq ?_
          refine wp_region_lit ?_
          refine wl_val ha50 rfl rfl rfl (op_assign ha50 rfl rfl) ?_
          intro a74 ha74; clear ha50 a50
          refine wpList_nil ?_
          refine then_n ?_
          refine wp_ret ?_
          refine then_r ?_
          refine block_r ?_
          refine then_r ?_
          refine then_r ?_
          refine block_r ?_
          refine then_r ?_
          refine ret1 ha74 rfl rfl ?_
          clear ha74 a74
          rw [drop_cons hx18, heldCu] at hF
          rw [if_neg (by simp [c11, c40, c51])] at hF
          exact ret_mk hx38 (int_eq (by exact hF))
      ·
        rw [decide_eq_false c40] at ha39
        refine cond_t ha39 rfl ?_
        refine wp_seq ?_
        refine wp_region_lit ?_
        refine wl_val ha39 rfl rfl rfl (op_assign ha39 rfl rfl) ?_
        intro a75 ha75; clear ha39 a39
        refine wpList_nil ?_
        refine then_n ?_
        refine wp_ret ?_
        refine then_r ?_
        refine block_r ?_
        refine then_r ?_
        refine then_r ?_
        refine block_r ?_
        refine then_r ?_
        refine ret1 ha75 rfl rfl ?_
        clear ha75 a75
        rw [drop_cons hx18, heldCu] at hF
        rw [if_neg (by simp [c11, c40])] at hF
        exact ret_mk hx38 (int_eq (by exact hF))
    ·
      rw [decide_eq_false c11] at ha10
      refine cond_f ha10 rfl ?_
      refine wp_exit ?_
      refine then_e ?_
      refine then_e ?_
      refine block_hit ?_
      refine then_n ?_
      refine wp_seq ?_
      refine wp_region_lit ?_
      refine wl_val ha10 rfl rfl rfl (op_move ha10 rfl rfl) ?_
      intro a76 ha76; clear ha10 a10
      refine wl_val ha76 rfl rfl rfl (op_assign ha76 rfl rfl) ?_
      intro a77 ha77; clear ha76 a76
      refine wpList_nil ?_
      refine then_n ?_
      refine wp_ret ?_
      refine ret1 ha77 rfl rfl ?_
      clear ha77 a77
      rw [drop_nil (by omega), heldCu] at hF
      exact ret_mk hx4 (int_eq (by exact hF))


end Go.Proofs.Ythbkedflhmeohaa
