/- The helpers of the laws that mark tables. -/
import Derived.Test.YtjpldgicibnkcaaL2
namespace Go.Proofs.Ytjpldgicibnkcaa
open Go Go.RowKit

theorem c_laws_markInt64SS (w0 : World) (v_a : Value) (a : List ((List Int) × Value)) {lo_a hi_a : Nat} (k : Int) (h_a : Own shRowN 41 lo_a lo_a hi_a w0 v_a a) (n_a : Nst shI64 2 (fun x : List Int => x) lo_a hi_a w0 a) (k_a : hi_a ≤ w0.heap.size) (g0 : 0 ≤ k) (g1 : kkRow (a.map (·.1)) k ≤ 4611686018427) (g2 : (a.map (·.1)).length ≤ 4611686018427) :
    Calls Try.prog 27 #[v_a, .int .i64 k] w0 (RetT w0 lo_a hi_a [41, 2] (fun v w1 => ∃ z, v = .int .i64 (kkRow (a.map (·.1)) k) ∧ Own shRowN 41 lo_a lo_a hi_a w1 v_a z ∧ Nst shI64 2 (fun x : List Int => x) lo_a hi_a w1 z ∧ z.map (·.1) = mkRow (a.map (·.1)) k)) := by
  refine enter (N := 19) Try.func27 rfl rfl rfl ?_
  intro a0 ha0
  have hx0 := StpT.rfl' w0 lo_a hi_a [41, 2]
  have hl_a := (h_a.rds pos_shRowN).length_le
  have hln : (a.map (·.1)).length = a.length := List.length_map _
  refine wp_seq ?_
  refine wp_region_lit ?_
  refine wl_val ha0 rfl rfl rfl (op_assign ha0 rfl rfl) ?_
  intro a1 ha1; clear ha0 a0
  refine wpList_nil ?_
  refine then_n ?_
  refine wp_seq ?_
  refine wp_seq ?_
  refine wp_region_lit ?_
  refine wl_val ha1 rfl rfl rfl (op_assign ha1 rfl rfl) ?_
  intro a2 ha2; clear ha1 a1
  refine wpList_nil ?_
  refine then_n ?_
  refine wp_block ?_
  refine loop_inv (X := Nat × Int × (List ((List Int) × Value))) (fun (⟨i, q, zs⟩ : Nat × Int × (List ((List Int) × Value))) fr wl => Sl 19 fr [(0, v_a), (1, .int .i64 q), (5, .int .i64 ((i : Nat) : Int))] ∧ StpT w0 wl lo_a hi_a [41, 2] ∧ Own shRowN 41 lo_a lo_a hi_a wl v_a zs ∧ Nst shI64 2 (fun x : List Int => x) lo_a hi_a wl zs ∧ w0.heap.size ≤ wl.heap.size ∧ (i ≤ a.length) ∧ (zs.length = a.length) ∧ (0 ≤ q) ∧ (q ≤ kkRow ((a.map (·.1)).drop i) q) ∧ ((zs.drop i).map (·.1) = (a.map (·.1)).drop i) ∧ ((zs.take i).map (·.1) ++ mkRow ((a.map (·.1)).drop i) q = mkRow (a.map (·.1)) k) ∧ (kkRow ((a.map (·.1)).drop i) q = kkRow (a.map (·.1)) k)) (fun (⟨i, q, zs⟩ : Nat × Int × (List ((List Int) × Value))) => a.length - i) (0, k, a) ?_ ?_
  ·
    exact ⟨(Sl.cons_ ha2 rfl rfl (Sl.cons_ ha2 rfl (int_eq (by omega)) (Sl.cons_ ha2 rfl (int_eq (by omega)) (Sl.nil_ ha2)))), hx0, h_a, (n_a.fin (by omega) (by omega)), (by omega), (by omega), (by rfl), (by omega), (by exact kkRow_ge _ _), (by simp), (by simp), (by rfl)⟩
  ·
    clear ha2 a2
    rintro ⟨i, q, zs⟩ a7 w3 ⟨ha7, hx4, hf5, hf6, hzl8, hi, hl, hq0, hq1, hd, hF, hG⟩
    have hzhx4 := hx4.size
    have hbound : kkRow ((a.map (·.1)).drop i) q ≤ 4611686018427 := by rw [hG]; assumption
    refine wp_seq ?_
    refine wp_seq ?_
    refine wp_region_lit ?_
    refine wl_val ha7 rfl rfl rfl (op_move ha7 rfl rfl) ?_
    intro a9 ha9; clear ha7 a7
    refine wl_val ha9 rfl rfl rfl (op_move ha9 rfl rfl) ?_
    intro a10 ha10; clear ha9 a9
    refine wl_val ha10 rfl rfl rfl (op_len_sl ha10 rfl Try.underlying23 rfl (hf5.rds pos_shRowN)) ?_
    intro a11 ha11; clear ha10 a10
    refine wl_val ha11 rfl rfl rfl (op_lss ha11 rfl rfl rfl) ?_
    intro a12 ha12; clear ha11 a11
    refine wpList_nil ?_
    refine then_n ?_
    by_cases c13 : ((i : Nat) : Int) < ((zs.length : Nat) : Int)
    ·
      rw [decide_eq_true c13] at ha12
      refine cond_t ha12 rfl ?_
      refine wp_skip ?_
      refine then_n ?_
      refine wp_seq ?_
      refine wp_block ?_
      refine wp_region_lit ?_
      refine wl_val ha12 rfl rfl rfl (op_move ha12 rfl rfl) ?_
      intro a14 ha14; clear ha12 a12
      refine wl_val ha14 rfl rfl rfl (op_move ha14 rfl rfl) ?_
      intro a15 ha15; clear ha14 a14
      obtain ⟨x16, hx16⟩ := get_ex (xs := zs) (j := i) (by first | omega | (simp only [List.length_set]; omega))
      obtain ⟨p17, c18, hi19, hc20, hr21, hs22⟩ := Rds.at_ (hf5.rds pos_shRowN) hx16
      obtain ⟨rfl, b23⟩ := inv_shRowN hr21
      have hn24 : Own shI64 2 lo_a lo_a hi_a w3 x16.2 x16.1 := hf6.get hx16
      obtain ⟨_, _⟩ : _ ∧ _ := hs22
      have hatx16 := mark_at hd hx16
      have hkkx16 : nxRow x16.1 q ≤ kkRow ((a.map (·.1)).drop i) q := by rw [drop_cons hatx16, kkRow]; exact kkRow_ge _ _
      unfold nxRow at hkkx16
      refine wl_val ha15 rfl rfl rfl (op_indexAddr ha15 rfl Try.underlying23 ti41 rfl rfl (by omega) hi19) ?_
      intro a25 ha25; clear ha15 a15
      refine wl_val ha25 rfl rfl rfl (op_loadH ha25 rfl Try.underlying41 rfl rfl hc20 rfl) ?_
      intro a26 ha26; clear ha25 a25
      refine wl_val ha26 rfl rfl rfl (op_move ha26 rfl rfl) ?_
      intro a27 ha27; clear ha26 a26
      refine wl_callS ha27 rfl rfl rfl (op_call ha27 rfl cb32 rfl) (c_laws_markInt64S _ x16.2 x16.1 q hn24 (by first | assumption | omega | (simp; omega) | (have hat0 := mark_at hd (by assumption); omega)) (by first | assumption | omega | (simp; omega) | (have hat0 := mark_at hd (by assumption); omega)) (by first | assumption | omega | (simp; omega) | (have hat0 := mark_at hd (by assumption); omega))) ?_
      rintro v28 w29 he30 ⟨rfl, ho31⟩ a32 ha32; clear ha27 a27
      have hx33 := hx4.trans' (StpT.of_stp he30 (by intro q hq; have hq0 := hn24.lt q hq; omega) hn24.heap rfl)
      have hzhx33 := he30.size
      replace hf5 : Own shRowN 41 lo_a lo_a hi_a w29 v_a zs := by first | exact hf5.stp he30 (by intro q hq; have hq0 := hn24.lt q hq; omega) | exact hf5.stpF flat_shRowN he30 (hf5.ne hn24 rfl)
      clear hn24
      have ho34 : Own shRowN 41 lo_a lo_a hi_a w29 v_a ((zs.set i ((((mkN mkI 1 x16.1.length q)) : List Int), (x16.2 : Value)))) := hf5.ghost hx16 fun _ _ _ h => h
      have hN35 : Nst shI64 2 (fun x : List Int => x) lo_a hi_a w29 ((zs.set i ((((mkN mkI 1 x16.1.length q)) : List Int), (x16.2 : Value)))) := hf6.put flat_shI64 hx16 he30 ho31 (.inl rfl) (by omega)
      clear hf5 hf6
      have hlsho34 : ((zs.set i ((((mkN mkI 1 x16.1.length q)) : List Int), (x16.2 : Value)))).length = zs.length := List.length_set
      refine wl_val ha32 rfl rfl rfl (op_assign ha32 rfl rfl) ?_
      intro a36 ha36; clear ha32 a32
      refine wpList_nil ?_
      refine block_n ?_
      refine then_n ?_
      refine wp_region_lit ?_
      refine wl_val ha36 rfl rfl rfl (op_move ha36 rfl rfl) ?_
      intro a37 ha37; clear ha36 a36
      refine wl_val ha37 rfl rfl rfl ((op_add ha37 rfl rfl rfl).int (IntWalk.i64_in _ (by omega))) ?_
      intro a38 ha38; clear ha37 a37
      refine wl_val ha38 rfl rfl rfl (op_assign ha38 rfl rfl) ?_
      intro a39 ha39; clear ha38 a38
      refine wpList_nil ?_
      refine round_end (x := (i, q, zs)) ((i + 1), (q + 1 * (x16.1.length : Nat) : Int), (zs.set i ((((mkN mkI 1 x16.1.length q)) : List Int), (x16.2 : Value)))) ?_ ?_
      ·
        refine ⟨(Sl.cons_ ha39 rfl rfl (Sl.cons_ ha39 rfl (int_eq (by omega)) (Sl.cons_ ha39 rfl (int_eq (by omega)) (Sl.nil_ ha39)))), hx33, ho34, (hN35.fin (by omega) (by omega)), (by omega), (by omega), (by simp only [List.length_set]; exact hl), (by omega), (by exact kkRow_ge _ _), (by have hat := mark_at hd hx16; rw [drop_cons hat, mkRow] at hF; (try simp only [List.set_set]); exact (mark_step hd (by first | omega | (simp only [List.length_set]; omega)) hF rfl).1), (by have hat := mark_at hd hx16; rw [drop_cons hat, mkRow] at hF; (try simp only [List.set_set]); exact (mark_step hd (by first | omega | (simp only [List.length_set]; omega)) hF rfl).2), (by have hat := mark_at hd hx16; rw [drop_cons hat, kkRow] at hG; exact hG)⟩
      · show (a.length - ((i + 1)) : Nat) < a.length - i; omega
    ·
      rw [decide_eq_false c13] at ha12
      refine cond_f ha12 rfl ?_
      refine wp_exit ?_
      refine then_e ?_
      refine then_e ?_
      refine block_hit ?_
      refine then_n ?_
      refine wp_seq ?_
      refine wp_region_lit ?_
      refine wl_val ha12 rfl rfl rfl (op_move ha12 rfl rfl) ?_
      intro a40 ha40; clear ha12 a12
      refine wl_val ha40 rfl rfl rfl (op_assign ha40 rfl rfl) ?_
      intro a41 ha41; clear ha40 a40
      refine wpList_nil ?_
      refine then_n ?_
      refine wp_ret ?_
      refine ret1 ha41 rfl rfl ?_
      clear ha41 a41
      exact ret_mkT hx4 ⟨_, int_eq (by rw [drop_nil (by simp; omega), kkRow] at hG; exact hG), hf5.fin (by omega) (by omega) (by omega), hf6.fin (by omega) (by omega), (by rw [List.take_of_length_le (by omega), drop_nil (by simp; omega), mkRow, List.append_nil] at hF; exact hF)⟩

theorem c_laws_heldInt64SS (w0 : World) (v_a : Value) (a : List (List Int)) {S_a : Nat → Prop} (k : Int) (h_a : Rds shRow S_a w0 v_a a) (g0 : 0 ≤ k) (g1 : kkRow a k ≤ 4611686018427) :
    Calls Try.prog 28 #[v_a, .int .i64 k] w0 (Ret w0 (fun v _ => v = .int .i64 (heldRow a k))) := by
  refine enter (N := 21) Try.func28 rfl rfl rfl ?_
  intro a0 ha0
  have hx0 := Ext.rfl' w0
  have hl_a := h_a.length_le
  refine wp_seq ?_
  refine wp_region_lit ?_
  refine wl_val ha0 rfl rfl rfl (op_assign ha0 rfl rfl) ?_
  intro a1 ha1; clear ha0 a0
  refine wpList_nil ?_
  refine then_n ?_
  refine wp_seq ?_
  refine wp_seq ?_
  refine wp_region_lit ?_
  refine wl_val ha1 rfl rfl rfl (op_assign ha1 rfl rfl) ?_
  intro a2 ha2; clear ha1 a1
  refine wpList_nil ?_
  refine then_n ?_
  refine wp_block ?_
  refine loop_inv (X := Nat × Int) (fun (⟨i, q⟩ : Nat × Int) fr wl => Sl 21 fr [(0, v_a), (1, .int .i64 q), (5, .int .i64 ((i : Nat) : Int))] ∧ Ext w0 wl ∧ w0.heap.size ≤ wl.heap.size ∧ (i ≤ a.length) ∧ (0 ≤ q) ∧ (kkRow (a.drop i) q ≤ 4611686018427) ∧ (heldRow (a.drop i) q = heldRow a k)) (fun (⟨i, q⟩ : Nat × Int) => a.length - i) (0, k) ?_ ?_
  ·
    exact ⟨(Sl.cons_ ha2 rfl rfl (Sl.cons_ ha2 rfl (int_eq (by omega)) (Sl.cons_ ha2 rfl (int_eq (by omega)) (Sl.nil_ ha2)))), hx0, (by omega), (by omega), (by omega), (by assumption), (by rfl)⟩
  ·
    clear ha2 a2
    rintro ⟨i, q⟩ a5 w3 ⟨ha5, hx4, hzl6, hi, hq, hqb, hF⟩
    have hzhx4 := hx4.size
    refine wp_seq ?_
    refine wp_seq ?_
    refine wp_region_lit ?_
    refine wl_val ha5 rfl rfl rfl (op_move ha5 rfl rfl) ?_
    intro a7 ha7; clear ha5 a5
    refine wl_val ha7 rfl rfl rfl (op_move ha7 rfl rfl) ?_
    intro a8 ha8; clear ha7 a7
    refine wl_val ha8 rfl rfl rfl (op_len_sl ha8 rfl Try.underlying23 rfl h_a) ?_
    intro a9 ha9; clear ha8 a8
    refine wl_val ha9 rfl rfl rfl (op_lss ha9 rfl rfl rfl) ?_
    intro a10 ha10; clear ha9 a9
    refine wpList_nil ?_
    refine then_n ?_
    by_cases c11 : ((i : Nat) : Int) < ((a.length : Nat) : Int)
    ·
      rw [decide_eq_true c11] at ha10
      refine cond_t ha10 rfl ?_
      refine wp_skip ?_
      refine then_n ?_
      refine wp_seq ?_
      refine wp_block ?_
      refine wp_seq ?_
      refine wp_region_lit ?_
      refine wl_val ha10 rfl rfl rfl (op_move ha10 rfl rfl) ?_
      intro a12 ha12; clear ha10 a10
      refine wl_val ha12 rfl rfl rfl (op_move ha12 rfl rfl) ?_
      intro a13 ha13; clear ha12 a12
      obtain ⟨x14, hx14⟩ := get_ex (xs := a) (j := i) (by omega)
      obtain ⟨p15, c16, hi17, hc18, hr19, hs20⟩ := Rds.at_ h_a hx14
      obtain ⟨v21, rfl, b22⟩ := inv_shRow hr19
      have hlb22 := b22.length_le
      have hkqx14 : kkRow (a.drop i) q = kkRow (a.drop (i + 1)) (nxRow x14 q) := by rw [drop_cons hx14, kkRow]
      have hkgx14 := kkRow_ge (a.drop (i + 1)) (nxRow x14 q)
      have hnxx14 : nxRow x14 q = q + 1 * (x14.length : Nat) := rfl
      refine wl_val ha13 rfl rfl rfl (op_indexAddr ha13 rfl Try.underlying23 ti41 rfl rfl (by omega) hi17) ?_
      intro a23 ha23; clear ha13 a13
      refine wl_val ha23 rfl rfl rfl (op_loadH ha23 rfl Try.underlying41 rfl rfl (hc18.ext hx4) rfl) ?_
      intro a24 ha24; clear ha23 a23
      refine wl_val ha24 rfl rfl rfl (op_move ha24 rfl rfl) ?_
      intro a25 ha25; clear ha24 a24
      refine wl_callR ha25 rfl rfl rfl (op_call ha25 rfl cb33 rfl) (c_laws_heldInt64S _ v21 x14 q (b22.ext pos_shI64 hx4) (by first | assumption | omega | (simp; omega)) (by first | assumption | omega | (simp; omega)) (by first | assumption | omega | (simp; omega))) ?_
      rintro v26 w27 he28 rfl a29 ha29; clear ha25 a25
      have hx30 := hx4.trans' he28
      have hzhx30 := he28.size
      refine wl_val ha29 rfl rfl rfl (op_assign ha29 rfl rfl) ?_
      intro a31 ha31; clear ha29 a29
      refine wpList_nil ?_
      refine then_n ?_
      refine wp_seq ?_
      refine wp_region_lit ?_
      refine wl_val ha31 rfl rfl rfl (op_move ha31 rfl rfl) ?_
      intro a32 ha32; clear ha31 a31
      refine wl_val ha32 rfl rfl rfl (op_lss ha32 rfl rfl rfl) ?_
      intro a33 ha33; clear ha32 a32
      refine wpList_nil ?_
      refine then_n ?_
      by_cases c34 : (heldG okI 1 x14 q : Int) < (0 : Int)
      ·
        rw [decide_eq_true c34] at ha33
        refine cond_t ha33 rfl ?_
        refine wp_seq ?_
        refine wp_region_lit ?_
        refine wl_val ha33 rfl rfl rfl (op_assign ha33 rfl rfl) ?_
        intro a35 ha35; clear ha33 a33
        refine wpList_nil ?_
        refine then_n ?_
        refine wp_ret ?_
        refine block_r ?_
        refine then_r ?_
        refine then_r ?_
        refine block_r ?_
        refine then_r ?_
        refine ret1 ha35 rfl rfl ?_
        clear ha35 a35
        rw [drop_cons hx14, heldRow] at hF
        rw [if_pos (by simp [c11, c34]), if_pos (by assumption)] at hF
        exact ret_mk hx30 (int_eq (by exact hF))
      ·
        rw [decide_eq_false c34] at ha33
        refine cond_f ha33 rfl ?_
        refine wp_skip ?_
        refine block_n ?_
        refine then_n ?_
        refine wp_region_lit ?_
        refine wl_val ha33 rfl rfl rfl (op_move ha33 rfl rfl) ?_
        intro a36 ha36; clear ha33 a33
        refine wl_val ha36 rfl rfl rfl ((op_add ha36 rfl rfl rfl).int (IntWalk.i64_in _ (by omega))) ?_
        intro a37 ha37; clear ha36 a36
        refine wl_val ha37 rfl rfl rfl (op_assign ha37 rfl rfl) ?_
        intro a38 ha38; clear ha37 a37
        refine wpList_nil ?_
        refine round_end (x := (i, q)) ((i + 1), (heldG okI 1 x14 q : Int)) ?_ ?_
        ·
          refine ⟨(Sl.cons_ ha38 rfl rfl (Sl.cons_ ha38 rfl (int_eq (by omega)) (Sl.cons_ ha38 rfl (int_eq (by omega)) (Sl.nil_ ha38)))), hx30, (by omega), (by omega), (by omega), (by have hv := heldG_val (ok := okI) (st := 1) (xs := x14) (k := q) (by omega) (by omega); have e : heldG okI 1 x14 (q) = nxRow x14 q := (by unfold nxRow; omega); rw [e]; omega), (by rw [drop_cons hx14, heldRow, if_pos (by simp [c11, c34]), if_neg (by omega)] at hF; exact hF)⟩
        · show (a.length - ((i + 1)) : Nat) < a.length - i; omega
    ·
      rw [decide_eq_false c11] at ha10
      refine cond_f ha10 rfl ?_
      refine wp_exit ?_
      refine then_e ?_
      refine then_e ?_
      refine block_hit ?_
      refine then_n ?_
      refine wp_seq ?_
      refine wp_region_lit ?_
      refine wl_val ha10 rfl rfl rfl (op_move ha10 rfl rfl) ?_
      intro a39 ha39; clear ha10 a10
      refine wl_val ha39 rfl rfl rfl (op_assign ha39 rfl rfl) ?_
      intro a40 ha40; clear ha39 a39
      refine wpList_nil ?_
      refine then_n ?_
      refine wp_ret ?_
      refine ret1 ha40 rfl rfl ?_
      clear ha40 a40
      rw [drop_nil (by omega), heldRow] at hF
      exact ret_mk hx4 (int_eq (by exact hF))

theorem c_laws_markTable (w0 : World) (v_a0 : Value) (aq0 : List Str) (v_a1 : Value) (aq1 : List ((List Int) × Value)) {lo_a hi_a : Nat} (k : Int) (h_a0 : Own shStr 9 lo_a lo_a hi_a w0 v_a0 aq0) (h_a1 : Own shRowN 41 lo_a lo_a hi_a w0 v_a1 aq1) (n_a1 : Nst shI64 2 (fun x : List Int => x) lo_a hi_a w0 aq1) (k_a : hi_a ≤ w0.heap.size) (g0 : 0 ≤ k) (g1 : kkT ((aq0, aq1.map (·.1)) : List Str × List (List Int)) k ≤ 4611686018427) (g2 : ((aq0, aq1.map (·.1)) : List Str × List (List Int)).2.length ≤ 4611686018427) :
    Calls Try.prog 26 #[.agg #[v_a0, v_a1], .int .i64 k] w0 (RetI w0 lo_a hi_a (fun v w1 => ∃ z1, v = .int .i64 (kkT ((aq0, aq1.map (·.1)) : List Str × List (List Int)) k) ∧ Own shStr 9 lo_a lo_a hi_a w1 v_a0 (mkN mkS 1 ((aq0, aq1.map (·.1)) : List Str × List (List Int)).1.length k) ∧ Own shRowN 41 lo_a lo_a hi_a w1 v_a1 z1 ∧ Nst shI64 2 (fun x : List Int => x) lo_a hi_a w1 z1 ∧ z1.map (·.1) = mkRow ((aq0, aq1.map (·.1)) : List Str × List (List Int)).2 (k + 1 * (((aq0, aq1.map (·.1)) : List Str × List (List Int)).1.length : Nat)))) := by
  refine enter (N := 14) Try.func26 rfl rfl rfl ?_
  intro a0 ha0
  have hx0 := StpI.rfl' w0 lo_a hi_a
  have hl_a0 := (h_a0.rds pos_shStr).length_le
  have hl_a1 := (h_a1.rds pos_shRowN).length_le
  have hkt : kkT (aq0, aq1.map (·.1)) k = kkRow (aq1.map (·.1)) (k + 1 * (aq0.length : Nat)) := rfl
  have hkg := kkRow_ge (aq1.map (·.1)) (k + 1 * (aq0.length : Nat))
  refine wp_seq ?_
  refine wp_region_lit ?_
  refine wl_eff ha0 rfl rfl rfl (op_box' ha0 rfl rfl rfl) ?_
  rintro _ w2 ⟨rfl, he3, hb4, hz5⟩ a6 ha6; clear ha0 a0
  have hx7 := hx0.trans' (StpI.of_ext he3 _ _)
  have hzhx7 := he3.size
  replace h_a0 := h_a0.ext he3
  replace h_a1 := h_a1.ext he3
  replace n_a1 := n_a1.ext he3
  refine wl_val ha6 rfl rfl rfl (op_assign ha6 rfl rfl) ?_
  intro a8 ha8; clear ha6 a6
  refine wpList_nil ?_
  refine then_n ?_
  refine wp_seq ?_
  refine wp_region_lit ?_
  refine wl_val ha8 rfl rfl rfl (op_fieldAddr (sz := 0) ha8 rfl Try.underlying28 rfl rfl ti22 rfl) ?_
  intro a9 ha9; clear ha8 a8
  refine wl_val ha9 rfl rfl rfl (op_loadF (off := 0) ha9 rfl Try.underlying22 rfl rfl hb4.cells rfl) ?_
  intro a10 ha10; clear ha9 a9
  refine wl_val ha10 rfl rfl rfl (op_move ha10 rfl rfl) ?_
  intro a11 ha11; clear ha10 a10
  refine wl_callS ha11 rfl rfl rfl (op_call ha11 rfl cb71 rfl) (c_laws_markStringS _ v_a0 aq0 k h_a0 (by first | assumption | omega | (simp; omega)) (by first | assumption | omega | (simp; omega)) (by first | assumption | omega | (simp; omega))) ?_
  rintro v12 w13 he14 ⟨rfl, ho15⟩ a16 ha16; clear ha11 a11
  have hx17 := hx7.trans' (StpI.of_stp he14 (by intro q hq; have hq0 := h_a0.lt q hq; omega))
  have hzhx17 := he14.size
  replace h_a1 : Own shRowN 41 lo_a lo_a hi_a w13 v_a1 aq1 := by first | exact h_a1.stp he14 (by intro q hq; have hq0 := h_a0.lt q hq; omega) | exact h_a1.stpF flat_shRowN he14 (h_a1.ne h_a0 rfl)
  replace n_a1 : Nst shI64 2 (fun x : List Int => x) lo_a hi_a w13 aq1 := by first | exact n_a1.stpF flat_shI64 he14 h_a0 rfl | exact n_a1.stp he14 (by intro q hq; have hq0 := h_a0.lt q hq; omega)
  replace hb4 : Box w13 w0.heap.size 28 [v_a0, v_a1] := by first | exact hb4.stp he14 (by intro q hq; have hq0 := h_a0.lt q hq; omega) | exact hb4.stp he14 (by intro q hq e; subst e; exact h_a0.ne_box hb4 rfl hq)
  clear h_a0
  refine wl_val ha16 rfl rfl rfl (op_assign ha16 rfl rfl) ?_
  intro a18 ha18; clear ha16 a16
  refine wpList_nil ?_
  refine then_n ?_
  refine wp_seq ?_
  refine wp_region_lit ?_
  refine wl_val ha18 rfl rfl rfl (op_fieldAddr (sz := 0) ha18 rfl Try.underlying28 rfl rfl ti23 rfl) ?_
  intro a19 ha19; clear ha18 a18
  refine wl_val ha19 rfl rfl rfl (op_loadF (off := 1) ha19 rfl Try.underlying23 rfl rfl hb4.cells rfl) ?_
  intro a20 ha20; clear ha19 a19
  refine wl_val ha20 rfl rfl rfl (op_move ha20 rfl rfl) ?_
  intro a21 ha21; clear ha20 a20
  refine wl_callT ha21 rfl rfl rfl (op_call ha21 rfl cb27 rfl) (c_laws_markInt64SS _ v_a1 aq1 (k + 1 * (aq0.length : Nat) : Int) (h_a1.fin (by omega) (by omega) (by omega)) n_a1 (by omega) (by first | assumption | omega | (simp; omega)) (by first | assumption | omega | (simp; omega)) (by first | assumption | omega | (simp; omega))) ?_
  rintro v22 w23 he24 ⟨z26, rfl, ho25, hN27, hE28⟩ a29 ha29; clear ha21 a21
  have he30 := he24.toI
  have hx31 := hx17.trans' (he30.wide (by omega) (by omega))
  have hzhx31 := he30.size
  replace hb4 := hb4.stpI he30 (by omega)
  replace ho15 : Own shStr 9 lo_a lo_a hi_a w23 v_a0 ((mkN mkS 1 aq0.length k)) := by first | exact ho15.stpI he30 (by omega) | exact ho15.stpT flat_shStr he24 rfl
  clear h_a1 n_a1
  refine wl_val ha29 rfl rfl rfl (op_assign ha29 rfl rfl) ?_
  intro a32 ha32; clear ha29 a29
  refine wpList_nil ?_
  refine then_n ?_
  refine wp_seq ?_
  refine wp_region_lit ?_
  refine wl_val ha32 rfl rfl rfl (op_move ha32 rfl rfl) ?_
  intro a33 ha33; clear ha32 a32
  refine wl_val ha33 rfl rfl rfl (op_assign ha33 rfl rfl) ?_
  intro a34 ha34; clear ha33 a33
  refine wpList_nil ?_
  refine then_n ?_
  refine wp_ret ?_
  refine ret1 ha34 rfl rfl ?_
  clear ha34 a34
  exact ret_mkI hx31 ⟨_, int_eq (by rfl), (ho15.fin (by omega) (by omega) (by omega)).cast (by rfl), ho25.fin (by omega) (by omega) (by omega), hN27.fin (by omega) (by omega), (by exact hE28)⟩

theorem c_laws_heldTable (w0 : World) (v_a0 : Value) (v_a1 : Value) (a : List Str × List (List Int)) {S_a0 : Nat → Prop} {S_a1 : Nat → Prop} (k : Int) (h_a0 : Rds shStr S_a0 w0 v_a0 a.1) (h_a1 : Rds shRow S_a1 w0 v_a1 a.2) (g0 : 0 ≤ k) (g1 : kkT a k ≤ 4611686018427) :
    Calls Try.prog 36 #[.agg #[v_a0, v_a1], .int .i64 k] w0 (Ret w0 (fun v _ => v = .int .i64 (heldT a k))) := by
  refine enter (N := 18) Try.func36 rfl rfl rfl ?_
  intro a0 ha0
  have hx0 := Ext.rfl' w0
  have hl_a0 := h_a0.length_le
  have hl_a1 := h_a1.length_le
  have hkt : kkT a k = kkRow a.2 (k + 1 * (a.1.length : Nat)) := rfl
  have hkg := kkRow_ge a.2 (k + 1 * (a.1.length : Nat))
  have hgv := heldG_val (ok := okS) (st := 1) (xs := a.1) (k := k) (by omega) (by omega)
  refine wp_seq ?_
  refine wp_region_lit ?_
  refine wl_eff ha0 rfl rfl rfl (op_box' ha0 rfl rfl rfl) ?_
  rintro _ w2 ⟨rfl, he3, hb4, hz5⟩ a6 ha6; clear ha0 a0
  have hx7 := hx0.trans' he3
  have hzhx7 := he3.size
  refine wl_val ha6 rfl rfl rfl (op_assign ha6 rfl rfl) ?_
  intro a8 ha8; clear ha6 a6
  refine wpList_nil ?_
  refine then_n ?_
  refine wp_seq ?_
  refine wp_region_lit ?_
  refine wl_val ha8 rfl rfl rfl (op_fieldAddr (sz := 0) ha8 rfl Try.underlying28 rfl rfl ti22 rfl) ?_
  intro a9 ha9; clear ha8 a8
  refine wl_val ha9 rfl rfl rfl (op_loadF (off := 0) ha9 rfl Try.underlying22 rfl rfl hb4.cells rfl) ?_
  intro a10 ha10; clear ha9 a9
  refine wl_val ha10 rfl rfl rfl (op_move ha10 rfl rfl) ?_
  intro a11 ha11; clear ha10 a10
  refine wl_callR ha11 rfl rfl rfl (op_call ha11 rfl cb76 rfl) (c_laws_heldStringS _ v_a0 a.1 k (h_a0.ext pos_shStr hx7) (by first | assumption | omega | (rcases hgv with h | h; (exfalso; omega); (rw [h]; assumption))) (by first | assumption | omega | (rcases hgv with h | h; (exfalso; omega); (rw [h]; assumption))) (by first | assumption | omega | (rcases hgv with h | h; (exfalso; omega); (rw [h]; assumption)))) ?_
  rintro v12 w13 he14 rfl a15 ha15; clear ha11 a11
  have hx16 := hx7.trans' he14
  have hzhx16 := he14.size
  replace hb4 := hb4.ext he14
  refine wl_val ha15 rfl rfl rfl (op_assign ha15 rfl rfl) ?_
  intro a17 ha17; clear ha15 a15
  refine wpList_nil ?_
  refine then_n ?_
  refine wp_seq ?_
  refine wp_seq ?_
  refine wp_region_lit ?_
  refine wl_val ha17 rfl rfl rfl (op_move ha17 rfl rfl) ?_
  intro a18 ha18; clear ha17 a17
  refine wl_val ha18 rfl rfl rfl (op_lss ha18 rfl rfl rfl) ?_
  intro a19 ha19; clear ha18 a18
  refine wpList_nil ?_
  refine then_n ?_
  by_cases c20 : (heldG okS 1 a.1 k : Int) < (0 : Int)
  ·
    rw [decide_eq_true c20] at ha19
    refine cond_t ha19 rfl ?_
    refine wp_seq ?_
    refine wp_region_lit ?_
    refine wl_val ha19 rfl rfl rfl (op_assign ha19 rfl rfl) ?_
    intro a21 ha21; clear ha19 a19
    refine wpList_nil ?_
    refine then_n ?_
    refine wp_ret ?_
    refine then_r ?_
    refine ret1 ha21 rfl rfl ?_
    clear ha21 a21
    exact ret_mk hx16 (int_eq (by unfold heldT; first | (rw [if_pos (by assumption)]; done) | (rw [if_neg (by assumption)]; exact (heldRow_neg _ _ (by omega) (by assumption)).symm) | (rw [if_neg (by assumption)]; done)))
  ·
    rw [decide_eq_false c20] at ha19
    refine cond_f ha19 rfl ?_
    refine wp_skip ?_
    refine then_n ?_
    refine wp_seq ?_
    refine wp_region_lit ?_
    refine wl_val ha19 rfl rfl rfl (op_fieldAddr (sz := 0) ha19 rfl Try.underlying28 rfl rfl ti23 rfl) ?_
    intro a22 ha22; clear ha19 a19
    refine wl_val ha22 rfl rfl rfl (op_loadF (off := 1) ha22 rfl Try.underlying23 rfl rfl hb4.cells rfl) ?_
    intro a23 ha23; clear ha22 a22
    refine wl_val ha23 rfl rfl rfl (op_move ha23 rfl rfl) ?_
    intro a24 ha24; clear ha23 a23
    refine wl_callR ha24 rfl rfl rfl (op_call ha24 rfl cb28 rfl) (c_laws_heldInt64SS _ v_a1 a.2 (heldG okS 1 a.1 k : Int) (h_a1.ext pos_shRow hx16) (by first | assumption | omega | (rcases hgv with h | h; (exfalso; omega); (rw [h]; assumption))) (by first | assumption | omega | (rcases hgv with h | h; (exfalso; omega); (rw [h]; assumption)))) ?_
    rintro v25 w26 he27 rfl a28 ha28; clear ha24 a24
    have hx29 := hx16.trans' he27
    have hzhx29 := he27.size
    replace hb4 := hb4.ext he27
    refine wl_val ha28 rfl rfl rfl (op_assign ha28 rfl rfl) ?_
    intro a30 ha30; clear ha28 a28
    refine wpList_nil ?_
    refine then_n ?_
    refine wp_seq ?_
    refine wp_seq ?_
    refine wp_region_lit ?_
    refine wl_val ha30 rfl rfl rfl (op_move ha30 rfl rfl) ?_
    intro a31 ha31; clear ha30 a30
    refine wl_val ha31 rfl rfl rfl (op_lss ha31 rfl rfl rfl) ?_
    intro a32 ha32; clear ha31 a31
    refine wpList_nil ?_
    refine then_n ?_
    by_cases c33 : (heldRow a.2 (heldG okS 1 a.1 k : Int) : Int) < (0 : Int)
    ·
      rw [decide_eq_true c33] at ha32
      refine cond_t ha32 rfl ?_
      refine wp_seq ?_
      refine wp_region_lit ?_
      refine wl_val ha32 rfl rfl rfl (op_assign ha32 rfl rfl) ?_
      intro a34 ha34; clear ha32 a32
      refine wpList_nil ?_
      refine then_n ?_
      refine wp_ret ?_
      refine then_r ?_
      refine ret1 ha34 rfl rfl ?_
      clear ha34 a34
      exact ret_mk hx29 (int_eq (by unfold heldT; first | (rw [if_pos (by assumption)]; done) | (rw [if_neg (by assumption)]; exact (heldRow_neg _ _ (by omega) (by assumption)).symm) | (rw [if_neg (by assumption)]; done)))
    ·
      rw [decide_eq_false c33] at ha32
      refine cond_f ha32 rfl ?_
      refine wp_skip ?_
      refine then_n ?_
      refine wp_seq ?_
      refine wp_region_lit ?_
      refine wl_val ha32 rfl rfl rfl (op_move ha32 rfl rfl) ?_
      intro a35 ha35; clear ha32 a32
      refine wl_val ha35 rfl rfl rfl (op_assign ha35 rfl rfl) ?_
      intro a36 ha36; clear ha35 a35
      refine wpList_nil ?_
      refine then_n ?_
      refine wp_ret ?_
      refine ret1 ha36 rfl rfl ?_
      clear ha36 a36
      exact ret_mk hx29 (int_eq (by unfold heldT; first | (rw [if_pos (by assumption)]; done) | (rw [if_neg (by assumption)]; exact (heldRow_neg _ _ (by omega) (by assumption)).symm) | (rw [if_neg (by assumption)]; done)))


end Go.Proofs.Ytjpldgicibnkcaa
