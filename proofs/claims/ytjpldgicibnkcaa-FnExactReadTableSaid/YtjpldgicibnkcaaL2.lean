/- The helpers of the laws over tables. -/
import Derived.Test.YtjpldgicibnkcaaL1
namespace Go.Proofs.Ytjpldgicibnkcaa
open Go Go.RowKit

def costT (t : Tab) : Nat := costL costS t.1 + costL costRow t.2
def kkT (t : Tab) (k : Int) : Int := kkRow t.2 (k + 1 * (t.1.length : Nat))
def mkT2 (t : Tab) (k : Int) : Tab := (mkN mkS 1 t.1.length k, mkRow t.2 (k + 1 * (t.1.length : Nat)))
def heldT (t : Tab) (k : Int) : Int := if heldG okS 1 t.1 k < 0 then -1 else heldRow t.2 (heldG okS 1 t.1 k)
theorem kkT_ge (t : Tab) (k : Int) : k ≤ kkT t k := by have := kkRow_ge t.2 (k + 1 * (t.1.length : Nat)); unfold kkT; omega
theorem kkT_le (t : Tab) (k : Int) : kkT t k ≤ k + (costT t : Nat) := by
  have h1 := kkRow_le t.2 (k + 1 * (t.1.length : Nat))
  have h2 := costL_len costS t.1
  unfold kkT costT; omega
theorem kk_mkT (t : Tab) (k j : Int) : kkT (mkT2 t j) k = kkT t k := by unfold kkT mkT2; simp only [mkN_length, kk_mkRow]
theorem held_mkT (t : Tab) (k : Int) (h : 0 ≤ k) : heldT (mkT2 t k) k = kkT t k := by
  unfold heldT kkT mkT2
  simp only [held_mkN okS_mk]
  rw [if_neg (by omega), held_mkRow _ _ (by omega)]

theorem c_laws_szInt64SS (w0 : World) (v_a : Value) (a : List (List Int)) {S_a : Nat → Prop} (left : Int) (h_a : Rds shRow S_a w0 v_a a) (g0 : left ≤ 1048576) (g1 : 0 ≤ left) :
    Calls Try.prog 59 #[v_a, .int .i64 left] w0 (Ret w0 (fun v _ => v = .int .i64 (szR left (costL costRow a)))) := by
  refine enter (N := 27) Try.func59 rfl rfl rfl ?_
  intro a0 ha0
  have hx0 := Ext.rfl' w0
  have hl_a := h_a.length_le
  refine wp_seq ?_
  refine wp_region_lit ?_
  refine wl_val ha0 rfl rfl rfl (op_assign ha0 rfl rfl) ?_
  intro a1 ha1; clear ha0 a0
  refine wpList_nil ?_
  refine then_n ?_
  refine wp_seq ?_
  refine wp_region_lit ?_
  refine wl_val ha1 rfl rfl rfl (op_move ha1 rfl rfl) ?_
  intro a2 ha2; clear ha1 a1
  refine wl_val ha2 rfl rfl rfl (op_move ha2 rfl rfl) ?_
  intro a3 ha3; clear ha2 a2
  refine wl_val ha3 rfl rfl rfl (op_len_sl ha3 rfl Try.underlying23 rfl h_a) ?_
  intro a4 ha4; clear ha3 a3
  refine wl_val ha4 rfl rfl rfl ((op_sub ha4 rfl rfl rfl).int (IntWalk.i64_in _ (by omega))) ?_
  intro a5 ha5; clear ha4 a4
  refine wl_val ha5 rfl rfl rfl (op_assign ha5 rfl rfl) ?_
  intro a6 ha6; clear ha5 a5
  refine wpList_nil ?_
  refine then_n ?_
  refine wp_seq ?_
  refine wp_seq ?_
  refine wp_region_lit ?_
  refine wl_val ha6 rfl rfl rfl (op_move ha6 rfl rfl) ?_
  intro a7 ha7; clear ha6 a6
  refine wl_val ha7 rfl rfl rfl (op_lss ha7 rfl rfl rfl) ?_
  intro a8 ha8; clear ha7 a7
  refine wpList_nil ?_
  refine then_n ?_
  by_cases c9 : (left - ((a.length : Nat) : Int)) < (0 : Int)
  ·
    rw [decide_eq_true c9] at ha8
    refine cond_t ha8 rfl ?_
    refine wp_seq ?_
    refine wp_region_lit ?_
    refine wl_val ha8 rfl rfl rfl (op_assign ha8 rfl rfl) ?_
    intro a10 ha10; clear ha8 a8
    refine wpList_nil ?_
    refine then_n ?_
    refine wp_ret ?_
    refine then_r ?_
    refine ret1 ha10 rfl rfl ?_
    clear ha10 a10
    
    exact ret_mk hx0 (int_eq (by unfold costL; rw [szR_if (by omega)]))
  ·
    rw [decide_eq_false c9] at ha8
    refine cond_f ha8 rfl ?_
    refine wp_skip ?_
    refine then_n ?_
    refine wp_seq ?_
    refine wp_seq ?_
    refine wp_region_lit ?_
    refine wl_val ha8 rfl rfl rfl (op_assign ha8 rfl rfl) ?_
    intro a11 ha11; clear ha8 a8
    refine wpList_nil ?_
    refine then_n ?_
    refine wp_block ?_
    refine loop_inv (X := Nat × Int) (fun (⟨i, n⟩ : Nat × Int) fr wl => Sl 27 fr [(0, v_a), (1, .int .i64 n), (5, .int .i64 ((i : Nat) : Int))] ∧ Ext w0 wl ∧ w0.heap.size ≤ wl.heap.size ∧ (i ≤ a.length) ∧ (0 ≤ n) ∧ (n ≤ 1048576) ∧ (szR n (sumC costRow (a.drop i)) = szR left (costL costRow a))) (fun (⟨i, n⟩ : Nat × Int) => a.length - i) (0, (left - ((a.length : Nat) : Int))) ?_ ?_
    ·
      exact ⟨(Sl.cons_ ha11 rfl rfl (Sl.cons_ ha11 rfl (int_eq (by omega)) (Sl.cons_ ha11 rfl (int_eq (by omega)) (Sl.nil_ ha11)))), hx0, (by omega), (by omega), (by omega), (by omega), (by unfold costL; rw [szR_add (by rw [szR_nif (by omega)]; omega), szR_nif (k := a.length) (by omega)]; rfl)⟩
    ·
      clear ha11 a11
      rintro ⟨i, n⟩ a14 w12 ⟨ha14, hx13, hzl15, hi, hn0, hn1, hF⟩
      have hzhx13 := hx13.size
      refine wp_seq ?_
      refine wp_seq ?_
      refine wp_region_lit ?_
      refine wl_val ha14 rfl rfl rfl (op_move ha14 rfl rfl) ?_
      intro a16 ha16; clear ha14 a14
      refine wl_val ha16 rfl rfl rfl (op_move ha16 rfl rfl) ?_
      intro a17 ha17; clear ha16 a16
      refine wl_val ha17 rfl rfl rfl (op_len_sl ha17 rfl Try.underlying23 rfl h_a) ?_
      intro a18 ha18; clear ha17 a17
      refine wl_val ha18 rfl rfl rfl (op_lss ha18 rfl rfl rfl) ?_
      intro a19 ha19; clear ha18 a18
      refine wpList_nil ?_
      refine then_n ?_
      by_cases c20 : ((i : Nat) : Int) < ((a.length : Nat) : Int)
      ·
        rw [decide_eq_true c20] at ha19
        refine cond_t ha19 rfl ?_
        refine wp_skip ?_
        refine then_n ?_
        refine wp_seq ?_
        refine wp_block ?_
        refine wp_seq ?_
        refine wp_region_lit ?_
        refine wl_val ha19 rfl rfl rfl (op_move ha19 rfl rfl) ?_
        intro a21 ha21; clear ha19 a19
        refine wl_val ha21 rfl rfl rfl (op_move ha21 rfl rfl) ?_
        intro a22 ha22; clear ha21 a21
        obtain ⟨x23, hx23⟩ := get_ex (xs := a) (j := i) (by omega)
        obtain ⟨p24, c25, hi26, hc27, hr28, hs29⟩ := Rds.at_ h_a hx23
        obtain ⟨v30, rfl, b31⟩ := inv_shRow hr28
        have hlb31 := b31.length_le
        refine wl_val ha22 rfl rfl rfl (op_indexAddr ha22 rfl Try.underlying23 ti41 rfl rfl (by omega) hi26) ?_
        intro a32 ha32; clear ha22 a22
        refine wl_val ha32 rfl rfl rfl (op_loadH ha32 rfl Try.underlying41 rfl rfl (hc27.ext hx13) rfl) ?_
        intro a33 ha33; clear ha32 a32
        refine wl_val ha33 rfl rfl rfl (op_move ha33 rfl rfl) ?_
        intro a34 ha34; clear ha33 a33
        refine wl_callR ha34 rfl rfl rfl (op_call ha34 rfl cb98 rfl) (c_laws_szInt64S _ v30 x23 n (b31.ext pos_shI64 hx13) (by first | assumption | omega | (simp; omega) | (simp [mkN_length]; omega)) (by first | assumption | omega | (simp; omega) | (simp [mkN_length]; omega))) ?_
        rintro v35 w36 he37 rfl a38 ha38; clear ha34 a34
        have hx39 := hx13.trans' he37
        have hzhx39 := he37.size
        refine wl_val ha38 rfl rfl rfl (op_assign ha38 rfl rfl) ?_
        intro a40 ha40; clear ha38 a38
        refine wpList_nil ?_
        refine then_n ?_
        refine wp_seq ?_
        refine wp_region_lit ?_
        refine wl_val ha40 rfl rfl rfl (op_move ha40 rfl rfl) ?_
        intro a41 ha41; clear ha40 a40
        refine wl_val ha41 rfl rfl rfl (op_lss ha41 rfl rfl rfl) ?_
        intro a42 ha42; clear ha41 a41
        refine wpList_nil ?_
        refine then_n ?_
        by_cases c43 : (szR n (costRow x23) : Int) < (0 : Int)
        ·
          rw [decide_eq_true c43] at ha42
          refine cond_t ha42 rfl ?_
          refine wp_seq ?_
          refine wp_region_lit ?_
          refine wl_val ha42 rfl rfl rfl (op_assign ha42 rfl rfl) ?_
          intro a44 ha44; clear ha42 a42
          refine wpList_nil ?_
          refine then_n ?_
          refine wp_ret ?_
          refine block_r ?_
          refine then_r ?_
          refine then_r ?_
          refine block_r ?_
          refine then_r ?_
          refine ret1 ha44 rfl rfl ?_
          clear ha44 a44
          rw [drop_cons hx23] at hF
          simp only [sumC] at hF
          rw [szR_neg (by first | omega | (unfold costRow; omega))] at hF
          exact ret_mk hx39 (int_eq (by exact hF))
        ·
          rw [decide_eq_false c43] at ha42
          refine cond_f ha42 rfl ?_
          refine wp_skip ?_
          refine block_n ?_
          refine then_n ?_
          refine wp_region_lit ?_
          refine wl_val ha42 rfl rfl rfl (op_move ha42 rfl rfl) ?_
          intro a45 ha45; clear ha42 a42
          refine wl_val ha45 rfl rfl rfl ((op_add ha45 rfl rfl rfl).int (IntWalk.i64_in _ (by omega))) ?_
          intro a46 ha46; clear ha45 a45
          refine wl_val ha46 rfl rfl rfl (op_assign ha46 rfl rfl) ?_
          intro a47 ha47; clear ha46 a46
          refine wpList_nil ?_
          refine round_end (x := (i, n)) ((i + 1), (szR n (costRow x23) : Int)) ?_ ?_
          ·
            refine ⟨(Sl.cons_ ha47 rfl rfl (Sl.cons_ ha47 rfl (int_eq (by omega)) (Sl.cons_ ha47 rfl (int_eq (by omega)) (Sl.nil_ ha47)))), hx39, (by omega), (by omega), (by omega), (by have := szR_le (k := costRow x23) hn0; first | omega | (unfold costRow at *; omega)), (by rw [drop_cons hx23] at hF; simp only [sumC] at hF; rw [szR_add (by omega)] at hF; exact hF)⟩
          · show (a.length - ((i + 1)) : Nat) < a.length - i; omega
      ·
        rw [decide_eq_false c20] at ha19
        refine cond_f ha19 rfl ?_
        refine wp_exit ?_
        refine then_e ?_
        refine then_e ?_
        refine block_hit ?_
        refine then_n ?_
        refine wp_seq ?_
        refine wp_region_lit ?_
        refine wl_val ha19 rfl rfl rfl (op_move ha19 rfl rfl) ?_
        intro a48 ha48; clear ha19 a19
        refine wl_val ha48 rfl rfl rfl (op_assign ha48 rfl rfl) ?_
        intro a49 ha49; clear ha48 a48
        refine wpList_nil ?_
        refine then_n ?_
        refine wp_ret ?_
        refine ret1 ha49 rfl rfl ?_
        clear ha49 a49
        rw [drop_nil (by omega)] at hF
        simp only [sumC] at hF
        rw [szR_zero (by omega)] at hF
        exact ret_mk hx13 (int_eq (by exact hF))

theorem c_laws_toInt64SS (w0 : World) (v_a : Value) (a : List (List Int)) {S_a : Nat → Prop} (h_a : Rds shRow S_a w0 v_a a) (g0 : costL costRow a ≤ 1048576) :
    Calls Try.prog 64 #[v_a] w0 (Ret w0 (fun v w1 => ∃ z, Own shRowN 41 w0.heap.size w0.heap.size w1.heap.size w1 v z ∧ Nst shI64 2 (fun x : List Int => x) w0.heap.size w1.heap.size w1 z ∧ z.map (·.1) = (a))) := by
  refine enter (N := 23) Try.func64 rfl rfl rfl ?_
  intro a0 ha0
  have hx0 := Ext.rfl' w0
  have hl_a := h_a.length_le
  have hcl := costL_len costRow a
  refine wp_seq ?_
  refine wp_region_lit ?_
  refine wl_val ha0 rfl rfl rfl (op_assign ha0 rfl rfl) ?_
  intro a1 ha1; clear ha0 a0
  refine wpList_nil ?_
  refine then_n ?_
  refine wp_seq ?_
  refine wp_region_lit ?_
  refine wl_val ha1 rfl rfl rfl (op_move ha1 rfl rfl) ?_
  intro a2 ha2; clear ha1 a1
  refine wl_val ha2 rfl rfl rfl (op_len_sl ha2 rfl Try.underlying23 rfl h_a) ?_
  intro a3 ha3; clear ha2 a2
  refine wl_eff ha3 rfl rfl rfl (op_make (s := shRowN) (n := a.length) (k' := .i64) ha3 rfl Try.underlying23 ti41 pos_shRowN rfl (by omega) zero_shRowN (by omega) (by omega)) ?_
  rintro v4 w5 ⟨ho6, he7⟩ a8 ha8; clear ha3 a3
  have hx9 := hx0.trans' he7
  have hzhx9 := he7.size
  have hN10 : Nst shI64 2 (fun x : List Int => x) w0.heap.size w5.heap.size w5 ((List.replicate a.length ((([]) : List Int), (.slice none 0 0 : Value)))) := Nst.zeros rfl
  refine wl_val ha8 rfl rfl rfl (op_assign ha8 rfl rfl) ?_
  intro a11 ha11; clear ha8 a8
  refine wpList_nil ?_
  refine then_n ?_
  refine wp_seq ?_
  refine wp_seq ?_
  refine wp_region_lit ?_
  refine wl_val ha11 rfl rfl rfl (op_assign ha11 rfl rfl) ?_
  intro a12 ha12; clear ha11 a11
  refine wpList_nil ?_
  refine then_n ?_
  refine wp_block ?_
  refine loop_inv (X := Nat × Value × (List ((List Int) × Value))) (fun (⟨i, v, zs⟩ : Nat × Value × (List ((List Int) × Value))) fr wl => Sl 23 fr [(0, v_a), (3, v), (4, .int .i64 ((i : Nat) : Int))] ∧ Ext w0 wl ∧ Own shRowN 41 w0.heap.size w0.heap.size wl.heap.size wl v zs ∧ Nst shI64 2 (fun x : List Int => x) w0.heap.size wl.heap.size wl zs ∧ w5.heap.size ≤ wl.heap.size ∧ (i ≤ a.length) ∧ (zs.length = a.length) ∧ ((zs.take i).map (·.1) = a.take i)) (fun (⟨i, v, zs⟩ : Nat × Value × (List ((List Int) × Value))) => a.length - i) (0, v4, (List.replicate a.length ((([]) : List Int), (.slice none 0 0 : Value)))) ?_ ?_
  ·
    exact ⟨(Sl.cons_ ha12 rfl rfl (Sl.cons_ ha12 rfl rfl (Sl.cons_ ha12 rfl (int_eq (by omega)) (Sl.nil_ ha12)))), hx9, (ho6.fin (by omega) (by omega) (by omega)), (hN10.fin (by omega) (by omega)), (by omega), (by omega), (by simp), (by simp)⟩
  ·
    clear ha12 a12
    rintro ⟨i, v, zs⟩ a17 w13 ⟨ha17, hx14, hf15, hf16, hzl18, hi, hl, hF⟩
    have hzhx14 := hx14.size
    refine wp_seq ?_
    refine wp_seq ?_
    refine wp_region_lit ?_
    refine wl_val ha17 rfl rfl rfl (op_move ha17 rfl rfl) ?_
    intro a19 ha19; clear ha17 a17
    refine wl_val ha19 rfl rfl rfl (op_move ha19 rfl rfl) ?_
    intro a20 ha20; clear ha19 a19
    refine wl_val ha20 rfl rfl rfl (op_len_sl ha20 rfl Try.underlying23 rfl h_a) ?_
    intro a21 ha21; clear ha20 a20
    refine wl_val ha21 rfl rfl rfl (op_lss ha21 rfl rfl rfl) ?_
    intro a22 ha22; clear ha21 a21
    refine wpList_nil ?_
    refine then_n ?_
    by_cases c23 : ((i : Nat) : Int) < ((a.length : Nat) : Int)
    ·
      rw [decide_eq_true c23] at ha22
      refine cond_t ha22 rfl ?_
      refine wp_skip ?_
      refine then_n ?_
      refine wp_seq ?_
      refine wp_block ?_
      refine wp_region_lit ?_
      refine wl_val ha22 rfl rfl rfl (op_move ha22 rfl rfl) ?_
      intro a24 ha24; clear ha22 a22
      refine wl_val ha24 rfl rfl rfl (op_move ha24 rfl rfl) ?_
      intro a25 ha25; clear ha24 a24
      refine wl_val ha25 rfl rfl rfl (op_move ha25 rfl rfl) ?_
      intro a26 ha26; clear ha25 a25
      refine wl_val ha26 rfl rfl rfl (op_move ha26 rfl rfl) ?_
      intro a27 ha27; clear ha26 a26
      obtain ⟨x28, hx28⟩ := get_ex (xs := a) (j := i) (by omega)
      obtain ⟨p29, c30, hi31, hc32, hr33, hs34⟩ := Rds.at_ h_a hx28
      obtain ⟨v35, rfl, b36⟩ := inv_shRow hr33
      have hlb36 := b36.length_le
      have hcmx28 := cost_mem (c := costRow) (List.mem_of_getElem? hx28)
      have hcnx28 := costL_len costI x28
      have hcux28 : costL costI x28 ≤ costRow x28 := by unfold costRow; omega
      refine wl_val ha27 rfl rfl rfl (op_indexAddr ha27 rfl Try.underlying23 ti41 rfl rfl (by omega) hi31) ?_
      intro a37 ha37; clear ha27 a27
      refine wl_val ha37 rfl rfl rfl (op_loadH ha37 rfl Try.underlying41 rfl rfl (hc32.ext hx14) rfl) ?_
      intro a38 ha38; clear ha37 a37
      refine wl_callR ha38 rfl rfl rfl (op_call ha38 rfl cb99 rfl) (c_laws_toInt64S _ v35 x28 (b36.ext pos_shI64 hx14) (by first | assumption | omega | (simp; omega) | (simp [mkN_length]; omega))) ?_
      rintro v39 w40 he41 ho42 a43 ha43; clear ha38 a38
      have hx44 := hx14.trans' he41
      have hzhx44 := he41.size
      replace hf15 := hf15.ext he41
      replace hf16 := hf16.ext he41
      obtain ⟨x45, hx45⟩ := get_ex (xs := zs) (j := i) (by omega)
      obtain ⟨p46, c47, hi48, hc49, hr50, hs51⟩ := Rds.at_ (hf15.rds pos_shRowN) hx45
      obtain ⟨rfl, b52⟩ := inv_shRowN hr50
      have hn53 : Own shI64 2 w0.heap.size w0.heap.size w13.heap.size w40 x45.2 x45.1 := hf16.get hx45
      obtain ⟨_, _⟩ : _ ∧ _ := hs51
      refine wl_val ha43 rfl rfl rfl (op_indexAddr ha43 rfl Try.underlying23 ti41 rfl rfl (by omega) hi48) ?_
      intro a54 ha54; clear ha43 a43
      refine wl_effS ha54 rfl rfl (op_setElem (s := shRowN) (ds := [v39]) (S' := fun _ => False) ha54 rfl ti41 rfl rfl ho42.cells1 hf15 pos_shRowN hi48 (by omega) (mk_shRowN ((((x28) : List Int), (v39 : Value))) ho42.one) (fun _ h => h.elim)) ?_
      rintro w55 ⟨ho57, hst56, hz58⟩
      have hx59 := hx44.stp hst56 (by intro q hq; have hq0 := hf15.lt q hq; omega)
      have hzhx59 := hst56.size
      replace hf16 : Nst shI64 2 (fun x : List Int => x) w0.heap.size w13.heap.size w55 zs := by first | exact hf16.stpF flat_shI64 hst56 hf15 rfl | exact hf16.stp hst56 (by intro q hq; have hq0 := hf15.lt q hq; omega)
      replace ho42 : Own shI64 2 w13.heap.size w13.heap.size w40.heap.size w55 v39 ((x28)) := by first | exact ho42.stp hst56 (by intro q hq; have hq0 := hf15.lt q hq; omega) | exact ho42.stpF flat_shI64 hst56 (ho42.ne hf15 rfl)
      replace hn53 : Own shI64 2 w0.heap.size w0.heap.size w13.heap.size w55 x45.2 x45.1 := by first | exact hn53.stp hst56 (by intro q hq; have hq0 := hf15.lt q hq; omega) | exact hn53.stpF flat_shI64 hst56 (hn53.ne hf15 rfl)
      clear hf15
      have hlsho57 : ((zs.set i ((((x28) : List Int), (v39 : Value))))).length = zs.length := List.length_set
      have hN60 : Nst shI64 2 (fun x : List Int => x) w0.heap.size w40.heap.size w55 ((zs.set i ((((x28) : List Int), (v39 : Value))))) := hf16.set ho42 (by omega) (by omega) (by omega)
      refine wpList_nil ?_
      refine block_n ?_
      refine then_n ?_
      refine wp_region_lit ?_
      refine wl_val ha54 rfl rfl rfl (op_move ha54 rfl rfl) ?_
      intro a61 ha61; clear ha54 a54
      refine wl_val ha61 rfl rfl rfl ((op_add ha61 rfl rfl rfl).int (IntWalk.i64_in _ (by omega))) ?_
      intro a62 ha62; clear ha61 a61
      refine wl_val ha62 rfl rfl rfl (op_assign ha62 rfl rfl) ?_
      intro a63 ha63; clear ha62 a62
      refine wpList_nil ?_
      refine round_end (x := (i, v, zs)) ((i + 1), v, (zs.set i ((((x28) : List Int), (v39 : Value))))) ?_ ?_
      ·
        refine ⟨(Sl.cons_ ha63 rfl rfl (Sl.cons_ ha63 rfl rfl (Sl.cons_ ha63 rfl (int_eq (by omega)) (Sl.nil_ ha63)))), hx59, (ho57.fin (by omega) (by omega) (by omega)), (hN60.fin (by omega) (by omega)), (by omega), (by omega), (by simpa using hl), (by exact setN_take hF hl hx28)⟩
      · show (a.length - ((i + 1)) : Nat) < a.length - i; omega
    ·
      rw [decide_eq_false c23] at ha22
      refine cond_f ha22 rfl ?_
      refine wp_exit ?_
      refine then_e ?_
      refine then_e ?_
      refine block_hit ?_
      refine then_n ?_
      refine wp_seq ?_
      refine wp_region_lit ?_
      refine wl_val ha22 rfl rfl rfl (op_move ha22 rfl rfl) ?_
      intro a64 ha64; clear ha22 a22
      refine wl_val ha64 rfl rfl rfl (op_assign ha64 rfl rfl) ?_
      intro a65 ha65; clear ha64 a64
      refine wpList_nil ?_
      refine then_n ?_
      refine wp_ret ?_
      refine ret1 ha65 rfl rfl ?_
      clear ha65 a65
      refine ret_mk hx14 ⟨zs, hf15.fin (by omega) (by omega) (by omega), hf16.fin (by omega) (by omega), ?_⟩
      ·
        exact map_take_all hF hl (by omega)

theorem c_laws_eqInt64SS (w0 : World) (v_a : Value) (a : List (List Int)) {S_a : Nat → Prop} (v_b : Value) (b : List (List Int)) {S_b : Nat → Prop} (h_a : Rds shRow S_a w0 v_a a) (h_b : Rds shRow S_b w0 v_b b) :
    Calls Try.prog 25 #[v_a, v_b] w0 (Ret w0 (fun v _ => v = .bool (eqL a b))) := by
  refine enter (N := 27) Try.func25 rfl rfl rfl ?_
  intro a0 ha0
  have hx0 := Ext.rfl' w0
  have hl_a := h_a.length_le
  have hl_b := h_b.length_le
  refine wp_seq ?_
  refine wp_region_lit ?_
  refine wl_val ha0 rfl rfl rfl (op_assign ha0 rfl rfl) ?_
  intro a1 ha1; clear ha0 a0
  refine wpList_nil ?_
  refine then_n ?_
  refine wp_seq ?_
  refine wp_seq ?_
  refine wp_region_lit ?_
  refine wl_val ha1 rfl rfl rfl (op_move ha1 rfl rfl) ?_
  intro a2 ha2; clear ha1 a1
  refine wl_val ha2 rfl rfl rfl (op_len_sl ha2 rfl Try.underlying23 rfl h_a) ?_
  intro a3 ha3; clear ha2 a2
  refine wl_val ha3 rfl rfl rfl (op_move ha3 rfl rfl) ?_
  intro a4 ha4; clear ha3 a3
  refine wl_val ha4 rfl rfl rfl (op_len_sl ha4 rfl Try.underlying23 rfl h_b) ?_
  intro a5 ha5; clear ha4 a4
  refine wl_val ha5 rfl rfl rfl ((op_neq ha5 rfl rfl rfl).to (congrArg Value.bool decide_not)) ?_
  intro a6 ha6; clear ha5 a5
  refine wpList_nil ?_
  refine then_n ?_
  by_cases c7 : ((a.length : Nat) : Int) = ((b.length : Nat) : Int)
  ·
    rw [decide_eq_true c7] at ha6
    refine cond_f ha6 rfl ?_
    refine wp_skip ?_
    refine then_n ?_
    refine wp_seq ?_
    refine wp_seq ?_
    refine wp_region_lit ?_
    refine wl_val ha6 rfl rfl rfl (op_assign ha6 rfl rfl) ?_
    intro a8 ha8; clear ha6 a6
    refine wpList_nil ?_
    refine then_n ?_
    refine wp_block ?_
    refine loop_inv (X := Nat) (fun (i : Nat) fr wl => Sl 27 fr [(0, v_a), (1, v_b), (5, .int .i64 ((i : Nat) : Int))] ∧ Ext w0 wl ∧ w0.heap.size ≤ wl.heap.size ∧ (i ≤ a.length) ∧ (a.length = b.length) ∧ (eqL (a.drop i) (b.drop i) = eqL a b)) (fun (i : Nat) => a.length - i) (0) ?_ ?_
    ·
      exact ⟨(Sl.cons_ ha8 rfl rfl (Sl.cons_ ha8 rfl rfl (Sl.cons_ ha8 rfl (int_eq (by omega)) (Sl.nil_ ha8)))), hx0, (by omega), (by omega), (by omega), (by simp)⟩
    ·
      clear ha8 a8
      rintro i a11 w9 ⟨ha11, hx10, hzl12, hi, hl, hF⟩
      have hzhx10 := hx10.size
      refine wp_seq ?_
      refine wp_seq ?_
      refine wp_region_lit ?_
      refine wl_val ha11 rfl rfl rfl (op_move ha11 rfl rfl) ?_
      intro a13 ha13; clear ha11 a11
      refine wl_val ha13 rfl rfl rfl (op_move ha13 rfl rfl) ?_
      intro a14 ha14; clear ha13 a13
      refine wl_val ha14 rfl rfl rfl (op_len_sl ha14 rfl Try.underlying23 rfl h_a) ?_
      intro a15 ha15; clear ha14 a14
      refine wl_val ha15 rfl rfl rfl (op_lss ha15 rfl rfl rfl) ?_
      intro a16 ha16; clear ha15 a15
      refine wpList_nil ?_
      refine then_n ?_
      by_cases c17 : ((i : Nat) : Int) < ((a.length : Nat) : Int)
      ·
        rw [decide_eq_true c17] at ha16
        refine cond_t ha16 rfl ?_
        refine wp_skip ?_
        refine then_n ?_
        refine wp_seq ?_
        refine wp_block ?_
        refine wp_seq ?_
        refine dr_enter Ext follows_mixed ?_
        intro w18 he19
        have hx20 := hx10.trans' he19
        have hzhx20 := he19.size
        have hs21 : Ext w18 w18 := Ext.rfl' _
        refine dr_val (i := 0) ha16 rfl (by kernel_rfl) (by kernel_rfl) (by kernel_rfl) rfl rfl rfl hs21 (fun w' hw' => op_move ha16 rfl rfl) ?_
        intro a22 ha22; clear ha16 a16
        refine dr_val (i := 1) ha22 rfl (by kernel_rfl) (by kernel_rfl) (by kernel_rfl) rfl rfl rfl hs21 (fun w' hw' => op_move ha22 rfl rfl) ?_
        intro a23 ha23; clear ha22 a22
        obtain ⟨x24, hx24⟩ := get_ex (xs := a) (j := i) (by omega)
        obtain ⟨p25, c26, hi27, hc28, hr29, hs30⟩ := Rds.at_ h_a hx24
        obtain ⟨v31, rfl, b32⟩ := inv_shRow hr29
        have hlb32 := b32.length_le
        refine dr_val (i := 2) ha23 rfl (by kernel_rfl) (by kernel_rfl) (by kernel_rfl) rfl rfl rfl hs21 (fun w' hw' => op_indexAddr ha23 rfl Try.underlying23 ti41 rfl rfl (by omega) hi27) ?_
        intro a33 ha33; clear ha23 a23
        refine dr_val (i := 3) ha33 rfl (by kernel_rfl) (by kernel_rfl) (by kernel_rfl) rfl rfl rfl hs21 (fun w' hw' => op_loadH ha33 rfl Try.underlying41 rfl rfl (hc28.ext (hx20.trans' hw')) rfl) ?_
        intro a34 ha34; clear ha33 a33
        refine dr_val (i := 4) ha34 rfl (by kernel_rfl) (by kernel_rfl) (by kernel_rfl) rfl rfl rfl hs21 (fun w' hw' => op_move ha34 rfl rfl) ?_
        intro a35 ha35; clear ha34 a34
        refine dr_val (i := 5) ha35 rfl (by kernel_rfl) (by kernel_rfl) (by kernel_rfl) rfl rfl rfl hs21 (fun w' hw' => op_move ha35 rfl rfl) ?_
        intro a36 ha36; clear ha35 a35
        obtain ⟨x37, hx37⟩ := get_ex (xs := b) (j := i) (by omega)
        obtain ⟨p38, c39, hi40, hc41, hr42, hs43⟩ := Rds.at_ h_b hx37
        obtain ⟨v44, rfl, b45⟩ := inv_shRow hr42
        have hlb45 := b45.length_le
        refine dr_val (i := 6) ha36 rfl (by kernel_rfl) (by kernel_rfl) (by kernel_rfl) rfl rfl rfl hs21 (fun w' hw' => op_indexAddr ha36 rfl Try.underlying23 ti41 rfl rfl (by omega) hi40) ?_
        intro a46 ha46; clear ha36 a36
        refine dr_val (i := 7) ha46 rfl (by kernel_rfl) (by kernel_rfl) (by kernel_rfl) rfl rfl rfl hs21 (fun w' hw' => op_loadH ha46 rfl Try.underlying41 rfl rfl (hc41.ext (hx20.trans' hw')) rfl) ?_
        intro a47 ha47; clear ha46 a46
        refine dr_one (i := 8) (by kernel_rfl) ?_
        refine po_callR ha47 rfl rfl rfl rfl (op_call ha47 rfl cb31 rfl) (c_laws_eqInt64S _ v31 x24 v44 x37 (b32.ext pos_shI64 (hx20.trans' hs21)) (b45.ext pos_shI64 (hx20.trans' hs21))) ?_
        rintro v48 w49 he50 rfl a51 ha51; clear ha47 a47
        have hs52 := hs21.trans' he50
        have hx53 := hx20.trans' he50
        have hzhx53 := he50.size
        refine ⟨hs52, ?_⟩
        refine dr_val (i := 9) ha51 rfl (by kernel_rfl) (by kernel_rfl) (by kernel_rfl) rfl rfl rfl hs52 (fun w' hw' => op_not ha51 rfl rfl) ?_
        intro a54 ha54; clear ha51 a51
        refine dr_end (by kernel_rfl) ?_
        refine then_n ?_
        rcases Bool.eq_false_or_eq_true (eqL x24 x37) with c55 | c55
        ·
          rw [c55] at ha54
          refine cond_f ha54 rfl ?_
          refine wp_skip ?_
          refine block_n ?_
          refine then_n ?_
          refine wp_region_lit ?_
          refine wl_val ha54 rfl rfl rfl (op_move ha54 rfl rfl) ?_
          intro a56 ha56; clear ha54 a54
          refine wl_val ha56 rfl rfl rfl ((op_add ha56 rfl rfl rfl).int (IntWalk.i64_in _ (by omega))) ?_
          intro a57 ha57; clear ha56 a56
          refine wl_val ha57 rfl rfl rfl (op_assign ha57 rfl rfl) ?_
          intro a58 ha58; clear ha57 a57
          refine wpList_nil ?_
          refine round_end (x := i) ((i + 1)) ?_ ?_
          ·
            refine ⟨(Sl.cons_ ha58 rfl rfl (Sl.cons_ ha58 rfl rfl (Sl.cons_ ha58 rfl (int_eq (by omega)) (Sl.nil_ ha58)))), hx53, (by omega), (by omega), (by exact hl), (by rw [eqL_step hx24 hx37] at hF; simp_all [eqL])⟩
          · show (a.length - ((i + 1)) : Nat) < a.length - i; omega
        ·
          rw [c55] at ha54
          refine cond_t ha54 rfl ?_
          refine wp_seq ?_
          refine wp_region_lit ?_
          refine wl_val ha54 rfl rfl rfl (op_assign ha54 rfl rfl) ?_
          intro a59 ha59; clear ha54 a54
          refine wpList_nil ?_
          refine then_n ?_
          refine wp_ret ?_
          refine block_r ?_
          refine then_r ?_
          refine then_r ?_
          refine block_r ?_
          refine then_r ?_
          refine ret1 ha59 rfl rfl ?_
          clear ha59 a59
          rw [eqL_step hx24 hx37] at hF
          exact ret_mk hx53 (congrArg Value.bool (by first | (simp [← hF, c7, c17, c55]; done) | (rw [← hF]; simp_all [eqL]; done)))
      ·
        rw [decide_eq_false c17] at ha16
        refine cond_f ha16 rfl ?_
        refine wp_exit ?_
        refine then_e ?_
        refine then_e ?_
        refine block_hit ?_
        refine then_n ?_
        refine wp_seq ?_
        refine wp_region_lit ?_
        refine wl_val ha16 rfl rfl rfl (op_assign ha16 rfl rfl) ?_
        intro a60 ha60; clear ha16 a16
        refine wpList_nil ?_
        refine then_n ?_
        refine wp_ret ?_
        refine ret1 ha60 rfl rfl ?_
        clear ha60 a60
        rw [drop_nil (by omega), drop_nil (by omega), eqL_nil] at hF
        exact ret_mk hx10 (congrArg Value.bool (by first | (simp [← hF, c7, c17]; done) | (rw [← hF]; simp_all [eqL]; done)))
  ·
    rw [decide_eq_false c7] at ha6
    refine cond_t ha6 rfl ?_
    refine wp_seq ?_
    refine wp_region_lit ?_
    refine wl_val ha6 rfl rfl rfl (op_assign ha6 rfl rfl) ?_
    intro a61 ha61; clear ha6 a6
    refine wpList_nil ?_
    refine then_n ?_
    refine wp_ret ?_
    refine then_r ?_
    refine ret1 ha61 rfl rfl ?_
    clear ha61 a61
    
    exact ret_mk hx0 (congrArg Value.bool (by rw [eqL_len (by omega)]))

theorem c_laws_szTable (w0 : World) (v_a0 : Value) (v_a1 : Value) (a : List Str × List (List Int)) {S_a0 : Nat → Prop} {S_a1 : Nat → Prop} (left : Int) (h_a0 : Rds shStr S_a0 w0 v_a0 a.1) (h_a1 : Rds shRow S_a1 w0 v_a1 a.2) (g0 : left ≤ 1048576) (g1 : 0 ≤ left) :
    Calls Try.prog 16 #[.agg #[v_a0, v_a1], .int .i64 left] w0 (Ret w0 (fun v _ => v = .int .i64 (szR left (costT a)))) := by
  refine enter (N := 18) Try.func16 rfl rfl rfl ?_
  intro a0 ha0
  have hx0 := Ext.rfl' w0
  have hl_a0 := h_a0.length_le
  have hl_a1 := h_a1.length_le
  have hle := szR_le (k := costL costS a.1) (n := left) (by omega)
  refine wp_seq ?_
  refine wp_region_lit ?_
  refine wl_eff ha0 rfl rfl rfl (op_box' ha0 rfl rfl rfl) ?_
  rintro _ w2 ⟨rfl, he3, hb4, hz5⟩ a6 ha6; clear ha0 a0
  have hx7 := hx0.trans' he3
  have hzhx7 := he3.size
  refine wl_val ha6 rfl rfl rfl (op_assign ha6 rfl rfl) ?_
  intro a8 ha8; clear ha6 a6
  refine wpList_nil ?_
  refine then_n ?_
  refine wp_seq ?_
  refine wp_region_lit ?_
  refine wl_val ha8 rfl rfl rfl (op_fieldAddr (sz := 0) ha8 rfl Try.underlying25 rfl rfl ti22 rfl) ?_
  intro a9 ha9; clear ha8 a8
  refine wl_val ha9 rfl rfl rfl (op_loadF (off := 0) ha9 rfl Try.underlying22 rfl rfl hb4.cells rfl) ?_
  intro a10 ha10; clear ha9 a9
  refine wl_val ha10 rfl rfl rfl (op_move ha10 rfl rfl) ?_
  intro a11 ha11; clear ha10 a10
  refine wl_callR ha11 rfl rfl rfl (op_call ha11 rfl cb58 rfl) (c_laws_szStringS _ v_a0 a.1 left (h_a0.ext pos_shStr hx7) (by first | assumption | omega | (simp; omega) | (simp [mkN_length]; omega)) (by first | assumption | omega | (simp; omega) | (simp [mkN_length]; omega))) ?_
  rintro v12 w13 he14 rfl a15 ha15; clear ha11 a11
  have hx16 := hx7.trans' he14
  have hzhx16 := he14.size
  replace hb4 := hb4.ext he14
  refine wl_val ha15 rfl rfl rfl (op_assign ha15 rfl rfl) ?_
  intro a17 ha17; clear ha15 a15
  refine wpList_nil ?_
  refine then_n ?_
  refine wp_seq ?_
  refine wp_seq ?_
  refine wp_region_lit ?_
  refine wl_val ha17 rfl rfl rfl (op_move ha17 rfl rfl) ?_
  intro a18 ha18; clear ha17 a17
  refine wl_val ha18 rfl rfl rfl (op_lss ha18 rfl rfl rfl) ?_
  intro a19 ha19; clear ha18 a18
  refine wpList_nil ?_
  refine then_n ?_
  by_cases c20 : (szR left (costL costS a.1) : Int) < (0 : Int)
  ·
    rw [decide_eq_true c20] at ha19
    refine cond_t ha19 rfl ?_
    refine wp_seq ?_
    refine wp_region_lit ?_
    refine wl_val ha19 rfl rfl rfl (op_assign ha19 rfl rfl) ?_
    intro a21 ha21; clear ha19 a19
    refine wpList_nil ?_
    refine then_n ?_
    refine wp_ret ?_
    refine then_r ?_
    refine ret1 ha21 rfl rfl ?_
    clear ha21 a21
    exact ret_mk hx16 (int_eq (by unfold costT; first | (rw [szR_add (by omega)]; done) | (rw [szR_add (by omega)]; unfold szR; split <;> simp_all [szR] <;> omega) | (rw [szR_neg (by omega)])))
  ·
    rw [decide_eq_false c20] at ha19
    refine cond_f ha19 rfl ?_
    refine wp_skip ?_
    refine then_n ?_
    refine wp_seq ?_
    refine wp_region_lit ?_
    refine wl_val ha19 rfl rfl rfl (op_fieldAddr (sz := 0) ha19 rfl Try.underlying25 rfl rfl ti23 rfl) ?_
    intro a22 ha22; clear ha19 a19
    refine wl_val ha22 rfl rfl rfl (op_loadF (off := 1) ha22 rfl Try.underlying23 rfl rfl hb4.cells rfl) ?_
    intro a23 ha23; clear ha22 a22
    refine wl_val ha23 rfl rfl rfl (op_move ha23 rfl rfl) ?_
    intro a24 ha24; clear ha23 a23
    refine wl_callR ha24 rfl rfl rfl (op_call ha24 rfl cb59 rfl) (c_laws_szInt64SS _ v_a1 a.2 (szR left (costL costS a.1) : Int) (h_a1.ext pos_shRow hx16) (by first | assumption | omega | (simp; omega) | (simp [mkN_length]; omega)) (by first | assumption | omega | (simp; omega) | (simp [mkN_length]; omega))) ?_
    rintro v25 w26 he27 rfl a28 ha28; clear ha24 a24
    have hx29 := hx16.trans' he27
    have hzhx29 := he27.size
    replace hb4 := hb4.ext he27
    refine wl_val ha28 rfl rfl rfl (op_assign ha28 rfl rfl) ?_
    intro a30 ha30; clear ha28 a28
    refine wpList_nil ?_
    refine then_n ?_
    refine wp_seq ?_
    refine wp_seq ?_
    refine wp_region_lit ?_
    refine wl_val ha30 rfl rfl rfl (op_move ha30 rfl rfl) ?_
    intro a31 ha31; clear ha30 a30
    refine wl_val ha31 rfl rfl rfl (op_lss ha31 rfl rfl rfl) ?_
    intro a32 ha32; clear ha31 a31
    refine wpList_nil ?_
    refine then_n ?_
    by_cases c33 : (szR (szR left (costL costS a.1) : Int) (costL costRow a.2) : Int) < (0 : Int)
    ·
      rw [decide_eq_true c33] at ha32
      refine cond_t ha32 rfl ?_
      refine wp_seq ?_
      refine wp_region_lit ?_
      refine wl_val ha32 rfl rfl rfl (op_assign ha32 rfl rfl) ?_
      intro a34 ha34; clear ha32 a32
      refine wpList_nil ?_
      refine then_n ?_
      refine wp_ret ?_
      refine then_r ?_
      refine ret1 ha34 rfl rfl ?_
      clear ha34 a34
      exact ret_mk hx29 (int_eq (by unfold costT; first | (rw [szR_add (by omega)]; done) | (rw [szR_add (by omega)]; unfold szR; split <;> simp_all [szR] <;> omega) | (rw [szR_neg (by omega)])))
    ·
      rw [decide_eq_false c33] at ha32
      refine cond_f ha32 rfl ?_
      refine wp_skip ?_
      refine then_n ?_
      refine wp_seq ?_
      refine wp_region_lit ?_
      refine wl_val ha32 rfl rfl rfl (op_move ha32 rfl rfl) ?_
      intro a35 ha35; clear ha32 a32
      refine wl_val ha35 rfl rfl rfl (op_assign ha35 rfl rfl) ?_
      intro a36 ha36; clear ha35 a35
      refine wpList_nil ?_
      refine then_n ?_
      refine wp_ret ?_
      refine ret1 ha36 rfl rfl ?_
      clear ha36 a36
      exact ret_mk hx29 (int_eq (by unfold costT; first | (rw [szR_add (by omega)]; done) | (rw [szR_add (by omega)]; unfold szR; split <;> simp_all [szR] <;> omega) | (rw [szR_neg (by omega)])))

theorem c_laws_toTable (w0 : World) (v_a0 : Value) (v_a1 : Value) (a : List Str × List (List Int)) {S_a0 : Nat → Prop} {S_a1 : Nat → Prop} (h_a0 : Rds shStr S_a0 w0 v_a0 a.1) (h_a1 : Rds shRow S_a1 w0 v_a1 a.2) (g0 : costT a ≤ 1048576) :
    Calls Try.prog 18 #[.agg #[v_a0, v_a1]] w0 (Ret w0 (fun v w1 => ∃ r0_0 r0_1 z0_1, v = .agg #[r0_0, r0_1] ∧ Own shStr 9 w0.heap.size w0.heap.size w1.heap.size w1 r0_0 ((a).1) ∧ Own shRowN 41 w0.heap.size w0.heap.size w1.heap.size w1 r0_1 z0_1 ∧ Nst shI64 2 (fun x : List Int => x) w0.heap.size w1.heap.size w1 z0_1 ∧ z0_1.map (·.1) = ((a).2))) := by
  refine enter (N := 13) Try.func18 rfl rfl rfl ?_
  intro a0 ha0
  have hx0 := Ext.rfl' w0
  have hl_a0 := h_a0.length_le
  have hl_a1 := h_a1.length_le
  have hcs := costL_len costS a.1
  have hcd : costT a = costL costS a.1 + costL costRow a.2 := rfl
  refine wp_seq ?_
  refine wp_region_lit ?_
  refine wl_eff ha0 rfl rfl rfl (op_box' ha0 rfl rfl rfl) ?_
  rintro _ w2 ⟨rfl, he3, hb4, hz5⟩ a6 ha6; clear ha0 a0
  have hx7 := hx0.trans' he3
  have hzhx7 := he3.size
  refine wl_eff ha6 rfl rfl rfl (op_alloc' rfl ti28 rfl) ?_
  rintro _ w9 ⟨rfl, he10, hb11, hz12⟩ a13 ha13; clear ha6 a6
  have hx14 := hx7.trans' he10
  have hzhx14 := he10.size
  replace hb4 := hb4.ext he10
  refine wpList_nil ?_
  refine then_n ?_
  refine wp_seq ?_
  refine wp_region_lit ?_
  refine wl_eff ha13 rfl rfl rfl (op_alloc' rfl ti28 rfl) ?_
  rintro _ w16 ⟨rfl, he17, hb18, hz19⟩ a20 ha20; clear ha13 a13
  have hx21 := hx14.trans' he17
  have hzhx21 := he17.size
  replace hb4 := hb4.ext he17
  replace hb11 := hb11.ext he17
  refine wpList_nil ?_
  refine then_n ?_
  refine wp_seq ?_
  refine wp_region_lit ?_
  refine wl_val ha20 rfl rfl rfl (op_fieldAddr (sz := 0) ha20 rfl Try.underlying25 rfl rfl ti22 rfl) ?_
  intro a22 ha22; clear ha20 a20
  refine wl_val ha22 rfl rfl rfl (op_loadF (off := 0) ha22 rfl Try.underlying22 rfl rfl hb4.cells rfl) ?_
  intro a23 ha23; clear ha22 a22
  refine wl_callR ha23 rfl rfl rfl (op_call ha23 rfl cb63 rfl) (c_laws_toStringS _ v_a0 a.1 (h_a0.ext pos_shStr hx21) (by first | assumption | omega | (simp; omega) | (simp [mkN_length]; omega))) ?_
  rintro v24 w25 he26 ho27 a28 ha28; clear ha23 a23
  have hx29 := hx21.trans' he26
  have hzhx29 := he26.size
  replace hb4 := hb4.ext he26
  replace hb11 := hb11.ext he26
  replace hb18 := hb18.ext he26
  refine wl_val ha28 rfl rfl rfl (op_fieldAddr (sz := 0) ha28 rfl Try.underlying28 rfl rfl ti22 rfl) ?_
  intro a30 ha30; clear ha28 a28
  refine wl_effS ha30 rfl rfl (op_store' (off := 0) ha30 rfl ti22 rfl rfl hb18 ho27.cells1 rfl (by intro u hu; have hu : u ∈ ([v24] : List Value) := hu; simp only [List.mem_cons, List.mem_nil_iff, or_false] at hu; rcases hu with rfl <;> first | rfl | exact ho27.one) (Nat.le_of_ble_eq_true rfl)) ?_
  rintro w31 ⟨hb33, hst32, hz34⟩
  have hx35 := hx29.stp hst32 (by intro q hq; cases hq; exact (by omega))
  have hzhx35 := hst32.size
  replace hb4 := hb4.stp hst32 (by intro q hq; cases hq; omega)
  replace hb11 := hb11.stp hst32 (by intro q hq; cases hq; omega)
  replace ho27 : Own shStr 9 w16.heap.size w16.heap.size w25.heap.size w31 v24 ((a.1)) := by first | exact ho27.stp hst32 (by intro q hq; cases hq; omega) | exact ho27.stpF flat_shStr hst32 (by intro q hq; cases hq; exact ho27.ne_box (by assumption) rfl)
  clear hb18
  refine wpList_nil ?_
  refine then_n ?_
  refine wp_seq ?_
  refine wp_region_lit ?_
  refine wl_val ha30 rfl rfl rfl (op_fieldAddr (sz := 0) ha30 rfl Try.underlying25 rfl rfl ti23 rfl) ?_
  intro a36 ha36; clear ha30 a30
  refine wl_val ha36 rfl rfl rfl (op_loadF (off := 1) ha36 rfl Try.underlying23 rfl rfl hb4.cells rfl) ?_
  intro a37 ha37; clear ha36 a36
  refine wl_callR ha37 rfl rfl rfl (op_call ha37 rfl cb64 rfl) (c_laws_toInt64SS _ v_a1 a.2 (h_a1.ext pos_shRow hx35) (by first | assumption | omega | (simp; omega) | (simp [mkN_length]; omega))) ?_
  rintro v38 w39 he40 ⟨z42, ho41, hN43, hE44⟩ a45 ha45; clear ha37 a37
  have hx46 := hx35.trans' he40
  have hzhx46 := he40.size
  replace hb4 := hb4.ext he40
  replace hb11 := hb11.ext he40
  replace ho27 := ho27.ext he40
  replace hb33 := hb33.ext he40
  have hlhE44 := absLen hE44
  refine wl_val ha45 rfl rfl rfl (op_fieldAddr (sz := 0) ha45 rfl Try.underlying28 rfl rfl ti23 rfl) ?_
  intro a47 ha47; clear ha45 a45
  refine wl_effS ha47 rfl rfl (op_store' (off := 1) ha47 rfl ti23 rfl rfl hb33 ho41.cells1 rfl (by intro u hu; have hu : u ∈ ([v38] : List Value) := hu; simp only [List.mem_cons, List.mem_nil_iff, or_false] at hu; rcases hu with rfl <;> first | rfl | exact ho41.one) (Nat.le_of_ble_eq_true rfl)) ?_
  rintro w48 ⟨hb50, hst49, hz51⟩
  have hx52 := hx46.stp hst49 (by intro q hq; cases hq; exact (by omega))
  have hzhx52 := hst49.size
  replace hb4 := hb4.stp hst49 (by intro q hq; cases hq; omega)
  replace hb11 := hb11.stp hst49 (by intro q hq; cases hq; omega)
  replace ho27 : Own shStr 9 w16.heap.size w16.heap.size w25.heap.size w48 v24 ((a.1)) := by first | exact ho27.stp hst49 (by intro q hq; cases hq; omega) | exact ho27.stpF flat_shStr hst49 (by intro q hq; cases hq; exact ho27.ne_box (by assumption) rfl)
  replace ho41 : Own shRowN 41 w31.heap.size w31.heap.size w39.heap.size w48 v38 z42 := by first | exact ho41.stp hst49 (by intro q hq; cases hq; omega) | exact ho41.stpF flat_shRowN hst49 (by intro q hq; cases hq; exact ho41.ne_box (by assumption) rfl)
  replace hN43 : Nst shI64 2 (fun x : List Int => x) w31.heap.size w39.heap.size w48 z42 := by first | exact hN43.stp hst49 (by intro q hq; cases hq; omega) | exact hN43.stpB flat_shI64 hst49 (by assumption) rfl
  clear hb33
  refine wpList_nil ?_
  refine then_n ?_
  refine wp_seq ?_
  refine wp_region_lit ?_
  refine wl_val ha47 rfl rfl rfl (op_loadS ha47 rfl Try.underlying28 ti28 rfl rfl hb50.cells) ?_
  intro a53 ha53; clear ha47 a47
  refine wl_effS ha53 rfl rfl (op_storeAll' ha53 rfl ti28 rfl rfl hb11 rfl rfl (by intro u hu; have hu : u ∈ ([v24, v38] : List Value) := hu; simp only [List.mem_cons, List.mem_nil_iff, or_false] at hu; rcases hu with rfl | rfl <;> first | rfl | exact ho27.one | exact ho41.one) rfl) ?_
  rintro w54 ⟨hb56, hst55, hz57⟩
  have hx58 := hx52.stp hst55 (by intro q hq; cases hq; exact (by omega))
  have hzhx58 := hst55.size
  replace hb4 := hb4.stp hst55 (by intro q hq; cases hq; omega)
  replace ho27 : Own shStr 9 w16.heap.size w16.heap.size w25.heap.size w54 v24 ((a.1)) := by first | exact ho27.stp hst55 (by intro q hq; cases hq; omega) | exact ho27.stpF flat_shStr hst55 (by intro q hq; cases hq; exact ho27.ne_box (by assumption) rfl)
  replace ho41 : Own shRowN 41 w31.heap.size w31.heap.size w39.heap.size w54 v38 z42 := by first | exact ho41.stp hst55 (by intro q hq; cases hq; omega) | exact ho41.stpF flat_shRowN hst55 (by intro q hq; cases hq; exact ho41.ne_box (by assumption) rfl)
  replace hN43 : Nst shI64 2 (fun x : List Int => x) w31.heap.size w39.heap.size w54 z42 := by first | exact hN43.stp hst55 (by intro q hq; cases hq; omega) | exact hN43.stpB flat_shI64 hst55 (by assumption) rfl
  replace hb50 := hb50.stp hst55 (by intro q hq; cases hq; omega)
  clear hb11
  refine wpList_nil ?_
  refine then_n ?_
  refine wp_ret ?_
  refine retc ha53 rfl rfl Try.underlying28 ti28 rfl hb56.cells ?_
  clear ha53 a53
  refine ret_mk hx58 ⟨v24, v38, z42, (by rfl), ?_, ho41.fin (by omega) (by omega) (by omega), hN43.fin (by omega) (by omega), ?_⟩
  ·
    refine (ho27.fin (by omega) (by omega) (by omega)).cast ?_
    rfl
  ·
    exact hE44

theorem c_laws_eqTable (w0 : World) (v_a0 : Value) (v_a1 : Value) (a : List Str × List (List Int)) {S_a0 : Nat → Prop} {S_a1 : Nat → Prop} (v_b0 : Value) (v_b1 : Value) (b : List Str × List (List Int)) {S_b0 : Nat → Prop} {S_b1 : Nat → Prop} (h_a0 : Rds shStr S_a0 w0 v_a0 a.1) (h_a1 : Rds shRow S_a1 w0 v_a1 a.2) (h_b0 : Rds shStr S_b0 w0 v_b0 b.1) (h_b1 : Rds shRow S_b1 w0 v_b1 b.2) :
    Calls Try.prog 20 #[.agg #[v_a0, v_a1], .agg #[v_b0, v_b1]] w0 (Ret w0 (fun v _ => v = .bool (decide (a = b)))) := by
  refine enter (N := 17) Try.func20 rfl rfl rfl ?_
  intro a0 ha0
  have hx0 := Ext.rfl' w0
  have hl_a0 := h_a0.length_le
  have hl_a1 := h_a1.length_le
  have hl_b0 := h_b0.length_le
  have hl_b1 := h_b1.length_le
  refine wp_seq ?_
  refine wp_region_lit ?_
  refine wl_eff ha0 rfl rfl rfl (op_box' ha0 rfl rfl rfl) ?_
  rintro _ w2 ⟨rfl, he3, hb4, hz5⟩ a6 ha6; clear ha0 a0
  have hx7 := hx0.trans' he3
  have hzhx7 := he3.size
  refine wl_eff ha6 rfl rfl rfl (op_box' ha6 rfl rfl rfl) ?_
  rintro _ w9 ⟨rfl, he10, hb11, hz12⟩ a13 ha13; clear ha6 a6
  have hx14 := hx7.trans' he10
  have hzhx14 := he10.size
  replace hb4 := hb4.ext he10
  refine wl_val ha13 rfl rfl rfl (op_assign ha13 rfl rfl) ?_
  intro a15 ha15; clear ha13 a13
  refine wpList_nil ?_
  refine then_n ?_
  refine wp_seq ?_
  refine wp_seq ?_
  refine wp_region_lit ?_
  refine wl_val ha15 rfl rfl rfl (op_fieldAddr (sz := 0) ha15 rfl Try.underlying28 rfl rfl ti22 rfl) ?_
  intro a16 ha16; clear ha15 a15
  refine wl_val ha16 rfl rfl rfl (op_loadF (off := 0) ha16 rfl Try.underlying22 rfl rfl hb4.cells rfl) ?_
  intro a17 ha17; clear ha16 a16
  refine wl_val ha17 rfl rfl rfl (op_fieldAddr (sz := 0) ha17 rfl Try.underlying28 rfl rfl ti22 rfl) ?_
  intro a18 ha18; clear ha17 a17
  refine wl_val ha18 rfl rfl rfl (op_loadF (off := 0) ha18 rfl Try.underlying22 rfl rfl hb11.cells rfl) ?_
  intro a19 ha19; clear ha18 a18
  refine wl_callR ha19 rfl rfl rfl (op_call ha19 rfl cb68 rfl) (c_laws_eqStringS _ v_a0 a.1 v_b0 b.1 (h_a0.ext pos_shStr hx14) (h_b0.ext pos_shStr hx14)) ?_
  rintro v20 w21 he22 rfl a23 ha23; clear ha19 a19
  have hx24 := hx14.trans' he22
  have hzhx24 := he22.size
  replace hb4 := hb4.ext he22
  replace hb11 := hb11.ext he22
  refine wl_val ha23 rfl rfl rfl (op_not ha23 rfl rfl) ?_
  intro a25 ha25; clear ha23 a23
  refine wpList_nil ?_
  refine then_n ?_
  rcases Bool.eq_false_or_eq_true (eqL a.1 b.1) with c26 | c26
  ·
    rw [c26] at ha25
    refine cond_f ha25 rfl ?_
    refine wp_skip ?_
    refine then_n ?_
    refine wp_seq ?_
    refine wp_seq ?_
    refine wp_region_lit ?_
    refine wl_val ha25 rfl rfl rfl (op_fieldAddr (sz := 0) ha25 rfl Try.underlying28 rfl rfl ti23 rfl) ?_
    intro a27 ha27; clear ha25 a25
    refine wl_val ha27 rfl rfl rfl (op_loadF (off := 1) ha27 rfl Try.underlying23 rfl rfl hb4.cells rfl) ?_
    intro a28 ha28; clear ha27 a27
    refine wl_val ha28 rfl rfl rfl (op_fieldAddr (sz := 0) ha28 rfl Try.underlying28 rfl rfl ti23 rfl) ?_
    intro a29 ha29; clear ha28 a28
    refine wl_val ha29 rfl rfl rfl (op_loadF (off := 1) ha29 rfl Try.underlying23 rfl rfl hb11.cells rfl) ?_
    intro a30 ha30; clear ha29 a29
    refine wl_callR ha30 rfl rfl rfl (op_call ha30 rfl cb25 rfl) (c_laws_eqInt64SS _ v_a1 a.2 v_b1 b.2 (h_a1.ext pos_shRow hx24) (h_b1.ext pos_shRow hx24)) ?_
    rintro v31 w32 he33 rfl a34 ha34; clear ha30 a30
    have hx35 := hx24.trans' he33
    have hzhx35 := he33.size
    replace hb4 := hb4.ext he33
    replace hb11 := hb11.ext he33
    refine wl_val ha34 rfl rfl rfl (op_not ha34 rfl rfl) ?_
    intro a36 ha36; clear ha34 a34
    refine wpList_nil ?_
    refine then_n ?_
    rcases Bool.eq_false_or_eq_true (eqL a.2 b.2) with c37 | c37
    ·
      rw [c37] at ha36
      refine cond_f ha36 rfl ?_
      refine wp_skip ?_
      refine then_n ?_
      refine wp_seq ?_
      refine wp_region_lit ?_
      refine wl_val ha36 rfl rfl rfl (op_assign ha36 rfl rfl) ?_
      intro a38 ha38; clear ha36 a36
      refine wpList_nil ?_
      refine then_n ?_
      refine wp_ret ?_
      refine ret1 ha38 rfl rfl ?_
      clear ha38 a38
      exact ret_mk hx35 (congrArg Value.bool (by first | (simp [eqL, Prod.ext_iff, c26, c37]; done) | (simp [eqL, Prod.ext_iff, c26, c37]; omega) | (simp_all [eqL, Prod.ext_iff]; done) | (simp_all [eqL, Prod.ext_iff]; omega)))
    ·
      rw [c37] at ha36
      refine cond_t ha36 rfl ?_
      refine wp_seq ?_
      refine wp_region_lit ?_
      refine wl_val ha36 rfl rfl rfl (op_assign ha36 rfl rfl) ?_
      intro a39 ha39; clear ha36 a36
      refine wpList_nil ?_
      refine then_n ?_
      refine wp_ret ?_
      refine then_r ?_
      refine ret1 ha39 rfl rfl ?_
      clear ha39 a39
      exact ret_mk hx35 (congrArg Value.bool (by first | (simp [eqL, Prod.ext_iff, c26, c37]; done) | (simp [eqL, Prod.ext_iff, c26, c37]; omega) | (simp_all [eqL, Prod.ext_iff]; done) | (simp_all [eqL, Prod.ext_iff]; omega)))
  ·
    rw [c26] at ha25
    refine cond_t ha25 rfl ?_
    refine wp_seq ?_
    refine wp_region_lit ?_
    refine wl_val ha25 rfl rfl rfl (op_assign ha25 rfl rfl) ?_
    intro a40 ha40; clear ha25 a25
    refine wpList_nil ?_
    refine then_n ?_
    refine wp_ret ?_
    refine then_r ?_
    refine ret1 ha40 rfl rfl ?_
    clear ha40 a40
    exact ret_mk hx24 (congrArg Value.bool (by first | (simp [eqL, Prod.ext_iff, c26]; done) | (simp [eqL, Prod.ext_iff, c26]; omega) | (simp_all [eqL, Prod.ext_iff]; done) | (simp_all [eqL, Prod.ext_iff]; omega)))


end Go.Proofs.Ytjpldgicibnkcaa
