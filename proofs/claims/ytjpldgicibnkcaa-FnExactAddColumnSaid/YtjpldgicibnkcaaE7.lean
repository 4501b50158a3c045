/- The law AddColumn, walked. -/
import Derived.Test.YtjpldgicibnkcaaW12
import Derived.Test.YtjpldgicibnkcaaL3
namespace Go.Proofs.Ytjpldgicibnkcaa
open Go Go.RowKit

theorem sumC_bd {α : Type} {c : α → Nat} {B : Nat} : ∀ {xs : List α}, (∀ x ∈ xs, c x ≤ B) → sumC c xs ≤ B * xs.length
  | [], _ => Nat.zero_le _
  | x :: xs, h => by
    have h1 := h x (by simp)
    have h2 := sumC_bd (xs := xs) (c := c) (B := B) fun y hy => h y (by simp [hy])
    rw [List.length_cons, Nat.mul_add, sumC]; omega
theorem tab_cost {t : Tab} (h : tabB t = true) : costT t ≤ 1000 := by
  have hb := tab_bd h
  have h1 := sumC_bd (c := costS) (B := 16) (xs := t.1) fun x hx => by have := wordB_len (tab_heads h x hx); unfold costS; omega
  have h2 := sumC_bd (c := costRow) (B := 6) (xs := t.2) fun r hr => by have := (tab_rows h r hr).1; unfold costRow; rw [costI_eq]; omega
  unfold costT costL; omega

theorem acT_cost (t : Tab) (h : Str) (a b m : Int) : costT (acT t h a b m) ≤ 1000 := by
  by_cases e : cdA t h a b m = 0
  · rw [acT_ok e]
    apply tab_cost
    unfold cdA at e
    split at e <;> try (simp_all; done)
    split at e <;> try (simp_all; done)
    split at e <;> try (simp_all; done)
    split at e <;> try (simp_all; done)
  · rw [acT_no e]; exact Nat.zero_le _

theorem c_laws_FnExactAddColumn (w0 : World) (v_aT0 : Value) (v_aT1 : Value) (aT : List Str × List (List Int)) {S_aT0 : Nat → Prop} {S_aT1 : Nat → Prop} (aHead : Str) (aA : Int) (aB : Int) (aTimes : Int) (h_aT0 : Rds shStr S_aT0 w0 v_aT0 aT.1) (h_aT1 : Rds shRow S_aT1 w0 v_aT1 aT.2) (g0 : I64 aA) (g1 : I64 aB) (g2 : I64 aTimes) (g3 : aHead.length ≤ 9223372036854775807) :
    Calls Try.prog 12 #[.agg #[v_aT0, v_aT1], St aHead, .int .i64 aA, .int .i64 aB, .int .i64 aTimes] w0 (Ret w0 (fun v _ => v = .bool (true))) := by
  refine enter (N := 119) Try.func12 rfl rfl rfl ?_
  intro a0 ha0
  have hx0 := Ext.rfl' w0
  have hl_aT0 := h_aT0.length_le
  have hl_aT1 := h_aT1.length_le
  have hcl : costT aT = costL costS aT.1 + costL costRow aT.2 := rfl
  have hc1 := costL_len costS aT.1
  have hc2 := costL_len costRow aT.2
  have hkk := kkT_le aT 1
  have hkg := kkT_ge aT 1
  have hkk2 : kkT (aT.1, aT.2) 1 ≤ 1 + (costT aT : Nat) := hkk
  have hkg2 : 1 ≤ kkT (aT.1, aT.2) 1 := hkg
  have hq1 := kkT_le (acT aT aHead aA aB aTimes) 1
  have hq2 := acT_cost aT aHead aA aB aTimes
  have hq3 : kkT ((acT aT aHead aA aB aTimes).1, (acT aT aHead aA aB aTimes).2) 1 ≤ 1 + (costT (acT aT aHead aA aB aTimes) : Nat) := hq1
  have hq4 : 1 ≤ kkT ((acT aT aHead aA aB aTimes).1, (acT aT aHead aA aB aTimes).2) 1 := kkT_ge (acT aT aHead aA aB aTimes) 1
  have hq5 := costL_len costRow (acT aT aHead aA aB aTimes).2
  have hq6 : costT (acT aT aHead aA aB aTimes) = costL costS (acT aT aHead aA aB aTimes).1 + costL costRow (acT aT aHead aA aB aTimes).2 := rfl
  refine wp_seq ?_
  refine wp_region_lit ?_
  refine wl_eff ha0 rfl rfl rfl (op_box' ha0 rfl rfl rfl) ?_
  rintro _ w2 ⟨rfl, he3, hb4, hz5⟩ a6 ha6; clear ha0 a0
  have hx7 := hx0.trans' he3
  have hzhx7 := he3.size
  refine wl_val ha6 rfl rfl rfl (op_assign ha6 rfl rfl) ?_
  intro a8 ha8; clear ha6 a6
  refine wpList_nil ?_
  refine then_n ?_
  refine wp_seq ?_
  refine wp_seq ?_
  refine wp_region_lit ?_
  refine wl_val ha8 rfl rfl rfl (op_move ha8 rfl rfl) ?_
  intro a9 ha9; clear ha8 a8
  refine wl_val ha9 rfl rfl rfl (op_len_str ha9 rfl Try.underlying9 rfl) ?_
  intro a10 ha10; clear ha9 a9
  refine wl_val ha10 rfl rfl rfl (op_gtr ha10 rfl rfl rfl) ?_
  intro a11 ha11; clear ha10 a10
  refine wpList_nil ?_
  refine then_n ?_
  by_cases c12 : (1048576 : Int) < ((aHead.length : Nat) : Int)
  ·
    rw [decide_eq_true c12] at ha11
    refine cond_t ha11 rfl ?_
    refine wp_seq ?_
    refine wp_region_lit ?_
    refine wl_val ha11 rfl rfl rfl (op_assign ha11 rfl rfl) ?_
    intro a13 ha13; clear ha11 a11
    refine wpList_nil ?_
    refine then_n ?_
    refine wp_ret ?_
    refine then_r ?_
    refine ret1 ha13 rfl rfl ?_
    clear ha13 a13
    exact ret_mk hx7 (congrArg Value.bool (by first | rfl | omega))
  ·
    rw [decide_eq_false c12] at ha11
    refine cond_f ha11 rfl ?_
    refine wp_skip ?_
    refine then_n ?_
    refine wp_seq ?_
    refine wp_region_lit ?_
    refine wl_val ha11 rfl rfl rfl (op_assign ha11 rfl rfl) ?_
    intro a14 ha14; clear ha11 a11
    refine wpList_nil ?_
    refine then_n ?_
    refine wp_seq ?_
    refine wp_region_lit ?_
    refine wl_val ha14 rfl rfl rfl (op_loadS ha14 rfl Try.underlying25 ti25 rfl rfl hb4.cells) ?_
    intro a15 ha15; clear ha14 a14
    refine wl_val ha15 rfl rfl rfl (op_move ha15 rfl rfl) ?_
    intro a16 ha16; clear ha15 a15
    refine wl_callR ha16 rfl rfl rfl (op_call ha16 rfl cb16 rfl) (c_laws_szTable _ v_aT0 v_aT1 aT (1048576 : Int) (h_aT0.ext pos_shStr hx7) (h_aT1.ext pos_shRow hx7) (by first | assumption | omega | (simp; omega)) (by first | assumption | omega | (simp; omega))) ?_
    rintro v17 w18 he19 rfl a20 ha20; clear ha16 a16
    have hx21 := hx7.trans' he19
    have hzhx21 := he19.size
    replace hb4 := hb4.ext he19
    refine wl_val ha20 rfl rfl rfl (op_assign ha20 rfl rfl) ?_
    intro a22 ha22; clear ha20 a20
    refine wpList_nil ?_
    refine then_n ?_
    refine wp_seq ?_
    refine wp_seq ?_
    refine wp_region_lit ?_
    refine wl_val ha22 rfl rfl rfl (op_move ha22 rfl rfl) ?_
    intro a23 ha23; clear ha22 a22
    refine wl_val ha23 rfl rfl rfl (op_lss ha23 rfl rfl rfl) ?_
    intro a24 ha24; clear ha23 a23
    refine wpList_nil ?_
    refine then_n ?_
    by_cases c25 : (szR (1048576 : Int) (costT aT) : Int) < (0 : Int)
    ·
      rw [decide_eq_true c25] at ha24
      refine cond_t ha24 rfl ?_
      refine wp_seq ?_
      refine wp_region_lit ?_
      refine wl_val ha24 rfl rfl rfl (op_assign ha24 rfl rfl) ?_
      intro a26 ha26; clear ha24 a24
      refine wpList_nil ?_
      refine then_n ?_
      refine wp_ret ?_
      refine then_r ?_
      refine ret1 ha26 rfl rfl ?_
      clear ha26 a26
      exact ret_mk hx21 (congrArg Value.bool (by first | rfl | omega | (exact absurd rfl c12)))
    ·
      rw [decide_eq_false c25] at ha24
      have hzc25 := szR_ok c25
      refine cond_f ha24 rfl ?_
      refine wp_skip ?_
      refine then_n ?_
      refine wp_seq ?_
      refine wp_region_lit ?_
      refine wl_val ha24 rfl rfl rfl (op_loadS ha24 rfl Try.underlying25 ti25 rfl rfl hb4.cells) ?_
      intro a27 ha27; clear ha24 a24
      refine wl_callR ha27 rfl rfl rfl (op_call ha27 rfl cb18 rfl) (c_laws_toTable _ v_aT0 v_aT1 aT (h_aT0.ext pos_shStr hx21) (h_aT1.ext pos_shRow hx21) (by first | assumption | omega | (simp; omega))) ?_
      rintro v28 w29 he30 ⟨u31, u33, z35, rfl, ho32, ho34, hN36, hE37⟩ a38 ha38; clear ha27 a27
      have hx39 := hx21.trans' he30
      have hzhx39 := he30.size
      replace hb4 := hb4.ext he30
      have hlhE37 := absLen hE37
      refine wl_val ha38 rfl rfl rfl (op_move ha38 rfl rfl) ?_
      intro a40 ha40; clear ha38 a38
      refine wl_val ha40 rfl rfl rfl (op_move ha40 rfl rfl) ?_
      intro a41 ha41; clear ha40 a40
      refine wl_val ha41 rfl rfl rfl (op_move ha41 rfl rfl) ?_
      intro a42 ha42; clear ha41 a41
      refine wl_val ha42 rfl rfl rfl (op_move ha42 rfl rfl) ?_
      intro a43 ha43; clear ha42 a42
      refine wl_callR ha43 rfl rfl rfl (op_call ha43 rfl cb48 rfl) (c_spec_AddColumn _ u31 u33 ((aT)) aHead aA aB aTimes (ho32.rds pos_shStr) ((rds_shRowN (ho34.fin (by omega) (by omega) (by omega)) hN36).cast hE37) (by first | assumption | omega | (simp; omega))) ?_
      rintro v44 w45 he46 ⟨u47, u49, z51, rfl, ho48, ho50, hN52, hE53⟩ a54 ha54; clear ha43 a43
      have hx55 := hx39.trans' he46
      have hzhx55 := he46.size
      replace hb4 := hb4.ext he46
      replace ho32 := ho32.ext he46
      replace ho34 := ho34.ext he46
      replace hN36 := hN36.ext he46
      have hlhE53 := absLen hE53
      refine wl_val ha54 rfl rfl rfl (op_move ha54 rfl rfl) ?_
      intro a56 ha56; clear ha54 a54
      refine wl_val ha56 rfl rfl rfl (op_extract ha56 rfl rfl rfl) ?_
      intro a57 ha57; clear ha56 a56
      refine wl_val ha57 rfl rfl rfl (op_extract ha57 rfl rfl rfl) ?_
      intro a58 ha58; clear ha57 a57
      refine wl_eff ha58 rfl rfl rfl (op_alloc' rfl ti28 rfl) ?_
      rintro _ w60 ⟨rfl, he61, hb62, hz63⟩ a64 ha64; clear ha58 a58
      have hx65 := hx55.trans' he61
      have hzhx65 := he61.size
      replace hb4 := hb4.ext he61
      replace ho32 := ho32.ext he61
      replace ho34 := ho34.ext he61
      replace hN36 := hN36.ext he61
      replace ho48 := ho48.ext he61
      replace ho50 := ho50.ext he61
      replace hN52 := hN52.ext he61
      refine wl_effS ha64 rfl rfl (op_storeAll' ha64 rfl ti28 rfl rfl hb62 rfl rfl (by intro u hu; have hu : u ∈ ([u47, u49] : List Value) := hu; simp only [List.mem_cons, List.mem_nil_iff, or_false] at hu; rcases hu with rfl | rfl <;> first | rfl | exact ho48.one | exact ho50.one) rfl) ?_
      rintro w66 ⟨hb68, hst67, hz69⟩
      have hx70 := hx65.stp hst67 (by intro q hq; cases hq; exact (by omega))
      have hzhx70 := hst67.size
      replace hb4 := hb4.stp hst67 (by intro q hq; cases hq; omega)
      replace ho32 : Own shStr 9 w18.heap.size w18.heap.size w29.heap.size w66 u31 (((aT).1)) := by first | exact ho32.stp hst67 (by intro q hq; cases hq; omega) | exact ho32.stpF flat_shStr hst67 (by intro q hq; cases hq; exact ho32.ne_box (by assumption) rfl)
      replace ho34 : Own shRowN 41 w18.heap.size w18.heap.size w29.heap.size w66 u33 z35 := by first | exact ho34.stp hst67 (by intro q hq; cases hq; omega) | exact ho34.stpF flat_shRowN hst67 (by intro q hq; cases hq; exact ho34.ne_box (by assumption) rfl)
      replace hN36 : Nst shI64 2 (fun x : List Int => x) w18.heap.size w29.heap.size w66 z35 := by first | exact hN36.stp hst67 (by intro q hq; cases hq; omega) | exact hN36.stpB flat_shI64 hst67 (by assumption) rfl
      replace ho48 : Own shStr 9 w29.heap.size w29.heap.size w45.heap.size w66 u47 (((acT ((aT)) aHead aA aB aTimes).1)) := by first | exact ho48.stp hst67 (by intro q hq; cases hq; omega) | exact ho48.stpF flat_shStr hst67 (by intro q hq; cases hq; exact ho48.ne_box (by assumption) rfl)
      replace ho50 : Own shRowN 41 w29.heap.size w29.heap.size w45.heap.size w66 u49 z51 := by first | exact ho50.stp hst67 (by intro q hq; cases hq; omega) | exact ho50.stpF flat_shRowN hst67 (by intro q hq; cases hq; exact ho50.ne_box (by assumption) rfl)
      replace hN52 : Nst shI64 2 (fun x : List Int => x) w29.heap.size w45.heap.size w66 z51 := by first | exact hN52.stp hst67 (by intro q hq; cases hq; omega) | exact hN52.stpB flat_shI64 hst67 (by assumption) rfl
      clear hb62
      refine wl_val ha64 rfl rfl rfl (op_assign ha64 rfl rfl) ?_
      intro a71 ha71; clear ha64 a64
      refine wpList_nil ?_
      refine then_n ?_
      refine wp_seq ?_
      refine wp_region_lit ?_
      refine wl_val ha71 rfl rfl rfl (op_loadS ha71 rfl Try.underlying25 ti25 rfl rfl hb4.cells) ?_
      intro a72 ha72; clear ha71 a71
      refine wl_callR ha72 rfl rfl rfl (op_call ha72 rfl cb18 rfl) (c_laws_toTable _ v_aT0 v_aT1 aT (h_aT0.ext pos_shStr hx70) (h_aT1.ext pos_shRow hx70) (by first | assumption | omega | (simp; omega))) ?_
      rintro v73 w74 he75 ⟨u76, u78, z80, rfl, ho77, ho79, hN81, hE82⟩ a83 ha83; clear ha72 a72
      have hx84 := hx70.trans' he75
      have hzhx84 := he75.size
      replace hb4 := hb4.ext he75
      replace ho32 := ho32.ext he75
      replace ho34 := ho34.ext he75
      replace hN36 := hN36.ext he75
      replace ho48 := ho48.ext he75
      replace ho50 := ho50.ext he75
      replace hN52 := hN52.ext he75
      replace hb68 := hb68.ext he75
      have hlhE82 := absLen hE82
      refine wl_eff ha83 rfl rfl rfl (op_alloc' rfl ti28 rfl) ?_
      rintro _ w86 ⟨rfl, he87, hb88, hz89⟩ a90 ha90; clear ha83 a83
      have hx91 := hx84.trans' he87
      have hzhx91 := he87.size
      replace hb4 := hb4.ext he87
      replace ho32 := ho32.ext he87
      replace ho34 := ho34.ext he87
      replace hN36 := hN36.ext he87
      replace ho48 := ho48.ext he87
      replace ho50 := ho50.ext he87
      replace hN52 := hN52.ext he87
      replace hb68 := hb68.ext he87
      replace ho77 := ho77.ext he87
      replace ho79 := ho79.ext he87
      replace hN81 := hN81.ext he87
      refine wl_effS ha90 rfl rfl (op_storeAll' ha90 rfl ti28 rfl rfl hb88 rfl rfl (by intro u hu; have hu : u ∈ ([u76, u78] : List Value) := hu; simp only [List.mem_cons, List.mem_nil_iff, or_false] at hu; rcases hu with rfl | rfl <;> first | rfl | exact ho77.one | exact ho79.one) rfl) ?_
      rintro w92 ⟨hb94, hst93, hz95⟩
      have hx96 := hx91.stp hst93 (by intro q hq; cases hq; exact (by omega))
      have hzhx96 := hst93.size
      replace hb4 := hb4.stp hst93 (by intro q hq; cases hq; omega)
      replace ho32 : Own shStr 9 w18.heap.size w18.heap.size w29.heap.size w92 u31 (((aT).1)) := by first | exact ho32.stp hst93 (by intro q hq; cases hq; omega) | exact ho32.stpF flat_shStr hst93 (by intro q hq; cases hq; exact ho32.ne_box (by assumption) rfl)
      replace ho34 : Own shRowN 41 w18.heap.size w18.heap.size w29.heap.size w92 u33 z35 := by first | exact ho34.stp hst93 (by intro q hq; cases hq; omega) | exact ho34.stpF flat_shRowN hst93 (by intro q hq; cases hq; exact ho34.ne_box (by assumption) rfl)
      replace hN36 : Nst shI64 2 (fun x : List Int => x) w18.heap.size w29.heap.size w92 z35 := by first | exact hN36.stp hst93 (by intro q hq; cases hq; omega) | exact hN36.stpB flat_shI64 hst93 (by assumption) rfl
      replace ho48 : Own shStr 9 w29.heap.size w29.heap.size w45.heap.size w92 u47 (((acT ((aT)) aHead aA aB aTimes).1)) := by first | exact ho48.stp hst93 (by intro q hq; cases hq; omega) | exact ho48.stpF flat_shStr hst93 (by intro q hq; cases hq; exact ho48.ne_box (by assumption) rfl)
      replace ho50 : Own shRowN 41 w29.heap.size w29.heap.size w45.heap.size w92 u49 z51 := by first | exact ho50.stp hst93 (by intro q hq; cases hq; omega) | exact ho50.stpF flat_shRowN hst93 (by intro q hq; cases hq; exact ho50.ne_box (by assumption) rfl)
      replace hN52 : Nst shI64 2 (fun x : List Int => x) w29.heap.size w45.heap.size w92 z51 := by first | exact hN52.stp hst93 (by intro q hq; cases hq; omega) | exact hN52.stpB flat_shI64 hst93 (by assumption) rfl
      replace hb68 := hb68.stp hst93 (by intro q hq; cases hq; omega)
      replace ho77 : Own shStr 9 w66.heap.size w66.heap.size w74.heap.size w92 u76 (((aT).1)) := by first | exact ho77.stp hst93 (by intro q hq; cases hq; omega) | exact ho77.stpF flat_shStr hst93 (by intro q hq; cases hq; exact ho77.ne_box (by assumption) rfl)
      replace ho79 : Own shRowN 41 w66.heap.size w66.heap.size w74.heap.size w92 u78 z80 := by first | exact ho79.stp hst93 (by intro q hq; cases hq; omega) | exact ho79.stpF flat_shRowN hst93 (by intro q hq; cases hq; exact ho79.ne_box (by assumption) rfl)
      replace hN81 : Nst shI64 2 (fun x : List Int => x) w66.heap.size w74.heap.size w92 z80 := by first | exact hN81.stp hst93 (by intro q hq; cases hq; omega) | exact hN81.stpB flat_shI64 hst93 (by assumption) rfl
      clear hb88
      refine wpList_nil ?_
      refine then_n ?_
      refine wp_seq ?_
      refine wp_region_lit ?_
      refine wl_val ha90 rfl rfl rfl (op_loadS ha90 rfl Try.underlying28 ti28 rfl rfl hb94.cells) ?_
      intro a97 ha97; clear ha90 a90
      refine wl_val ha97 rfl rfl rfl (op_move ha97 rfl rfl) ?_
      intro a98 ha98; clear ha97 a97
      refine wl_val ha98 rfl rfl rfl (op_move ha98 rfl rfl) ?_
      intro a99 ha99; clear ha98 a98
      refine wl_val ha99 rfl rfl rfl (op_move ha99 rfl rfl) ?_
      intro a100 ha100; clear ha99 a99
      refine wl_val ha100 rfl rfl rfl (op_move ha100 rfl rfl) ?_
      intro a101 ha101; clear ha100 a100
      refine wl_callR ha101 rfl rfl rfl (op_call ha101 rfl cb49 rfl) (c_impl_AddColumn _ u76 u78 ((aT)) aHead aA aB aTimes (ho77.rds pos_shStr) ((rds_shRowN (ho79.fin (by omega) (by omega) (by omega)) hN81).cast hE82) (by first | assumption | omega | (simp; omega))) ?_
      rintro v102 w103 he104 ⟨u105, u107, z109, rfl, ho106, ho108, hN110, hE111⟩ a112 ha112; clear ha101 a101
      have hx113 := hx96.trans' he104
      have hzhx113 := he104.size
      replace hb4 := hb4.ext he104
      replace ho32 := ho32.ext he104
      replace ho34 := ho34.ext he104
      replace hN36 := hN36.ext he104
      replace ho48 := ho48.ext he104
      replace ho50 := ho50.ext he104
      replace hN52 := hN52.ext he104
      replace hb68 := hb68.ext he104
      replace ho77 := ho77.ext he104
      replace ho79 := ho79.ext he104
      replace hN81 := hN81.ext he104
      replace hb94 := hb94.ext he104
      have hlhE111 := absLen hE111
      refine wl_val ha112 rfl rfl rfl (op_move ha112 rfl rfl) ?_
      intro a114 ha114; clear ha112 a112
      refine wl_val ha114 rfl rfl rfl (op_extract ha114 rfl rfl rfl) ?_
      intro a115 ha115; clear ha114 a114
      refine wl_val ha115 rfl rfl rfl (op_extract ha115 rfl rfl rfl) ?_
      intro a116 ha116; clear ha115 a115
      refine wl_eff ha116 rfl rfl rfl (op_alloc' rfl ti28 rfl) ?_
      rintro _ w118 ⟨rfl, he119, hb120, hz121⟩ a122 ha122; clear ha116 a116
      have hx123 := hx113.trans' he119
      have hzhx123 := he119.size
      replace hb4 := hb4.ext he119
      replace ho32 := ho32.ext he119
      replace ho34 := ho34.ext he119
      replace hN36 := hN36.ext he119
      replace ho48 := ho48.ext he119
      replace ho50 := ho50.ext he119
      replace hN52 := hN52.ext he119
      replace hb68 := hb68.ext he119
      replace ho77 := ho77.ext he119
      replace ho79 := ho79.ext he119
      replace hN81 := hN81.ext he119
      replace hb94 := hb94.ext he119
      replace ho106 := ho106.ext he119
      replace ho108 := ho108.ext he119
      replace hN110 := hN110.ext he119
      refine wl_effS ha122 rfl rfl (op_storeAll' ha122 rfl ti28 rfl rfl hb120 rfl rfl (by intro u hu; have hu : u ∈ ([u105, u107] : List Value) := hu; simp only [List.mem_cons, List.mem_nil_iff, or_false] at hu; rcases hu with rfl | rfl <;> first | rfl | exact ho106.one | exact ho108.one) rfl) ?_
      rintro w124 ⟨hb126, hst125, hz127⟩
      have hx128 := hx123.stp hst125 (by intro q hq; cases hq; exact (by omega))
      have hzhx128 := hst125.size
      replace hb4 := hb4.stp hst125 (by intro q hq; cases hq; omega)
      replace ho32 : Own shStr 9 w18.heap.size w18.heap.size w29.heap.size w124 u31 (((aT).1)) := by first | exact ho32.stp hst125 (by intro q hq; cases hq; omega) | exact ho32.stpF flat_shStr hst125 (by intro q hq; cases hq; exact ho32.ne_box (by assumption) rfl)
      replace ho34 : Own shRowN 41 w18.heap.size w18.heap.size w29.heap.size w124 u33 z35 := by first | exact ho34.stp hst125 (by intro q hq; cases hq; omega) | exact ho34.stpF flat_shRowN hst125 (by intro q hq; cases hq; exact ho34.ne_box (by assumption) rfl)
      replace hN36 : Nst shI64 2 (fun x : List Int => x) w18.heap.size w29.heap.size w124 z35 := by first | exact hN36.stp hst125 (by intro q hq; cases hq; omega) | exact hN36.stpB flat_shI64 hst125 (by assumption) rfl
      replace ho48 : Own shStr 9 w29.heap.size w29.heap.size w45.heap.size w124 u47 (((acT ((aT)) aHead aA aB aTimes).1)) := by first | exact ho48.stp hst125 (by intro q hq; cases hq; omega) | exact ho48.stpF flat_shStr hst125 (by intro q hq; cases hq; exact ho48.ne_box (by assumption) rfl)
      replace ho50 : Own shRowN 41 w29.heap.size w29.heap.size w45.heap.size w124 u49 z51 := by first | exact ho50.stp hst125 (by intro q hq; cases hq; omega) | exact ho50.stpF flat_shRowN hst125 (by intro q hq; cases hq; exact ho50.ne_box (by assumption) rfl)
      replace hN52 : Nst shI64 2 (fun x : List Int => x) w29.heap.size w45.heap.size w124 z51 := by first | exact hN52.stp hst125 (by intro q hq; cases hq; omega) | exact hN52.stpB flat_shI64 hst125 (by assumption) rfl
      replace hb68 := hb68.stp hst125 (by intro q hq; cases hq; omega)
      replace ho77 : Own shStr 9 w66.heap.size w66.heap.size w74.heap.size w124 u76 (((aT).1)) := by first | exact ho77.stp hst125 (by intro q hq; cases hq; omega) | exact ho77.stpF flat_shStr hst125 (by intro q hq; cases hq; exact ho77.ne_box (by assumption) rfl)
      replace ho79 : Own shRowN 41 w66.heap.size w66.heap.size w74.heap.size w124 u78 z80 := by first | exact ho79.stp hst125 (by intro q hq; cases hq; omega) | exact ho79.stpF flat_shRowN hst125 (by intro q hq; cases hq; exact ho79.ne_box (by assumption) rfl)
      replace hN81 : Nst shI64 2 (fun x : List Int => x) w66.heap.size w74.heap.size w124 z80 := by first | exact hN81.stp hst125 (by intro q hq; cases hq; omega) | exact hN81.stpB flat_shI64 hst125 (by assumption) rfl
      replace hb94 := hb94.stp hst125 (by intro q hq; cases hq; omega)
      replace ho106 : Own shStr 9 w92.heap.size w92.heap.size w103.heap.size w124 u105 (((acT ((aT)) aHead aA aB aTimes).1)) := by first | exact ho106.stp hst125 (by intro q hq; cases hq; omega) | exact ho106.stpF flat_shStr hst125 (by intro q hq; cases hq; exact ho106.ne_box (by assumption) rfl)
      replace ho108 : Own shRowN 41 w92.heap.size w92.heap.size w103.heap.size w124 u107 z109 := by first | exact ho108.stp hst125 (by intro q hq; cases hq; omega) | exact ho108.stpF flat_shRowN hst125 (by intro q hq; cases hq; exact ho108.ne_box (by assumption) rfl)
      replace hN110 : Nst shI64 2 (fun x : List Int => x) w92.heap.size w103.heap.size w124 z109 := by first | exact hN110.stp hst125 (by intro q hq; cases hq; omega) | exact hN110.stpB flat_shI64 hst125 (by assumption) rfl
      clear hb120
      refine wl_val ha122 rfl rfl rfl (op_assign ha122 rfl rfl) ?_
      intro a129 ha129; clear ha122 a122
      refine wpList_nil ?_
      refine then_n ?_
      refine wp_seq ?_
      refine wp_seq ?_
      refine wp_region_lit ?_
      refine wl_val ha129 rfl rfl rfl (op_loadS ha129 rfl Try.underlying28 ti28 rfl rfl hb126.cells) ?_
      intro a130 ha130; clear ha129 a129
      refine wl_val ha130 rfl rfl rfl (op_loadS ha130 rfl Try.underlying28 ti28 rfl rfl hb68.cells) ?_
      intro a131 ha131; clear ha130 a130
      refine wl_callR ha131 rfl rfl rfl (op_call ha131 rfl cb20 rfl) (c_laws_eqTable _ u105 u107 ((acT ((aT)) aHead aA aB aTimes)) u47 u49 ((acT ((aT)) aHead aA aB aTimes)) (ho106.rds pos_shStr) ((rds_shRowN (ho108.fin (by omega) (by omega) (by omega)) hN110).cast hE111) (ho48.rds pos_shStr) ((rds_shRowN (ho50.fin (by omega) (by omega) (by omega)) hN52).cast hE53)) ?_
      rintro v132 w133 he134 rfl a135 ha135; clear ha131 a131
      have hx136 := hx128.trans' he134
      have hzhx136 := he134.size
      replace hb4 := hb4.ext he134
      replace ho32 := ho32.ext he134
      replace ho34 := ho34.ext he134
      replace hN36 := hN36.ext he134
      replace ho48 := ho48.ext he134
      replace ho50 := ho50.ext he134
      replace hN52 := hN52.ext he134
      replace hb68 := hb68.ext he134
      replace ho77 := ho77.ext he134
      replace ho79 := ho79.ext he134
      replace hN81 := hN81.ext he134
      replace hb94 := hb94.ext he134
      replace ho106 := ho106.ext he134
      replace ho108 := ho108.ext he134
      replace hN110 := hN110.ext he134
      replace hb126 := hb126.ext he134
      refine wl_val ha135 rfl rfl rfl (op_not ha135 rfl rfl) ?_
      intro a137 ha137; clear ha135 a135
      refine wl_val ha137 rfl rfl rfl (op_move ha137 rfl rfl) ?_
      intro a138 ha138; clear ha137 a137
      rcases Bool.eq_false_or_eq_true (decide (((acT ((aT)) aHead aA aB aTimes)) = ((acT ((aT)) aHead aA aB aTimes)))) with c139 | c139
      ·
        rw [c139] at ha138
        refine wl_val ha138 rfl rfl rfl (op_move ha138 rfl rfl) ?_
        intro a140 ha140; clear ha138 a138
        refine wl_val ha140 rfl rfl rfl (op_move ha140 rfl rfl) ?_
        intro a141 ha141; clear ha140 a140
        refine wl_val ha141 rfl rfl rfl ((op_neq ha141 rfl rfl rfl).to (congrArg Value.bool decide_not)) ?_
        intro a142 ha142; clear ha141 a141
        refine wl_val ha142 rfl rfl rfl (op_pick_f ha142 rfl rfl rfl) ?_
        intro a143 ha143; clear ha142 a142
        refine wpList_nil ?_
        refine then_n ?_
        by_cases c144 : (cdA ((aT)) aHead aA aB aTimes : Int) = (cdA ((aT)) aHead aA aB aTimes : Int)
        ·
          rw [decide_eq_true c144] at ha143
          refine cond_f ha143 rfl ?_
          refine wp_skip ?_
          refine then_n ?_
          refine wp_seq ?_
          refine wp_seq ?_
          refine dr_enter Ext follows_mixed ?_
          intro w145 he146
          have hx147 := hx136.trans' he146
          have hzhx147 := he146.size
          replace hb4 := hb4.ext he146
          replace ho32 := ho32.ext he146
          replace ho34 := ho34.ext he146
          replace hN36 := hN36.ext he146
          replace ho48 := ho48.ext he146
          replace ho50 := ho50.ext he146
          replace hN52 := hN52.ext he146
          replace hb68 := hb68.ext he146
          replace ho77 := ho77.ext he146
          replace ho79 := ho79.ext he146
          replace hN81 := hN81.ext he146
          replace hb94 := hb94.ext he146
          replace ho106 := ho106.ext he146
          replace ho108 := ho108.ext he146
          replace hN110 := hN110.ext he146
          replace hb126 := hb126.ext he146
          have hs148 : Ext w145 w145 := Ext.rfl' _
          refine dr_val (i := 0) ha143 rfl (by kernel_rfl) (by kernel_rfl) (by kernel_rfl) rfl rfl rfl hs148 (fun w' hw' => op_loadS ha143 rfl Try.underlying28 ti28 rfl rfl (hb94.ext hw').cells) ?_
          intro a149 ha149; clear ha143 a143
          refine dr_val (i := 1) ha149 rfl (by kernel_rfl) (by kernel_rfl) (by kernel_rfl) rfl rfl rfl hs148 (fun w' hw' => op_loadS ha149 rfl Try.underlying25 ti25 rfl rfl (hb4.ext hw').cells) ?_
          intro a150 ha150; clear ha149 a149
          refine dr_one (i := 2) (by kernel_rfl) ?_
          refine po_callR ha150 rfl rfl rfl rfl (op_call ha150 rfl cb18 rfl) (c_laws_toTable _ v_aT0 v_aT1 aT (h_aT0.ext pos_shStr (hx147.trans' hs148)) (h_aT1.ext pos_shRow (hx147.trans' hs148)) (by first | assumption | omega | (simp; omega))) ?_
          rintro v151 w152 he153 ⟨u154, u156, z158, rfl, ho155, ho157, hN159, hE160⟩ a161 ha161; clear ha150 a150
          have hs162 := hs148.trans' he153
          have hx163 := hx147.trans' he153
          have hzhx163 := he153.size
          refine ⟨hs162, ?_⟩
          have hlhE160 := absLen hE160
          refine dr_one (i := 3) (by kernel_rfl) ?_
          refine po_callR ha161 rfl rfl rfl rfl (op_call ha161 rfl cb20 rfl) (c_laws_eqTable _ u76 u78 ((aT)) u154 u156 ((aT)) ((ho77.rds pos_shStr).ext pos_shStr hs162) (((rds_shRowN (ho79.fin (by omega) (by omega) (by omega)) hN81).ext pos_shRow hs162).cast hE82) (ho155.rds pos_shStr) ((rds_shRowN (ho157.fin (by omega) (by omega) (by omega)) hN159).cast hE160)) ?_
          rintro v164 w165 he166 rfl a167 ha167; clear ha161 a161
          have hs168 := hs162.trans' he166
          have hx169 := hx163.trans' he166
          have hzhx169 := he166.size
          replace ho155 := ho155.ext he166
          replace ho157 := ho157.ext he166
          replace hN159 := hN159.ext he166
          refine ⟨hs168, ?_⟩
          refine dr_val (i := 4) ha167 rfl (by kernel_rfl) (by kernel_rfl) (by kernel_rfl) rfl rfl rfl hs168 (fun w' hw' => op_not ha167 rfl rfl) ?_
          intro a170 ha170; clear ha167 a167
          refine dr_end (by kernel_rfl) ?_
          replace hb4 := hb4.ext hs168
          replace ho32 := ho32.ext hs168
          replace ho34 := ho34.ext hs168
          replace hN36 := hN36.ext hs168
          replace ho48 := ho48.ext hs168
          replace ho50 := ho50.ext hs168
          replace hN52 := hN52.ext hs168
          replace hb68 := hb68.ext hs168
          replace ho77 := ho77.ext hs168
          replace ho79 := ho79.ext hs168
          replace hN81 := hN81.ext hs168
          replace hb94 := hb94.ext hs168
          replace ho106 := ho106.ext hs168
          replace ho108 := ho108.ext hs168
          replace hN110 := hN110.ext hs168
          replace hb126 := hb126.ext hs168
          refine then_n ?_
          rcases Bool.eq_false_or_eq_true (decide (((aT)) = ((aT)))) with c171 | c171
          ·
            rw [c171] at ha170
            refine cond_f ha170 rfl ?_
            refine wp_skip ?_
            refine then_n ?_
            refine wp_seq ?_
            refine wp_region_lit ?_
            refine wl_val ha170 rfl rfl rfl (op_assign ha170 rfl rfl) ?_
            intro a172 ha172; clear ha170 a170
            refine wpList_nil ?_
            refine then_n ?_
            refine wp_seq ?_
            refine wp_region_lit ?_
            refine wl_val ha172 rfl rfl rfl (op_loadS ha172 rfl Try.underlying28 ti28 rfl rfl hb94.cells) ?_
            intro a173 ha173; clear ha172 a172
            refine wl_val ha173 rfl rfl rfl (op_move ha173 rfl rfl) ?_
            intro a174 ha174; clear ha173 a173
            have hm183 := c_laws_markTable (lo_a := w66.heap.size) (hi_a := w74.heap.size) _ u76 (((aT).1)) u78 z80 (1 : Int) (ho77.fin (by omega) (by omega) (by omega)) (ho79.fin (by omega) (by omega) (by omega)) (hN81.fin (by omega) (by omega)) (by omega) (by (try rw [hE82]); first | assumption | omega | (simp; omega)) (by (try rw [hE82]); first | assumption | omega | (simp; omega)) (by (try rw [hE82]); first | assumption | omega | (simp; omega))
            try rw [hE82] at hm183
            refine wl_callI ha174 rfl rfl rfl (op_call ha174 rfl cb26 rfl) (hm183) ?_
            rintro v175 w176 he177 ⟨z180, rfl, ho178, ho179, hN181, hE182⟩ a184 ha184; clear ha174 a174
            have hx185 := hx169.stpI he177 (by omega)
            have hzhx185 := he177.size
            replace hb4 := hb4.stpI he177 (by omega)
            replace ho32 := ho32.stpI he177 (by omega)
            replace ho34 := ho34.stpI he177 (by omega)
            replace hN36 := hN36.stpI he177 (by omega)
            replace ho48 := ho48.stpI he177 (by omega)
            replace ho50 := ho50.stpI he177 (by omega)
            replace hN52 := hN52.stpI he177 (by omega)
            replace hb68 := hb68.stpI he177 (by omega)
            replace hb94 := hb94.stpI he177 (by omega)
            replace ho106 := ho106.stpI he177 (by omega)
            replace ho108 := ho108.stpI he177 (by omega)
            replace hN110 := hN110.stpI he177 (by omega)
            replace hb126 := hb126.stpI he177 (by omega)
            replace ho155 := ho155.stpI he177 (by omega)
            replace ho157 := ho157.stpI he177 (by omega)
            replace hN159 := hN159.stpI he177 (by omega)
            clear ho77 ho79 hN81
            refine wl_val ha184 rfl rfl rfl (op_assign ha184 rfl rfl) ?_
            intro a186 ha186; clear ha184 a184
            refine wpList_nil ?_
            refine then_n ?_
            refine wp_seq ?_
            refine wp_seq ?_
            refine wp_region_lit ?_
            refine wl_val ha186 rfl rfl rfl (op_move ha186 rfl rfl) ?_
            intro a187 ha187; clear ha186 a186
            refine wl_val ha187 rfl rfl rfl (op_lss ha187 rfl rfl rfl) ?_
            intro a188 ha188; clear ha187 a187
            refine wl_val ha188 rfl rfl rfl (op_move ha188 rfl rfl) ?_
            intro a189 ha189; clear ha188 a188
            by_cases c190 : (kkT ((((aT).1), ((aT).2)) : List Str × List (List Int)) ((1 : Int)) : Int) < (0 : Int)
            ·
              rw [decide_eq_true c190] at ha189
              refine wl_skip ha189 rfl rfl rfl ?_
              intro a191 ha191; clear ha189 a189
              refine wl_skip ha191 rfl rfl rfl ?_
              intro a192 ha192; clear ha191 a191
              refine wl_skip ha192 rfl rfl rfl ?_
              intro a193 ha193; clear ha192 a192
              refine wl_skip ha193 rfl rfl rfl ?_
              intro a194 ha194; clear ha193 a193
              refine wl_val ha194 rfl rfl rfl (op_pick_t ha194 rfl rfl rfl) ?_
              intro a195 ha195; clear ha194 a194
              refine wl_val ha195 rfl rfl rfl (op_move ha195 rfl rfl) ?_
              intro a196 ha196; clear ha195 a195
              refine wl_skip ha196 rfl rfl rfl ?_
              intro a197 ha197; clear ha196 a196
              refine wl_skip ha197 rfl rfl rfl ?_
              intro a198 ha198; clear ha197 a197
              refine wl_skip ha198 rfl rfl rfl ?_
              intro a199 ha199; clear ha198 a198
              refine wl_val ha199 rfl rfl rfl (op_pick_t ha199 rfl rfl rfl) ?_
              intro a200 ha200; clear ha199 a199
              refine wpList_nil ?_
              refine then_n ?_
              refine cond_t ha200 rfl ?_
              refine wp_seq ?_
              refine wp_region_lit ?_
              refine wl_val ha200 rfl rfl rfl (op_assign ha200 rfl rfl) ?_
              intro a201 ha201; clear ha200 a200
              refine wpList_nil ?_
              refine then_n ?_
              refine wp_ret ?_
              refine then_r ?_
              refine ret1 ha201 rfl rfl ?_
              clear ha201 a201
              exact ret_mk hx185 (congrArg Value.bool (by first | rfl | omega | (simp at c171; done) | (simp at c139; done) | (exact absurd rfl c25) | (exact absurd rfl c12)))
            ·
              rw [decide_eq_false c190] at ha189
              refine wl_val ha189 rfl rfl rfl (op_loadS ha189 rfl Try.underlying28 ti28 rfl rfl hb126.cells) ?_
              intro a202 ha202; clear ha189 a189
              refine wl_val ha202 rfl rfl rfl (op_loadS ha202 rfl Try.underlying28 ti28 rfl rfl hb68.cells) ?_
              intro a203 ha203; clear ha202 a202
              refine wl_callR ha203 rfl rfl rfl (op_call ha203 rfl cb20 rfl) (c_laws_eqTable _ u105 u107 ((acT ((aT)) aHead aA aB aTimes)) u47 u49 ((acT ((aT)) aHead aA aB aTimes)) (ho106.rds pos_shStr) ((rds_shRowN (ho108.fin (by omega) (by omega) (by omega)) hN110).cast hE111) (ho48.rds pos_shStr) ((rds_shRowN (ho50.fin (by omega) (by omega) (by omega)) hN52).cast hE53)) ?_
              rintro v204 w205 he206 rfl a207 ha207; clear ha203 a203
              have hx208 := hx185.trans' he206
              have hzhx208 := he206.size
              replace hb4 := hb4.ext he206
              replace ho32 := ho32.ext he206
              replace ho34 := ho34.ext he206
              replace hN36 := hN36.ext he206
              replace ho48 := ho48.ext he206
              replace ho50 := ho50.ext he206
              replace hN52 := hN52.ext he206
              replace hb68 := hb68.ext he206
              replace hb94 := hb94.ext he206
              replace ho106 := ho106.ext he206
              replace ho108 := ho108.ext he206
              replace hN110 := hN110.ext he206
              replace hb126 := hb126.ext he206
              replace ho155 := ho155.ext he206
              replace ho157 := ho157.ext he206
              replace hN159 := hN159.ext he206
              replace ho178 := ho178.ext he206
              replace ho179 := ho179.ext he206
              replace hN181 := hN181.ext he206
              refine wl_val ha207 rfl rfl rfl (op_not ha207 rfl rfl) ?_
              intro a209 ha209; clear ha207 a207
              refine wl_val ha209 rfl rfl rfl (op_pick_f ha209 rfl rfl rfl) ?_
              intro a210 ha210; clear ha209 a209
              refine wl_val ha210 rfl rfl rfl (op_move ha210 rfl rfl) ?_
              intro a211 ha211; clear ha210 a210
              rw [c139] at ha211
              refine wl_val ha211 rfl rfl rfl (op_move ha211 rfl rfl) ?_
              intro a212 ha212; clear ha211 a211
              refine wl_val ha212 rfl rfl rfl (op_move ha212 rfl rfl) ?_
              intro a213 ha213; clear ha212 a212
              refine wl_val ha213 rfl rfl rfl ((op_neq ha213 rfl rfl rfl).to (congrArg Value.bool decide_not)) ?_
              intro a214 ha214; clear ha213 a213
              refine wl_val ha214 rfl rfl rfl (op_pick_f ha214 rfl rfl rfl) ?_
              intro a215 ha215; clear ha214 a214
              refine wpList_nil ?_
              refine then_n ?_
              rw [decide_eq_true c144] at ha215
              refine cond_f ha215 rfl ?_
              refine wp_skip ?_
              refine then_n ?_
              refine wp_seq ?_
              refine wp_region_lit ?_
              refine wl_val ha215 rfl rfl rfl (op_assign ha215 rfl rfl) ?_
              intro a216 ha216; clear ha215 a215
              refine wpList_nil ?_
              refine then_n ?_
              refine wp_seq ?_
              refine wp_region_lit ?_
              refine wl_val ha216 rfl rfl rfl (op_loadS ha216 rfl Try.underlying28 ti28 rfl rfl hb126.cells) ?_
              intro a217 ha217; clear ha216 a216
              refine wl_val ha217 rfl rfl rfl (op_move ha217 rfl rfl) ?_
              intro a218 ha218; clear ha217 a217
              have hm227 := c_laws_markTable (lo_a := w92.heap.size) (hi_a := w103.heap.size) _ u105 (((acT ((aT)) aHead aA aB aTimes).1)) u107 z109 (1 : Int) (ho106.fin (by omega) (by omega) (by omega)) (ho108.fin (by omega) (by omega) (by omega)) (hN110.fin (by omega) (by omega)) (by omega) (by (try rw [hE111]); first | assumption | omega | (simp; omega)) (by (try rw [hE111]); first | assumption | omega | (simp; omega)) (by (try rw [hE111]); first | assumption | omega | (simp; omega))
              try rw [hE111] at hm227
              refine wl_callI ha218 rfl rfl rfl (op_call ha218 rfl cb26 rfl) (hm227) ?_
              rintro v219 w220 he221 ⟨z224, rfl, ho222, ho223, hN225, hE226⟩ a228 ha228; clear ha218 a218
              have hx229 := hx208.stpI he221 (by omega)
              have hzhx229 := he221.size
              replace hb4 := hb4.stpI he221 (by omega)
              replace ho32 := ho32.stpI he221 (by omega)
              replace ho34 := ho34.stpI he221 (by omega)
              replace hN36 := hN36.stpI he221 (by omega)
              replace ho48 := ho48.stpI he221 (by omega)
              replace ho50 := ho50.stpI he221 (by omega)
              replace hN52 := hN52.stpI he221 (by omega)
              replace hb68 := hb68.stpI he221 (by omega)
              replace hb94 := hb94.stpI he221 (by omega)
              replace hb126 := hb126.stpI he221 (by omega)
              replace ho155 := ho155.stpI he221 (by omega)
              replace ho157 := ho157.stpI he221 (by omega)
              replace hN159 := hN159.stpI he221 (by omega)
              replace ho178 := ho178.stpI he221 (by omega)
              replace ho179 := ho179.stpI he221 (by omega)
              replace hN181 := hN181.stpI he221 (by omega)
              clear ho106 ho108 hN110
              refine wl_val ha228 rfl rfl rfl (op_assign ha228 rfl rfl) ?_
              intro a230 ha230; clear ha228 a228
              refine wpList_nil ?_
              refine then_n ?_
              refine wp_seq ?_
              refine wp_region_lit ?_
              refine wl_val ha230 rfl rfl rfl (op_assign ha230 rfl rfl) ?_
              intro a231 ha231; clear ha230 a230
              refine wpList_nil ?_
              refine then_n ?_
              refine wp_seq ?_
              refine wp_region_lit ?_
              refine wl_val ha231 rfl rfl rfl (op_loadS ha231 rfl Try.underlying28 ti28 rfl rfl hb126.cells) ?_
              intro a232 ha232; clear ha231 a231
              refine wl_val ha232 rfl rfl rfl (op_move ha232 rfl rfl) ?_
              intro a233 ha233; clear ha232 a232
              refine wl_callR ha233 rfl rfl rfl (op_call ha233 rfl cb36 rfl) (c_laws_heldTable _ u105 u107 ((mkT2 ((((acT ((aT)) aHead aA aB aTimes).1), ((acT ((aT)) aHead aA aB aTimes).2)) : List Str × List (List Int)) ((1 : Int)))) (1 : Int) (ho222.rds pos_shStr) ((rds_shRowN (ho223.fin (by omega) (by omega) (by omega)) hN225).cast hE226) (by first | assumption | omega | (simp; omega)) (by first | assumption | omega | (simp; omega) | (simp [kk_mkT]; omega))) ?_
              rintro v234 w235 he236 rfl a237 ha237; clear ha233 a233
              have hx238 := hx229.trans' he236
              have hzhx238 := he236.size
              replace hb4 := hb4.ext he236
              replace ho32 := ho32.ext he236
              replace ho34 := ho34.ext he236
              replace hN36 := hN36.ext he236
              replace ho48 := ho48.ext he236
              replace ho50 := ho50.ext he236
              replace hN52 := hN52.ext he236
              replace hb68 := hb68.ext he236
              replace hb94 := hb94.ext he236
              replace hb126 := hb126.ext he236
              replace ho155 := ho155.ext he236
              replace ho157 := ho157.ext he236
              replace hN159 := hN159.ext he236
              replace ho178 := ho178.ext he236
              replace ho179 := ho179.ext he236
              replace hN181 := hN181.ext he236
              replace ho222 := ho222.ext he236
              replace ho223 := ho223.ext he236
              replace hN225 := hN225.ext he236
              refine wl_val ha237 rfl rfl rfl (op_assign ha237 rfl rfl) ?_
              intro a239 ha239; clear ha237 a237
              refine wpList_nil ?_
              refine then_n ?_
              refine wp_seq ?_
              refine wp_seq ?_
              refine wp_region_lit ?_
              refine wl_val ha239 rfl rfl rfl (op_move ha239 rfl rfl) ?_
              intro a240 ha240; clear ha239 a239
              refine wl_val ha240 rfl rfl rfl (op_lss ha240 rfl rfl rfl) ?_
              intro a241 ha241; clear ha240 a240
              refine wpList_nil ?_
              refine then_n ?_
              by_cases c242 : (heldT ((mkT2 ((((acT ((aT)) aHead aA aB aTimes).1), ((acT ((aT)) aHead aA aB aTimes).2)) : List Str × List (List Int)) ((1 : Int)))) (1 : Int) : Int) < (0 : Int)
              ·
                rw [decide_eq_true c242] at ha241
                refine cond_t ha241 rfl ?_
                refine wp_seq ?_
                refine wp_region_lit ?_
                refine wl_val ha241 rfl rfl rfl (op_assign ha241 rfl rfl) ?_
                intro a243 ha243; clear ha241 a241
                refine wpList_nil ?_
                refine then_n ?_
                refine wp_ret ?_
                refine then_r ?_
                refine ret1 ha243 rfl rfl ?_
                clear ha243 a243
                exact ret_mk hx238 (congrArg Value.bool (by first | rfl | omega | (simp [held_mkT] at c242; done) | (simp [held_mkT] at c242; omega) | (exact absurd rfl c190) | (simp at c171; done) | (simp at c139; done) | (exact absurd rfl c25) | (exact absurd rfl c12)))
              ·
                rw [decide_eq_false c242] at ha241
                refine cond_f ha241 rfl ?_
                refine wp_skip ?_
                refine then_n ?_
                refine wp_seq ?_
                refine wp_seq ?_
                refine wp_region_lit ?_
                refine wl_val ha241 rfl rfl rfl (op_move ha241 rfl rfl) ?_
                intro a244 ha244; clear ha241 a241
                refine wl_val ha244 rfl rfl rfl (op_move ha244 rfl rfl) ?_
                intro a245 ha245; clear ha244 a244
                refine wl_val ha245 rfl rfl rfl ((op_neq ha245 rfl rfl rfl).to (congrArg Value.bool decide_not)) ?_
                intro a246 ha246; clear ha245 a245
                refine wpList_nil ?_
                refine then_n ?_
                by_cases c247 : (heldT ((mkT2 ((((acT ((aT)) aHead aA aB aTimes).1), ((acT ((aT)) aHead aA aB aTimes).2)) : List Str × List (List Int)) ((1 : Int)))) (1 : Int) : Int) = (kkT ((((acT ((aT)) aHead aA aB aTimes).1), ((acT ((aT)) aHead aA aB aTimes).2)) : List Str × List (List Int)) ((1 : Int)) : Int)
                ·
                  rw [decide_eq_true c247] at ha246
                  refine cond_f ha246 rfl ?_
                  refine wp_skip ?_
                  refine then_n ?_
                  refine wp_seq ?_
                  refine wp_region_lit ?_
                  refine wl_val ha246 rfl rfl rfl (op_loadS ha246 rfl Try.underlying25 ti25 rfl rfl hb4.cells) ?_
                  intro a248 ha248; clear ha246 a246
                  refine wl_callR ha248 rfl rfl rfl (op_call ha248 rfl cb18 rfl) (c_laws_toTable _ v_aT0 v_aT1 aT (h_aT0.ext pos_shStr hx238) (h_aT1.ext pos_shRow hx238) (by first | assumption | omega | (simp; omega))) ?_
                  rintro v249 w250 he251 ⟨u252, u254, z256, rfl, ho253, ho255, hN257, hE258⟩ a259 ha259; clear ha248 a248
                  have hx260 := hx238.trans' he251
                  have hzhx260 := he251.size
                  replace hb4 := hb4.ext he251
                  replace ho32 := ho32.ext he251
                  replace ho34 := ho34.ext he251
                  replace hN36 := hN36.ext he251
                  replace ho48 := ho48.ext he251
                  replace ho50 := ho50.ext he251
                  replace hN52 := hN52.ext he251
                  replace hb68 := hb68.ext he251
                  replace hb94 := hb94.ext he251
                  replace hb126 := hb126.ext he251
                  replace ho155 := ho155.ext he251
                  replace ho157 := ho157.ext he251
                  replace hN159 := hN159.ext he251
                  replace ho178 := ho178.ext he251
                  replace ho179 := ho179.ext he251
                  replace hN181 := hN181.ext he251
                  replace ho222 := ho222.ext he251
                  replace ho223 := ho223.ext he251
                  replace hN225 := hN225.ext he251
                  have hlhE258 := absLen hE258
                  refine wl_val ha259 rfl rfl rfl (op_move ha259 rfl rfl) ?_
                  intro a261 ha261; clear ha259 a259
                  refine wl_val ha261 rfl rfl rfl (op_move ha261 rfl rfl) ?_
                  intro a262 ha262; clear ha261 a261
                  refine wl_val ha262 rfl rfl rfl (op_move ha262 rfl rfl) ?_
                  intro a263 ha263; clear ha262 a262
                  refine wl_val ha263 rfl rfl rfl (op_move ha263 rfl rfl) ?_
                  intro a264 ha264; clear ha263 a263
                  refine wl_callR ha264 rfl rfl rfl (op_call ha264 rfl cb49 rfl) (c_impl_AddColumn _ u252 u254 ((aT)) aHead aA aB aTimes (ho253.rds pos_shStr) ((rds_shRowN (ho255.fin (by omega) (by omega) (by omega)) hN257).cast hE258) (by first | assumption | omega | (simp; omega))) ?_
                  rintro v265 w266 he267 ⟨u268, u270, z272, rfl, ho269, ho271, hN273, hE274⟩ a275 ha275; clear ha264 a264
                  have hx276 := hx260.trans' he267
                  have hzhx276 := he267.size
                  replace hb4 := hb4.ext he267
                  replace ho32 := ho32.ext he267
                  replace ho34 := ho34.ext he267
                  replace hN36 := hN36.ext he267
                  replace ho48 := ho48.ext he267
                  replace ho50 := ho50.ext he267
                  replace hN52 := hN52.ext he267
                  replace hb68 := hb68.ext he267
                  replace hb94 := hb94.ext he267
                  replace hb126 := hb126.ext he267
                  replace ho155 := ho155.ext he267
                  replace ho157 := ho157.ext he267
                  replace hN159 := hN159.ext he267
                  replace ho178 := ho178.ext he267
                  replace ho179 := ho179.ext he267
                  replace hN181 := hN181.ext he267
                  replace ho222 := ho222.ext he267
                  replace ho223 := ho223.ext he267
                  replace hN225 := hN225.ext he267
                  replace ho253 := ho253.ext he267
                  replace ho255 := ho255.ext he267
                  replace hN257 := hN257.ext he267
                  have hlhE274 := absLen hE274
                  refine wl_val ha275 rfl rfl rfl (op_move ha275 rfl rfl) ?_
                  intro a277 ha277; clear ha275 a275
                  refine wl_val ha277 rfl rfl rfl (op_extract ha277 rfl rfl rfl) ?_
                  intro a278 ha278; clear ha277 a277
                  refine wl_val ha278 rfl rfl rfl (op_extract ha278 rfl rfl rfl) ?_
                  intro a279 ha279; clear ha278 a278
                  refine wl_eff ha279 rfl rfl rfl (op_alloc' rfl ti28 rfl) ?_
                  rintro _ w281 ⟨rfl, he282, hb283, hz284⟩ a285 ha285; clear ha279 a279
                  have hx286 := hx276.trans' he282
                  have hzhx286 := he282.size
                  replace hb4 := hb4.ext he282
                  replace ho32 := ho32.ext he282
                  replace ho34 := ho34.ext he282
                  replace hN36 := hN36.ext he282
                  replace ho48 := ho48.ext he282
                  replace ho50 := ho50.ext he282
                  replace hN52 := hN52.ext he282
                  replace hb68 := hb68.ext he282
                  replace hb94 := hb94.ext he282
                  replace hb126 := hb126.ext he282
                  replace ho155 := ho155.ext he282
                  replace ho157 := ho157.ext he282
                  replace hN159 := hN159.ext he282
                  replace ho178 := ho178.ext he282
                  replace ho179 := ho179.ext he282
                  replace hN181 := hN181.ext he282
                  replace ho222 := ho222.ext he282
                  replace ho223 := ho223.ext he282
                  replace hN225 := hN225.ext he282
                  replace ho253 := ho253.ext he282
                  replace ho255 := ho255.ext he282
                  replace hN257 := hN257.ext he282
                  replace ho269 := ho269.ext he282
                  replace ho271 := ho271.ext he282
                  replace hN273 := hN273.ext he282
                  refine wl_effS ha285 rfl rfl (op_storeAll' ha285 rfl ti28 rfl rfl hb283 rfl rfl (by intro u hu; have hu : u ∈ ([u268, u270] : List Value) := hu; simp only [List.mem_cons, List.mem_nil_iff, or_false] at hu; rcases hu with rfl | rfl <;> first | rfl | exact ho269.one | exact ho271.one) rfl) ?_
                  rintro w287 ⟨hb289, hst288, hz290⟩
                  have hx291 := hx286.stp hst288 (by intro q hq; cases hq; exact (by omega))
                  have hzhx291 := hst288.size
                  replace hb4 := hb4.stp hst288 (by intro q hq; cases hq; omega)
                  replace ho32 : Own shStr 9 w18.heap.size w18.heap.size w29.heap.size w287 u31 (((aT).1)) := by first | exact ho32.stp hst288 (by intro q hq; cases hq; omega) | exact ho32.stpF flat_shStr hst288 (by intro q hq; cases hq; exact ho32.ne_box (by assumption) rfl)
                  replace ho34 : Own shRowN 41 w18.heap.size w18.heap.size w29.heap.size w287 u33 z35 := by first | exact ho34.stp hst288 (by intro q hq; cases hq; omega) | exact ho34.stpF flat_shRowN hst288 (by intro q hq; cases hq; exact ho34.ne_box (by assumption) rfl)
                  replace hN36 : Nst shI64 2 (fun x : List Int => x) w18.heap.size w29.heap.size w287 z35 := by first | exact hN36.stp hst288 (by intro q hq; cases hq; omega) | exact hN36.stpB flat_shI64 hst288 (by assumption) rfl
                  replace ho48 : Own shStr 9 w29.heap.size w29.heap.size w45.heap.size w287 u47 (((acT ((aT)) aHead aA aB aTimes).1)) := by first | exact ho48.stp hst288 (by intro q hq; cases hq; omega) | exact ho48.stpF flat_shStr hst288 (by intro q hq; cases hq; exact ho48.ne_box (by assumption) rfl)
                  replace ho50 : Own shRowN 41 w29.heap.size w29.heap.size w45.heap.size w287 u49 z51 := by first | exact ho50.stp hst288 (by intro q hq; cases hq; omega) | exact ho50.stpF flat_shRowN hst288 (by intro q hq; cases hq; exact ho50.ne_box (by assumption) rfl)
                  replace hN52 : Nst shI64 2 (fun x : List Int => x) w29.heap.size w45.heap.size w287 z51 := by first | exact hN52.stp hst288 (by intro q hq; cases hq; omega) | exact hN52.stpB flat_shI64 hst288 (by assumption) rfl
                  replace hb68 := hb68.stp hst288 (by intro q hq; cases hq; omega)
                  replace hb94 := hb94.stp hst288 (by intro q hq; cases hq; omega)
                  replace hb126 := hb126.stp hst288 (by intro q hq; cases hq; omega)
                  replace ho155 : Own shStr 9 w145.heap.size w145.heap.size w152.heap.size w287 u154 (((aT).1)) := by first | exact ho155.stp hst288 (by intro q hq; cases hq; omega) | exact ho155.stpF flat_shStr hst288 (by intro q hq; cases hq; exact ho155.ne_box (by assumption) rfl)
                  replace ho157 : Own shRowN 41 w145.heap.size w145.heap.size w152.heap.size w287 u156 z158 := by first | exact ho157.stp hst288 (by intro q hq; cases hq; omega) | exact ho157.stpF flat_shRowN hst288 (by intro q hq; cases hq; exact ho157.ne_box (by assumption) rfl)
                  replace hN159 : Nst shI64 2 (fun x : List Int => x) w145.heap.size w152.heap.size w287 z158 := by first | exact hN159.stp hst288 (by intro q hq; cases hq; omega) | exact hN159.stpB flat_shI64 hst288 (by assumption) rfl
                  replace ho178 : Own shStr 9 w66.heap.size w66.heap.size w74.heap.size w287 u76 ((mkN mkS 1 ((((aT).1), ((aT).2)) : List Str × List (List Int)).1.length ((1 : Int)))) := by first | exact ho178.stp hst288 (by intro q hq; cases hq; omega) | exact ho178.stpF flat_shStr hst288 (by intro q hq; cases hq; exact ho178.ne_box (by assumption) rfl)
                  replace ho179 : Own shRowN 41 w66.heap.size w66.heap.size w74.heap.size w287 u78 z180 := by first | exact ho179.stp hst288 (by intro q hq; cases hq; omega) | exact ho179.stpF flat_shRowN hst288 (by intro q hq; cases hq; exact ho179.ne_box (by assumption) rfl)
                  replace hN181 : Nst shI64 2 (fun x : List Int => x) w66.heap.size w74.heap.size w287 z180 := by first | exact hN181.stp hst288 (by intro q hq; cases hq; omega) | exact hN181.stpB flat_shI64 hst288 (by assumption) rfl
                  replace ho222 : Own shStr 9 w92.heap.size w92.heap.size w103.heap.size w287 u105 ((mkN mkS 1 ((((acT ((aT)) aHead aA aB aTimes).1), ((acT ((aT)) aHead aA aB aTimes).2)) : List Str × List (List Int)).1.length ((1 : Int)))) := by first | exact ho222.stp hst288 (by intro q hq; cases hq; omega) | exact ho222.stpF flat_shStr hst288 (by intro q hq; cases hq; exact ho222.ne_box (by assumption) rfl)
                  replace ho223 : Own shRowN 41 w92.heap.size w92.heap.size w103.heap.size w287 u107 z224 := by first | exact ho223.stp hst288 (by intro q hq; cases hq; omega) | exact ho223.stpF flat_shRowN hst288 (by intro q hq; cases hq; exact ho223.ne_box (by assumption) rfl)
                  replace hN225 : Nst shI64 2 (fun x : List Int => x) w92.heap.size w103.heap.size w287 z224 := by first | exact hN225.stp hst288 (by intro q hq; cases hq; omega) | exact hN225.stpB flat_shI64 hst288 (by assumption) rfl
                  replace ho253 : Own shStr 9 w235.heap.size w235.heap.size w250.heap.size w287 u252 (((aT).1)) := by first | exact ho253.stp hst288 (by intro q hq; cases hq; omega) | exact ho253.stpF flat_shStr hst288 (by intro q hq; cases hq; exact ho253.ne_box (by assumption) rfl)
                  replace ho255 : Own shRowN 41 w235.heap.size w235.heap.size w250.heap.size w287 u254 z256 := by first | exact ho255.stp hst288 (by intro q hq; cases hq; omega) | exact ho255.stpF flat_shRowN hst288 (by intro q hq; cases hq; exact ho255.ne_box (by assumption) rfl)
                  replace hN257 : Nst shI64 2 (fun x : List Int => x) w235.heap.size w250.heap.size w287 z256 := by first | exact hN257.stp hst288 (by intro q hq; cases hq; omega) | exact hN257.stpB flat_shI64 hst288 (by assumption) rfl
                  replace ho269 : Own shStr 9 w250.heap.size w250.heap.size w266.heap.size w287 u268 (((acT ((aT)) aHead aA aB aTimes).1)) := by first | exact ho269.stp hst288 (by intro q hq; cases hq; omega) | exact ho269.stpF flat_shStr hst288 (by intro q hq; cases hq; exact ho269.ne_box (by assumption) rfl)
                  replace ho271 : Own shRowN 41 w250.heap.size w250.heap.size w266.heap.size w287 u270 z272 := by first | exact ho271.stp hst288 (by intro q hq; cases hq; omega) | exact ho271.stpF flat_shRowN hst288 (by intro q hq; cases hq; exact ho271.ne_box (by assumption) rfl)
                  replace hN273 : Nst shI64 2 (fun x : List Int => x) w250.heap.size w266.heap.size w287 z272 := by first | exact hN273.stp hst288 (by intro q hq; cases hq; omega) | exact hN273.stpB flat_shI64 hst288 (by assumption) rfl
                  clear hb283
                  refine wl_val ha285 rfl rfl rfl (op_assign ha285 rfl rfl) ?_
                  intro a292 ha292; clear ha285 a285
                  refine wpList_nil ?_
                  refine then_n ?_
                  refine wp_seq ?_
                  refine wp_seq ?_
                  refine wp_region_lit ?_
                  refine wl_val ha292 rfl rfl rfl (op_loadS ha292 rfl Try.underlying28 ti28 rfl rfl hb289.cells) ?_
                  intro a293 ha293; clear ha292 a292
                  refine wl_val ha293 rfl rfl rfl (op_loadS ha293 rfl Try.underlying28 ti28 rfl rfl hb68.cells) ?_
                  intro a294 ha294; clear ha293 a293
                  refine wl_callR ha294 rfl rfl rfl (op_call ha294 rfl cb20 rfl) (c_laws_eqTable _ u268 u270 ((acT ((aT)) aHead aA aB aTimes)) u47 u49 ((acT ((aT)) aHead aA aB aTimes)) (ho269.rds pos_shStr) ((rds_shRowN (ho271.fin (by omega) (by omega) (by omega)) hN273).cast hE274) (ho48.rds pos_shStr) ((rds_shRowN (ho50.fin (by omega) (by omega) (by omega)) hN52).cast hE53)) ?_
                  rintro v295 w296 he297 rfl a298 ha298; clear ha294 a294
                  have hx299 := hx291.trans' he297
                  have hzhx299 := he297.size
                  replace hb4 := hb4.ext he297
                  replace ho32 := ho32.ext he297
                  replace ho34 := ho34.ext he297
                  replace hN36 := hN36.ext he297
                  replace ho48 := ho48.ext he297
                  replace ho50 := ho50.ext he297
                  replace hN52 := hN52.ext he297
                  replace hb68 := hb68.ext he297
                  replace hb94 := hb94.ext he297
                  replace hb126 := hb126.ext he297
                  replace ho155 := ho155.ext he297
                  replace ho157 := ho157.ext he297
                  replace hN159 := hN159.ext he297
                  replace ho178 := ho178.ext he297
                  replace ho179 := ho179.ext he297
                  replace hN181 := hN181.ext he297
                  replace ho222 := ho222.ext he297
                  replace ho223 := ho223.ext he297
                  replace hN225 := hN225.ext he297
                  replace ho253 := ho253.ext he297
                  replace ho255 := ho255.ext he297
                  replace hN257 := hN257.ext he297
                  replace ho269 := ho269.ext he297
                  replace ho271 := ho271.ext he297
                  replace hN273 := hN273.ext he297
                  replace hb289 := hb289.ext he297
                  refine wl_val ha298 rfl rfl rfl (op_not ha298 rfl rfl) ?_
                  intro a300 ha300; clear ha298 a298
                  refine wl_val ha300 rfl rfl rfl (op_move ha300 rfl rfl) ?_
                  intro a301 ha301; clear ha300 a300
                  rw [c139] at ha301
                  refine wl_val ha301 rfl rfl rfl (op_move ha301 rfl rfl) ?_
                  intro a302 ha302; clear ha301 a301
                  refine wl_val ha302 rfl rfl rfl (op_move ha302 rfl rfl) ?_
                  intro a303 ha303; clear ha302 a302
                  refine wl_val ha303 rfl rfl rfl ((op_neq ha303 rfl rfl rfl).to (congrArg Value.bool decide_not)) ?_
                  intro a304 ha304; clear ha303 a303
                  refine wl_val ha304 rfl rfl rfl (op_pick_f ha304 rfl rfl rfl) ?_
                  intro a305 ha305; clear ha304 a304
                  refine wpList_nil ?_
                  refine then_n ?_
                  rw [decide_eq_true c144] at ha305
                  refine cond_f ha305 rfl ?_
                  refine wp_skip ?_
                  refine then_n ?_
                  refine wp_seq ?_
                  refine wp_region_lit ?_
                  refine wl_val ha305 rfl rfl rfl (op_assign ha305 rfl rfl) ?_
                  intro a306 ha306; clear ha305 a305
                  refine wpList_nil ?_
                  refine then_n ?_
                  refine wp_seq ?_
                  refine wp_region_lit ?_
                  refine wl_val ha306 rfl rfl rfl (op_loadS ha306 rfl Try.underlying28 ti28 rfl rfl hb126.cells) ?_
                  intro a307 ha307; clear ha306 a306
                  refine wl_val ha307 rfl rfl rfl (op_move ha307 rfl rfl) ?_
                  intro a308 ha308; clear ha307 a307
                  refine wl_callR ha308 rfl rfl rfl (op_call ha308 rfl cb36 rfl) (c_laws_heldTable _ u105 u107 ((mkT2 ((((acT ((aT)) aHead aA aB aTimes).1), ((acT ((aT)) aHead aA aB aTimes).2)) : List Str × List (List Int)) ((1 : Int)))) (1 : Int) (ho222.rds pos_shStr) ((rds_shRowN (ho223.fin (by omega) (by omega) (by omega)) hN225).cast hE226) (by first | assumption | omega | (simp; omega)) (by first | assumption | omega | (simp; omega) | (simp [kk_mkT]; omega))) ?_
                  rintro v309 w310 he311 rfl a312 ha312; clear ha308 a308
                  have hx313 := hx299.trans' he311
                  have hzhx313 := he311.size
                  replace hb4 := hb4.ext he311
                  replace ho32 := ho32.ext he311
                  replace ho34 := ho34.ext he311
                  replace hN36 := hN36.ext he311
                  replace ho48 := ho48.ext he311
                  replace ho50 := ho50.ext he311
                  replace hN52 := hN52.ext he311
                  replace hb68 := hb68.ext he311
                  replace hb94 := hb94.ext he311
                  replace hb126 := hb126.ext he311
                  replace ho155 := ho155.ext he311
                  replace ho157 := ho157.ext he311
                  replace hN159 := hN159.ext he311
                  replace ho178 := ho178.ext he311
                  replace ho179 := ho179.ext he311
                  replace hN181 := hN181.ext he311
                  replace ho222 := ho222.ext he311
                  replace ho223 := ho223.ext he311
                  replace hN225 := hN225.ext he311
                  replace ho253 := ho253.ext he311
                  replace ho255 := ho255.ext he311
                  replace hN257 := hN257.ext he311
                  replace ho269 := ho269.ext he311
                  replace ho271 := ho271.ext he311
                  replace hN273 := hN273.ext he311
                  replace hb289 := hb289.ext he311
                  refine wl_val ha312 rfl rfl rfl (op_assign ha312 rfl rfl) ?_
                  intro a314 ha314; clear ha312 a312
                  refine wpList_nil ?_
                  refine then_n ?_
                  refine wp_seq ?_
                  refine wp_seq ?_
                  refine wp_region_lit ?_
                  refine wl_val ha314 rfl rfl rfl (op_move ha314 rfl rfl) ?_
                  intro a315 ha315; clear ha314 a314
                  refine wl_val ha315 rfl rfl rfl (op_lss ha315 rfl rfl rfl) ?_
                  intro a316 ha316; clear ha315 a315
                  refine wpList_nil ?_
                  refine then_n ?_
                  rw [decide_eq_false c242] at ha316
                  refine cond_f ha316 rfl ?_
                  refine wp_skip ?_
                  refine then_n ?_
                  refine wp_seq ?_
                  refine wp_seq ?_
                  refine wp_region_lit ?_
                  refine wl_val ha316 rfl rfl rfl (op_move ha316 rfl rfl) ?_
                  intro a317 ha317; clear ha316 a316
                  refine wl_val ha317 rfl rfl rfl (op_move ha317 rfl rfl) ?_
                  intro a318 ha318; clear ha317 a317
                  refine wl_val ha318 rfl rfl rfl ((op_neq ha318 rfl rfl rfl).to (congrArg Value.bool decide_not)) ?_
                  intro a319 ha319; clear ha318 a318
                  refine wpList_nil ?_
                  refine then_n ?_
                  rw [decide_eq_true c247] at ha319
                  refine cond_f ha319 rfl ?_
                  refine wp_skip ?_
                  refine then_n ?_
                  refine wp_seq ?_
                  refine wp_region_lit ?_
                  refine wl_val ha319 rfl rfl rfl (op_assign ha319 rfl rfl) ?_
                  intro a320 ha320; clear ha319 a319
                  refine wpList_nil ?_
                  refine then_n ?_
                  refine wp_ret ?_
                  refine ret1 ha320 rfl rfl ?_
                  clear ha320 a320
                  exact ret_mk hx313 (congrArg Value.bool (by first | rfl | omega | (simp [held_mkT] at c247; done) | (simp [held_mkT] at c247; omega) | (simp [held_mkT] at c242; done) | (simp [held_mkT] at c242; omega) | (exact absurd rfl c242) | (exact absurd rfl c190) | (simp at c171; done) | (simp at c139; done) | (exact absurd rfl c25) | (exact absurd rfl c12)))
                ·
                  rw [decide_eq_false c247] at ha246
                  refine cond_t ha246 rfl ?_
                  refine wp_seq ?_
                  refine wp_region_lit ?_
                  refine wl_val ha246 rfl rfl rfl (op_assign ha246 rfl rfl) ?_
                  intro a321 ha321; clear ha246 a246
                  refine wpList_nil ?_
                  refine then_n ?_
                  refine wp_ret ?_
                  refine then_r ?_
                  refine ret1 ha321 rfl rfl ?_
                  clear ha321 a321
                  exact ret_mk hx238 (congrArg Value.bool (by first | rfl | omega | (simp [held_mkT] at c247; done) | (simp [held_mkT] at c247; omega) | (simp [held_mkT] at c242; done) | (simp [held_mkT] at c242; omega) | (exact absurd rfl c247) | (exact absurd rfl c242) | (exact absurd rfl c190) | (simp at c171; done) | (simp at c139; done) | (exact absurd rfl c25) | (exact absurd rfl c12)))
          ·
            rw [c171] at ha170
            refine cond_t ha170 rfl ?_
            refine wp_seq ?_
            refine wp_region_lit ?_
            refine wl_val ha170 rfl rfl rfl (op_assign ha170 rfl rfl) ?_
            intro a322 ha322; clear ha170 a170
            refine wpList_nil ?_
            refine then_n ?_
            refine wp_ret ?_
            refine then_r ?_
            refine ret1 ha322 rfl rfl ?_
            clear ha322 a322
            exact ret_mk hx169 (congrArg Value.bool (by first | rfl | omega | (exact absurd rfl c171) | (simp at c171; done) | (simp at c139; done) | (exact absurd rfl c25) | (exact absurd rfl c12)))
        ·
          rw [decide_eq_false c144] at ha143
          refine cond_t ha143 rfl ?_
          refine wp_seq ?_
          refine wp_region_lit ?_
          refine wl_val ha143 rfl rfl rfl (op_assign ha143 rfl rfl) ?_
          intro a323 ha323; clear ha143 a143
          refine wpList_nil ?_
          refine then_n ?_
          refine wp_ret ?_
          refine then_r ?_
          refine ret1 ha323 rfl rfl ?_
          clear ha323 a323
          exact ret_mk hx136 (congrArg Value.bool (by first | rfl | omega | (exact absurd rfl c144) | (simp at c139; done) | (exact absurd rfl c25) | (exact absurd rfl c12)))
      ·
        rw [c139] at ha138
        refine wl_skip ha138 rfl rfl rfl ?_
        intro a324 ha324; clear ha138 a138
        refine wl_skip ha324 rfl rfl rfl ?_
        intro a325 ha325; clear ha324 a324
        refine wl_skip ha325 rfl rfl rfl ?_
        intro a326 ha326; clear ha325 a325
        refine wl_val ha326 rfl rfl rfl (op_pick_t ha326 rfl rfl rfl) ?_
        intro a327 ha327; clear ha326 a326
        refine wpList_nil ?_
        refine then_n ?_
        refine cond_t ha327 rfl ?_
        refine wp_seq ?_
        refine wp_region_lit ?_
        refine wl_val ha327 rfl rfl rfl (op_assign ha327 rfl rfl) ?_
        intro a328 ha328; clear ha327 a327
        refine wpList_nil ?_
        refine then_n ?_
        refine wp_ret ?_
        refine then_r ?_
        refine ret1 ha328 rfl rfl ?_
        clear ha328 a328
        exact ret_mk hx136 (congrArg Value.bool (by first | rfl | omega | (exact absurd rfl c139) | (simp at c139; done) | (exact absurd rfl c25) | (exact absurd rfl c12)))


end Go.Proofs.Ytjpldgicibnkcaa
