/- The law JoinTables, walked. -/
import Derived.Test.YtjpldgicibnkcaaW13
import Derived.Test.YtjpldgicibnkcaaL3
namespace Go.Proofs.Ytjpldgicibnkcaa
open Go Go.RowKit

theorem sumC_bd {α : Type} {c : α → Nat} {B : Nat} : ∀ {xs : List α}, (∀ x ∈ xs, c x ≤ B) → sumC c xs ≤ B * xs.length
  | [], _ => Nat.zero_le _
  | x :: xs, h => by
    have h1 := h x (by simp)
    have h2 := sumC_bd (xs := xs) (c := c) (B := B) fun y hy => h y (by simp [hy])
    rw [List.length_cons, Nat.mul_add, sumC]; omega
theorem tab_cost {t : Tab} (h : tabB t = true) : costT t ≤ 1000 := by
  have hb := tab_bd h
  have h1 := sumC_bd (c := costS) (B := 16) (xs := t.1) fun x hx => by have := wordB_len (tab_heads h x hx); unfold costS; omega
  have h2 := sumC_bd (c := costRow) (B := 6) (xs := t.2) fun r hr => by have := (tab_rows h r hr).1; unfold costRow; rw [costI_eq]; omega
  unfold costT costL; omega

theorem jcT_cost (a b : Tab) : costT (jcT a b) ≤ 1000 := by
  by_cases e : cdJ a b = 0
  · rw [jcT_ok e]
    apply tab_cost
    unfold cdJ at e
    split at e <;> try (simp_all; done)
    split at e <;> try (simp_all; done)
  · rw [jcT_no e]; exact Nat.zero_le _

set_option maxHeartbeats 4000000 in
theorem c_laws_FnExactJoinTables (w0 : World) (v_aA0 : Value) (v_aA1 : Value) (aA : List Str × List (List Int)) {S_aA0 : Nat → Prop} {S_aA1 : Nat → Prop} (v_aB0 : Value) (v_aB1 : Value) (aB : List Str × List (List Int)) {S_aB0 : Nat → Prop} {S_aB1 : Nat → Prop} (h_aA0 : Rds shStr S_aA0 w0 v_aA0 aA.1) (h_aA1 : Rds shRow S_aA1 w0 v_aA1 aA.2) (h_aB0 : Rds shStr S_aB0 w0 v_aB0 aB.1) (h_aB1 : Rds shRow S_aB1 w0 v_aB1 aB.2) :
    Calls Try.prog 10 #[.agg #[v_aA0, v_aA1], .agg #[v_aB0, v_aB1]] w0 (Ret w0 (fun v _ => v = .bool (true))) := by
  refine enter (N := 119) Try.func10 rfl rfl rfl ?_
  intro a0 ha0
  have hx0 := Ext.rfl' w0
  have hl_aA0 := h_aA0.length_le
  have hl_aA1 := h_aA1.length_le
  have hl_aB0 := h_aB0.length_le
  have hl_aB1 := h_aB1.length_le
  have hclaA : costT aA = costL costS aA.1 + costL costRow aA.2 := rfl
  have hc1aA := costL_len costS aA.1
  have hc2aA := costL_len costRow aA.2
  have hkkaA := kkT_le aA 1
  have hkgaA := kkT_ge aA 1
  have hkkaA2 : kkT (aA.1, aA.2) 1 ≤ 1 + (costT aA : Nat) := hkkaA
  have hkgaA2 : 1 ≤ kkT (aA.1, aA.2) 1 := hkgaA
  have hclaB : costT aB = costL costS aB.1 + costL costRow aB.2 := rfl
  have hc1aB := costL_len costS aB.1
  have hc2aB := costL_len costRow aB.2
  have hkkaB := kkT_le aB 1
  have hkgaB := kkT_ge aB 1
  have hkkaB2 : kkT (aB.1, aB.2) 1 ≤ 1 + (costT aB : Nat) := hkkaB
  have hkgaB2 : 1 ≤ kkT (aB.1, aB.2) 1 := hkgaB
  have hq1 := kkT_le (jcT aA aB) 1
  have hq2 := jcT_cost aA aB
  have hq3 : kkT ((jcT aA aB).1, (jcT aA aB).2) 1 ≤ 1 + (costT (jcT aA aB) : Nat) := hq1
  have hq4 : 1 ≤ kkT ((jcT aA aB).1, (jcT aA aB).2) 1 := kkT_ge (jcT aA aB) 1
  have hq5 := costL_len costRow (jcT aA aB).2
  have hq6 : costT (jcT aA aB) = costL costS (jcT aA aB).1 + costL costRow (jcT aA aB).2 := rfl
  have hka := kkT_le aB (kkT aA 1)
  have hkb := kkT_ge aB (kkT aA 1)
  have hka2 : kkT (aB.1, aB.2) (kkT (aA.1, aA.2) 1) ≤ kkT aA 1 + (costT aB : Nat) := hka
  have hkb2 : kkT aA 1 ≤ kkT (aB.1, aB.2) (kkT (aA.1, aA.2) 1) := hkb
  refine wp_seq ?_
  refine wp_region_lit ?_
  refine wl_eff ha0 rfl rfl rfl (op_box' ha0 rfl rfl rfl) ?_
  rintro _ w2 ⟨rfl, he3, hb4, hz5⟩ a6 ha6; clear ha0 a0
  have hx7 := hx0.trans' he3
  have hzhx7 := he3.size
  refine wl_eff ha6 rfl rfl rfl (op_box' ha6 rfl rfl rfl) ?_
  rintro _ w9 ⟨rfl, he10, hb11, hz12⟩ a13 ha13; clear ha6 a6
  have hx14 := hx7.trans' he10
  have hzhx14 := he10.size
  replace hb4 := hb4.ext he10
  refine wl_val ha13 rfl rfl rfl (op_assign ha13 rfl rfl) ?_
  intro a15 ha15; clear ha13 a13
  refine wpList_nil ?_
  refine then_n ?_
  refine wp_seq ?_
  refine wp_region_lit ?_
  refine wl_val ha15 rfl rfl rfl (op_assign ha15 rfl rfl) ?_
  intro a16 ha16; clear ha15 a15
  refine wpList_nil ?_
  refine then_n ?_
  refine wp_seq ?_
  refine wp_region_lit ?_
  refine wl_val ha16 rfl rfl rfl (op_loadS ha16 rfl Try.underlying25 ti25 rfl rfl hb4.cells) ?_
  intro a17 ha17; clear ha16 a16
  refine wl_val ha17 rfl rfl rfl (op_move ha17 rfl rfl) ?_
  intro a18 ha18; clear ha17 a17
  refine wl_callR ha18 rfl rfl rfl (op_call ha18 rfl cb16 rfl) (c_laws_szTable _ v_aA0 v_aA1 aA (1048576 : Int) (h_aA0.ext pos_shStr hx14) (h_aA1.ext pos_shRow hx14) (by first | assumption | omega | (simp; omega)) (by first | assumption | omega | (simp; omega))) ?_
  rintro v19 w20 he21 rfl a22 ha22; clear ha18 a18
  have hx23 := hx14.trans' he21
  have hzhx23 := he21.size
  replace hb4 := hb4.ext he21
  replace hb11 := hb11.ext he21
  refine wl_val ha22 rfl rfl rfl (op_assign ha22 rfl rfl) ?_
  intro a24 ha24; clear ha22 a22
  refine wpList_nil ?_
  refine then_n ?_
  refine wp_seq ?_
  refine wp_seq ?_
  refine wp_region_lit ?_
  refine wl_val ha24 rfl rfl rfl (op_move ha24 rfl rfl) ?_
  intro a25 ha25; clear ha24 a24
  refine wl_val ha25 rfl rfl rfl (op_lss ha25 rfl rfl rfl) ?_
  intro a26 ha26; clear ha25 a25
  refine wpList_nil ?_
  refine then_n ?_
  by_cases c27 : (szR (1048576 : Int) (costT aA) : Int) < (0 : Int)
  ·
    rw [decide_eq_true c27] at ha26
    refine cond_t ha26 rfl ?_
    refine wp_seq ?_
    clear hb4 hb11
    refine wp_region_lit ?_
    refine wl_val ha26 rfl rfl rfl (op_assign ha26 rfl rfl) ?_
    intro a28 ha28; clear ha26 a26
    refine wpList_nil ?_
    refine then_n ?_
    refine wp_ret ?_
    refine then_r ?_
    refine ret1 ha28 rfl rfl ?_
    clear ha28 a28
    exact ret_mk hx23 (congrArg Value.bool (by first | rfl | omega))
  ·
    rw [decide_eq_false c27] at ha26
    have hzc27 := szR_ok c27
    refine cond_f ha26 rfl ?_
    refine wp_skip ?_
    refine then_n ?_
    refine wp_seq ?_
    refine wp_region_lit ?_
    refine wl_val ha26 rfl rfl rfl (op_loadS ha26 rfl Try.underlying25 ti25 rfl rfl hb11.cells) ?_
    intro a29 ha29; clear ha26 a26
    refine wl_val ha29 rfl rfl rfl (op_move ha29 rfl rfl) ?_
    intro a30 ha30; clear ha29 a29
    refine wl_callR ha30 rfl rfl rfl (op_call ha30 rfl cb16 rfl) (c_laws_szTable _ v_aB0 v_aB1 aB (szR (1048576 : Int) (costT aA) : Int) (h_aB0.ext pos_shStr hx23) (h_aB1.ext pos_shRow hx23) (by first | assumption | omega | (simp; omega)) (by first | assumption | omega | (simp; omega))) ?_
    rintro v31 w32 he33 rfl a34 ha34; clear ha30 a30
    have hx35 := hx23.trans' he33
    have hzhx35 := he33.size
    replace hb4 := hb4.ext he33
    replace hb11 := hb11.ext he33
    refine wl_val ha34 rfl rfl rfl (op_assign ha34 rfl rfl) ?_
    intro a36 ha36; clear ha34 a34
    refine wpList_nil ?_
    refine then_n ?_
    refine wp_seq ?_
    refine wp_seq ?_
    refine wp_region_lit ?_
    refine wl_val ha36 rfl rfl rfl (op_move ha36 rfl rfl) ?_
    intro a37 ha37; clear ha36 a36
    refine wl_val ha37 rfl rfl rfl (op_lss ha37 rfl rfl rfl) ?_
    intro a38 ha38; clear ha37 a37
    refine wpList_nil ?_
    refine then_n ?_
    by_cases c39 : (szR (szR (1048576 : Int) (costT aA) : Int) (costT aB) : Int) < (0 : Int)
    ·
      rw [decide_eq_true c39] at ha38
      refine cond_t ha38 rfl ?_
      refine wp_seq ?_
      clear hb4 hb11
      refine wp_region_lit ?_
      refine wl_val ha38 rfl rfl rfl (op_assign ha38 rfl rfl) ?_
      intro a40 ha40; clear ha38 a38
      refine wpList_nil ?_
      refine then_n ?_
      refine wp_ret ?_
      refine then_r ?_
      refine ret1 ha40 rfl rfl ?_
      clear ha40 a40
      exact ret_mk hx35 (congrArg Value.bool (by first | rfl | omega | (exact absurd rfl c27)))
    ·
      rw [decide_eq_false c39] at ha38
      have hzc39 := szR_ok c39
      refine cond_f ha38 rfl ?_
      refine wp_skip ?_
      refine then_n ?_
      refine seq_mid (fun fr wl => ∃ (g41 : Nat) (q42 : Value) (q43 : Value) (q44 : List ((List Int) × Value)), Sl 119 fr [(2, .pointer (some (⟨w0.heap.size, 0, none⟩ : Addr))), (3, .pointer (some (⟨w2.heap.size, 0, none⟩ : Addr))), (6, .pointer (some (⟨g41, 0, none⟩ : Addr))), (7, .int .i64 (cdJ ((aA)) ((aB)) : Int))] ∧ Ext w0 wl ∧ Box wl w0.heap.size 25 [v_aA0, v_aA1] ∧ Box wl w2.heap.size 25 [v_aB0, v_aB1] ∧ Own shStr 9 w32.heap.size w32.heap.size wl.heap.size wl q42 (((jcT ((aA)) ((aB))).1)) ∧ Own shRowN 41 w32.heap.size w32.heap.size wl.heap.size wl q43 q44 ∧ Nst shI64 2 (fun x : List Int => x) w32.heap.size wl.heap.size wl q44 ∧ Box wl g41 28 [q42, q43] ∧ q44.map (·.1) = ((jcT ((aA)) ((aB))).2) ∧ w32.heap.size ≤ g41 ∧ w32.heap.size ≤ wl.heap.size) ?_ ?_
      ·
        refine dr_enter Ext follows_mixed ?_
        intro w54 he55
        have hx56 := hx35.trans' he55
        have hzhx56 := he55.size
        replace hb4 := hb4.ext he55
        replace hb11 := hb11.ext he55
        have hs57 : Ext w54 w54 := Ext.rfl' _
        refine dr_val (i := 0) ha38 rfl (by kernel_rfl) (by kernel_rfl) (by kernel_rfl) rfl rfl rfl hs57 (fun w' hw' => op_loadS ha38 rfl Try.underlying25 ti25 rfl rfl (hb4.ext hw').cells) ?_
        intro a58 ha58; clear ha38 a38
        refine dr_val (i := 2) ha58 rfl (by kernel_rfl) (by kernel_rfl) (by kernel_rfl) rfl rfl rfl hs57 (fun w' hw' => op_loadS ha58 rfl Try.underlying25 ti25 rfl rfl (hb11.ext hw').cells) ?_
        intro a59 ha59; clear ha58 a58
        refine dr_two (i := 1) (j := 8) (by kernel_rfl) ?_ ?_
        ·
          refine po_callR ha59 rfl rfl rfl rfl (op_call ha59 rfl cb18 rfl) (c_laws_toTable _ v_aA0 v_aA1 aA (h_aA0.ext pos_shStr (hx56.trans' hs57)) (h_aA1.ext pos_shRow (hx56.trans' hs57)) (by first | assumption | omega | (simp; omega))) ?_
          rintro v60 w61 he62 ⟨u63, u65, z67, rfl, ho64, ho66, hN68, hE69⟩ a70 ha70; clear ha59 a59
          have hs71 := hs57.trans' he62
          have hx72 := hx56.trans' he62
          have hzhx72 := he62.size
          refine ⟨hs71, ?_⟩
          have hlhE69 := absLen hE69
          refine dr_two (i := 3) (j := 8) (by kernel_rfl) ?_ ?_
          ·
            refine po_callR ha70 rfl rfl rfl rfl (op_call ha70 rfl cb18 rfl) (c_laws_toTable _ v_aB0 v_aB1 aB (h_aB0.ext pos_shStr (hx56.trans' hs71)) (h_aB1.ext pos_shRow (hx56.trans' hs71)) (by first | assumption | omega | (simp; omega))) ?_
            rintro v73 w74 he75 ⟨u76, u78, z80, rfl, ho77, ho79, hN81, hE82⟩ a83 ha83; clear ha70 a70
            have hs84 := hs71.trans' he75
            have hx85 := hx72.trans' he75
            have hzhx85 := he75.size
            replace ho64 := ho64.ext he75
            replace ho66 := ho66.ext he75
            replace hN68 := hN68.ext he75
            refine ⟨hs84, ?_⟩
            have hlhE82 := absLen hE82
            refine dr_two (i := 4) (j := 8) (by kernel_rfl) ?_ ?_
            ·
              refine po_callR ha83 rfl rfl rfl rfl (op_call ha83 rfl cb43 rfl) (c_spec_JoinTables _ u63 u65 ((aA)) u76 u78 ((aB)) (ho64.rds pos_shStr) ((rds_shRowN (ho66.fin (by omega) (by omega) (by omega)) hN68).cast hE69) (ho77.rds pos_shStr) ((rds_shRowN (ho79.fin (by omega) (by omega) (by omega)) hN81).cast hE82)) ?_
              rintro v86 w87 he88 ⟨u89, u91, z93, rfl, ho90, ho92, hN94, hE95⟩ a96 ha96; clear ha83 a83
              have hs97 := hs84.trans' he88
              have hx98 := hx85.trans' he88
              have hzhx98 := he88.size
              replace ho64 := ho64.ext he88
              replace ho66 := ho66.ext he88
              replace hN68 := hN68.ext he88
              replace ho77 := ho77.ext he88
              replace ho79 := ho79.ext he88
              replace hN81 := hN81.ext he88
              refine ⟨hs97, ?_⟩
              have hlhE95 := absLen hE95
              refine dr_val (i := 5) ha96 rfl (by kernel_rfl) (by kernel_rfl) (by kernel_rfl) rfl rfl rfl hs97 (fun w' hw' => op_move ha96 rfl rfl) ?_
              intro a99 ha99; clear ha96 a96
              refine dr_val (i := 6) ha99 rfl (by kernel_rfl) (by kernel_rfl) (by kernel_rfl) rfl rfl rfl hs97 (fun w' hw' => op_extract ha99 rfl rfl rfl) ?_
              intro a100 ha100; clear ha99 a99
              refine dr_val (i := 7) ha100 rfl (by kernel_rfl) (by kernel_rfl) (by kernel_rfl) rfl rfl rfl hs97 (fun w' hw' => op_extract ha100 rfl rfl rfl) ?_
              intro a101 ha101; clear ha100 a100
              refine dr_one (i := 8) (by kernel_rfl) ?_
              refine po_eff ha101 rfl rfl rfl rfl (op_alloc' rfl ti28 rfl) ?_
              rintro _ w102 ⟨rfl, he103, hb104, hz105⟩ a106 ha106; clear ha101 a101
              have hs107 := hs97.trans' he103
              have hx108 := hx98.trans' he103
              have hzhx108 := he103.size
              replace ho64 := ho64.ext he103
              replace ho66 := ho66.ext he103
              replace hN68 := hN68.ext he103
              replace ho77 := ho77.ext he103
              replace ho79 := ho79.ext he103
              replace hN81 := hN81.ext he103
              replace ho90 := ho90.ext he103
              replace ho92 := ho92.ext he103
              replace hN94 := hN94.ext he103
              refine ⟨hs107, ?_⟩
              refine dr_one (i := 9) (by kernel_rfl) ?_
              refine po_effS ha106 rfl rfl rfl (op_storeAll' ha106 rfl ti28 rfl rfl hb104 rfl rfl (by intro u hu; have hu : u ∈ ([u89, u91] : List Value) := hu; simp only [List.mem_cons, List.mem_nil_iff, or_false] at hu; rcases hu with rfl | rfl <;> first | rfl | exact ho90.one | exact ho92.one) rfl) ?_
              rintro w109 ⟨hb111, hst110, hz112⟩
              have hx113 := hx108.stp hst110 (by intro q hq; cases hq; exact (by omega))
              have hzhx113 := hst110.size
              replace ho64 : Own shStr 9 w54.heap.size w54.heap.size w61.heap.size w109 u63 (((aA).1)) := by first | exact ho64.stp hst110 (by intro q hq; cases hq; omega) | exact ho64.stpF flat_shStr hst110 (by intro q hq; cases hq; exact ho64.ne_box (by assumption) rfl)
              replace ho66 : Own shRowN 41 w54.heap.size w54.heap.size w61.heap.size w109 u65 z67 := by first | exact ho66.stp hst110 (by intro q hq; cases hq; omega) | exact ho66.stpF flat_shRowN hst110 (by intro q hq; cases hq; exact ho66.ne_box (by assumption) rfl)
              replace hN68 : Nst shI64 2 (fun x : List Int => x) w54.heap.size w61.heap.size w109 z67 := by first | exact hN68.stp hst110 (by intro q hq; cases hq; omega) | exact hN68.stpB flat_shI64 hst110 (by assumption) rfl
              replace ho77 : Own shStr 9 w61.heap.size w61.heap.size w74.heap.size w109 u76 (((aB).1)) := by first | exact ho77.stp hst110 (by intro q hq; cases hq; omega) | exact ho77.stpF flat_shStr hst110 (by intro q hq; cases hq; exact ho77.ne_box (by assumption) rfl)
              replace ho79 : Own shRowN 41 w61.heap.size w61.heap.size w74.heap.size w109 u78 z80 := by first | exact ho79.stp hst110 (by intro q hq; cases hq; omega) | exact ho79.stpF flat_shRowN hst110 (by intro q hq; cases hq; exact ho79.ne_box (by assumption) rfl)
              replace hN81 : Nst shI64 2 (fun x : List Int => x) w61.heap.size w74.heap.size w109 z80 := by first | exact hN81.stp hst110 (by intro q hq; cases hq; omega) | exact hN81.stpB flat_shI64 hst110 (by assumption) rfl
              replace ho90 : Own shStr 9 w74.heap.size w74.heap.size w87.heap.size w109 u89 (((jcT ((aA)) ((aB))).1)) := by first | exact ho90.stp hst110 (by intro q hq; cases hq; omega) | exact ho90.stpF flat_shStr hst110 (by intro q hq; cases hq; exact ho90.ne_box (by assumption) rfl)
              replace ho92 : Own shRowN 41 w74.heap.size w74.heap.size w87.heap.size w109 u91 z93 := by first | exact ho92.stp hst110 (by intro q hq; cases hq; omega) | exact ho92.stpF flat_shRowN hst110 (by intro q hq; cases hq; exact ho92.ne_box (by assumption) rfl)
              replace hN94 : Nst shI64 2 (fun x : List Int => x) w74.heap.size w87.heap.size w109 z93 := by first | exact hN94.stp hst110 (by intro q hq; cases hq; omega) | exact hN94.stpB flat_shI64 hst110 (by assumption) rfl
              clear hb104
              have hs114 := hs107.stp hst110 (by intro q hq; cases hq; omega)
              refine ⟨hs114, ?_⟩
              refine dr_val (i := 10) ha106 rfl (by kernel_rfl) (by kernel_rfl) (by kernel_rfl) rfl rfl rfl hs114 (fun w' hw' => op_assign ha106 rfl rfl) ?_
              intro a115 ha115; clear ha106 a106
              refine dr_end (by kernel_rfl) ?_
              replace hb4 := hb4.ext hs114
              replace hb11 := hb11.ext hs114
              refine then_n ?_
              exact ⟨w87.heap.size, u89, u91, z93, (Sl.cons_ ha115 rfl rfl (Sl.cons_ ha115 rfl rfl (Sl.cons_ ha115 rfl rfl (Sl.cons_ ha115 rfl rfl (Sl.nil_ ha115))))), hx113, hb4, hb11, (ho90.fin (by omega) (by omega) (by omega)), (ho92.fin (by omega) (by omega) (by omega)), (hN94.fin (by omega) (by omega)), hb111, hE95, (by omega), (by omega)⟩
            ·
              refine po_eff ha83 rfl rfl rfl rfl (op_alloc' rfl ti28 rfl) ?_
              rintro _ w116 ⟨rfl, he117, hb118, hz119⟩ a120 ha120; clear ha83 a83
              have hs121 := hs84.trans' he117
              have hx122 := hx85.trans' he117
              have hzhx122 := he117.size
              replace ho64 := ho64.ext he117
              replace ho66 := ho66.ext he117
              replace hN68 := hN68.ext he117
              replace ho77 := ho77.ext he117
              replace ho79 := ho79.ext he117
              replace hN81 := hN81.ext he117
              refine ⟨hs121, ?_⟩
              refine dr_one (i := 4) (by kernel_rfl) ?_
              refine po_callR ha120 rfl rfl rfl rfl (op_call ha120 rfl cb43 rfl) (c_spec_JoinTables _ u63 u65 ((aA)) u76 u78 ((aB)) (ho64.rds pos_shStr) ((rds_shRowN (ho66.fin (by omega) (by omega) (by omega)) hN68).cast hE69) (ho77.rds pos_shStr) ((rds_shRowN (ho79.fin (by omega) (by omega) (by omega)) hN81).cast hE82)) ?_
              rintro v123 w124 he125 ⟨u126, u128, z130, rfl, ho127, ho129, hN131, hE132⟩ a133 ha133; clear ha120 a120
              have hs134 := hs121.trans' he125
              have hx135 := hx122.trans' he125
              have hzhx135 := he125.size
              replace ho64 := ho64.ext he125
              replace ho66 := ho66.ext he125
              replace hN68 := hN68.ext he125
              replace ho77 := ho77.ext he125
              replace ho79 := ho79.ext he125
              replace hN81 := hN81.ext he125
              replace hb118 := hb118.ext he125
              refine ⟨hs134, ?_⟩
              have hlhE132 := absLen hE132
              refine dr_val (i := 5) ha133 rfl (by kernel_rfl) (by kernel_rfl) (by kernel_rfl) rfl rfl rfl hs134 (fun w' hw' => op_move ha133 rfl rfl) ?_
              intro a136 ha136; clear ha133 a133
              refine dr_val (i := 6) ha136 rfl (by kernel_rfl) (by kernel_rfl) (by kernel_rfl) rfl rfl rfl hs134 (fun w' hw' => op_extract ha136 rfl rfl rfl) ?_
              intro a137 ha137; clear ha136 a136
              refine dr_val (i := 7) ha137 rfl (by kernel_rfl) (by kernel_rfl) (by kernel_rfl) rfl rfl rfl hs134 (fun w' hw' => op_extract ha137 rfl rfl rfl) ?_
              intro a138 ha138; clear ha137 a137
              refine dr_one (i := 9) (by kernel_rfl) ?_
              refine po_effS ha138 rfl rfl rfl (op_storeAll' ha138 rfl ti28 rfl rfl hb118 rfl rfl (by intro u hu; have hu : u ∈ ([u126, u128] : List Value) := hu; simp only [List.mem_cons, List.mem_nil_iff, or_false] at hu; rcases hu with rfl | rfl <;> first | rfl | exact ho127.one | exact ho129.one) rfl) ?_
              rintro w139 ⟨hb141, hst140, hz142⟩
              have hx143 := hx135.stp hst140 (by intro q hq; cases hq; exact (by omega))
              have hzhx143 := hst140.size
              replace ho64 : Own shStr 9 w54.heap.size w54.heap.size w61.heap.size w139 u63 (((aA).1)) := by first | exact ho64.stp hst140 (by intro q hq; cases hq; omega) | exact ho64.stpF flat_shStr hst140 (by intro q hq; cases hq; exact ho64.ne_box (by assumption) rfl)
              replace ho66 : Own shRowN 41 w54.heap.size w54.heap.size w61.heap.size w139 u65 z67 := by first | exact ho66.stp hst140 (by intro q hq; cases hq; omega) | exact ho66.stpF flat_shRowN hst140 (by intro q hq; cases hq; exact ho66.ne_box (by assumption) rfl)
              replace hN68 : Nst shI64 2 (fun x : List Int => x) w54.heap.size w61.heap.size w139 z67 := by first | exact hN68.stp hst140 (by intro q hq; cases hq; omega) | exact hN68.stpB flat_shI64 hst140 (by assumption) rfl
              replace ho77 : Own shStr 9 w61.heap.size w61.heap.size w74.heap.size w139 u76 (((aB).1)) := by first | exact ho77.stp hst140 (by intro q hq; cases hq; omega) | exact ho77.stpF flat_shStr hst140 (by intro q hq; cases hq; exact ho77.ne_box (by assumption) rfl)
              replace ho79 : Own shRowN 41 w61.heap.size w61.heap.size w74.heap.size w139 u78 z80 := by first | exact ho79.stp hst140 (by intro q hq; cases hq; omega) | exact ho79.stpF flat_shRowN hst140 (by intro q hq; cases hq; exact ho79.ne_box (by assumption) rfl)
              replace hN81 : Nst shI64 2 (fun x : List Int => x) w61.heap.size w74.heap.size w139 z80 := by first | exact hN81.stp hst140 (by intro q hq; cases hq; omega) | exact hN81.stpB flat_shI64 hst140 (by assumption) rfl
              replace ho127 : Own shStr 9 w116.heap.size w116.heap.size w124.heap.size w139 u126 (((jcT ((aA)) ((aB))).1)) := by first | exact ho127.stp hst140 (by intro q hq; cases hq; omega) | exact ho127.stpF flat_shStr hst140 (by intro q hq; cases hq; exact ho127.ne_box (by assumption) rfl)
              replace ho129 : Own shRowN 41 w116.heap.size w116.heap.size w124.heap.size w139 u128 z130 := by first | exact ho129.stp hst140 (by intro q hq; cases hq; omega) | exact ho129.stpF flat_shRowN hst140 (by intro q hq; cases hq; exact ho129.ne_box (by assumption) rfl)
              replace hN131 : Nst shI64 2 (fun x : List Int => x) w116.heap.size w124.heap.size w139 z130 := by first | exact hN131.stp hst140 (by intro q hq; cases hq; omega) | exact hN131.stpB flat_shI64 hst140 (by assumption) rfl
              clear hb118
              have hs144 := hs134.stp hst140 (by intro q hq; cases hq; omega)
              refine ⟨hs144, ?_⟩
              refine dr_val (i := 10) ha138 rfl (by kernel_rfl) (by kernel_rfl) (by kernel_rfl) rfl rfl rfl hs144 (fun w' hw' => op_assign ha138 rfl rfl) ?_
              intro a145 ha145; clear ha138 a138
              refine dr_end (by kernel_rfl) ?_
              replace hb4 := hb4.ext hs144
              replace hb11 := hb11.ext hs144
              refine then_n ?_
              exact ⟨w74.heap.size, u126, u128, z130, (Sl.cons_ ha145 rfl rfl (Sl.cons_ ha145 rfl rfl (Sl.cons_ ha145 rfl rfl (Sl.cons_ ha145 rfl rfl (Sl.nil_ ha145))))), hx143, hb4, hb11, (ho127.fin (by omega) (by omega) (by omega)), (ho129.fin (by omega) (by omega) (by omega)), (hN131.fin (by omega) (by omega)), hb141, hE132, (by omega), (by omega)⟩
          ·
            refine po_eff ha70 rfl rfl rfl rfl (op_alloc' rfl ti28 rfl) ?_
            rintro _ w146 ⟨rfl, he147, hb148, hz149⟩ a150 ha150; clear ha70 a70
            have hs151 := hs71.trans' he147
            have hx152 := hx72.trans' he147
            have hzhx152 := he147.size
            replace ho64 := ho64.ext he147
            replace ho66 := ho66.ext he147
            replace hN68 := hN68.ext he147
            refine ⟨hs151, ?_⟩
            refine dr_one (i := 3) (by kernel_rfl) ?_
            refine po_callR ha150 rfl rfl rfl rfl (op_call ha150 rfl cb18 rfl) (c_laws_toTable _ v_aB0 v_aB1 aB (h_aB0.ext pos_shStr (hx56.trans' hs151)) (h_aB1.ext pos_shRow (hx56.trans' hs151)) (by first | assumption | omega | (simp; omega))) ?_
            rintro v153 w154 he155 ⟨u156, u158, z160, rfl, ho157, ho159, hN161, hE162⟩ a163 ha163; clear ha150 a150
            have hs164 := hs151.trans' he155
            have hx165 := hx152.trans' he155
            have hzhx165 := he155.size
            replace ho64 := ho64.ext he155
            replace ho66 := ho66.ext he155
            replace hN68 := hN68.ext he155
            replace hb148 := hb148.ext he155
            refine ⟨hs164, ?_⟩
            have hlhE162 := absLen hE162
            refine dr_one (i := 4) (by kernel_rfl) ?_
            refine po_callR ha163 rfl rfl rfl rfl (op_call ha163 rfl cb43 rfl) (c_spec_JoinTables _ u63 u65 ((aA)) u156 u158 ((aB)) (ho64.rds pos_shStr) ((rds_shRowN (ho66.fin (by omega) (by omega) (by omega)) hN68).cast hE69) (ho157.rds pos_shStr) ((rds_shRowN (ho159.fin (by omega) (by omega) (by omega)) hN161).cast hE162)) ?_
            rintro v166 w167 he168 ⟨u169, u171, z173, rfl, ho170, ho172, hN174, hE175⟩ a176 ha176; clear ha163 a163
            have hs177 := hs164.trans' he168
            have hx178 := hx165.trans' he168
            have hzhx178 := he168.size
            replace ho64 := ho64.ext he168
            replace ho66 := ho66.ext he168
            replace hN68 := hN68.ext he168
            replace hb148 := hb148.ext he168
            replace ho157 := ho157.ext he168
            replace ho159 := ho159.ext he168
            replace hN161 := hN161.ext he168
            refine ⟨hs177, ?_⟩
            have hlhE175 := absLen hE175
            refine dr_val (i := 5) ha176 rfl (by kernel_rfl) (by kernel_rfl) (by kernel_rfl) rfl rfl rfl hs177 (fun w' hw' => op_move ha176 rfl rfl) ?_
            intro a179 ha179; clear ha176 a176
            refine dr_val (i := 6) ha179 rfl (by kernel_rfl) (by kernel_rfl) (by kernel_rfl) rfl rfl rfl hs177 (fun w' hw' => op_extract ha179 rfl rfl rfl) ?_
            intro a180 ha180; clear ha179 a179
            refine dr_val (i := 7) ha180 rfl (by kernel_rfl) (by kernel_rfl) (by kernel_rfl) rfl rfl rfl hs177 (fun w' hw' => op_extract ha180 rfl rfl rfl) ?_
            intro a181 ha181; clear ha180 a180
            refine dr_one (i := 9) (by kernel_rfl) ?_
            refine po_effS ha181 rfl rfl rfl (op_storeAll' ha181 rfl ti28 rfl rfl hb148 rfl rfl (by intro u hu; have hu : u ∈ ([u169, u171] : List Value) := hu; simp only [List.mem_cons, List.mem_nil_iff, or_false] at hu; rcases hu with rfl | rfl <;> first | rfl | exact ho170.one | exact ho172.one) rfl) ?_
            rintro w182 ⟨hb184, hst183, hz185⟩
            have hx186 := hx178.stp hst183 (by intro q hq; cases hq; exact (by omega))
            have hzhx186 := hst183.size
            replace ho64 : Own shStr 9 w54.heap.size w54.heap.size w61.heap.size w182 u63 (((aA).1)) := by first | exact ho64.stp hst183 (by intro q hq; cases hq; omega) | exact ho64.stpF flat_shStr hst183 (by intro q hq; cases hq; exact ho64.ne_box (by assumption) rfl)
            replace ho66 : Own shRowN 41 w54.heap.size w54.heap.size w61.heap.size w182 u65 z67 := by first | exact ho66.stp hst183 (by intro q hq; cases hq; omega) | exact ho66.stpF flat_shRowN hst183 (by intro q hq; cases hq; exact ho66.ne_box (by assumption) rfl)
            replace hN68 : Nst shI64 2 (fun x : List Int => x) w54.heap.size w61.heap.size w182 z67 := by first | exact hN68.stp hst183 (by intro q hq; cases hq; omega) | exact hN68.stpB flat_shI64 hst183 (by assumption) rfl
            replace ho157 : Own shStr 9 w146.heap.size w146.heap.size w154.heap.size w182 u156 (((aB).1)) := by first | exact ho157.stp hst183 (by intro q hq; cases hq; omega) | exact ho157.stpF flat_shStr hst183 (by intro q hq; cases hq; exact ho157.ne_box (by assumption) rfl)
            replace ho159 : Own shRowN 41 w146.heap.size w146.heap.size w154.heap.size w182 u158 z160 := by first | exact ho159.stp hst183 (by intro q hq; cases hq; omega) | exact ho159.stpF flat_shRowN hst183 (by intro q hq; cases hq; exact ho159.ne_box (by assumption) rfl)
            replace hN161 : Nst shI64 2 (fun x : List Int => x) w146.heap.size w154.heap.size w182 z160 := by first | exact hN161.stp hst183 (by intro q hq; cases hq; omega) | exact hN161.stpB flat_shI64 hst183 (by assumption) rfl
            replace ho170 : Own shStr 9 w154.heap.size w154.heap.size w167.heap.size w182 u169 (((jcT ((aA)) ((aB))).1)) := by first | exact ho170.stp hst183 (by intro q hq; cases hq; omega) | exact ho170.stpF flat_shStr hst183 (by intro q hq; cases hq; exact ho170.ne_box (by assumption) rfl)
            replace ho172 : Own shRowN 41 w154.heap.size w154.heap.size w167.heap.size w182 u171 z173 := by first | exact ho172.stp hst183 (by intro q hq; cases hq; omega) | exact ho172.stpF flat_shRowN hst183 (by intro q hq; cases hq; exact ho172.ne_box (by assumption) rfl)
            replace hN174 : Nst shI64 2 (fun x : List Int => x) w154.heap.size w167.heap.size w182 z173 := by first | exact hN174.stp hst183 (by intro q hq; cases hq; omega) | exact hN174.stpB flat_shI64 hst183 (by assumption) rfl
            clear hb148
            have hs187 := hs177.stp hst183 (by intro q hq; cases hq; omega)
            refine ⟨hs187, ?_⟩
            refine dr_val (i := 10) ha181 rfl (by kernel_rfl) (by kernel_rfl) (by kernel_rfl) rfl rfl rfl hs187 (fun w' hw' => op_assign ha181 rfl rfl) ?_
            intro a188 ha188; clear ha181 a181
            refine dr_end (by kernel_rfl) ?_
            replace hb4 := hb4.ext hs187
            replace hb11 := hb11.ext hs187
            refine then_n ?_
            exact ⟨w61.heap.size, u169, u171, z173, (Sl.cons_ ha188 rfl rfl (Sl.cons_ ha188 rfl rfl (Sl.cons_ ha188 rfl rfl (Sl.cons_ ha188 rfl rfl (Sl.nil_ ha188))))), hx186, hb4, hb11, (ho170.fin (by omega) (by omega) (by omega)), (ho172.fin (by omega) (by omega) (by omega)), (hN174.fin (by omega) (by omega)), hb184, hE175, (by omega), (by omega)⟩
        ·
          refine po_eff ha59 rfl rfl rfl rfl (op_alloc' rfl ti28 rfl) ?_
          rintro _ w189 ⟨rfl, he190, hb191, hz192⟩ a193 ha193; clear ha59 a59
          have hs194 := hs57.trans' he190
          have hx195 := hx56.trans' he190
          have hzhx195 := he190.size
          refine ⟨hs194, ?_⟩
          refine dr_one (i := 1) (by kernel_rfl) ?_
          refine po_callR ha193 rfl rfl rfl rfl (op_call ha193 rfl cb18 rfl) (c_laws_toTable _ v_aA0 v_aA1 aA (h_aA0.ext pos_shStr (hx56.trans' hs194)) (h_aA1.ext pos_shRow (hx56.trans' hs194)) (by first | assumption | omega | (simp; omega))) ?_
          rintro v196 w197 he198 ⟨u199, u201, z203, rfl, ho200, ho202, hN204, hE205⟩ a206 ha206; clear ha193 a193
          have hs207 := hs194.trans' he198
          have hx208 := hx195.trans' he198
          have hzhx208 := he198.size
          replace hb191 := hb191.ext he198
          refine ⟨hs207, ?_⟩
          have hlhE205 := absLen hE205
          refine dr_one (i := 3) (by kernel_rfl) ?_
          refine po_callR ha206 rfl rfl rfl rfl (op_call ha206 rfl cb18 rfl) (c_laws_toTable _ v_aB0 v_aB1 aB (h_aB0.ext pos_shStr (hx56.trans' hs207)) (h_aB1.ext pos_shRow (hx56.trans' hs207)) (by first | assumption | omega | (simp; omega))) ?_
          rintro v209 w210 he211 ⟨u212, u214, z216, rfl, ho213, ho215, hN217, hE218⟩ a219 ha219; clear ha206 a206
          have hs220 := hs207.trans' he211
          have hx221 := hx208.trans' he211
          have hzhx221 := he211.size
          replace hb191 := hb191.ext he211
          replace ho200 := ho200.ext he211
          replace ho202 := ho202.ext he211
          replace hN204 := hN204.ext he211
          refine ⟨hs220, ?_⟩
          have hlhE218 := absLen hE218
          refine dr_one (i := 4) (by kernel_rfl) ?_
          refine po_callR ha219 rfl rfl rfl rfl (op_call ha219 rfl cb43 rfl) (c_spec_JoinTables _ u199 u201 ((aA)) u212 u214 ((aB)) (ho200.rds pos_shStr) ((rds_shRowN (ho202.fin (by omega) (by omega) (by omega)) hN204).cast hE205) (ho213.rds pos_shStr) ((rds_shRowN (ho215.fin (by omega) (by omega) (by omega)) hN217).cast hE218)) ?_
          rintro v222 w223 he224 ⟨u225, u227, z229, rfl, ho226, ho228, hN230, hE231⟩ a232 ha232; clear ha219 a219
          have hs233 := hs220.trans' he224
          have hx234 := hx221.trans' he224
          have hzhx234 := he224.size
          replace hb191 := hb191.ext he224
          replace ho200 := ho200.ext he224
          replace ho202 := ho202.ext he224
          replace hN204 := hN204.ext he224
          replace ho213 := ho213.ext he224
          replace ho215 := ho215.ext he224
          replace hN217 := hN217.ext he224
          refine ⟨hs233, ?_⟩
          have hlhE231 := absLen hE231
          refine dr_val (i := 5) ha232 rfl (by kernel_rfl) (by kernel_rfl) (by kernel_rfl) rfl rfl rfl hs233 (fun w' hw' => op_move ha232 rfl rfl) ?_
          intro a235 ha235; clear ha232 a232
          refine dr_val (i := 6) ha235 rfl (by kernel_rfl) (by kernel_rfl) (by kernel_rfl) rfl rfl rfl hs233 (fun w' hw' => op_extract ha235 rfl rfl rfl) ?_
          intro a236 ha236; clear ha235 a235
          refine dr_val (i := 7) ha236 rfl (by kernel_rfl) (by kernel_rfl) (by kernel_rfl) rfl rfl rfl hs233 (fun w' hw' => op_extract ha236 rfl rfl rfl) ?_
          intro a237 ha237; clear ha236 a236
          refine dr_one (i := 9) (by kernel_rfl) ?_
          refine po_effS ha237 rfl rfl rfl (op_storeAll' ha237 rfl ti28 rfl rfl hb191 rfl rfl (by intro u hu; have hu : u ∈ ([u225, u227] : List Value) := hu; simp only [List.mem_cons, List.mem_nil_iff, or_false] at hu; rcases hu with rfl | rfl <;> first | rfl | exact ho226.one | exact ho228.one) rfl) ?_
          rintro w238 ⟨hb240, hst239, hz241⟩
          have hx242 := hx234.stp hst239 (by intro q hq; cases hq; exact (by omega))
          have hzhx242 := hst239.size
          replace ho200 : Own shStr 9 w189.heap.size w189.heap.size w197.heap.size w238 u199 (((aA).1)) := by first | exact ho200.stp hst239 (by intro q hq; cases hq; omega) | exact ho200.stpF flat_shStr hst239 (by intro q hq; cases hq; exact ho200.ne_box (by assumption) rfl)
          replace ho202 : Own shRowN 41 w189.heap.size w189.heap.size w197.heap.size w238 u201 z203 := by first | exact ho202.stp hst239 (by intro q hq; cases hq; omega) | exact ho202.stpF flat_shRowN hst239 (by intro q hq; cases hq; exact ho202.ne_box (by assumption) rfl)
          replace hN204 : Nst shI64 2 (fun x : List Int => x) w189.heap.size w197.heap.size w238 z203 := by first | exact hN204.stp hst239 (by intro q hq; cases hq; omega) | exact hN204.stpB flat_shI64 hst239 (by assumption) rfl
          replace ho213 : Own shStr 9 w197.heap.size w197.heap.size w210.heap.size w238 u212 (((aB).1)) := by first | exact ho213.stp hst239 (by intro q hq; cases hq; omega) | exact ho213.stpF flat_shStr hst239 (by intro q hq; cases hq; exact ho213.ne_box (by assumption) rfl)
          replace ho215 : Own shRowN 41 w197.heap.size w197.heap.size w210.heap.size w238 u214 z216 := by first | exact ho215.stp hst239 (by intro q hq; cases hq; omega) | exact ho215.stpF flat_shRowN hst239 (by intro q hq; cases hq; exact ho215.ne_box (by assumption) rfl)
          replace hN217 : Nst shI64 2 (fun x : List Int => x) w197.heap.size w210.heap.size w238 z216 := by first | exact hN217.stp hst239 (by intro q hq; cases hq; omega) | exact hN217.stpB flat_shI64 hst239 (by assumption) rfl
          replace ho226 : Own shStr 9 w210.heap.size w210.heap.size w223.heap.size w238 u225 (((jcT ((aA)) ((aB))).1)) := by first | exact ho226.stp hst239 (by intro q hq; cases hq; omega) | exact ho226.stpF flat_shStr hst239 (by intro q hq; cases hq; exact ho226.ne_box (by assumption) rfl)
          replace ho228 : Own shRowN 41 w210.heap.size w210.heap.size w223.heap.size w238 u227 z229 := by first | exact ho228.stp hst239 (by intro q hq; cases hq; omega) | exact ho228.stpF flat_shRowN hst239 (by intro q hq; cases hq; exact ho228.ne_box (by assumption) rfl)
          replace hN230 : Nst shI64 2 (fun x : List Int => x) w210.heap.size w223.heap.size w238 z229 := by first | exact hN230.stp hst239 (by intro q hq; cases hq; omega) | exact hN230.stpB flat_shI64 hst239 (by assumption) rfl
          clear hb191
          have hs243 := hs233.stp hst239 (by intro q hq; cases hq; omega)
          refine ⟨hs243, ?_⟩
          refine dr_val (i := 10) ha237 rfl (by kernel_rfl) (by kernel_rfl) (by kernel_rfl) rfl rfl rfl hs243 (fun w' hw' => op_assign ha237 rfl rfl) ?_
          intro a244 ha244; clear ha237 a237
          refine dr_end (by kernel_rfl) ?_
          replace hb4 := hb4.ext hs243
          replace hb11 := hb11.ext hs243
          refine then_n ?_
          exact ⟨w54.heap.size, u225, u227, z229, (Sl.cons_ ha244 rfl rfl (Sl.cons_ ha244 rfl rfl (Sl.cons_ ha244 rfl rfl (Sl.cons_ ha244 rfl rfl (Sl.nil_ ha244))))), hx242, hb4, hb11, (ho226.fin (by omega) (by omega) (by omega)), (ho228.fin (by omega) (by omega) (by omega)), (hN230.fin (by omega) (by omega)), hb240, hE231, (by omega), (by omega)⟩
      ·
        clear ha38 a38
        rintro a245 w45 ⟨g41, q42, q43, q44, ha245, hx46, hf47, hf48, hf50, hf51, hf53, hf49, hE52, hg247, hzl246⟩
        have hzhx46 := hx46.size
        have hgl248 := hf49.lt
        refine wp_seq ?_
        refine wp_region_lit ?_
        refine wl_val ha245 rfl rfl rfl (op_loadS ha245 rfl Try.underlying25 ti25 rfl rfl hf47.cells) ?_
        intro a249 ha249; clear ha245 a245
        refine wl_callR ha249 rfl rfl rfl (op_call ha249 rfl cb18 rfl) (c_laws_toTable _ v_aA0 v_aA1 aA (h_aA0.ext pos_shStr hx46) (h_aA1.ext pos_shRow hx46) (by first | assumption | omega | (simp; omega))) ?_
        rintro v250 w251 he252 ⟨u253, u255, z257, rfl, ho254, ho256, hN258, hE259⟩ a260 ha260; clear ha249 a249
        have hx261 := hx46.trans' he252
        have hzhx261 := he252.size
        replace hf47 := hf47.ext he252
        replace hf48 := hf48.ext he252
        replace hf50 := hf50.ext he252
        replace hf51 := hf51.ext he252
        replace hf53 := hf53.ext he252
        replace hf49 := hf49.ext he252
        have hlhE259 := absLen hE259
        refine wl_eff ha260 rfl rfl rfl (op_alloc' rfl ti28 rfl) ?_
        rintro _ w263 ⟨rfl, he264, hb265, hz266⟩ a267 ha267; clear ha260 a260
        have hx268 := hx261.trans' he264
        have hzhx268 := he264.size
        replace hf47 := hf47.ext he264
        replace hf48 := hf48.ext he264
        replace hf50 := hf50.ext he264
        replace hf51 := hf51.ext he264
        replace hf53 := hf53.ext he264
        replace hf49 := hf49.ext he264
        replace ho254 := ho254.ext he264
        replace ho256 := ho256.ext he264
        replace hN258 := hN258.ext he264
        refine wl_effS ha267 rfl rfl (op_storeAll' ha267 rfl ti28 rfl rfl hb265 rfl rfl (by intro u hu; have hu : u ∈ ([u253, u255] : List Value) := hu; simp only [List.mem_cons, List.mem_nil_iff, or_false] at hu; rcases hu with rfl | rfl <;> first | rfl | exact ho254.one | exact ho256.one) rfl) ?_
        rintro w269 ⟨hb271, hst270, hz272⟩
        have hx273 := hx268.stp hst270 (by intro q hq; cases hq; exact (by omega))
        have hzhx273 := hst270.size
        replace hf47 := hf47.stp hst270 (by intro q hq; cases hq; omega)
        replace hf48 := hf48.stp hst270 (by intro q hq; cases hq; omega)
        replace hf50 : Own shStr 9 w32.heap.size w32.heap.size w45.heap.size w269 q42 (((jcT ((aA)) ((aB))).1)) := by first | exact hf50.stp hst270 (by intro q hq; cases hq; omega) | exact hf50.stpF flat_shStr hst270 (by intro q hq; cases hq; exact hf50.ne_box (by assumption) rfl)
        replace hf51 : Own shRowN 41 w32.heap.size w32.heap.size w45.heap.size w269 q43 q44 := by first | exact hf51.stp hst270 (by intro q hq; cases hq; omega) | exact hf51.stpF flat_shRowN hst270 (by intro q hq; cases hq; exact hf51.ne_box (by assumption) rfl)
        replace hf53 : Nst shI64 2 (fun x : List Int => x) w32.heap.size w45.heap.size w269 q44 := by first | exact hf53.stp hst270 (by intro q hq; cases hq; omega) | exact hf53.stpB flat_shI64 hst270 (by assumption) rfl
        replace hf49 := hf49.stp hst270 (by intro q hq; cases hq; omega)
        replace ho254 : Own shStr 9 w45.heap.size w45.heap.size w251.heap.size w269 u253 (((aA).1)) := by first | exact ho254.stp hst270 (by intro q hq; cases hq; omega) | exact ho254.stpF flat_shStr hst270 (by intro q hq; cases hq; exact ho254.ne_box (by assumption) rfl)
        replace ho256 : Own shRowN 41 w45.heap.size w45.heap.size w251.heap.size w269 u255 z257 := by first | exact ho256.stp hst270 (by intro q hq; cases hq; omega) | exact ho256.stpF flat_shRowN hst270 (by intro q hq; cases hq; exact ho256.ne_box (by assumption) rfl)
        replace hN258 : Nst shI64 2 (fun x : List Int => x) w45.heap.size w251.heap.size w269 z257 := by first | exact hN258.stp hst270 (by intro q hq; cases hq; omega) | exact hN258.stpB flat_shI64 hst270 (by assumption) rfl
        clear hb265
        refine wpList_nil ?_
        refine then_n ?_
        refine wp_seq ?_
        refine wp_region_lit ?_
        refine wl_val ha267 rfl rfl rfl (op_loadS ha267 rfl Try.underlying25 ti25 rfl rfl hf48.cells) ?_
        intro a274 ha274; clear ha267 a267
        refine wl_callR ha274 rfl rfl rfl (op_call ha274 rfl cb18 rfl) (c_laws_toTable _ v_aB0 v_aB1 aB (h_aB0.ext pos_shStr hx273) (h_aB1.ext pos_shRow hx273) (by first | assumption | omega | (simp; omega))) ?_
        rintro v275 w276 he277 ⟨u278, u280, z282, rfl, ho279, ho281, hN283, hE284⟩ a285 ha285; clear ha274 a274
        have hx286 := hx273.trans' he277
        have hzhx286 := he277.size
        replace hf47 := hf47.ext he277
        replace hf48 := hf48.ext he277
        replace hf50 := hf50.ext he277
        replace hf51 := hf51.ext he277
        replace hf53 := hf53.ext he277
        replace hf49 := hf49.ext he277
        replace ho254 := ho254.ext he277
        replace ho256 := ho256.ext he277
        replace hN258 := hN258.ext he277
        replace hb271 := hb271.ext he277
        have hlhE284 := absLen hE284
        refine wl_eff ha285 rfl rfl rfl (op_alloc' rfl ti28 rfl) ?_
        rintro _ w288 ⟨rfl, he289, hb290, hz291⟩ a292 ha292; clear ha285 a285
        have hx293 := hx286.trans' he289
        have hzhx293 := he289.size
        replace hf47 := hf47.ext he289
        replace hf48 := hf48.ext he289
        replace hf50 := hf50.ext he289
        replace hf51 := hf51.ext he289
        replace hf53 := hf53.ext he289
        replace hf49 := hf49.ext he289
        replace ho254 := ho254.ext he289
        replace ho256 := ho256.ext he289
        replace hN258 := hN258.ext he289
        replace hb271 := hb271.ext he289
        replace ho279 := ho279.ext he289
        replace ho281 := ho281.ext he289
        replace hN283 := hN283.ext he289
        refine wl_effS ha292 rfl rfl (op_storeAll' ha292 rfl ti28 rfl rfl hb290 rfl rfl (by intro u hu; have hu : u ∈ ([u278, u280] : List Value) := hu; simp only [List.mem_cons, List.mem_nil_iff, or_false] at hu; rcases hu with rfl | rfl <;> first | rfl | exact ho279.one | exact ho281.one) rfl) ?_
        rintro w294 ⟨hb296, hst295, hz297⟩
        have hx298 := hx293.stp hst295 (by intro q hq; cases hq; exact (by omega))
        have hzhx298 := hst295.size
        replace hf47 := hf47.stp hst295 (by intro q hq; cases hq; omega)
        replace hf48 := hf48.stp hst295 (by intro q hq; cases hq; omega)
        replace hf50 : Own shStr 9 w32.heap.size w32.heap.size w45.heap.size w294 q42 (((jcT ((aA)) ((aB))).1)) := by first | exact hf50.stp hst295 (by intro q hq; cases hq; omega) | exact hf50.stpF flat_shStr hst295 (by intro q hq; cases hq; exact hf50.ne_box (by assumption) rfl)
        replace hf51 : Own shRowN 41 w32.heap.size w32.heap.size w45.heap.size w294 q43 q44 := by first | exact hf51.stp hst295 (by intro q hq; cases hq; omega) | exact hf51.stpF flat_shRowN hst295 (by intro q hq; cases hq; exact hf51.ne_box (by assumption) rfl)
        replace hf53 : Nst shI64 2 (fun x : List Int => x) w32.heap.size w45.heap.size w294 q44 := by first | exact hf53.stp hst295 (by intro q hq; cases hq; omega) | exact hf53.stpB flat_shI64 hst295 (by assumption) rfl
        replace hf49 := hf49.stp hst295 (by intro q hq; cases hq; omega)
        replace ho254 : Own shStr 9 w45.heap.size w45.heap.size w251.heap.size w294 u253 (((aA).1)) := by first | exact ho254.stp hst295 (by intro q hq; cases hq; omega) | exact ho254.stpF flat_shStr hst295 (by intro q hq; cases hq; exact ho254.ne_box (by assumption) rfl)
        replace ho256 : Own shRowN 41 w45.heap.size w45.heap.size w251.heap.size w294 u255 z257 := by first | exact ho256.stp hst295 (by intro q hq; cases hq; omega) | exact ho256.stpF flat_shRowN hst295 (by intro q hq; cases hq; exact ho256.ne_box (by assumption) rfl)
        replace hN258 : Nst shI64 2 (fun x : List Int => x) w45.heap.size w251.heap.size w294 z257 := by first | exact hN258.stp hst295 (by intro q hq; cases hq; omega) | exact hN258.stpB flat_shI64 hst295 (by assumption) rfl
        replace hb271 := hb271.stp hst295 (by intro q hq; cases hq; omega)
        replace ho279 : Own shStr 9 w269.heap.size w269.heap.size w276.heap.size w294 u278 (((aB).1)) := by first | exact ho279.stp hst295 (by intro q hq; cases hq; omega) | exact ho279.stpF flat_shStr hst295 (by intro q hq; cases hq; exact ho279.ne_box (by assumption) rfl)
        replace ho281 : Own shRowN 41 w269.heap.size w269.heap.size w276.heap.size w294 u280 z282 := by first | exact ho281.stp hst295 (by intro q hq; cases hq; omega) | exact ho281.stpF flat_shRowN hst295 (by intro q hq; cases hq; exact ho281.ne_box (by assumption) rfl)
        replace hN283 : Nst shI64 2 (fun x : List Int => x) w269.heap.size w276.heap.size w294 z282 := by first | exact hN283.stp hst295 (by intro q hq; cases hq; omega) | exact hN283.stpB flat_shI64 hst295 (by assumption) rfl
        clear hb290
        refine wpList_nil ?_
        refine then_n ?_
        refine wp_seq ?_
        refine wp_region_lit ?_
        refine wl_val ha292 rfl rfl rfl (op_loadS ha292 rfl Try.underlying28 ti28 rfl rfl hb271.cells) ?_
        intro a299 ha299; clear ha292 a292
        refine wl_val ha299 rfl rfl rfl (op_loadS ha299 rfl Try.underlying28 ti28 rfl rfl hb296.cells) ?_
        intro a300 ha300; clear ha299 a299
        refine wl_callR ha300 rfl rfl rfl (op_call ha300 rfl cb42 rfl) (c_impl_JoinTables _ u253 u255 ((aA)) u278 u280 ((aB)) (ho254.rds pos_shStr) ((rds_shRowN (ho256.fin (by omega) (by omega) (by omega)) hN258).cast hE259) (ho279.rds pos_shStr) ((rds_shRowN (ho281.fin (by omega) (by omega) (by omega)) hN283).cast hE284)) ?_
        rintro v301 w302 he303 ⟨u304, u306, z308, rfl, ho305, ho307, hN309, hE310⟩ a311 ha311; clear ha300 a300
        have hx312 := hx298.trans' he303
        have hzhx312 := he303.size
        replace hf47 := hf47.ext he303
        replace hf48 := hf48.ext he303
        replace hf50 := hf50.ext he303
        replace hf51 := hf51.ext he303
        replace hf53 := hf53.ext he303
        replace hf49 := hf49.ext he303
        replace ho254 := ho254.ext he303
        replace ho256 := ho256.ext he303
        replace hN258 := hN258.ext he303
        replace hb271 := hb271.ext he303
        replace ho279 := ho279.ext he303
        replace ho281 := ho281.ext he303
        replace hN283 := hN283.ext he303
        replace hb296 := hb296.ext he303
        have hlhE310 := absLen hE310
        refine wl_val ha311 rfl rfl rfl (op_move ha311 rfl rfl) ?_
        intro a313 ha313; clear ha311 a311
        refine wl_val ha313 rfl rfl rfl (op_extract ha313 rfl rfl rfl) ?_
        intro a314 ha314; clear ha313 a313
        refine wl_val ha314 rfl rfl rfl (op_extract ha314 rfl rfl rfl) ?_
        intro a315 ha315; clear ha314 a314
        refine wl_eff ha315 rfl rfl rfl (op_alloc' rfl ti28 rfl) ?_
        rintro _ w317 ⟨rfl, he318, hb319, hz320⟩ a321 ha321; clear ha315 a315
        have hx322 := hx312.trans' he318
        have hzhx322 := he318.size
        replace hf47 := hf47.ext he318
        replace hf48 := hf48.ext he318
        replace hf50 := hf50.ext he318
        replace hf51 := hf51.ext he318
        replace hf53 := hf53.ext he318
        replace hf49 := hf49.ext he318
        replace ho254 := ho254.ext he318
        replace ho256 := ho256.ext he318
        replace hN258 := hN258.ext he318
        replace hb271 := hb271.ext he318
        replace ho279 := ho279.ext he318
        replace ho281 := ho281.ext he318
        replace hN283 := hN283.ext he318
        replace hb296 := hb296.ext he318
        replace ho305 := ho305.ext he318
        replace ho307 := ho307.ext he318
        replace hN309 := hN309.ext he318
        refine wl_effS ha321 rfl rfl (op_storeAll' ha321 rfl ti28 rfl rfl hb319 rfl rfl (by intro u hu; have hu : u ∈ ([u304, u306] : List Value) := hu; simp only [List.mem_cons, List.mem_nil_iff, or_false] at hu; rcases hu with rfl | rfl <;> first | rfl | exact ho305.one | exact ho307.one) rfl) ?_
        rintro w323 ⟨hb325, hst324, hz326⟩
        have hx327 := hx322.stp hst324 (by intro q hq; cases hq; exact (by omega))
        have hzhx327 := hst324.size
        replace hf47 := hf47.stp hst324 (by intro q hq; cases hq; omega)
        replace hf48 := hf48.stp hst324 (by intro q hq; cases hq; omega)
        replace hf50 : Own shStr 9 w32.heap.size w32.heap.size w45.heap.size w323 q42 (((jcT ((aA)) ((aB))).1)) := by first | exact hf50.stp hst324 (by intro q hq; cases hq; omega) | exact hf50.stpF flat_shStr hst324 (by intro q hq; cases hq; exact hf50.ne_box (by assumption) rfl)
        replace hf51 : Own shRowN 41 w32.heap.size w32.heap.size w45.heap.size w323 q43 q44 := by first | exact hf51.stp hst324 (by intro q hq; cases hq; omega) | exact hf51.stpF flat_shRowN hst324 (by intro q hq; cases hq; exact hf51.ne_box (by assumption) rfl)
        replace hf53 : Nst shI64 2 (fun x : List Int => x) w32.heap.size w45.heap.size w323 q44 := by first | exact hf53.stp hst324 (by intro q hq; cases hq; omega) | exact hf53.stpB flat_shI64 hst324 (by assumption) rfl
        replace hf49 := hf49.stp hst324 (by intro q hq; cases hq; omega)
        replace ho254 : Own shStr 9 w45.heap.size w45.heap.size w251.heap.size w323 u253 (((aA).1)) := by first | exact ho254.stp hst324 (by intro q hq; cases hq; omega) | exact ho254.stpF flat_shStr hst324 (by intro q hq; cases hq; exact ho254.ne_box (by assumption) rfl)
        replace ho256 : Own shRowN 41 w45.heap.size w45.heap.size w251.heap.size w323 u255 z257 := by first | exact ho256.stp hst324 (by intro q hq; cases hq; omega) | exact ho256.stpF flat_shRowN hst324 (by intro q hq; cases hq; exact ho256.ne_box (by assumption) rfl)
        replace hN258 : Nst shI64 2 (fun x : List Int => x) w45.heap.size w251.heap.size w323 z257 := by first | exact hN258.stp hst324 (by intro q hq; cases hq; omega) | exact hN258.stpB flat_shI64 hst324 (by assumption) rfl
        replace hb271 := hb271.stp hst324 (by intro q hq; cases hq; omega)
        replace ho279 : Own shStr 9 w269.heap.size w269.heap.size w276.heap.size w323 u278 (((aB).1)) := by first | exact ho279.stp hst324 (by intro q hq; cases hq; omega) | exact ho279.stpF flat_shStr hst324 (by intro q hq; cases hq; exact ho279.ne_box (by assumption) rfl)
        replace ho281 : Own shRowN 41 w269.heap.size w269.heap.size w276.heap.size w323 u280 z282 := by first | exact ho281.stp hst324 (by intro q hq; cases hq; omega) | exact ho281.stpF flat_shRowN hst324 (by intro q hq; cases hq; exact ho281.ne_box (by assumption) rfl)
        replace hN283 : Nst shI64 2 (fun x : List Int => x) w269.heap.size w276.heap.size w323 z282 := by first | exact hN283.stp hst324 (by intro q hq; cases hq; omega) | exact hN283.stpB flat_shI64 hst324 (by assumption) rfl
        replace hb296 := hb296.stp hst324 (by intro q hq; cases hq; omega)
        replace ho305 : Own shStr 9 w294.heap.size w294.heap.size w302.heap.size w323 u304 (((jcT ((aA)) ((aB))).1)) := by first | exact ho305.stp hst324 (by intro q hq; cases hq; omega) | exact ho305.stpF flat_shStr hst324 (by intro q hq; cases hq; exact ho305.ne_box (by assumption) rfl)
        replace ho307 : Own shRowN 41 w294.heap.size w294.heap.size w302.heap.size w323 u306 z308 := by first | exact ho307.stp hst324 (by intro q hq; cases hq; omega) | exact ho307.stpF flat_shRowN hst324 (by intro q hq; cases hq; exact ho307.ne_box (by assumption) rfl)
        replace hN309 : Nst shI64 2 (fun x : List Int => x) w294.heap.size w302.heap.size w323 z308 := by first | exact hN309.stp hst324 (by intro q hq; cases hq; omega) | exact hN309.stpB flat_shI64 hst324 (by assumption) rfl
        clear hb319
        refine wl_val ha321 rfl rfl rfl (op_assign ha321 rfl rfl) ?_
        intro a328 ha328; clear ha321 a321
        refine wpList_nil ?_
        refine then_n ?_
        refine wp_seq ?_
        refine wp_seq ?_
        refine wp_region_lit ?_
        refine wl_val ha328 rfl rfl rfl (op_loadS ha328 rfl Try.underlying28 ti28 rfl rfl hb325.cells) ?_
        intro a329 ha329; clear ha328 a328
        refine wl_val ha329 rfl rfl rfl (op_loadS ha329 rfl Try.underlying28 ti28 rfl rfl hf49.cells) ?_
        intro a330 ha330; clear ha329 a329
        refine wl_callR ha330 rfl rfl rfl (op_call ha330 rfl cb20 rfl) (c_laws_eqTable _ u304 u306 ((jcT ((aA)) ((aB)))) q42 q43 ((jcT ((aA)) ((aB)))) (ho305.rds pos_shStr) ((rds_shRowN (ho307.fin (by omega) (by omega) (by omega)) hN309).cast hE310) (hf50.rds pos_shStr) ((rds_shRowN (hf51.fin (by omega) (by omega) (by omega)) hf53).cast hE52)) ?_
        rintro v331 w332 he333 rfl a334 ha334; clear ha330 a330
        have hx335 := hx327.trans' he333
        have hzhx335 := he333.size
        replace hf47 := hf47.ext he333
        replace hf48 := hf48.ext he333
        replace hf50 := hf50.ext he333
        replace hf51 := hf51.ext he333
        replace hf53 := hf53.ext he333
        replace hf49 := hf49.ext he333
        replace ho254 := ho254.ext he333
        replace ho256 := ho256.ext he333
        replace hN258 := hN258.ext he333
        replace hb271 := hb271.ext he333
        replace ho279 := ho279.ext he333
        replace ho281 := ho281.ext he333
        replace hN283 := hN283.ext he333
        replace hb296 := hb296.ext he333
        replace ho305 := ho305.ext he333
        replace ho307 := ho307.ext he333
        replace hN309 := hN309.ext he333
        replace hb325 := hb325.ext he333
        refine wl_val ha334 rfl rfl rfl (op_not ha334 rfl rfl) ?_
        intro a336 ha336; clear ha334 a334
        refine wl_val ha336 rfl rfl rfl (op_move ha336 rfl rfl) ?_
        intro a337 ha337; clear ha336 a336
        rcases Bool.eq_false_or_eq_true (decide (((jcT ((aA)) ((aB)))) = ((jcT ((aA)) ((aB)))))) with c338 | c338
        ·
          rw [c338] at ha337
          refine wl_val ha337 rfl rfl rfl (op_move ha337 rfl rfl) ?_
          intro a339 ha339; clear ha337 a337
          refine wl_val ha339 rfl rfl rfl (op_move ha339 rfl rfl) ?_
          intro a340 ha340; clear ha339 a339
          refine wl_val ha340 rfl rfl rfl ((op_neq ha340 rfl rfl rfl).to (congrArg Value.bool decide_not)) ?_
          intro a341 ha341; clear ha340 a340
          refine wl_val ha341 rfl rfl rfl (op_pick_f ha341 rfl rfl rfl) ?_
          intro a342 ha342; clear ha341 a341
          refine wpList_nil ?_
          refine then_n ?_
          by_cases c343 : (cdJ ((aA)) ((aB)) : Int) = (cdJ ((aA)) ((aB)) : Int)
          ·
            rw [decide_eq_true c343] at ha342
            refine cond_f ha342 rfl ?_
            refine wp_skip ?_
            refine then_n ?_
            refine wp_seq ?_
            refine wp_seq ?_
            refine dr_enter Ext follows_mixed ?_
            intro w344 he345
            have hx346 := hx335.trans' he345
            have hzhx346 := he345.size
            replace hf47 := hf47.ext he345
            replace hf48 := hf48.ext he345
            replace hf50 := hf50.ext he345
            replace hf51 := hf51.ext he345
            replace hf53 := hf53.ext he345
            replace hf49 := hf49.ext he345
            replace ho254 := ho254.ext he345
            replace ho256 := ho256.ext he345
            replace hN258 := hN258.ext he345
            replace hb271 := hb271.ext he345
            replace ho279 := ho279.ext he345
            replace ho281 := ho281.ext he345
            replace hN283 := hN283.ext he345
            replace hb296 := hb296.ext he345
            replace ho305 := ho305.ext he345
            replace ho307 := ho307.ext he345
            replace hN309 := hN309.ext he345
            replace hb325 := hb325.ext he345
            have hs347 : Ext w344 w344 := Ext.rfl' _
            refine dr_val (i := 0) ha342 rfl (by kernel_rfl) (by kernel_rfl) (by kernel_rfl) rfl rfl rfl hs347 (fun w' hw' => op_loadS ha342 rfl Try.underlying28 ti28 rfl rfl (hb271.ext hw').cells) ?_
            intro a348 ha348; clear ha342 a342
            refine dr_val (i := 1) ha348 rfl (by kernel_rfl) (by kernel_rfl) (by kernel_rfl) rfl rfl rfl hs347 (fun w' hw' => op_loadS ha348 rfl Try.underlying25 ti25 rfl rfl (hf47.ext hw').cells) ?_
            intro a349 ha349; clear ha348 a348
            refine dr_one (i := 2) (by kernel_rfl) ?_
            refine po_callR ha349 rfl rfl rfl rfl (op_call ha349 rfl cb18 rfl) (c_laws_toTable _ v_aA0 v_aA1 aA (h_aA0.ext pos_shStr (hx346.trans' hs347)) (h_aA1.ext pos_shRow (hx346.trans' hs347)) (by first | assumption | omega | (simp; omega))) ?_
            rintro v350 w351 he352 ⟨u353, u355, z357, rfl, ho354, ho356, hN358, hE359⟩ a360 ha360; clear ha349 a349
            have hs361 := hs347.trans' he352
            have hx362 := hx346.trans' he352
            have hzhx362 := he352.size
            refine ⟨hs361, ?_⟩
            have hlhE359 := absLen hE359
            refine dr_one (i := 3) (by kernel_rfl) ?_
            refine po_callR ha360 rfl rfl rfl rfl (op_call ha360 rfl cb20 rfl) (c_laws_eqTable _ u253 u255 ((aA)) u353 u355 ((aA)) ((ho254.rds pos_shStr).ext pos_shStr hs361) (((rds_shRowN (ho256.fin (by omega) (by omega) (by omega)) hN258).ext pos_shRow hs361).cast hE259) (ho354.rds pos_shStr) ((rds_shRowN (ho356.fin (by omega) (by omega) (by omega)) hN358).cast hE359)) ?_
            rintro v363 w364 he365 rfl a366 ha366; clear ha360 a360
            have hs367 := hs361.trans' he365
            have hx368 := hx362.trans' he365
            have hzhx368 := he365.size
            replace ho354 := ho354.ext he365
            replace ho356 := ho356.ext he365
            replace hN358 := hN358.ext he365
            refine ⟨hs367, ?_⟩
            refine dr_val (i := 4) ha366 rfl (by kernel_rfl) (by kernel_rfl) (by kernel_rfl) rfl rfl rfl hs367 (fun w' hw' => op_not ha366 rfl rfl) ?_
            intro a369 ha369; clear ha366 a366
            refine dr_end (by kernel_rfl) ?_
            replace hf47 := hf47.ext hs367
            replace hf48 := hf48.ext hs367
            replace hf50 := hf50.ext hs367
            replace hf51 := hf51.ext hs367
            replace hf53 := hf53.ext hs367
            replace hf49 := hf49.ext hs367
            replace ho254 := ho254.ext hs367
            replace ho256 := ho256.ext hs367
            replace hN258 := hN258.ext hs367
            replace hb271 := hb271.ext hs367
            replace ho279 := ho279.ext hs367
            replace ho281 := ho281.ext hs367
            replace hN283 := hN283.ext hs367
            replace hb296 := hb296.ext hs367
            replace ho305 := ho305.ext hs367
            replace ho307 := ho307.ext hs367
            replace hN309 := hN309.ext hs367
            replace hb325 := hb325.ext hs367
            refine then_n ?_
            rcases Bool.eq_false_or_eq_true (decide (((aA)) = ((aA)))) with c370 | c370
            ·
              rw [c370] at ha369
              refine cond_f ha369 rfl ?_
              refine wp_skip ?_
              refine then_n ?_
              refine wp_seq ?_
              refine wp_seq ?_
              clear ho354 ho356 hN358
              refine dr_enter Ext follows_mixed ?_
              intro w371 he372
              have hx373 := hx368.trans' he372
              have hzhx373 := he372.size
              replace hf47 := hf47.ext he372
              replace hf48 := hf48.ext he372
              replace hf50 := hf50.ext he372
              replace hf51 := hf51.ext he372
              replace hf53 := hf53.ext he372
              replace hf49 := hf49.ext he372
              replace ho254 := ho254.ext he372
              replace ho256 := ho256.ext he372
              replace hN258 := hN258.ext he372
              replace hb271 := hb271.ext he372
              replace ho279 := ho279.ext he372
              replace ho281 := ho281.ext he372
              replace hN283 := hN283.ext he372
              replace hb296 := hb296.ext he372
              replace ho305 := ho305.ext he372
              replace ho307 := ho307.ext he372
              replace hN309 := hN309.ext he372
              replace hb325 := hb325.ext he372
              have hs374 : Ext w371 w371 := Ext.rfl' _
              refine dr_val (i := 0) ha369 rfl (by kernel_rfl) (by kernel_rfl) (by kernel_rfl) rfl rfl rfl hs374 (fun w' hw' => op_loadS ha369 rfl Try.underlying28 ti28 rfl rfl (hb296.ext hw').cells) ?_
              intro a375 ha375; clear ha369 a369
              refine dr_val (i := 1) ha375 rfl (by kernel_rfl) (by kernel_rfl) (by kernel_rfl) rfl rfl rfl hs374 (fun w' hw' => op_loadS ha375 rfl Try.underlying25 ti25 rfl rfl (hf48.ext hw').cells) ?_
              intro a376 ha376; clear ha375 a375
              refine dr_one (i := 2) (by kernel_rfl) ?_
              refine po_callR ha376 rfl rfl rfl rfl (op_call ha376 rfl cb18 rfl) (c_laws_toTable _ v_aB0 v_aB1 aB (h_aB0.ext pos_shStr (hx373.trans' hs374)) (h_aB1.ext pos_shRow (hx373.trans' hs374)) (by first | assumption | omega | (simp; omega))) ?_
              rintro v377 w378 he379 ⟨u380, u382, z384, rfl, ho381, ho383, hN385, hE386⟩ a387 ha387; clear ha376 a376
              have hs388 := hs374.trans' he379
              have hx389 := hx373.trans' he379
              have hzhx389 := he379.size
              refine ⟨hs388, ?_⟩
              have hlhE386 := absLen hE386
              refine dr_one (i := 3) (by kernel_rfl) ?_
              refine po_callR ha387 rfl rfl rfl rfl (op_call ha387 rfl cb20 rfl) (c_laws_eqTable _ u278 u280 ((aB)) u380 u382 ((aB)) ((ho279.rds pos_shStr).ext pos_shStr hs388) (((rds_shRowN (ho281.fin (by omega) (by omega) (by omega)) hN283).ext pos_shRow hs388).cast hE284) (ho381.rds pos_shStr) ((rds_shRowN (ho383.fin (by omega) (by omega) (by omega)) hN385).cast hE386)) ?_
              rintro v390 w391 he392 rfl a393 ha393; clear ha387 a387
              have hs394 := hs388.trans' he392
              have hx395 := hx389.trans' he392
              have hzhx395 := he392.size
              replace ho381 := ho381.ext he392
              replace ho383 := ho383.ext he392
              replace hN385 := hN385.ext he392
              refine ⟨hs394, ?_⟩
              refine dr_val (i := 4) ha393 rfl (by kernel_rfl) (by kernel_rfl) (by kernel_rfl) rfl rfl rfl hs394 (fun w' hw' => op_not ha393 rfl rfl) ?_
              intro a396 ha396; clear ha393 a393
              refine dr_end (by kernel_rfl) ?_
              replace hf47 := hf47.ext hs394
              replace hf48 := hf48.ext hs394
              replace hf50 := hf50.ext hs394
              replace hf51 := hf51.ext hs394
              replace hf53 := hf53.ext hs394
              replace hf49 := hf49.ext hs394
              replace ho254 := ho254.ext hs394
              replace ho256 := ho256.ext hs394
              replace hN258 := hN258.ext hs394
              replace hb271 := hb271.ext hs394
              replace ho279 := ho279.ext hs394
              replace ho281 := ho281.ext hs394
              replace hN283 := hN283.ext hs394
              replace hb296 := hb296.ext hs394
              replace ho305 := ho305.ext hs394
              replace ho307 := ho307.ext hs394
              replace hN309 := hN309.ext hs394
              replace hb325 := hb325.ext hs394
              refine then_n ?_
              rcases Bool.eq_false_or_eq_true (decide (((aB)) = ((aB)))) with c397 | c397
              ·
                rw [c397] at ha396
                refine cond_f ha396 rfl ?_
                refine wp_skip ?_
                refine then_n ?_
                refine wp_seq ?_
                clear ho381 ho383 hN385
                refine wp_region_lit ?_
                refine wl_val ha396 rfl rfl rfl (op_assign ha396 rfl rfl) ?_
                intro a398 ha398; clear ha396 a396
                refine wpList_nil ?_
                refine then_n ?_
                refine wp_seq ?_
                refine wp_region_lit ?_
                refine wl_val ha398 rfl rfl rfl (op_loadS ha398 rfl Try.underlying28 ti28 rfl rfl hb271.cells) ?_
                intro a399 ha399; clear ha398 a398
                refine wl_val ha399 rfl rfl rfl (op_move ha399 rfl rfl) ?_
                intro a400 ha400; clear ha399 a399
                have hm409 := c_laws_markTable (lo_a := w45.heap.size) (hi_a := w251.heap.size) _ u253 (((aA).1)) u255 z257 (1 : Int) (ho254.fin (by omega) (by omega) (by omega)) (ho256.fin (by omega) (by omega) (by omega)) (hN258.fin (by omega) (by omega)) (by omega) (by (try rw [hE259]); first | assumption | omega | (simp; omega)) (by (try rw [hE259]); first | assumption | omega | (simp; omega)) (by (try rw [hE259]); first | assumption | omega | (simp; omega))
                try rw [hE259] at hm409
                refine wl_callI ha400 rfl rfl rfl (op_call ha400 rfl cb26 rfl) (hm409) ?_
                rintro v401 w402 he403 ⟨z406, rfl, ho404, ho405, hN407, hE408⟩ a410 ha410; clear ha400 a400
                have hx411 := hx395.stpI he403 (by omega)
                have hzhx411 := he403.size
                replace hf47 := hf47.stpI he403 (by omega)
                replace hf48 := hf48.stpI he403 (by omega)
                replace hf50 := hf50.stpI he403 (by omega)
                replace hf51 := hf51.stpI he403 (by omega)
                replace hf53 := hf53.stpI he403 (by omega)
                replace hf49 := hf49.stpI he403 (by omega)
                replace hb271 := hb271.stpI he403 (by omega)
                replace ho279 := ho279.stpI he403 (by omega)
                replace ho281 := ho281.stpI he403 (by omega)
                replace hN283 := hN283.stpI he403 (by omega)
                replace hb296 := hb296.stpI he403 (by omega)
                replace ho305 := ho305.stpI he403 (by omega)
                replace ho307 := ho307.stpI he403 (by omega)
                replace hN309 := hN309.stpI he403 (by omega)
                replace hb325 := hb325.stpI he403 (by omega)
                clear ho254 ho256 hN258
                refine wl_val ha410 rfl rfl rfl (op_assign ha410 rfl rfl) ?_
                intro a412 ha412; clear ha410 a410
                refine wpList_nil ?_
                refine then_n ?_
                refine wp_seq ?_
                clear hb271 ho404 ho405 hN407
                refine wp_region_lit ?_
                refine wl_val ha412 rfl rfl rfl (op_loadS ha412 rfl Try.underlying28 ti28 rfl rfl hb296.cells) ?_
                intro a413 ha413; clear ha412 a412
                refine wl_val ha413 rfl rfl rfl (op_move ha413 rfl rfl) ?_
                intro a414 ha414; clear ha413 a413
                have hm423 := c_laws_markTable (lo_a := w269.heap.size) (hi_a := w276.heap.size) _ u278 (((aB).1)) u280 z282 (kkT ((((aA).1), ((aA).2)) : List Str × List (List Int)) ((1 : Int)) : Int) (ho279.fin (by omega) (by omega) (by omega)) (ho281.fin (by omega) (by omega) (by omega)) (hN283.fin (by omega) (by omega)) (by omega) (by (try rw [hE284]); first | assumption | omega | (simp; omega)) (by (try rw [hE284]); first | assumption | omega | (simp; omega)) (by (try rw [hE284]); first | assumption | omega | (simp; omega))
                try rw [hE284] at hm423
                refine wl_callI ha414 rfl rfl rfl (op_call ha414 rfl cb26 rfl) (hm423) ?_
                rintro v415 w416 he417 ⟨z420, rfl, ho418, ho419, hN421, hE422⟩ a424 ha424; clear ha414 a414
                have hx425 := hx411.stpI he417 (by omega)
                have hzhx425 := he417.size
                replace hf47 := hf47.stpI he417 (by omega)
                replace hf48 := hf48.stpI he417 (by omega)
                replace hf50 := hf50.stpI he417 (by omega)
                replace hf51 := hf51.stpI he417 (by omega)
                replace hf53 := hf53.stpI he417 (by omega)
                replace hf49 := hf49.stpI he417 (by omega)
                replace hb296 := hb296.stpI he417 (by omega)
                replace ho305 := ho305.stpI he417 (by omega)
                replace ho307 := ho307.stpI he417 (by omega)
                replace hN309 := hN309.stpI he417 (by omega)
                replace hb325 := hb325.stpI he417 (by omega)
                clear ho279 ho281 hN283
                refine wl_val ha424 rfl rfl rfl (op_assign ha424 rfl rfl) ?_
                intro a426 ha426; clear ha424 a424
                refine wpList_nil ?_
                refine then_n ?_
                refine wp_seq ?_
                refine wp_seq ?_
                clear hb296 ho418 ho419 hN421
                refine wp_region_lit ?_
                refine wl_val ha426 rfl rfl rfl (op_move ha426 rfl rfl) ?_
                intro a427 ha427; clear ha426 a426
                refine wl_val ha427 rfl rfl rfl (op_lss ha427 rfl rfl rfl) ?_
                intro a428 ha428; clear ha427 a427
                refine wl_val ha428 rfl rfl rfl (op_move ha428 rfl rfl) ?_
                intro a429 ha429; clear ha428 a428
                by_cases c430 : (kkT ((((aB).1), ((aB).2)) : List Str × List (List Int)) ((kkT ((((aA).1), ((aA).2)) : List Str × List (List Int)) ((1 : Int)) : Int)) : Int) < (0 : Int)
                ·
                  rw [decide_eq_true c430] at ha429
                  refine wl_skip ha429 rfl rfl rfl ?_
                  intro a431 ha431; clear ha429 a429
                  refine wl_skip ha431 rfl rfl rfl ?_
                  intro a432 ha432; clear ha431 a431
                  refine wl_skip ha432 rfl rfl rfl ?_
                  intro a433 ha433; clear ha432 a432
                  refine wl_skip ha433 rfl rfl rfl ?_
                  intro a434 ha434; clear ha433 a433
                  refine wl_val ha434 rfl rfl rfl (op_pick_t ha434 rfl rfl rfl) ?_
                  intro a435 ha435; clear ha434 a434
                  refine wl_val ha435 rfl rfl rfl (op_move ha435 rfl rfl) ?_
                  intro a436 ha436; clear ha435 a435
                  refine wl_skip ha436 rfl rfl rfl ?_
                  intro a437 ha437; clear ha436 a436
                  refine wl_skip ha437 rfl rfl rfl ?_
                  intro a438 ha438; clear ha437 a437
                  refine wl_skip ha438 rfl rfl rfl ?_
                  intro a439 ha439; clear ha438 a438
                  refine wl_val ha439 rfl rfl rfl (op_pick_t ha439 rfl rfl rfl) ?_
                  intro a440 ha440; clear ha439 a439
                  refine wpList_nil ?_
                  refine then_n ?_
                  refine cond_t ha440 rfl ?_
                  refine wp_seq ?_
                  clear hf47 hf48 hf50 hf51 hf53 hf49 ho305 ho307 hN309 hb325
                  refine wp_region_lit ?_
                  refine wl_val ha440 rfl rfl rfl (op_assign ha440 rfl rfl) ?_
                  intro a441 ha441; clear ha440 a440
                  refine wpList_nil ?_
                  refine then_n ?_
                  refine wp_ret ?_
                  refine then_r ?_
                  refine ret1 ha441 rfl rfl ?_
                  clear ha441 a441
                  exact ret_mk hx425 (congrArg Value.bool (by first | rfl | omega | (simp at c397; done) | (simp at c370; done) | (simp at c338; done) | (exact absurd rfl c39) | (exact absurd rfl c27)))
                ·
                  rw [decide_eq_false c430] at ha429
                  refine wl_val ha429 rfl rfl rfl (op_loadS ha429 rfl Try.underlying28 ti28 rfl rfl hb325.cells) ?_
                  intro a442 ha442; clear ha429 a429
                  refine wl_val ha442 rfl rfl rfl (op_loadS ha442 rfl Try.underlying28 ti28 rfl rfl hf49.cells) ?_
                  intro a443 ha443; clear ha442 a442
                  refine wl_callR ha443 rfl rfl rfl (op_call ha443 rfl cb20 rfl) (c_laws_eqTable _ u304 u306 ((jcT ((aA)) ((aB)))) q42 q43 ((jcT ((aA)) ((aB)))) (ho305.rds pos_shStr) ((rds_shRowN (ho307.fin (by omega) (by omega) (by omega)) hN309).cast hE310) (hf50.rds pos_shStr) ((rds_shRowN (hf51.fin (by omega) (by omega) (by omega)) hf53).cast hE52)) ?_
                  rintro v444 w445 he446 rfl a447 ha447; clear ha443 a443
                  have hx448 := hx425.trans' he446
                  have hzhx448 := he446.size
                  replace hf47 := hf47.ext he446
                  replace hf48 := hf48.ext he446
                  replace hf50 := hf50.ext he446
                  replace hf51 := hf51.ext he446
                  replace hf53 := hf53.ext he446
                  replace hf49 := hf49.ext he446
                  replace ho305 := ho305.ext he446
                  replace ho307 := ho307.ext he446
                  replace hN309 := hN309.ext he446
                  replace hb325 := hb325.ext he446
                  refine wl_val ha447 rfl rfl rfl (op_not ha447 rfl rfl) ?_
                  intro a449 ha449; clear ha447 a447
                  refine wl_val ha449 rfl rfl rfl (op_pick_f ha449 rfl rfl rfl) ?_
                  intro a450 ha450; clear ha449 a449
                  refine wl_val ha450 rfl rfl rfl (op_move ha450 rfl rfl) ?_
                  intro a451 ha451; clear ha450 a450
                  rw [c338] at ha451
                  refine wl_val ha451 rfl rfl rfl (op_move ha451 rfl rfl) ?_
                  intro a452 ha452; clear ha451 a451
                  refine wl_val ha452 rfl rfl rfl (op_move ha452 rfl rfl) ?_
                  intro a453 ha453; clear ha452 a452
                  refine wl_val ha453 rfl rfl rfl ((op_neq ha453 rfl rfl rfl).to (congrArg Value.bool decide_not)) ?_
                  intro a454 ha454; clear ha453 a453
                  refine wl_val ha454 rfl rfl rfl (op_pick_f ha454 rfl rfl rfl) ?_
                  intro a455 ha455; clear ha454 a454
                  refine wpList_nil ?_
                  refine then_n ?_
                  rw [decide_eq_true c343] at ha455
                  refine cond_f ha455 rfl ?_
                  refine wp_skip ?_
                  refine then_n ?_
                  refine wp_seq ?_
                  refine wp_region_lit ?_
                  refine wl_val ha455 rfl rfl rfl (op_assign ha455 rfl rfl) ?_
                  intro a456 ha456; clear ha455 a455
                  refine wpList_nil ?_
                  refine then_n ?_
                  refine wp_seq ?_
                  refine wp_region_lit ?_
                  refine wl_val ha456 rfl rfl rfl (op_loadS ha456 rfl Try.underlying28 ti28 rfl rfl hb325.cells) ?_
                  intro a457 ha457; clear ha456 a456
                  refine wl_val ha457 rfl rfl rfl (op_move ha457 rfl rfl) ?_
                  intro a458 ha458; clear ha457 a457
                  have hm467 := c_laws_markTable (lo_a := w294.heap.size) (hi_a := w302.heap.size) _ u304 (((jcT ((aA)) ((aB))).1)) u306 z308 (1 : Int) (ho305.fin (by omega) (by omega) (by omega)) (ho307.fin (by omega) (by omega) (by omega)) (hN309.fin (by omega) (by omega)) (by omega) (by (try rw [hE310]); first | assumption | omega | (simp; omega)) (by (try rw [hE310]); first | assumption | omega | (simp; omega)) (by (try rw [hE310]); first | assumption | omega | (simp; omega))
                  try rw [hE310] at hm467
                  refine wl_callI ha458 rfl rfl rfl (op_call ha458 rfl cb26 rfl) (hm467) ?_
                  rintro v459 w460 he461 ⟨z464, rfl, ho462, ho463, hN465, hE466⟩ a468 ha468; clear ha458 a458
                  have hx469 := hx448.stpI he461 (by omega)
                  have hzhx469 := he461.size
                  replace hf47 := hf47.stpI he461 (by omega)
                  replace hf48 := hf48.stpI he461 (by omega)
                  replace hf50 := hf50.stpI he461 (by omega)
                  replace hf51 := hf51.stpI he461 (by omega)
                  replace hf53 := hf53.stpI he461 (by omega)
                  replace hf49 := hf49.stpI he461 (by omega)
                  replace hb325 := hb325.stpI he461 (by omega)
                  clear ho305 ho307 hN309
                  refine wl_val ha468 rfl rfl rfl (op_assign ha468 rfl rfl) ?_
                  intro a470 ha470; clear ha468 a468
                  refine wpList_nil ?_
                  refine then_n ?_
                  refine wp_seq ?_
                  refine wp_region_lit ?_
                  refine wl_val ha470 rfl rfl rfl (op_assign ha470 rfl rfl) ?_
                  intro a471 ha471; clear ha470 a470
                  refine wpList_nil ?_
                  refine then_n ?_
                  refine wp_seq ?_
                  refine wp_region_lit ?_
                  refine wl_val ha471 rfl rfl rfl (op_loadS ha471 rfl Try.underlying28 ti28 rfl rfl hb325.cells) ?_
                  intro a472 ha472; clear ha471 a471
                  refine wl_val ha472 rfl rfl rfl (op_move ha472 rfl rfl) ?_
                  intro a473 ha473; clear ha472 a472
                  refine wl_callR ha473 rfl rfl rfl (op_call ha473 rfl cb36 rfl) (c_laws_heldTable _ u304 u306 ((mkT2 ((((jcT ((aA)) ((aB))).1), ((jcT ((aA)) ((aB))).2)) : List Str × List (List Int)) ((1 : Int)))) (1 : Int) (ho462.rds pos_shStr) ((rds_shRowN (ho463.fin (by omega) (by omega) (by omega)) hN465).cast hE466) (by first | assumption | omega | (simp; omega)) (by first | assumption | omega | (simp; omega) | (simp [kk_mkT]; omega))) ?_
                  rintro v474 w475 he476 rfl a477 ha477; clear ha473 a473
                  have hx478 := hx469.trans' he476
                  have hzhx478 := he476.size
                  replace hf47 := hf47.ext he476
                  replace hf48 := hf48.ext he476
                  replace hf50 := hf50.ext he476
                  replace hf51 := hf51.ext he476
                  replace hf53 := hf53.ext he476
                  replace hf49 := hf49.ext he476
                  replace hb325 := hb325.ext he476
                  replace ho462 := ho462.ext he476
                  replace ho463 := ho463.ext he476
                  replace hN465 := hN465.ext he476
                  refine wl_val ha477 rfl rfl rfl (op_assign ha477 rfl rfl) ?_
                  intro a479 ha479; clear ha477 a477
                  refine wpList_nil ?_
                  refine then_n ?_
                  refine wp_seq ?_
                  refine wp_seq ?_
                  refine wp_region_lit ?_
                  refine wl_val ha479 rfl rfl rfl (op_move ha479 rfl rfl) ?_
                  intro a480 ha480; clear ha479 a479
                  refine wl_val ha480 rfl rfl rfl (op_lss ha480 rfl rfl rfl) ?_
                  intro a481 ha481; clear ha480 a480
                  refine wpList_nil ?_
                  refine then_n ?_
                  by_cases c482 : (heldT ((mkT2 ((((jcT ((aA)) ((aB))).1), ((jcT ((aA)) ((aB))).2)) : List Str × List (List Int)) ((1 : Int)))) (1 : Int) : Int) < (0 : Int)
                  ·
                    rw [decide_eq_true c482] at ha481
                    refine cond_t ha481 rfl ?_
                    refine wp_seq ?_
                    clear hf47 hf48 hf50 hf51 hf53 hf49 hb325 ho462 ho463 hN465
                    refine wp_region_lit ?_
                    refine wl_val ha481 rfl rfl rfl (op_assign ha481 rfl rfl) ?_
                    intro a483 ha483; clear ha481 a481
                    refine wpList_nil ?_
                    refine then_n ?_
                    refine wp_ret ?_
                    refine then_r ?_
                    refine ret1 ha483 rfl rfl ?_
                    clear ha483 a483
                    exact ret_mk hx478 (congrArg Value.bool (by first | rfl | omega | (simp [held_mkT] at c482; done) | (simp [held_mkT] at c482; omega) | (exact absurd rfl c430) | (simp at c397; done) | (simp at c370; done) | (simp at c338; done) | (exact absurd rfl c39) | (exact absurd rfl c27)))
                  ·
                    rw [decide_eq_false c482] at ha481
                    refine cond_f ha481 rfl ?_
                    refine wp_skip ?_
                    refine then_n ?_
                    refine wp_seq ?_
                    refine wp_seq ?_
                    refine wp_region_lit ?_
                    refine wl_val ha481 rfl rfl rfl (op_move ha481 rfl rfl) ?_
                    intro a484 ha484; clear ha481 a481
                    refine wl_val ha484 rfl rfl rfl (op_move ha484 rfl rfl) ?_
                    intro a485 ha485; clear ha484 a484
                    refine wl_val ha485 rfl rfl rfl ((op_neq ha485 rfl rfl rfl).to (congrArg Value.bool decide_not)) ?_
                    intro a486 ha486; clear ha485 a485
                    refine wpList_nil ?_
                    refine then_n ?_
                    by_cases c487 : (heldT ((mkT2 ((((jcT ((aA)) ((aB))).1), ((jcT ((aA)) ((aB))).2)) : List Str × List (List Int)) ((1 : Int)))) (1 : Int) : Int) = (kkT ((((jcT ((aA)) ((aB))).1), ((jcT ((aA)) ((aB))).2)) : List Str × List (List Int)) ((1 : Int)) : Int)
                    ·
                      rw [decide_eq_true c487] at ha486
                      refine cond_f ha486 rfl ?_
                      refine wp_skip ?_
                      refine then_n ?_
                      refine wp_seq ?_
                      refine dr_enter Ext follows_mixed ?_
                      intro w488 he489
                      have hx490 := hx478.trans' he489
                      have hzhx490 := he489.size
                      replace hf47 := hf47.ext he489
                      replace hf48 := hf48.ext he489
                      replace hf50 := hf50.ext he489
                      replace hf51 := hf51.ext he489
                      replace hf53 := hf53.ext he489
                      replace hf49 := hf49.ext he489
                      replace hb325 := hb325.ext he489
                      replace ho462 := ho462.ext he489
                      replace ho463 := ho463.ext he489
                      replace hN465 := hN465.ext he489
                      have hs491 : Ext w488 w488 := Ext.rfl' _
                      refine dr_val (i := 0) ha486 rfl (by kernel_rfl) (by kernel_rfl) (by kernel_rfl) rfl rfl rfl hs491 (fun w' hw' => op_loadS ha486 rfl Try.underlying25 ti25 rfl rfl (hf47.ext hw').cells) ?_
                      intro a492 ha492; clear ha486 a486
                      refine dr_val (i := 2) ha492 rfl (by kernel_rfl) (by kernel_rfl) (by kernel_rfl) rfl rfl rfl hs491 (fun w' hw' => op_loadS ha492 rfl Try.underlying25 ti25 rfl rfl (hf48.ext hw').cells) ?_
                      intro a493 ha493; clear ha492 a492
                      refine dr_two (i := 1) (j := 8) (by kernel_rfl) ?_ ?_
                      ·
                        refine po_callR ha493 rfl rfl rfl rfl (op_call ha493 rfl cb18 rfl) (c_laws_toTable _ v_aA0 v_aA1 aA (h_aA0.ext pos_shStr (hx490.trans' hs491)) (h_aA1.ext pos_shRow (hx490.trans' hs491)) (by first | assumption | omega | (simp; omega))) ?_
                        rintro v494 w495 he496 ⟨u497, u499, z501, rfl, ho498, ho500, hN502, hE503⟩ a504 ha504; clear ha493 a493
                        have hs505 := hs491.trans' he496
                        have hx506 := hx490.trans' he496
                        have hzhx506 := he496.size
                        refine ⟨hs505, ?_⟩
                        have hlhE503 := absLen hE503
                        refine dr_two (i := 3) (j := 8) (by kernel_rfl) ?_ ?_
                        ·
                          refine po_callR ha504 rfl rfl rfl rfl (op_call ha504 rfl cb18 rfl) (c_laws_toTable _ v_aB0 v_aB1 aB (h_aB0.ext pos_shStr (hx490.trans' hs505)) (h_aB1.ext pos_shRow (hx490.trans' hs505)) (by first | assumption | omega | (simp; omega))) ?_
                          rintro v507 w508 he509 ⟨u510, u512, z514, rfl, ho511, ho513, hN515, hE516⟩ a517 ha517; clear ha504 a504
                          have hs518 := hs505.trans' he509
                          have hx519 := hx506.trans' he509
                          have hzhx519 := he509.size
                          replace ho498 := ho498.ext he509
                          replace ho500 := ho500.ext he509
                          replace hN502 := hN502.ext he509
                          refine ⟨hs518, ?_⟩
                          have hlhE516 := absLen hE516
                          refine dr_two (i := 4) (j := 8) (by kernel_rfl) ?_ ?_
                          ·
                            refine po_callR ha517 rfl rfl rfl rfl (op_call ha517 rfl cb42 rfl) (c_impl_JoinTables _ u497 u499 ((aA)) u510 u512 ((aB)) (ho498.rds pos_shStr) ((rds_shRowN (ho500.fin (by omega) (by omega) (by omega)) hN502).cast hE503) (ho511.rds pos_shStr) ((rds_shRowN (ho513.fin (by omega) (by omega) (by omega)) hN515).cast hE516)) ?_
                            rintro v520 w521 he522 ⟨u523, u525, z527, rfl, ho524, ho526, hN528, hE529⟩ a530 ha530; clear ha517 a517
                            have hs531 := hs518.trans' he522
                            have hx532 := hx519.trans' he522
                            have hzhx532 := he522.size
                            replace ho498 := ho498.ext he522
                            replace ho500 := ho500.ext he522
                            replace hN502 := hN502.ext he522
                            replace ho511 := ho511.ext he522
                            replace ho513 := ho513.ext he522
                            replace hN515 := hN515.ext he522
                            refine ⟨hs531, ?_⟩
                            have hlhE529 := absLen hE529
                            refine dr_val (i := 5) ha530 rfl (by kernel_rfl) (by kernel_rfl) (by kernel_rfl) rfl rfl rfl hs531 (fun w' hw' => op_move ha530 rfl rfl) ?_
                            intro a533 ha533; clear ha530 a530
                            refine dr_val (i := 6) ha533 rfl (by kernel_rfl) (by kernel_rfl) (by kernel_rfl) rfl rfl rfl hs531 (fun w' hw' => op_extract ha533 rfl rfl rfl) ?_
                            intro a534 ha534; clear ha533 a533
                            refine dr_val (i := 7) ha534 rfl (by kernel_rfl) (by kernel_rfl) (by kernel_rfl) rfl rfl rfl hs531 (fun w' hw' => op_extract ha534 rfl rfl rfl) ?_
                            intro a535 ha535; clear ha534 a534
                            refine dr_one (i := 8) (by kernel_rfl) ?_
                            refine po_eff ha535 rfl rfl rfl rfl (op_alloc' rfl ti28 rfl) ?_
                            rintro _ w536 ⟨rfl, he537, hb538, hz539⟩ a540 ha540; clear ha535 a535
                            have hs541 := hs531.trans' he537
                            have hx542 := hx532.trans' he537
                            have hzhx542 := he537.size
                            replace ho498 := ho498.ext he537
                            replace ho500 := ho500.ext he537
                            replace hN502 := hN502.ext he537
                            replace ho511 := ho511.ext he537
                            replace ho513 := ho513.ext he537
                            replace hN515 := hN515.ext he537
                            replace ho524 := ho524.ext he537
                            replace ho526 := ho526.ext he537
                            replace hN528 := hN528.ext he537
                            refine ⟨hs541, ?_⟩
                            refine dr_one (i := 9) (by kernel_rfl) ?_
                            refine po_effS ha540 rfl rfl rfl (op_storeAll' ha540 rfl ti28 rfl rfl hb538 rfl rfl (by intro u hu; have hu : u ∈ ([u523, u525] : List Value) := hu; simp only [List.mem_cons, List.mem_nil_iff, or_false] at hu; rcases hu with rfl | rfl <;> first | rfl | exact ho524.one | exact ho526.one) rfl) ?_
                            rintro w543 ⟨hb545, hst544, hz546⟩
                            have hx547 := hx542.stp hst544 (by intro q hq; cases hq; exact (by omega))
                            have hzhx547 := hst544.size
                            replace ho498 : Own shStr 9 w488.heap.size w488.heap.size w495.heap.size w543 u497 (((aA).1)) := by first | exact ho498.stp hst544 (by intro q hq; cases hq; omega) | exact ho498.stpF flat_shStr hst544 (by intro q hq; cases hq; exact ho498.ne_box (by assumption) rfl)
                            replace ho500 : Own shRowN 41 w488.heap.size w488.heap.size w495.heap.size w543 u499 z501 := by first | exact ho500.stp hst544 (by intro q hq; cases hq; omega) | exact ho500.stpF flat_shRowN hst544 (by intro q hq; cases hq; exact ho500.ne_box (by assumption) rfl)
                            replace hN502 : Nst shI64 2 (fun x : List Int => x) w488.heap.size w495.heap.size w543 z501 := by first | exact hN502.stp hst544 (by intro q hq; cases hq; omega) | exact hN502.stpB flat_shI64 hst544 (by assumption) rfl
                            replace ho511 : Own shStr 9 w495.heap.size w495.heap.size w508.heap.size w543 u510 (((aB).1)) := by first | exact ho511.stp hst544 (by intro q hq; cases hq; omega) | exact ho511.stpF flat_shStr hst544 (by intro q hq; cases hq; exact ho511.ne_box (by assumption) rfl)
                            replace ho513 : Own shRowN 41 w495.heap.size w495.heap.size w508.heap.size w543 u512 z514 := by first | exact ho513.stp hst544 (by intro q hq; cases hq; omega) | exact ho513.stpF flat_shRowN hst544 (by intro q hq; cases hq; exact ho513.ne_box (by assumption) rfl)
                            replace hN515 : Nst shI64 2 (fun x : List Int => x) w495.heap.size w508.heap.size w543 z514 := by first | exact hN515.stp hst544 (by intro q hq; cases hq; omega) | exact hN515.stpB flat_shI64 hst544 (by assumption) rfl
                            replace ho524 : Own shStr 9 w508.heap.size w508.heap.size w521.heap.size w543 u523 (((jcT ((aA)) ((aB))).1)) := by first | exact ho524.stp hst544 (by intro q hq; cases hq; omega) | exact ho524.stpF flat_shStr hst544 (by intro q hq; cases hq; exact ho524.ne_box (by assumption) rfl)
                            replace ho526 : Own shRowN 41 w508.heap.size w508.heap.size w521.heap.size w543 u525 z527 := by first | exact ho526.stp hst544 (by intro q hq; cases hq; omega) | exact ho526.stpF flat_shRowN hst544 (by intro q hq; cases hq; exact ho526.ne_box (by assumption) rfl)
                            replace hN528 : Nst shI64 2 (fun x : List Int => x) w508.heap.size w521.heap.size w543 z527 := by first | exact hN528.stp hst544 (by intro q hq; cases hq; omega) | exact hN528.stpB flat_shI64 hst544 (by assumption) rfl
                            clear hb538
                            have hs548 := hs541.stp hst544 (by intro q hq; cases hq; omega)
                            refine ⟨hs548, ?_⟩
                            refine dr_val (i := 10) ha540 rfl (by kernel_rfl) (by kernel_rfl) (by kernel_rfl) rfl rfl rfl hs548 (fun w' hw' => op_assign ha540 rfl rfl) ?_
                            intro a549 ha549; clear ha540 a540
                            refine dr_end (by kernel_rfl) ?_
                            replace hf47 := hf47.ext hs548
                            replace hf48 := hf48.ext hs548
                            replace hf50 := hf50.ext hs548
                            replace hf51 := hf51.ext hs548
                            replace hf53 := hf53.ext hs548
                            replace hf49 := hf49.ext hs548
                            replace hb325 := hb325.ext hs548
                            replace ho462 := ho462.ext hs548
                            replace ho463 := ho463.ext hs548
                            replace hN465 := hN465.ext hs548
                            refine then_n ?_
                            refine wp_seq ?_
                            refine wp_seq ?_
                            clear hf47 hf48 ho498 ho500 hN502 ho511 ho513 hN515
                            refine wp_region_lit ?_
                            refine wl_val ha549 rfl rfl rfl (op_loadS ha549 rfl Try.underlying28 ti28 rfl rfl hb545.cells) ?_
                            intro a550 ha550; clear ha549 a549
                            refine wl_val ha550 rfl rfl rfl (op_loadS ha550 rfl Try.underlying28 ti28 rfl rfl hf49.cells) ?_
                            intro a551 ha551; clear ha550 a550
                            refine wl_callR ha551 rfl rfl rfl (op_call ha551 rfl cb20 rfl) (c_laws_eqTable _ u523 u525 ((jcT ((aA)) ((aB)))) q42 q43 ((jcT ((aA)) ((aB)))) (ho524.rds pos_shStr) ((rds_shRowN (ho526.fin (by omega) (by omega) (by omega)) hN528).cast hE529) (hf50.rds pos_shStr) ((rds_shRowN (hf51.fin (by omega) (by omega) (by omega)) hf53).cast hE52)) ?_
                            rintro v552 w553 he554 rfl a555 ha555; clear ha551 a551
                            have hx556 := hx547.trans' he554
                            have hzhx556 := he554.size
                            replace hf50 := hf50.ext he554
                            replace hf51 := hf51.ext he554
                            replace hf53 := hf53.ext he554
                            replace hf49 := hf49.ext he554
                            replace hb325 := hb325.ext he554
                            replace ho462 := ho462.ext he554
                            replace ho463 := ho463.ext he554
                            replace hN465 := hN465.ext he554
                            replace ho524 := ho524.ext he554
                            replace ho526 := ho526.ext he554
                            replace hN528 := hN528.ext he554
                            replace hb545 := hb545.ext he554
                            refine wl_val ha555 rfl rfl rfl (op_not ha555 rfl rfl) ?_
                            intro a557 ha557; clear ha555 a555
                            refine wl_val ha557 rfl rfl rfl (op_move ha557 rfl rfl) ?_
                            intro a558 ha558; clear ha557 a557
                            rw [c338] at ha558
                            refine wl_val ha558 rfl rfl rfl (op_move ha558 rfl rfl) ?_
                            intro a559 ha559; clear ha558 a558
                            refine wl_val ha559 rfl rfl rfl (op_move ha559 rfl rfl) ?_
                            intro a560 ha560; clear ha559 a559
                            refine wl_val ha560 rfl rfl rfl ((op_neq ha560 rfl rfl rfl).to (congrArg Value.bool decide_not)) ?_
                            intro a561 ha561; clear ha560 a560
                            refine wl_val ha561 rfl rfl rfl (op_pick_f ha561 rfl rfl rfl) ?_
                            intro a562 ha562; clear ha561 a561
                            refine wpList_nil ?_
                            refine then_n ?_
                            rw [decide_eq_true c343] at ha562
                            refine cond_f ha562 rfl ?_
                            refine wp_skip ?_
                            refine then_n ?_
                            refine wp_seq ?_
                            clear hf50 hf51 hf53 hf49 ho524 ho526 hN528 hb545
                            refine wp_region_lit ?_
                            refine wl_val ha562 rfl rfl rfl (op_assign ha562 rfl rfl) ?_
                            intro a563 ha563; clear ha562 a562
                            refine wpList_nil ?_
                            refine then_n ?_
                            refine wp_seq ?_
                            refine wp_region_lit ?_
                            refine wl_val ha563 rfl rfl rfl (op_loadS ha563 rfl Try.underlying28 ti28 rfl rfl hb325.cells) ?_
                            intro a564 ha564; clear ha563 a563
                            refine wl_val ha564 rfl rfl rfl (op_move ha564 rfl rfl) ?_
                            intro a565 ha565; clear ha564 a564
                            refine wl_callR ha565 rfl rfl rfl (op_call ha565 rfl cb36 rfl) (c_laws_heldTable _ u304 u306 ((mkT2 ((((jcT ((aA)) ((aB))).1), ((jcT ((aA)) ((aB))).2)) : List Str × List (List Int)) ((1 : Int)))) (1 : Int) (ho462.rds pos_shStr) ((rds_shRowN (ho463.fin (by omega) (by omega) (by omega)) hN465).cast hE466) (by first | assumption | omega | (simp; omega)) (by first | assumption | omega | (simp; omega) | (simp [kk_mkT]; omega))) ?_
                            rintro v566 w567 he568 rfl a569 ha569; clear ha565 a565
                            have hx570 := hx556.trans' he568
                            have hzhx570 := he568.size
                            replace hb325 := hb325.ext he568
                            replace ho462 := ho462.ext he568
                            replace ho463 := ho463.ext he568
                            replace hN465 := hN465.ext he568
                            refine wl_val ha569 rfl rfl rfl (op_assign ha569 rfl rfl) ?_
                            intro a571 ha571; clear ha569 a569
                            refine wpList_nil ?_
                            refine then_n ?_
                            refine wp_seq ?_
                            refine wp_seq ?_
                            clear hb325 ho462 ho463 hN465
                            refine wp_region_lit ?_
                            refine wl_val ha571 rfl rfl rfl (op_move ha571 rfl rfl) ?_
                            intro a572 ha572; clear ha571 a571
                            refine wl_val ha572 rfl rfl rfl (op_lss ha572 rfl rfl rfl) ?_
                            intro a573 ha573; clear ha572 a572
                            refine wpList_nil ?_
                            refine then_n ?_
                            rw [decide_eq_false c482] at ha573
                            refine cond_f ha573 rfl ?_
                            refine wp_skip ?_
                            refine then_n ?_
                            refine wp_seq ?_
                            refine wp_seq ?_
                            refine wp_region_lit ?_
                            refine wl_val ha573 rfl rfl rfl (op_move ha573 rfl rfl) ?_
                            intro a574 ha574; clear ha573 a573
                            refine wl_val ha574 rfl rfl rfl (op_move ha574 rfl rfl) ?_
                            intro a575 ha575; clear ha574 a574
                            refine wl_val ha575 rfl rfl rfl ((op_neq ha575 rfl rfl rfl).to (congrArg Value.bool decide_not)) ?_
                            intro a576 ha576; clear ha575 a575
                            refine wpList_nil ?_
                            refine then_n ?_
                            rw [decide_eq_true c487] at ha576
                            refine cond_f ha576 rfl ?_
                            refine wp_skip ?_
                            refine then_n ?_
                            refine wp_seq ?_
                            refine wp_region_lit ?_
                            refine wl_val ha576 rfl rfl rfl (op_assign ha576 rfl rfl) ?_
                            intro a577 ha577; clear ha576 a576
                            refine wpList_nil ?_
                            refine then_n ?_
                            refine wp_ret ?_
                            refine ret1 ha577 rfl rfl ?_
                            clear ha577 a577
                            exact ret_mk hx570 (congrArg Value.bool (by first | rfl | omega | (simp [held_mkT] at c487; done) | (simp [held_mkT] at c487; omega) | (simp [held_mkT] at c482; done) | (simp [held_mkT] at c482; omega) | (exact absurd rfl c482) | (exact absurd rfl c430) | (simp at c397; done) | (simp at c370; done) | (simp at c338; done) | (exact absurd rfl c39) | (exact absurd rfl c27)))
                          ·
                            refine po_eff ha517 rfl rfl rfl rfl (op_alloc' rfl ti28 rfl) ?_
                            rintro _ w578 ⟨rfl, he579, hb580, hz581⟩ a582 ha582; clear ha517 a517
                            have hs583 := hs518.trans' he579
                            have hx584 := hx519.trans' he579
                            have hzhx584 := he579.size
                            replace ho498 := ho498.ext he579
                            replace ho500 := ho500.ext he579
                            replace hN502 := hN502.ext he579
                            replace ho511 := ho511.ext he579
                            replace ho513 := ho513.ext he579
                            replace hN515 := hN515.ext he579
                            refine ⟨hs583, ?_⟩
                            refine dr_one (i := 4) (by kernel_rfl) ?_
                            refine po_callR ha582 rfl rfl rfl rfl (op_call ha582 rfl cb42 rfl) (c_impl_JoinTables _ u497 u499 ((aA)) u510 u512 ((aB)) (ho498.rds pos_shStr) ((rds_shRowN (ho500.fin (by omega) (by omega) (by omega)) hN502).cast hE503) (ho511.rds pos_shStr) ((rds_shRowN (ho513.fin (by omega) (by omega) (by omega)) hN515).cast hE516)) ?_
                            rintro v585 w586 he587 ⟨u588, u590, z592, rfl, ho589, ho591, hN593, hE594⟩ a595 ha595; clear ha582 a582
                            have hs596 := hs583.trans' he587
                            have hx597 := hx584.trans' he587
                            have hzhx597 := he587.size
                            replace ho498 := ho498.ext he587
                            replace ho500 := ho500.ext he587
                            replace hN502 := hN502.ext he587
                            replace ho511 := ho511.ext he587
                            replace ho513 := ho513.ext he587
                            replace hN515 := hN515.ext he587
                            replace hb580 := hb580.ext he587
                            refine ⟨hs596, ?_⟩
                            have hlhE594 := absLen hE594
                            refine dr_val (i := 5) ha595 rfl (by kernel_rfl) (by kernel_rfl) (by kernel_rfl) rfl rfl rfl hs596 (fun w' hw' => op_move ha595 rfl rfl) ?_
                            intro a598 ha598; clear ha595 a595
                            refine dr_val (i := 6) ha598 rfl (by kernel_rfl) (by kernel_rfl) (by kernel_rfl) rfl rfl rfl hs596 (fun w' hw' => op_extract ha598 rfl rfl rfl) ?_
                            intro a599 ha599; clear ha598 a598
                            refine dr_val (i := 7) ha599 rfl (by kernel_rfl) (by kernel_rfl) (by kernel_rfl) rfl rfl rfl hs596 (fun w' hw' => op_extract ha599 rfl rfl rfl) ?_
                            intro a600 ha600; clear ha599 a599
                            refine dr_one (i := 9) (by kernel_rfl) ?_
                            refine po_effS ha600 rfl rfl rfl (op_storeAll' ha600 rfl ti28 rfl rfl hb580 rfl rfl (by intro u hu; have hu : u ∈ ([u588, u590] : List Value) := hu; simp only [List.mem_cons, List.mem_nil_iff, or_false] at hu; rcases hu with rfl | rfl <;> first | rfl | exact ho589.one | exact ho591.one) rfl) ?_
                            rintro w601 ⟨hb603, hst602, hz604⟩
                            have hx605 := hx597.stp hst602 (by intro q hq; cases hq; exact (by omega))
                            have hzhx605 := hst602.size
                            replace ho498 : Own shStr 9 w488.heap.size w488.heap.size w495.heap.size w601 u497 (((aA).1)) := by first | exact ho498.stp hst602 (by intro q hq; cases hq; omega) | exact ho498.stpF flat_shStr hst602 (by intro q hq; cases hq; exact ho498.ne_box (by assumption) rfl)
                            replace ho500 : Own shRowN 41 w488.heap.size w488.heap.size w495.heap.size w601 u499 z501 := by first | exact ho500.stp hst602 (by intro q hq; cases hq; omega) | exact ho500.stpF flat_shRowN hst602 (by intro q hq; cases hq; exact ho500.ne_box (by assumption) rfl)
                            replace hN502 : Nst shI64 2 (fun x : List Int => x) w488.heap.size w495.heap.size w601 z501 := by first | exact hN502.stp hst602 (by intro q hq; cases hq; omega) | exact hN502.stpB flat_shI64 hst602 (by assumption) rfl
                            replace ho511 : Own shStr 9 w495.heap.size w495.heap.size w508.heap.size w601 u510 (((aB).1)) := by first | exact ho511.stp hst602 (by intro q hq; cases hq; omega) | exact ho511.stpF flat_shStr hst602 (by intro q hq; cases hq; exact ho511.ne_box (by assumption) rfl)
                            replace ho513 : Own shRowN 41 w495.heap.size w495.heap.size w508.heap.size w601 u512 z514 := by first | exact ho513.stp hst602 (by intro q hq; cases hq; omega) | exact ho513.stpF flat_shRowN hst602 (by intro q hq; cases hq; exact ho513.ne_box (by assumption) rfl)
                            replace hN515 : Nst shI64 2 (fun x : List Int => x) w495.heap.size w508.heap.size w601 z514 := by first | exact hN515.stp hst602 (by intro q hq; cases hq; omega) | exact hN515.stpB flat_shI64 hst602 (by assumption) rfl
                            replace ho589 : Own shStr 9 w578.heap.size w578.heap.size w586.heap.size w601 u588 (((jcT ((aA)) ((aB))).1)) := by first | exact ho589.stp hst602 (by intro q hq; cases hq; omega) | exact ho589.stpF flat_shStr hst602 (by intro q hq; cases hq; exact ho589.ne_box (by assumption) rfl)
                            replace ho591 : Own shRowN 41 w578.heap.size w578.heap.size w586.heap.size w601 u590 z592 := by first | exact ho591.stp hst602 (by intro q hq; cases hq; omega) | exact ho591.stpF flat_shRowN hst602 (by intro q hq; cases hq; exact ho591.ne_box (by assumption) rfl)
                            replace hN593 : Nst shI64 2 (fun x : List Int => x) w578.heap.size w586.heap.size w601 z592 := by first | exact hN593.stp hst602 (by intro q hq; cases hq; omega) | exact hN593.stpB flat_shI64 hst602 (by assumption) rfl
                            clear hb580
                            have hs606 := hs596.stp hst602 (by intro q hq; cases hq; omega)
                            refine ⟨hs606, ?_⟩
                            refine dr_val (i := 10) ha600 rfl (by kernel_rfl) (by kernel_rfl) (by kernel_rfl) rfl rfl rfl hs606 (fun w' hw' => op_assign ha600 rfl rfl) ?_
                            intro a607 ha607; clear ha600 a600
                            refine dr_end (by kernel_rfl) ?_
                            replace hf47 := hf47.ext hs606
                            replace hf48 := hf48.ext hs606
                            replace hf50 := hf50.ext hs606
                            replace hf51 := hf51.ext hs606
                            replace hf53 := hf53.ext hs606
                            replace hf49 := hf49.ext hs606
                            replace hb325 := hb325.ext hs606
                            replace ho462 := ho462.ext hs606
                            replace ho463 := ho463.ext hs606
                            replace hN465 := hN465.ext hs606
                            refine then_n ?_
                            refine wp_seq ?_
                            refine wp_seq ?_
                            clear hf47 hf48 ho498 ho500 hN502 ho511 ho513 hN515
                            refine wp_region_lit ?_
                            refine wl_val ha607 rfl rfl rfl (op_loadS ha607 rfl Try.underlying28 ti28 rfl rfl hb603.cells) ?_
                            intro a608 ha608; clear ha607 a607
                            refine wl_val ha608 rfl rfl rfl (op_loadS ha608 rfl Try.underlying28 ti28 rfl rfl hf49.cells) ?_
                            intro a609 ha609; clear ha608 a608
                            refine wl_callR ha609 rfl rfl rfl (op_call ha609 rfl cb20 rfl) (c_laws_eqTable _ u588 u590 ((jcT ((aA)) ((aB)))) q42 q43 ((jcT ((aA)) ((aB)))) (ho589.rds pos_shStr) ((rds_shRowN (ho591.fin (by omega) (by omega) (by omega)) hN593).cast hE594) (hf50.rds pos_shStr) ((rds_shRowN (hf51.fin (by omega) (by omega) (by omega)) hf53).cast hE52)) ?_
                            rintro v610 w611 he612 rfl a613 ha613; clear ha609 a609
                            have hx614 := hx605.trans' he612
                            have hzhx614 := he612.size
                            replace hf50 := hf50.ext he612
                            replace hf51 := hf51.ext he612
                            replace hf53 := hf53.ext he612
                            replace hf49 := hf49.ext he612
                            replace hb325 := hb325.ext he612
                            replace ho462 := ho462.ext he612
                            replace ho463 := ho463.ext he612
                            replace hN465 := hN465.ext he612
                            replace ho589 := ho589.ext he612
                            replace ho591 := ho591.ext he612
                            replace hN593 := hN593.ext he612
                            replace hb603 := hb603.ext he612
                            refine wl_val ha613 rfl rfl rfl (op_not ha613 rfl rfl) ?_
                            intro a615 ha615; clear ha613 a613
                            refine wl_val ha615 rfl rfl rfl (op_move ha615 rfl rfl) ?_
                            intro a616 ha616; clear ha615 a615
                            rw [c338] at ha616
                            refine wl_val ha616 rfl rfl rfl (op_move ha616 rfl rfl) ?_
                            intro a617 ha617; clear ha616 a616
                            refine wl_val ha617 rfl rfl rfl (op_move ha617 rfl rfl) ?_
                            intro a618 ha618; clear ha617 a617
                            refine wl_val ha618 rfl rfl rfl ((op_neq ha618 rfl rfl rfl).to (congrArg Value.bool decide_not)) ?_
                            intro a619 ha619; clear ha618 a618
                            refine wl_val ha619 rfl rfl rfl (op_pick_f ha619 rfl rfl rfl) ?_
                            intro a620 ha620; clear ha619 a619
                            refine wpList_nil ?_
                            refine then_n ?_
                            rw [decide_eq_true c343] at ha620
                            refine cond_f ha620 rfl ?_
                            refine wp_skip ?_
                            refine then_n ?_
                            refine wp_seq ?_
                            clear hf50 hf51 hf53 hf49 ho589 ho591 hN593 hb603
                            refine wp_region_lit ?_
                            refine wl_val ha620 rfl rfl rfl (op_assign ha620 rfl rfl) ?_
                            intro a621 ha621; clear ha620 a620
                            refine wpList_nil ?_
                            refine then_n ?_
                            refine wp_seq ?_
                            refine wp_region_lit ?_
                            refine wl_val ha621 rfl rfl rfl (op_loadS ha621 rfl Try.underlying28 ti28 rfl rfl hb325.cells) ?_
                            intro a622 ha622; clear ha621 a621
                            refine wl_val ha622 rfl rfl rfl (op_move ha622 rfl rfl) ?_
                            intro a623 ha623; clear ha622 a622
                            refine wl_callR ha623 rfl rfl rfl (op_call ha623 rfl cb36 rfl) (c_laws_heldTable _ u304 u306 ((mkT2 ((((jcT ((aA)) ((aB))).1), ((jcT ((aA)) ((aB))).2)) : List Str × List (List Int)) ((1 : Int)))) (1 : Int) (ho462.rds pos_shStr) ((rds_shRowN (ho463.fin (by omega) (by omega) (by omega)) hN465).cast hE466) (by first | assumption | omega | (simp; omega)) (by first | assumption | omega | (simp; omega) | (simp [kk_mkT]; omega))) ?_
                            rintro v624 w625 he626 rfl a627 ha627; clear ha623 a623
                            have hx628 := hx614.trans' he626
                            have hzhx628 := he626.size
                            replace hb325 := hb325.ext he626
                            replace ho462 := ho462.ext he626
                            replace ho463 := ho463.ext he626
                            replace hN465 := hN465.ext he626
                            refine wl_val ha627 rfl rfl rfl (op_assign ha627 rfl rfl) ?_
                            intro a629 ha629; clear ha627 a627
                            refine wpList_nil ?_
                            refine then_n ?_
                            refine wp_seq ?_
                            refine wp_seq ?_
                            clear hb325 ho462 ho463 hN465
                            refine wp_region_lit ?_
                            refine wl_val ha629 rfl rfl rfl (op_move ha629 rfl rfl) ?_
                            intro a630 ha630; clear ha629 a629
                            refine wl_val ha630 rfl rfl rfl (op_lss ha630 rfl rfl rfl) ?_
                            intro a631 ha631; clear ha630 a630
                            refine wpList_nil ?_
                            refine then_n ?_
                            rw [decide_eq_false c482] at ha631
                            refine cond_f ha631 rfl ?_
                            refine wp_skip ?_
                            refine then_n ?_
                            refine wp_seq ?_
                            refine wp_seq ?_
                            refine wp_region_lit ?_
                            refine wl_val ha631 rfl rfl rfl (op_move ha631 rfl rfl) ?_
                            intro a632 ha632; clear ha631 a631
                            refine wl_val ha632 rfl rfl rfl (op_move ha632 rfl rfl) ?_
                            intro a633 ha633; clear ha632 a632
                            refine wl_val ha633 rfl rfl rfl ((op_neq ha633 rfl rfl rfl).to (congrArg Value.bool decide_not)) ?_
                            intro a634 ha634; clear ha633 a633
                            refine wpList_nil ?_
                            refine then_n ?_
                            rw [decide_eq_true c487] at ha634
                            refine cond_f ha634 rfl ?_
                            refine wp_skip ?_
                            refine then_n ?_
                            refine wp_seq ?_
                            refine wp_region_lit ?_
                            refine wl_val ha634 rfl rfl rfl (op_assign ha634 rfl rfl) ?_
                            intro a635 ha635; clear ha634 a634
                            refine wpList_nil ?_
                            refine then_n ?_
                            refine wp_ret ?_
                            refine ret1 ha635 rfl rfl ?_
                            clear ha635 a635
                            exact ret_mk hx628 (congrArg Value.bool (by first | rfl | omega | (simp [held_mkT] at c487; done) | (simp [held_mkT] at c487; omega) | (simp [held_mkT] at c482; done) | (simp [held_mkT] at c482; omega) | (exact absurd rfl c482) | (exact absurd rfl c430) | (simp at c397; done) | (simp at c370; done) | (simp at c338; done) | (exact absurd rfl c39) | (exact absurd rfl c27)))
                        ·
                          refine po_eff ha504 rfl rfl rfl rfl (op_alloc' rfl ti28 rfl) ?_
                          rintro _ w636 ⟨rfl, he637, hb638, hz639⟩ a640 ha640; clear ha504 a504
                          have hs641 := hs505.trans' he637
                          have hx642 := hx506.trans' he637
                          have hzhx642 := he637.size
                          replace ho498 := ho498.ext he637
                          replace ho500 := ho500.ext he637
                          replace hN502 := hN502.ext he637
                          refine ⟨hs641, ?_⟩
                          refine dr_one (i := 3) (by kernel_rfl) ?_
                          refine po_callR ha640 rfl rfl rfl rfl (op_call ha640 rfl cb18 rfl) (c_laws_toTable _ v_aB0 v_aB1 aB (h_aB0.ext pos_shStr (hx490.trans' hs641)) (h_aB1.ext pos_shRow (hx490.trans' hs641)) (by first | assumption | omega | (simp; omega))) ?_
                          rintro v643 w644 he645 ⟨u646, u648, z650, rfl, ho647, ho649, hN651, hE652⟩ a653 ha653; clear ha640 a640
                          have hs654 := hs641.trans' he645
                          have hx655 := hx642.trans' he645
                          have hzhx655 := he645.size
                          replace ho498 := ho498.ext he645
                          replace ho500 := ho500.ext he645
                          replace hN502 := hN502.ext he645
                          replace hb638 := hb638.ext he645
                          refine ⟨hs654, ?_⟩
                          have hlhE652 := absLen hE652
                          refine dr_one (i := 4) (by kernel_rfl) ?_
                          refine po_callR ha653 rfl rfl rfl rfl (op_call ha653 rfl cb42 rfl) (c_impl_JoinTables _ u497 u499 ((aA)) u646 u648 ((aB)) (ho498.rds pos_shStr) ((rds_shRowN (ho500.fin (by omega) (by omega) (by omega)) hN502).cast hE503) (ho647.rds pos_shStr) ((rds_shRowN (ho649.fin (by omega) (by omega) (by omega)) hN651).cast hE652)) ?_
                          rintro v656 w657 he658 ⟨u659, u661, z663, rfl, ho660, ho662, hN664, hE665⟩ a666 ha666; clear ha653 a653
                          have hs667 := hs654.trans' he658
                          have hx668 := hx655.trans' he658
                          have hzhx668 := he658.size
                          replace ho498 := ho498.ext he658
                          replace ho500 := ho500.ext he658
                          replace hN502 := hN502.ext he658
                          replace hb638 := hb638.ext he658
                          replace ho647 := ho647.ext he658
                          replace ho649 := ho649.ext he658
                          replace hN651 := hN651.ext he658
                          refine ⟨hs667, ?_⟩
                          have hlhE665 := absLen hE665
                          refine dr_val (i := 5) ha666 rfl (by kernel_rfl) (by kernel_rfl) (by kernel_rfl) rfl rfl rfl hs667 (fun w' hw' => op_move ha666 rfl rfl) ?_
                          intro a669 ha669; clear ha666 a666
                          refine dr_val (i := 6) ha669 rfl (by kernel_rfl) (by kernel_rfl) (by kernel_rfl) rfl rfl rfl hs667 (fun w' hw' => op_extract ha669 rfl rfl rfl) ?_
                          intro a670 ha670; clear ha669 a669
                          refine dr_val (i := 7) ha670 rfl (by kernel_rfl) (by kernel_rfl) (by kernel_rfl) rfl rfl rfl hs667 (fun w' hw' => op_extract ha670 rfl rfl rfl) ?_
                          intro a671 ha671; clear ha670 a670
                          refine dr_one (i := 9) (by kernel_rfl) ?_
                          refine po_effS ha671 rfl rfl rfl (op_storeAll' ha671 rfl ti28 rfl rfl hb638 rfl rfl (by intro u hu; have hu : u ∈ ([u659, u661] : List Value) := hu; simp only [List.mem_cons, List.mem_nil_iff, or_false] at hu; rcases hu with rfl | rfl <;> first | rfl | exact ho660.one | exact ho662.one) rfl) ?_
                          rintro w672 ⟨hb674, hst673, hz675⟩
                          have hx676 := hx668.stp hst673 (by intro q hq; cases hq; exact (by omega))
                          have hzhx676 := hst673.size
                          replace ho498 : Own shStr 9 w488.heap.size w488.heap.size w495.heap.size w672 u497 (((aA).1)) := by first | exact ho498.stp hst673 (by intro q hq; cases hq; omega) | exact ho498.stpF flat_shStr hst673 (by intro q hq; cases hq; exact ho498.ne_box (by assumption) rfl)
                          replace ho500 : Own shRowN 41 w488.heap.size w488.heap.size w495.heap.size w672 u499 z501 := by first | exact ho500.stp hst673 (by intro q hq; cases hq; omega) | exact ho500.stpF flat_shRowN hst673 (by intro q hq; cases hq; exact ho500.ne_box (by assumption) rfl)
                          replace hN502 : Nst shI64 2 (fun x : List Int => x) w488.heap.size w495.heap.size w672 z501 := by first | exact hN502.stp hst673 (by intro q hq; cases hq; omega) | exact hN502.stpB flat_shI64 hst673 (by assumption) rfl
                          replace ho647 : Own shStr 9 w636.heap.size w636.heap.size w644.heap.size w672 u646 (((aB).1)) := by first | exact ho647.stp hst673 (by intro q hq; cases hq; omega) | exact ho647.stpF flat_shStr hst673 (by intro q hq; cases hq; exact ho647.ne_box (by assumption) rfl)
                          replace ho649 : Own shRowN 41 w636.heap.size w636.heap.size w644.heap.size w672 u648 z650 := by first | exact ho649.stp hst673 (by intro q hq; cases hq; omega) | exact ho649.stpF flat_shRowN hst673 (by intro q hq; cases hq; exact ho649.ne_box (by assumption) rfl)
                          replace hN651 : Nst shI64 2 (fun x : List Int => x) w636.heap.size w644.heap.size w672 z650 := by first | exact hN651.stp hst673 (by intro q hq; cases hq; omega) | exact hN651.stpB flat_shI64 hst673 (by assumption) rfl
                          replace ho660 : Own shStr 9 w644.heap.size w644.heap.size w657.heap.size w672 u659 (((jcT ((aA)) ((aB))).1)) := by first | exact ho660.stp hst673 (by intro q hq; cases hq; omega) | exact ho660.stpF flat_shStr hst673 (by intro q hq; cases hq; exact ho660.ne_box (by assumption) rfl)
                          replace ho662 : Own shRowN 41 w644.heap.size w644.heap.size w657.heap.size w672 u661 z663 := by first | exact ho662.stp hst673 (by intro q hq; cases hq; omega) | exact ho662.stpF flat_shRowN hst673 (by intro q hq; cases hq; exact ho662.ne_box (by assumption) rfl)
                          replace hN664 : Nst shI64 2 (fun x : List Int => x) w644.heap.size w657.heap.size w672 z663 := by first | exact hN664.stp hst673 (by intro q hq; cases hq; omega) | exact hN664.stpB flat_shI64 hst673 (by assumption) rfl
                          clear hb638
                          have hs677 := hs667.stp hst673 (by intro q hq; cases hq; omega)
                          refine ⟨hs677, ?_⟩
                          refine dr_val (i := 10) ha671 rfl (by kernel_rfl) (by kernel_rfl) (by kernel_rfl) rfl rfl rfl hs677 (fun w' hw' => op_assign ha671 rfl rfl) ?_
                          intro a678 ha678; clear ha671 a671
                          refine dr_end (by kernel_rfl) ?_
                          replace hf47 := hf47.ext hs677
                          replace hf48 := hf48.ext hs677
                          replace hf50 := hf50.ext hs677
                          replace hf51 := hf51.ext hs677
                          replace hf53 := hf53.ext hs677
                          replace hf49 := hf49.ext hs677
                          replace hb325 := hb325.ext hs677
                          replace ho462 := ho462.ext hs677
                          replace ho463 := ho463.ext hs677
                          replace hN465 := hN465.ext hs677
                          refine then_n ?_
                          refine wp_seq ?_
                          refine wp_seq ?_
                          clear hf47 hf48 ho498 ho500 hN502 ho647 ho649 hN651
                          refine wp_region_lit ?_
                          refine wl_val ha678 rfl rfl rfl (op_loadS ha678 rfl Try.underlying28 ti28 rfl rfl hb674.cells) ?_
                          intro a679 ha679; clear ha678 a678
                          refine wl_val ha679 rfl rfl rfl (op_loadS ha679 rfl Try.underlying28 ti28 rfl rfl hf49.cells) ?_
                          intro a680 ha680; clear ha679 a679
                          refine wl_callR ha680 rfl rfl rfl (op_call ha680 rfl cb20 rfl) (c_laws_eqTable _ u659 u661 ((jcT ((aA)) ((aB)))) q42 q43 ((jcT ((aA)) ((aB)))) (ho660.rds pos_shStr) ((rds_shRowN (ho662.fin (by omega) (by omega) (by omega)) hN664).cast hE665) (hf50.rds pos_shStr) ((rds_shRowN (hf51.fin (by omega) (by omega) (by omega)) hf53).cast hE52)) ?_
                          rintro v681 w682 he683 rfl a684 ha684; clear ha680 a680
                          have hx685 := hx676.trans' he683
                          have hzhx685 := he683.size
                          replace hf50 := hf50.ext he683
                          replace hf51 := hf51.ext he683
                          replace hf53 := hf53.ext he683
                          replace hf49 := hf49.ext he683
                          replace hb325 := hb325.ext he683
                          replace ho462 := ho462.ext he683
                          replace ho463 := ho463.ext he683
                          replace hN465 := hN465.ext he683
                          replace ho660 := ho660.ext he683
                          replace ho662 := ho662.ext he683
                          replace hN664 := hN664.ext he683
                          replace hb674 := hb674.ext he683
                          refine wl_val ha684 rfl rfl rfl (op_not ha684 rfl rfl) ?_
                          intro a686 ha686; clear ha684 a684
                          refine wl_val ha686 rfl rfl rfl (op_move ha686 rfl rfl) ?_
                          intro a687 ha687; clear ha686 a686
                          rw [c338] at ha687
                          refine wl_val ha687 rfl rfl rfl (op_move ha687 rfl rfl) ?_
                          intro a688 ha688; clear ha687 a687
                          refine wl_val ha688 rfl rfl rfl (op_move ha688 rfl rfl) ?_
                          intro a689 ha689; clear ha688 a688
                          refine wl_val ha689 rfl rfl rfl ((op_neq ha689 rfl rfl rfl).to (congrArg Value.bool decide_not)) ?_
                          intro a690 ha690; clear ha689 a689
                          refine wl_val ha690 rfl rfl rfl (op_pick_f ha690 rfl rfl rfl) ?_
                          intro a691 ha691; clear ha690 a690
                          refine wpList_nil ?_
                          refine then_n ?_
                          rw [decide_eq_true c343] at ha691
                          refine cond_f ha691 rfl ?_
                          refine wp_skip ?_
                          refine then_n ?_
                          refine wp_seq ?_
                          clear hf50 hf51 hf53 hf49 ho660 ho662 hN664 hb674
                          refine wp_region_lit ?_
                          refine wl_val ha691 rfl rfl rfl (op_assign ha691 rfl rfl) ?_
                          intro a692 ha692; clear ha691 a691
                          refine wpList_nil ?_
                          refine then_n ?_
                          refine wp_seq ?_
                          refine wp_region_lit ?_
                          refine wl_val ha692 rfl rfl rfl (op_loadS ha692 rfl Try.underlying28 ti28 rfl rfl hb325.cells) ?_
                          intro a693 ha693; clear ha692 a692
                          refine wl_val ha693 rfl rfl rfl (op_move ha693 rfl rfl) ?_
                          intro a694 ha694; clear ha693 a693
                          refine wl_callR ha694 rfl rfl rfl (op_call ha694 rfl cb36 rfl) (c_laws_heldTable _ u304 u306 ((mkT2 ((((jcT ((aA)) ((aB))).1), ((jcT ((aA)) ((aB))).2)) : List Str × List (List Int)) ((1 : Int)))) (1 : Int) (ho462.rds pos_shStr) ((rds_shRowN (ho463.fin (by omega) (by omega) (by omega)) hN465).cast hE466) (by first | assumption | omega | (simp; omega)) (by first | assumption | omega | (simp; omega) | (simp [kk_mkT]; omega))) ?_
                          rintro v695 w696 he697 rfl a698 ha698; clear ha694 a694
                          have hx699 := hx685.trans' he697
                          have hzhx699 := he697.size
                          replace hb325 := hb325.ext he697
                          replace ho462 := ho462.ext he697
                          replace ho463 := ho463.ext he697
                          replace hN465 := hN465.ext he697
                          refine wl_val ha698 rfl rfl rfl (op_assign ha698 rfl rfl) ?_
                          intro a700 ha700; clear ha698 a698
                          refine wpList_nil ?_
                          refine then_n ?_
                          refine wp_seq ?_
                          refine wp_seq ?_
                          clear hb325 ho462 ho463 hN465
                          refine wp_region_lit ?_
                          refine wl_val ha700 rfl rfl rfl (op_move ha700 rfl rfl) ?_
                          intro a701 ha701; clear ha700 a700
                          refine wl_val ha701 rfl rfl rfl (op_lss ha701 rfl rfl rfl) ?_
                          intro a702 ha702; clear ha701 a701
                          refine wpList_nil ?_
                          refine then_n ?_
                          rw [decide_eq_false c482] at ha702
                          refine cond_f ha702 rfl ?_
                          refine wp_skip ?_
                          refine then_n ?_
                          refine wp_seq ?_
                          refine wp_seq ?_
                          refine wp_region_lit ?_
                          refine wl_val ha702 rfl rfl rfl (op_move ha702 rfl rfl) ?_
                          intro a703 ha703; clear ha702 a702
                          refine wl_val ha703 rfl rfl rfl (op_move ha703 rfl rfl) ?_
                          intro a704 ha704; clear ha703 a703
                          refine wl_val ha704 rfl rfl rfl ((op_neq ha704 rfl rfl rfl).to (congrArg Value.bool decide_not)) ?_
                          intro a705 ha705; clear ha704 a704
                          refine wpList_nil ?_
                          refine then_n ?_
                          rw [decide_eq_true c487] at ha705
                          refine cond_f ha705 rfl ?_
                          refine wp_skip ?_
                          refine then_n ?_
                          refine wp_seq ?_
                          refine wp_region_lit ?_
                          refine wl_val ha705 rfl rfl rfl (op_assign ha705 rfl rfl) ?_
                          intro a706 ha706; clear ha705 a705
                          refine wpList_nil ?_
                          refine then_n ?_
                          refine wp_ret ?_
                          refine ret1 ha706 rfl rfl ?_
                          clear ha706 a706
                          exact ret_mk hx699 (congrArg Value.bool (by first | rfl | omega | (simp [held_mkT] at c487; done) | (simp [held_mkT] at c487; omega) | (simp [held_mkT] at c482; done) | (simp [held_mkT] at c482; omega) | (exact absurd rfl c482) | (exact absurd rfl c430) | (simp at c397; done) | (simp at c370; done) | (simp at c338; done) | (exact absurd rfl c39) | (exact absurd rfl c27)))
                      ·
                        refine po_eff ha493 rfl rfl rfl rfl (op_alloc' rfl ti28 rfl) ?_
                        rintro _ w707 ⟨rfl, he708, hb709, hz710⟩ a711 ha711; clear ha493 a493
                        have hs712 := hs491.trans' he708
                        have hx713 := hx490.trans' he708
                        have hzhx713 := he708.size
                        refine ⟨hs712, ?_⟩
                        refine dr_one (i := 1) (by kernel_rfl) ?_
                        refine po_callR ha711 rfl rfl rfl rfl (op_call ha711 rfl cb18 rfl) (c_laws_toTable _ v_aA0 v_aA1 aA (h_aA0.ext pos_shStr (hx490.trans' hs712)) (h_aA1.ext pos_shRow (hx490.trans' hs712)) (by first | assumption | omega | (simp; omega))) ?_
                        rintro v714 w715 he716 ⟨u717, u719, z721, rfl, ho718, ho720, hN722, hE723⟩ a724 ha724; clear ha711 a711
                        have hs725 := hs712.trans' he716
                        have hx726 := hx713.trans' he716
                        have hzhx726 := he716.size
                        replace hb709 := hb709.ext he716
                        refine ⟨hs725, ?_⟩
                        have hlhE723 := absLen hE723
                        refine dr_one (i := 3) (by kernel_rfl) ?_
                        refine po_callR ha724 rfl rfl rfl rfl (op_call ha724 rfl cb18 rfl) (c_laws_toTable _ v_aB0 v_aB1 aB (h_aB0.ext pos_shStr (hx490.trans' hs725)) (h_aB1.ext pos_shRow (hx490.trans' hs725)) (by first | assumption | omega | (simp; omega))) ?_
                        rintro v727 w728 he729 ⟨u730, u732, z734, rfl, ho731, ho733, hN735, hE736⟩ a737 ha737; clear ha724 a724
                        have hs738 := hs725.trans' he729
                        have hx739 := hx726.trans' he729
                        have hzhx739 := he729.size
                        replace hb709 := hb709.ext he729
                        replace ho718 := ho718.ext he729
                        replace ho720 := ho720.ext he729
                        replace hN722 := hN722.ext he729
                        refine ⟨hs738, ?_⟩
                        have hlhE736 := absLen hE736
                        refine dr_one (i := 4) (by kernel_rfl) ?_
                        refine po_callR ha737 rfl rfl rfl rfl (op_call ha737 rfl cb42 rfl) (c_impl_JoinTables _ u717 u719 ((aA)) u730 u732 ((aB)) (ho718.rds pos_shStr) ((rds_shRowN (ho720.fin (by omega) (by omega) (by omega)) hN722).cast hE723) (ho731.rds pos_shStr) ((rds_shRowN (ho733.fin (by omega) (by omega) (by omega)) hN735).cast hE736)) ?_
                        rintro v740 w741 he742 ⟨u743, u745, z747, rfl, ho744, ho746, hN748, hE749⟩ a750 ha750; clear ha737 a737
                        have hs751 := hs738.trans' he742
                        have hx752 := hx739.trans' he742
                        have hzhx752 := he742.size
                        replace hb709 := hb709.ext he742
                        replace ho718 := ho718.ext he742
                        replace ho720 := ho720.ext he742
                        replace hN722 := hN722.ext he742
                        replace ho731 := ho731.ext he742
                        replace ho733 := ho733.ext he742
                        replace hN735 := hN735.ext he742
                        refine ⟨hs751, ?_⟩
                        have hlhE749 := absLen hE749
                        refine dr_val (i := 5) ha750 rfl (by kernel_rfl) (by kernel_rfl) (by kernel_rfl) rfl rfl rfl hs751 (fun w' hw' => op_move ha750 rfl rfl) ?_
                        intro a753 ha753; clear ha750 a750
                        refine dr_val (i := 6) ha753 rfl (by kernel_rfl) (by kernel_rfl) (by kernel_rfl) rfl rfl rfl hs751 (fun w' hw' => op_extract ha753 rfl rfl rfl) ?_
                        intro a754 ha754; clear ha753 a753
                        refine dr_val (i := 7) ha754 rfl (by kernel_rfl) (by kernel_rfl) (by kernel_rfl) rfl rfl rfl hs751 (fun w' hw' => op_extract ha754 rfl rfl rfl) ?_
                        intro a755 ha755; clear ha754 a754
                        refine dr_one (i := 9) (by kernel_rfl) ?_
                        refine po_effS ha755 rfl rfl rfl (op_storeAll' ha755 rfl ti28 rfl rfl hb709 rfl rfl (by intro u hu; have hu : u ∈ ([u743, u745] : List Value) := hu; simp only [List.mem_cons, List.mem_nil_iff, or_false] at hu; rcases hu with rfl | rfl <;> first | rfl | exact ho744.one | exact ho746.one) rfl) ?_
                        rintro w756 ⟨hb758, hst757, hz759⟩
                        have hx760 := hx752.stp hst757 (by intro q hq; cases hq; exact (by omega))
                        have hzhx760 := hst757.size
                        replace ho718 : Own shStr 9 w707.heap.size w707.heap.size w715.heap.size w756 u717 (((aA).1)) := by first | exact ho718.stp hst757 (by intro q hq; cases hq; omega) | exact ho718.stpF flat_shStr hst757 (by intro q hq; cases hq; exact ho718.ne_box (by assumption) rfl)
                        replace ho720 : Own shRowN 41 w707.heap.size w707.heap.size w715.heap.size w756 u719 z721 := by first | exact ho720.stp hst757 (by intro q hq; cases hq; omega) | exact ho720.stpF flat_shRowN hst757 (by intro q hq; cases hq; exact ho720.ne_box (by assumption) rfl)
                        replace hN722 : Nst shI64 2 (fun x : List Int => x) w707.heap.size w715.heap.size w756 z721 := by first | exact hN722.stp hst757 (by intro q hq; cases hq; omega) | exact hN722.stpB flat_shI64 hst757 (by assumption) rfl
                        replace ho731 : Own shStr 9 w715.heap.size w715.heap.size w728.heap.size w756 u730 (((aB).1)) := by first | exact ho731.stp hst757 (by intro q hq; cases hq; omega) | exact ho731.stpF flat_shStr hst757 (by intro q hq; cases hq; exact ho731.ne_box (by assumption) rfl)
                        replace ho733 : Own shRowN 41 w715.heap.size w715.heap.size w728.heap.size w756 u732 z734 := by first | exact ho733.stp hst757 (by intro q hq; cases hq; omega) | exact ho733.stpF flat_shRowN hst757 (by intro q hq; cases hq; exact ho733.ne_box (by assumption) rfl)
                        replace hN735 : Nst shI64 2 (fun x : List Int => x) w715.heap.size w728.heap.size w756 z734 := by first | exact hN735.stp hst757 (by intro q hq; cases hq; omega) | exact hN735.stpB flat_shI64 hst757 (by assumption) rfl
                        replace ho744 : Own shStr 9 w728.heap.size w728.heap.size w741.heap.size w756 u743 (((jcT ((aA)) ((aB))).1)) := by first | exact ho744.stp hst757 (by intro q hq; cases hq; omega) | exact ho744.stpF flat_shStr hst757 (by intro q hq; cases hq; exact ho744.ne_box (by assumption) rfl)
                        replace ho746 : Own shRowN 41 w728.heap.size w728.heap.size w741.heap.size w756 u745 z747 := by first | exact ho746.stp hst757 (by intro q hq; cases hq; omega) | exact ho746.stpF flat_shRowN hst757 (by intro q hq; cases hq; exact ho746.ne_box (by assumption) rfl)
                        replace hN748 : Nst shI64 2 (fun x : List Int => x) w728.heap.size w741.heap.size w756 z747 := by first | exact hN748.stp hst757 (by intro q hq; cases hq; omega) | exact hN748.stpB flat_shI64 hst757 (by assumption) rfl
                        clear hb709
                        have hs761 := hs751.stp hst757 (by intro q hq; cases hq; omega)
                        refine ⟨hs761, ?_⟩
                        refine dr_val (i := 10) ha755 rfl (by kernel_rfl) (by kernel_rfl) (by kernel_rfl) rfl rfl rfl hs761 (fun w' hw' => op_assign ha755 rfl rfl) ?_
                        intro a762 ha762; clear ha755 a755
                        refine dr_end (by kernel_rfl) ?_
                        replace hf47 := hf47.ext hs761
                        replace hf48 := hf48.ext hs761
                        replace hf50 := hf50.ext hs761
                        replace hf51 := hf51.ext hs761
                        replace hf53 := hf53.ext hs761
                        replace hf49 := hf49.ext hs761
                        replace hb325 := hb325.ext hs761
                        replace ho462 := ho462.ext hs761
                        replace ho463 := ho463.ext hs761
                        replace hN465 := hN465.ext hs761
                        refine then_n ?_
                        refine wp_seq ?_
                        refine wp_seq ?_
                        clear hf47 hf48 ho718 ho720 hN722 ho731 ho733 hN735
                        refine wp_region_lit ?_
                        refine wl_val ha762 rfl rfl rfl (op_loadS ha762 rfl Try.underlying28 ti28 rfl rfl hb758.cells) ?_
                        intro a763 ha763; clear ha762 a762
                        refine wl_val ha763 rfl rfl rfl (op_loadS ha763 rfl Try.underlying28 ti28 rfl rfl hf49.cells) ?_
                        intro a764 ha764; clear ha763 a763
                        refine wl_callR ha764 rfl rfl rfl (op_call ha764 rfl cb20 rfl) (c_laws_eqTable _ u743 u745 ((jcT ((aA)) ((aB)))) q42 q43 ((jcT ((aA)) ((aB)))) (ho744.rds pos_shStr) ((rds_shRowN (ho746.fin (by omega) (by omega) (by omega)) hN748).cast hE749) (hf50.rds pos_shStr) ((rds_shRowN (hf51.fin (by omega) (by omega) (by omega)) hf53).cast hE52)) ?_
                        rintro v765 w766 he767 rfl a768 ha768; clear ha764 a764
                        have hx769 := hx760.trans' he767
                        have hzhx769 := he767.size
                        replace hf50 := hf50.ext he767
                        replace hf51 := hf51.ext he767
                        replace hf53 := hf53.ext he767
                        replace hf49 := hf49.ext he767
                        replace hb325 := hb325.ext he767
                        replace ho462 := ho462.ext he767
                        replace ho463 := ho463.ext he767
                        replace hN465 := hN465.ext he767
                        replace ho744 := ho744.ext he767
                        replace ho746 := ho746.ext he767
                        replace hN748 := hN748.ext he767
                        replace hb758 := hb758.ext he767
                        refine wl_val ha768 rfl rfl rfl (op_not ha768 rfl rfl) ?_
                        intro a770 ha770; clear ha768 a768
                        refine wl_val ha770 rfl rfl rfl (op_move ha770 rfl rfl) ?_
                        intro a771 ha771; clear ha770 a770
                        rw [c338] at ha771
                        refine wl_val ha771 rfl rfl rfl (op_move ha771 rfl rfl) ?_
                        intro a772 ha772; clear ha771 a771
                        refine wl_val ha772 rfl rfl rfl (op_move ha772 rfl rfl) ?_
                        intro a773 ha773; clear ha772 a772
                        refine wl_val ha773 rfl rfl rfl ((op_neq ha773 rfl rfl rfl).to (congrArg Value.bool decide_not)) ?_
                        intro a774 ha774; clear ha773 a773
                        refine wl_val ha774 rfl rfl rfl (op_pick_f ha774 rfl rfl rfl) ?_
                        intro a775 ha775; clear ha774 a774
                        refine wpList_nil ?_
                        refine then_n ?_
                        rw [decide_eq_true c343] at ha775
                        refine cond_f ha775 rfl ?_
                        refine wp_skip ?_
                        refine then_n ?_
                        refine wp_seq ?_
                        clear hf50 hf51 hf53 hf49 ho744 ho746 hN748 hb758
                        refine wp_region_lit ?_
                        refine wl_val ha775 rfl rfl rfl (op_assign ha775 rfl rfl) ?_
                        intro a776 ha776; clear ha775 a775
                        refine wpList_nil ?_
                        refine then_n ?_
                        refine wp_seq ?_
                        refine wp_region_lit ?_
                        refine wl_val ha776 rfl rfl rfl (op_loadS ha776 rfl Try.underlying28 ti28 rfl rfl hb325.cells) ?_
                        intro a777 ha777; clear ha776 a776
                        refine wl_val ha777 rfl rfl rfl (op_move ha777 rfl rfl) ?_
                        intro a778 ha778; clear ha777 a777
                        refine wl_callR ha778 rfl rfl rfl (op_call ha778 rfl cb36 rfl) (c_laws_heldTable _ u304 u306 ((mkT2 ((((jcT ((aA)) ((aB))).1), ((jcT ((aA)) ((aB))).2)) : List Str × List (List Int)) ((1 : Int)))) (1 : Int) (ho462.rds pos_shStr) ((rds_shRowN (ho463.fin (by omega) (by omega) (by omega)) hN465).cast hE466) (by first | assumption | omega | (simp; omega)) (by first | assumption | omega | (simp; omega) | (simp [kk_mkT]; omega))) ?_
                        rintro v779 w780 he781 rfl a782 ha782; clear ha778 a778
                        have hx783 := hx769.trans' he781
                        have hzhx783 := he781.size
                        replace hb325 := hb325.ext he781
                        replace ho462 := ho462.ext he781
                        replace ho463 := ho463.ext he781
                        replace hN465 := hN465.ext he781
                        refine wl_val ha782 rfl rfl rfl (op_assign ha782 rfl rfl) ?_
                        intro a784 ha784; clear ha782 a782
                        refine wpList_nil ?_
                        refine then_n ?_
                        refine wp_seq ?_
                        refine wp_seq ?_
                        clear hb325 ho462 ho463 hN465
                        refine wp_region_lit ?_
                        refine wl_val ha784 rfl rfl rfl (op_move ha784 rfl rfl) ?_
                        intro a785 ha785; clear ha784 a784
                        refine wl_val ha785 rfl rfl rfl (op_lss ha785 rfl rfl rfl) ?_
                        intro a786 ha786; clear ha785 a785
                        refine wpList_nil ?_
                        refine then_n ?_
                        rw [decide_eq_false c482] at ha786
                        refine cond_f ha786 rfl ?_
                        refine wp_skip ?_
                        refine then_n ?_
                        refine wp_seq ?_
                        refine wp_seq ?_
                        refine wp_region_lit ?_
                        refine wl_val ha786 rfl rfl rfl (op_move ha786 rfl rfl) ?_
                        intro a787 ha787; clear ha786 a786
                        refine wl_val ha787 rfl rfl rfl (op_move ha787 rfl rfl) ?_
                        intro a788 ha788; clear ha787 a787
                        refine wl_val ha788 rfl rfl rfl ((op_neq ha788 rfl rfl rfl).to (congrArg Value.bool decide_not)) ?_
                        intro a789 ha789; clear ha788 a788
                        refine wpList_nil ?_
                        refine then_n ?_
                        rw [decide_eq_true c487] at ha789
                        refine cond_f ha789 rfl ?_
                        refine wp_skip ?_
                        refine then_n ?_
                        refine wp_seq ?_
                        refine wp_region_lit ?_
                        refine wl_val ha789 rfl rfl rfl (op_assign ha789 rfl rfl) ?_
                        intro a790 ha790; clear ha789 a789
                        refine wpList_nil ?_
                        refine then_n ?_
                        refine wp_ret ?_
                        refine ret1 ha790 rfl rfl ?_
                        clear ha790 a790
                        exact ret_mk hx783 (congrArg Value.bool (by first | rfl | omega | (simp [held_mkT] at c487; done) | (simp [held_mkT] at c487; omega) | (simp [held_mkT] at c482; done) | (simp [held_mkT] at c482; omega) | (exact absurd rfl c482) | (exact absurd rfl c430) | (simp at c397; done) | (simp at c370; done) | (simp at c338; done) | (exact absurd rfl c39) | (exact absurd rfl c27)))
                    ·
                      rw [decide_eq_false c487] at ha486
                      refine cond_t ha486 rfl ?_
                      refine wp_seq ?_
                      clear hf47 hf48 hf50 hf51 hf53 hf49 hb325 ho462 ho463 hN465
                      refine wp_region_lit ?_
                      refine wl_val ha486 rfl rfl rfl (op_assign ha486 rfl rfl) ?_
                      intro a791 ha791; clear ha486 a486
                      refine wpList_nil ?_
                      refine then_n ?_
                      refine wp_ret ?_
                      refine then_r ?_
                      refine ret1 ha791 rfl rfl ?_
                      clear ha791 a791
                      exact ret_mk hx478 (congrArg Value.bool (by first | rfl | omega | (simp [held_mkT] at c487; done) | (simp [held_mkT] at c487; omega) | (simp [held_mkT] at c482; done) | (simp [held_mkT] at c482; omega) | (exact absurd rfl c487) | (exact absurd rfl c482) | (exact absurd rfl c430) | (simp at c397; done) | (simp at c370; done) | (simp at c338; done) | (exact absurd rfl c39) | (exact absurd rfl c27)))
              ·
                rw [c397] at ha396
                refine cond_t ha396 rfl ?_
                refine wp_seq ?_
                clear hf47 hf48 hf50 hf51 hf53 hf49 ho254 ho256 hN258 hb271 ho279 ho281 hN283 hb296 ho305 ho307 hN309 hb325 ho381 ho383 hN385
                refine wp_region_lit ?_
                refine wl_val ha396 rfl rfl rfl (op_assign ha396 rfl rfl) ?_
                intro a792 ha792; clear ha396 a396
                refine wpList_nil ?_
                refine then_n ?_
                refine wp_ret ?_
                refine then_r ?_
                refine ret1 ha792 rfl rfl ?_
                clear ha792 a792
                exact ret_mk hx395 (congrArg Value.bool (by first | rfl | omega | (exact absurd rfl c397) | (simp at c397; done) | (simp at c370; done) | (simp at c338; done) | (exact absurd rfl c39) | (exact absurd rfl c27)))
            ·
              rw [c370] at ha369
              refine cond_t ha369 rfl ?_
              refine wp_seq ?_
              clear hf47 hf48 hf50 hf51 hf53 hf49 ho254 ho256 hN258 hb271 ho279 ho281 hN283 hb296 ho305 ho307 hN309 hb325 ho354 ho356 hN358
              refine wp_region_lit ?_
              refine wl_val ha369 rfl rfl rfl (op_assign ha369 rfl rfl) ?_
              intro a793 ha793; clear ha369 a369
              refine wpList_nil ?_
              refine then_n ?_
              refine wp_ret ?_
              refine then_r ?_
              refine ret1 ha793 rfl rfl ?_
              clear ha793 a793
              exact ret_mk hx368 (congrArg Value.bool (by first | rfl | omega | (exact absurd rfl c370) | (simp at c370; done) | (simp at c338; done) | (exact absurd rfl c39) | (exact absurd rfl c27)))
          ·
            rw [decide_eq_false c343] at ha342
            refine cond_t ha342 rfl ?_
            refine wp_seq ?_
            clear hf47 hf48 hf50 hf51 hf53 hf49 ho254 ho256 hN258 hb271 ho279 ho281 hN283 hb296 ho305 ho307 hN309 hb325
            refine wp_region_lit ?_
            refine wl_val ha342 rfl rfl rfl (op_assign ha342 rfl rfl) ?_
            intro a794 ha794; clear ha342 a342
            refine wpList_nil ?_
            refine then_n ?_
            refine wp_ret ?_
            refine then_r ?_
            refine ret1 ha794 rfl rfl ?_
            clear ha794 a794
            exact ret_mk hx335 (congrArg Value.bool (by first | rfl | omega | (exact absurd rfl c343) | (simp at c338; done) | (exact absurd rfl c39) | (exact absurd rfl c27)))
        ·
          rw [c338] at ha337
          refine wl_skip ha337 rfl rfl rfl ?_
          intro a795 ha795; clear ha337 a337
          refine wl_skip ha795 rfl rfl rfl ?_
          intro a796 ha796; clear ha795 a795
          refine wl_skip ha796 rfl rfl rfl ?_
          intro a797 ha797; clear ha796 a796
          refine wl_val ha797 rfl rfl rfl (op_pick_t ha797 rfl rfl rfl) ?_
          intro a798 ha798; clear ha797 a797
          refine wpList_nil ?_
          refine then_n ?_
          refine cond_t ha798 rfl ?_
          refine wp_seq ?_
          clear hf47 hf48 hf50 hf51 hf53 hf49 ho254 ho256 hN258 hb271 ho279 ho281 hN283 hb296 ho305 ho307 hN309 hb325
          refine wp_region_lit ?_
          refine wl_val ha798 rfl rfl rfl (op_assign ha798 rfl rfl) ?_
          intro a799 ha799; clear ha798 a798
          refine wpList_nil ?_
          refine then_n ?_
          refine wp_ret ?_
          refine then_r ?_
          refine ret1 ha799 rfl rfl ?_
          clear ha799 a799
          exact ret_mk hx335 (congrArg Value.bool (by first | rfl | omega | (exact absurd rfl c338) | (simp at c338; done) | (exact absurd rfl c39) | (exact absurd rfl c27)))


end Go.Proofs.Ytjpldgicibnkcaa
