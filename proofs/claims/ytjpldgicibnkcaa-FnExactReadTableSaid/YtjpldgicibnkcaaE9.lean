/- The law ReadTable, walked. -/
import Derived.Test.YtjpldgicibnkcaaW14
import Derived.Test.YtjpldgicibnkcaaL3
namespace Go.Proofs.Ytjpldgicibnkcaa
open Go Go.RowKit

theorem sumC_bd {α : Type} {c : α → Nat} {B : Nat} : ∀ {xs : List α}, (∀ x ∈ xs, c x ≤ B) → sumC c xs ≤ B * xs.length
  | [], _ => Nat.zero_le _
  | x :: xs, h => by
    have h1 := h x (by simp)
    have h2 := sumC_bd (xs := xs) (c := c) (B := B) fun y hy => h y (by simp [hy])
    rw [List.length_cons, Nat.mul_add, sumC]; omega
theorem tab_cost {t : Tab} (h : tabB t = true) : costT t ≤ 1000 := by
  have hb := tab_bd h
  have h1 := sumC_bd (c := costS) (B := 16) (xs := t.1) fun x hx => by have := wordB_len (tab_heads h x hx); unfold costS; omega
  have h2 := sumC_bd (c := costRow) (B := 6) (xs := t.2) fun r hr => by have := (tab_rows h r hr).1; unfold costRow; rw [costI_eq]; omega
  unfold costT costL; omega

theorem rdT_cost (s : Str) : costT (rdT s) ≤ 1000 := by
  cases e : rdS s with
  | none => rw [(rd_n e).1]; exact Nat.zero_le _
  | some t =>
    rw [(rd_s e).1]
    apply tab_cost
    unfold rdS at e
    cases q : prS s with
    | none => rw [q] at e; cases e
    | some u =>
      rw [q] at e; simp only at e; split at e
      · cases e; exact (okT_eq ‹_›).1
      · cases e

set_option maxHeartbeats 4000000 in
theorem c_laws_FnExactReadTable (w0 : World) (aS : Str) (g0 : aS.length ≤ 9223372036854775807) :
    Calls Try.prog 14 #[St aS] w0 (Ret w0 (fun v _ => v = .bool (true))) := by
  refine enter (N := 66) Try.func14 rfl rfl rfl ?_
  intro a0 ha0
  have hx0 := Ext.rfl' w0
  have hq1 := kkT_le (rdT aS) 1
  have hq2 := rdT_cost aS
  have hq3 : kkT ((rdT aS).1, (rdT aS).2) 1 ≤ 1 + (costT (rdT aS) : Nat) := hq1
  have hq4 : 1 ≤ kkT ((rdT aS).1, (rdT aS).2) 1 := kkT_ge (rdT aS) 1
  have hq5 := costL_len costRow (rdT aS).2
  have hq6 : costT (rdT aS) = costL costS (rdT aS).1 + costL costRow (rdT aS).2 := rfl
  refine wp_seq ?_
  refine wp_region_lit ?_
  refine wl_val ha0 rfl rfl rfl (op_assign ha0 rfl rfl) ?_
  intro a1 ha1; clear ha0 a0
  refine wpList_nil ?_
  refine then_n ?_
  refine wp_seq ?_
  refine wp_seq ?_
  refine wp_region_lit ?_
  refine wl_val ha1 rfl rfl rfl (op_move ha1 rfl rfl) ?_
  intro a2 ha2; clear ha1 a1
  refine wl_val ha2 rfl rfl rfl (op_len_str ha2 rfl Try.underlying9 rfl) ?_
  intro a3 ha3; clear ha2 a2
  refine wl_val ha3 rfl rfl rfl (op_gtr ha3 rfl rfl rfl) ?_
  intro a4 ha4; clear ha3 a3
  refine wpList_nil ?_
  refine then_n ?_
  by_cases c5 : (1048576 : Int) < ((aS.length : Nat) : Int)
  ·
    rw [decide_eq_true c5] at ha4
    refine cond_t ha4 rfl ?_
    refine wp_seq ?_
    refine wp_region_lit ?_
    refine wl_val ha4 rfl rfl rfl (op_assign ha4 rfl rfl) ?_
    intro a6 ha6; clear ha4 a4
    refine wpList_nil ?_
    refine then_n ?_
    refine wp_ret ?_
    refine then_r ?_
    refine ret1 ha6 rfl rfl ?_
    clear ha6 a6
    exact ret_mk hx0 (congrArg Value.bool (by first | rfl | omega))
  ·
    rw [decide_eq_false c5] at ha4
    refine cond_f ha4 rfl ?_
    refine wp_skip ?_
    refine then_n ?_
    refine wp_seq ?_
    refine wp_region_lit ?_
    refine wl_val ha4 rfl rfl rfl (op_move ha4 rfl rfl) ?_
    intro a7 ha7; clear ha4 a4
    refine wl_callR ha7 rfl rfl rfl (op_call ha7 rfl cb54 rfl) (c_spec_ReadTable _ aS (by first | assumption | omega | (simp; omega))) ?_
    rintro v8 w9 he10 ⟨u11, u13, z15, rfl, ho12, ho14, hN16, hE17⟩ a18 ha18; clear ha7 a7
    have hx19 := hx0.trans' he10
    have hzhx19 := he10.size
    have hlhE17 := absLen hE17
    refine wl_val ha18 rfl rfl rfl (op_move ha18 rfl rfl) ?_
    intro a20 ha20; clear ha18 a18
    refine wl_val ha20 rfl rfl rfl (op_extract ha20 rfl rfl rfl) ?_
    intro a21 ha21; clear ha20 a20
    refine wl_val ha21 rfl rfl rfl (op_extract ha21 rfl rfl rfl) ?_
    intro a22 ha22; clear ha21 a21
    refine wl_eff ha22 rfl rfl rfl (op_alloc' rfl ti28 rfl) ?_
    rintro _ w24 ⟨rfl, he25, hb26, hz27⟩ a28 ha28; clear ha22 a22
    have hx29 := hx19.trans' he25
    have hzhx29 := he25.size
    replace ho12 := ho12.ext he25
    replace ho14 := ho14.ext he25
    replace hN16 := hN16.ext he25
    refine wl_effS ha28 rfl rfl (op_storeAll' ha28 rfl ti28 rfl rfl hb26 rfl rfl (by intro u hu; have hu : u ∈ ([u11, u13] : List Value) := hu; simp only [List.mem_cons, List.mem_nil_iff, or_false] at hu; rcases hu with rfl | rfl <;> first | rfl | exact ho12.one | exact ho14.one) rfl) ?_
    rintro w30 ⟨hb32, hst31, hz33⟩
    have hx34 := hx29.stp hst31 (by intro q hq; cases hq; exact (by omega))
    have hzhx34 := hst31.size
    replace ho12 : Own shStr 9 w0.heap.size w0.heap.size w9.heap.size w30 u11 (((rdT aS).1)) := by first | exact ho12.stp hst31 (by intro q hq; cases hq; omega) | exact ho12.stpF flat_shStr hst31 (by intro q hq; cases hq; exact ho12.ne_box (by assumption) rfl)
    replace ho14 : Own shRowN 41 w0.heap.size w0.heap.size w9.heap.size w30 u13 z15 := by first | exact ho14.stp hst31 (by intro q hq; cases hq; omega) | exact ho14.stpF flat_shRowN hst31 (by intro q hq; cases hq; exact ho14.ne_box (by assumption) rfl)
    replace hN16 : Nst shI64 2 (fun x : List Int => x) w0.heap.size w9.heap.size w30 z15 := by first | exact hN16.stp hst31 (by intro q hq; cases hq; omega) | exact hN16.stpB flat_shI64 hst31 (by assumption) rfl
    clear hb26
    refine wl_val ha28 rfl rfl rfl (op_assign ha28 rfl rfl) ?_
    intro a35 ha35; clear ha28 a28
    refine wpList_nil ?_
    refine then_n ?_
    refine wp_seq ?_
    refine wp_region_lit ?_
    refine wl_val ha35 rfl rfl rfl (op_move ha35 rfl rfl) ?_
    intro a36 ha36; clear ha35 a35
    refine wl_callR ha36 rfl rfl rfl (op_call ha36 rfl cb55 rfl) (c_impl_ReadTable _ aS (by first | assumption | omega | (simp; omega))) ?_
    rintro v37 w38 he39 ⟨u40, u42, z44, rfl, ho41, ho43, hN45, hE46⟩ a47 ha47; clear ha36 a36
    have hx48 := hx34.trans' he39
    have hzhx48 := he39.size
    replace ho12 := ho12.ext he39
    replace ho14 := ho14.ext he39
    replace hN16 := hN16.ext he39
    replace hb32 := hb32.ext he39
    have hlhE46 := absLen hE46
    refine wl_val ha47 rfl rfl rfl (op_move ha47 rfl rfl) ?_
    intro a49 ha49; clear ha47 a47
    refine wl_val ha49 rfl rfl rfl (op_extract ha49 rfl rfl rfl) ?_
    intro a50 ha50; clear ha49 a49
    refine wl_val ha50 rfl rfl rfl (op_extract ha50 rfl rfl rfl) ?_
    intro a51 ha51; clear ha50 a50
    refine wl_eff ha51 rfl rfl rfl (op_alloc' rfl ti28 rfl) ?_
    rintro _ w53 ⟨rfl, he54, hb55, hz56⟩ a57 ha57; clear ha51 a51
    have hx58 := hx48.trans' he54
    have hzhx58 := he54.size
    replace ho12 := ho12.ext he54
    replace ho14 := ho14.ext he54
    replace hN16 := hN16.ext he54
    replace hb32 := hb32.ext he54
    replace ho41 := ho41.ext he54
    replace ho43 := ho43.ext he54
    replace hN45 := hN45.ext he54
    refine wl_effS ha57 rfl rfl (op_storeAll' ha57 rfl ti28 rfl rfl hb55 rfl rfl (by intro u hu; have hu : u ∈ ([u40, u42] : List Value) := hu; simp only [List.mem_cons, List.mem_nil_iff, or_false] at hu; rcases hu with rfl | rfl <;> first | rfl | exact ho41.one | exact ho43.one) rfl) ?_
    rintro w59 ⟨hb61, hst60, hz62⟩
    have hx63 := hx58.stp hst60 (by intro q hq; cases hq; exact (by omega))
    have hzhx63 := hst60.size
    replace ho12 : Own shStr 9 w0.heap.size w0.heap.size w9.heap.size w59 u11 (((rdT aS).1)) := by first | exact ho12.stp hst60 (by intro q hq; cases hq; omega) | exact ho12.stpF flat_shStr hst60 (by intro q hq; cases hq; exact ho12.ne_box (by assumption) rfl)
    replace ho14 : Own shRowN 41 w0.heap.size w0.heap.size w9.heap.size w59 u13 z15 := by first | exact ho14.stp hst60 (by intro q hq; cases hq; omega) | exact ho14.stpF flat_shRowN hst60 (by intro q hq; cases hq; exact ho14.ne_box (by assumption) rfl)
    replace hN16 : Nst shI64 2 (fun x : List Int => x) w0.heap.size w9.heap.size w59 z15 := by first | exact hN16.stp hst60 (by intro q hq; cases hq; omega) | exact hN16.stpB flat_shI64 hst60 (by assumption) rfl
    replace hb32 := hb32.stp hst60 (by intro q hq; cases hq; omega)
    replace ho41 : Own shStr 9 w30.heap.size w30.heap.size w38.heap.size w59 u40 (((rdT aS).1)) := by first | exact ho41.stp hst60 (by intro q hq; cases hq; omega) | exact ho41.stpF flat_shStr hst60 (by intro q hq; cases hq; exact ho41.ne_box (by assumption) rfl)
    replace ho43 : Own shRowN 41 w30.heap.size w30.heap.size w38.heap.size w59 u42 z44 := by first | exact ho43.stp hst60 (by intro q hq; cases hq; omega) | exact ho43.stpF flat_shRowN hst60 (by intro q hq; cases hq; exact ho43.ne_box (by assumption) rfl)
    replace hN45 : Nst shI64 2 (fun x : List Int => x) w30.heap.size w38.heap.size w59 z44 := by first | exact hN45.stp hst60 (by intro q hq; cases hq; omega) | exact hN45.stpB flat_shI64 hst60 (by assumption) rfl
    clear hb55
    refine wl_val ha57 rfl rfl rfl (op_assign ha57 rfl rfl) ?_
    intro a64 ha64; clear ha57 a57
    refine wpList_nil ?_
    refine then_n ?_
    refine wp_seq ?_
    refine wp_seq ?_
    refine wp_region_lit ?_
    refine wl_val ha64 rfl rfl rfl (op_loadS ha64 rfl Try.underlying28 ti28 rfl rfl hb61.cells) ?_
    intro a65 ha65; clear ha64 a64
    refine wl_val ha65 rfl rfl rfl (op_loadS ha65 rfl Try.underlying28 ti28 rfl rfl hb32.cells) ?_
    intro a66 ha66; clear ha65 a65
    refine wl_callR ha66 rfl rfl rfl (op_call ha66 rfl cb20 rfl) (c_laws_eqTable _ u40 u42 ((rdT aS)) u11 u13 ((rdT aS)) (ho41.rds pos_shStr) ((rds_shRowN (ho43.fin (by omega) (by omega) (by omega)) hN45).cast hE46) (ho12.rds pos_shStr) ((rds_shRowN (ho14.fin (by omega) (by omega) (by omega)) hN16).cast hE17)) ?_
    rintro v67 w68 he69 rfl a70 ha70; clear ha66 a66
    have hx71 := hx63.trans' he69
    have hzhx71 := he69.size
    replace ho12 := ho12.ext he69
    replace ho14 := ho14.ext he69
    replace hN16 := hN16.ext he69
    replace hb32 := hb32.ext he69
    replace ho41 := ho41.ext he69
    replace ho43 := ho43.ext he69
    replace hN45 := hN45.ext he69
    replace hb61 := hb61.ext he69
    refine wl_val ha70 rfl rfl rfl (op_not ha70 rfl rfl) ?_
    intro a72 ha72; clear ha70 a70
    refine wl_val ha72 rfl rfl rfl (op_move ha72 rfl rfl) ?_
    intro a73 ha73; clear ha72 a72
    rcases Bool.eq_false_or_eq_true (decide (((rdT aS)) = ((rdT aS)))) with c74 | c74
    ·
      rw [c74] at ha73
      refine wl_val ha73 rfl rfl rfl (op_move ha73 rfl rfl) ?_
      intro a75 ha75; clear ha73 a73
      refine wl_val ha75 rfl rfl rfl (op_move ha75 rfl rfl) ?_
      intro a76 ha76; clear ha75 a75
      refine wl_val ha76 rfl rfl rfl ((op_neq ha76 rfl rfl rfl).to (congrArg Value.bool decide_not)) ?_
      intro a77 ha77; clear ha76 a76
      refine wl_val ha77 rfl rfl rfl (op_pick_f ha77 rfl rfl rfl) ?_
      intro a78 ha78; clear ha77 a77
      refine wpList_nil ?_
      refine then_n ?_
      by_cases c79 : (rdC aS : Int) = (rdC aS : Int)
      ·
        rw [decide_eq_true c79] at ha78
        refine cond_f ha78 rfl ?_
        refine wp_skip ?_
        refine then_n ?_
        refine wp_seq ?_
        refine wp_region_lit ?_
        refine wl_val ha78 rfl rfl rfl (op_assign ha78 rfl rfl) ?_
        intro a80 ha80; clear ha78 a78
        refine wpList_nil ?_
        refine then_n ?_
        refine wp_seq ?_
        refine wp_region_lit ?_
        refine wl_val ha80 rfl rfl rfl (op_loadS ha80 rfl Try.underlying28 ti28 rfl rfl hb61.cells) ?_
        intro a81 ha81; clear ha80 a80
        refine wl_val ha81 rfl rfl rfl (op_move ha81 rfl rfl) ?_
        intro a82 ha82; clear ha81 a81
        have hm91 := c_laws_markTable (lo_a := w30.heap.size) (hi_a := w38.heap.size) _ u40 (((rdT aS).1)) u42 z44 (1 : Int) (ho41.fin (by omega) (by omega) (by omega)) (ho43.fin (by omega) (by omega) (by omega)) (hN45.fin (by omega) (by omega)) (by omega) (by (try rw [hE46]); first | assumption | omega | (simp; omega)) (by (try rw [hE46]); first | assumption | omega | (simp; omega)) (by (try rw [hE46]); first | assumption | omega | (simp; omega))
        try rw [hE46] at hm91
        refine wl_callI ha82 rfl rfl rfl (op_call ha82 rfl cb26 rfl) (hm91) ?_
        rintro v83 w84 he85 ⟨z88, rfl, ho86, ho87, hN89, hE90⟩ a92 ha92; clear ha82 a82
        have hx93 := hx71.stpI he85 (by omega)
        have hzhx93 := he85.size
        replace ho12 := ho12.stpI he85 (by omega)
        replace ho14 := ho14.stpI he85 (by omega)
        replace hN16 := hN16.stpI he85 (by omega)
        replace hb32 := hb32.stpI he85 (by omega)
        replace hb61 := hb61.stpI he85 (by omega)
        clear ho41 ho43 hN45
        refine wl_val ha92 rfl rfl rfl (op_assign ha92 rfl rfl) ?_
        intro a94 ha94; clear ha92 a92
        refine wpList_nil ?_
        refine then_n ?_
        refine wp_seq ?_
        refine wp_region_lit ?_
        refine wl_val ha94 rfl rfl rfl (op_assign ha94 rfl rfl) ?_
        intro a95 ha95; clear ha94 a94
        refine wpList_nil ?_
        refine then_n ?_
        refine wp_seq ?_
        refine wp_region_lit ?_
        refine wl_val ha95 rfl rfl rfl (op_loadS ha95 rfl Try.underlying28 ti28 rfl rfl hb61.cells) ?_
        intro a96 ha96; clear ha95 a95
        refine wl_val ha96 rfl rfl rfl (op_move ha96 rfl rfl) ?_
        intro a97 ha97; clear ha96 a96
        refine wl_callR ha97 rfl rfl rfl (op_call ha97 rfl cb36 rfl) (c_laws_heldTable _ u40 u42 ((mkT2 ((((rdT aS).1), ((rdT aS).2)) : List Str × List (List Int)) ((1 : Int)))) (1 : Int) (ho86.rds pos_shStr) ((rds_shRowN (ho87.fin (by omega) (by omega) (by omega)) hN89).cast hE90) (by first | assumption | omega | (simp; omega)) (by first | assumption | omega | (simp; omega) | (simp [kk_mkT]; omega))) ?_
        rintro v98 w99 he100 rfl a101 ha101; clear ha97 a97
        have hx102 := hx93.trans' he100
        have hzhx102 := he100.size
        replace ho12 := ho12.ext he100
        replace ho14 := ho14.ext he100
        replace hN16 := hN16.ext he100
        replace hb32 := hb32.ext he100
        replace hb61 := hb61.ext he100
        replace ho86 := ho86.ext he100
        replace ho87 := ho87.ext he100
        replace hN89 := hN89.ext he100
        refine wl_val ha101 rfl rfl rfl (op_assign ha101 rfl rfl) ?_
        intro a103 ha103; clear ha101 a101
        refine wpList_nil ?_
        refine then_n ?_
        refine wp_seq ?_
        refine wp_seq ?_
        refine wp_region_lit ?_
        refine wl_val ha103 rfl rfl rfl (op_move ha103 rfl rfl) ?_
        intro a104 ha104; clear ha103 a103
        refine wl_val ha104 rfl rfl rfl (op_lss ha104 rfl rfl rfl) ?_
        intro a105 ha105; clear ha104 a104
        refine wpList_nil ?_
        refine then_n ?_
        by_cases c106 : (heldT ((mkT2 ((((rdT aS).1), ((rdT aS).2)) : List Str × List (List Int)) ((1 : Int)))) (1 : Int) : Int) < (0 : Int)
        ·
          rw [decide_eq_true c106] at ha105
          refine cond_t ha105 rfl ?_
          refine wp_seq ?_
          clear ho12 ho14 hN16 hb32 hb61 ho86 ho87 hN89
          refine wp_region_lit ?_
          refine wl_val ha105 rfl rfl rfl (op_assign ha105 rfl rfl) ?_
          intro a107 ha107; clear ha105 a105
          refine wpList_nil ?_
          refine then_n ?_
          refine wp_ret ?_
          refine then_r ?_
          refine ret1 ha107 rfl rfl ?_
          clear ha107 a107
          exact ret_mk hx102 (congrArg Value.bool (by first | rfl | omega | (simp [held_mkT] at c106; done) | (simp [held_mkT] at c106; omega) | (simp at c74; done) | (exact absurd rfl c5)))
        ·
          rw [decide_eq_false c106] at ha105
          refine cond_f ha105 rfl ?_
          refine wp_skip ?_
          refine then_n ?_
          refine wp_seq ?_
          refine wp_seq ?_
          refine wp_region_lit ?_
          refine wl_val ha105 rfl rfl rfl (op_move ha105 rfl rfl) ?_
          intro a108 ha108; clear ha105 a105
          refine wl_val ha108 rfl rfl rfl (op_move ha108 rfl rfl) ?_
          intro a109 ha109; clear ha108 a108
          refine wl_val ha109 rfl rfl rfl ((op_neq ha109 rfl rfl rfl).to (congrArg Value.bool decide_not)) ?_
          intro a110 ha110; clear ha109 a109
          refine wpList_nil ?_
          refine then_n ?_
          by_cases c111 : (heldT ((mkT2 ((((rdT aS).1), ((rdT aS).2)) : List Str × List (List Int)) ((1 : Int)))) (1 : Int) : Int) = (kkT ((((rdT aS).1), ((rdT aS).2)) : List Str × List (List Int)) ((1 : Int)) : Int)
          ·
            rw [decide_eq_true c111] at ha110
            refine cond_f ha110 rfl ?_
            refine wp_skip ?_
            refine then_n ?_
            refine wp_seq ?_
            refine wp_region_lit ?_
            refine wl_val ha110 rfl rfl rfl (op_move ha110 rfl rfl) ?_
            intro a112 ha112; clear ha110 a110
            refine wl_callR ha112 rfl rfl rfl (op_call ha112 rfl cb55 rfl) (c_impl_ReadTable _ aS (by first | assumption | omega | (simp; omega))) ?_
            rintro v113 w114 he115 ⟨u116, u118, z120, rfl, ho117, ho119, hN121, hE122⟩ a123 ha123; clear ha112 a112
            have hx124 := hx102.trans' he115
            have hzhx124 := he115.size
            replace ho12 := ho12.ext he115
            replace ho14 := ho14.ext he115
            replace hN16 := hN16.ext he115
            replace hb32 := hb32.ext he115
            replace hb61 := hb61.ext he115
            replace ho86 := ho86.ext he115
            replace ho87 := ho87.ext he115
            replace hN89 := hN89.ext he115
            have hlhE122 := absLen hE122
            refine wl_val ha123 rfl rfl rfl (op_move ha123 rfl rfl) ?_
            intro a125 ha125; clear ha123 a123
            refine wl_val ha125 rfl rfl rfl (op_extract ha125 rfl rfl rfl) ?_
            intro a126 ha126; clear ha125 a125
            refine wl_val ha126 rfl rfl rfl (op_extract ha126 rfl rfl rfl) ?_
            intro a127 ha127; clear ha126 a126
            refine wl_eff ha127 rfl rfl rfl (op_alloc' rfl ti28 rfl) ?_
            rintro _ w129 ⟨rfl, he130, hb131, hz132⟩ a133 ha133; clear ha127 a127
            have hx134 := hx124.trans' he130
            have hzhx134 := he130.size
            replace ho12 := ho12.ext he130
            replace ho14 := ho14.ext he130
            replace hN16 := hN16.ext he130
            replace hb32 := hb32.ext he130
            replace hb61 := hb61.ext he130
            replace ho86 := ho86.ext he130
            replace ho87 := ho87.ext he130
            replace hN89 := hN89.ext he130
            replace ho117 := ho117.ext he130
            replace ho119 := ho119.ext he130
            replace hN121 := hN121.ext he130
            refine wl_effS ha133 rfl rfl (op_storeAll' ha133 rfl ti28 rfl rfl hb131 rfl rfl (by intro u hu; have hu : u ∈ ([u116, u118] : List Value) := hu; simp only [List.mem_cons, List.mem_nil_iff, or_false] at hu; rcases hu with rfl | rfl <;> first | rfl | exact ho117.one | exact ho119.one) rfl) ?_
            rintro w135 ⟨hb137, hst136, hz138⟩
            have hx139 := hx134.stp hst136 (by intro q hq; cases hq; exact (by omega))
            have hzhx139 := hst136.size
            replace ho12 : Own shStr 9 w0.heap.size w0.heap.size w9.heap.size w135 u11 (((rdT aS).1)) := by first | exact ho12.stp hst136 (by intro q hq; cases hq; omega) | exact ho12.stpF flat_shStr hst136 (by intro q hq; cases hq; exact ho12.ne_box (by assumption) rfl)
            replace ho14 : Own shRowN 41 w0.heap.size w0.heap.size w9.heap.size w135 u13 z15 := by first | exact ho14.stp hst136 (by intro q hq; cases hq; omega) | exact ho14.stpF flat_shRowN hst136 (by intro q hq; cases hq; exact ho14.ne_box (by assumption) rfl)
            replace hN16 : Nst shI64 2 (fun x : List Int => x) w0.heap.size w9.heap.size w135 z15 := by first | exact hN16.stp hst136 (by intro q hq; cases hq; omega) | exact hN16.stpB flat_shI64 hst136 (by assumption) rfl
            replace hb32 := hb32.stp hst136 (by intro q hq; cases hq; omega)
            replace hb61 := hb61.stp hst136 (by intro q hq; cases hq; omega)
            replace ho86 : Own shStr 9 w30.heap.size w30.heap.size w38.heap.size w135 u40 ((mkN mkS 1 ((((rdT aS).1), ((rdT aS).2)) : List Str × List (List Int)).1.length ((1 : Int)))) := by first | exact ho86.stp hst136 (by intro q hq; cases hq; omega) | exact ho86.stpF flat_shStr hst136 (by intro q hq; cases hq; exact ho86.ne_box (by assumption) rfl)
            replace ho87 : Own shRowN 41 w30.heap.size w30.heap.size w38.heap.size w135 u42 z88 := by first | exact ho87.stp hst136 (by intro q hq; cases hq; omega) | exact ho87.stpF flat_shRowN hst136 (by intro q hq; cases hq; exact ho87.ne_box (by assumption) rfl)
            replace hN89 : Nst shI64 2 (fun x : List Int => x) w30.heap.size w38.heap.size w135 z88 := by first | exact hN89.stp hst136 (by intro q hq; cases hq; omega) | exact hN89.stpB flat_shI64 hst136 (by assumption) rfl
            replace ho117 : Own shStr 9 w99.heap.size w99.heap.size w114.heap.size w135 u116 (((rdT aS).1)) := by first | exact ho117.stp hst136 (by intro q hq; cases hq; omega) | exact ho117.stpF flat_shStr hst136 (by intro q hq; cases hq; exact ho117.ne_box (by assumption) rfl)
            replace ho119 : Own shRowN 41 w99.heap.size w99.heap.size w114.heap.size w135 u118 z120 := by first | exact ho119.stp hst136 (by intro q hq; cases hq; omega) | exact ho119.stpF flat_shRowN hst136 (by intro q hq; cases hq; exact ho119.ne_box (by assumption) rfl)
            replace hN121 : Nst shI64 2 (fun x : List Int => x) w99.heap.size w114.heap.size w135 z120 := by first | exact hN121.stp hst136 (by intro q hq; cases hq; omega) | exact hN121.stpB flat_shI64 hst136 (by assumption) rfl
            clear hb131
            refine wl_val ha133 rfl rfl rfl (op_assign ha133 rfl rfl) ?_
            intro a140 ha140; clear ha133 a133
            refine wpList_nil ?_
            refine then_n ?_
            refine wp_seq ?_
            refine wp_seq ?_
            refine wp_region_lit ?_
            refine wl_val ha140 rfl rfl rfl (op_loadS ha140 rfl Try.underlying28 ti28 rfl rfl hb137.cells) ?_
            intro a141 ha141; clear ha140 a140
            refine wl_val ha141 rfl rfl rfl (op_loadS ha141 rfl Try.underlying28 ti28 rfl rfl hb32.cells) ?_
            intro a142 ha142; clear ha141 a141
            refine wl_callR ha142 rfl rfl rfl (op_call ha142 rfl cb20 rfl) (c_laws_eqTable _ u116 u118 ((rdT aS)) u11 u13 ((rdT aS)) (ho117.rds pos_shStr) ((rds_shRowN (ho119.fin (by omega) (by omega) (by omega)) hN121).cast hE122) (ho12.rds pos_shStr) ((rds_shRowN (ho14.fin (by omega) (by omega) (by omega)) hN16).cast hE17)) ?_
            rintro v143 w144 he145 rfl a146 ha146; clear ha142 a142
            have hx147 := hx139.trans' he145
            have hzhx147 := he145.size
            replace ho12 := ho12.ext he145
            replace ho14 := ho14.ext he145
            replace hN16 := hN16.ext he145
            replace hb32 := hb32.ext he145
            replace hb61 := hb61.ext he145
            replace ho86 := ho86.ext he145
            replace ho87 := ho87.ext he145
            replace hN89 := hN89.ext he145
            replace ho117 := ho117.ext he145
            replace ho119 := ho119.ext he145
            replace hN121 := hN121.ext he145
            replace hb137 := hb137.ext he145
            refine wl_val ha146 rfl rfl rfl (op_not ha146 rfl rfl) ?_
            intro a148 ha148; clear ha146 a146
            refine wl_val ha148 rfl rfl rfl (op_move ha148 rfl rfl) ?_
            intro a149 ha149; clear ha148 a148
            rw [c74] at ha149
            refine wl_val ha149 rfl rfl rfl (op_move ha149 rfl rfl) ?_
            intro a150 ha150; clear ha149 a149
            refine wl_val ha150 rfl rfl rfl (op_move ha150 rfl rfl) ?_
            intro a151 ha151; clear ha150 a150
            refine wl_val ha151 rfl rfl rfl ((op_neq ha151 rfl rfl rfl).to (congrArg Value.bool decide_not)) ?_
            intro a152 ha152; clear ha151 a151
            refine wl_val ha152 rfl rfl rfl (op_pick_f ha152 rfl rfl rfl) ?_
            intro a153 ha153; clear ha152 a152
            refine wpList_nil ?_
            refine then_n ?_
            rw [decide_eq_true c79] at ha153
            refine cond_f ha153 rfl ?_
            refine wp_skip ?_
            refine then_n ?_
            refine wp_seq ?_
            clear ho12 ho14 hN16 hb32 ho117 ho119 hN121 hb137
            refine wp_region_lit ?_
            refine wl_val ha153 rfl rfl rfl (op_assign ha153 rfl rfl) ?_
            intro a154 ha154; clear ha153 a153
            refine wpList_nil ?_
            refine then_n ?_
            refine wp_seq ?_
            refine wp_region_lit ?_
            refine wl_val ha154 rfl rfl rfl (op_loadS ha154 rfl Try.underlying28 ti28 rfl rfl hb61.cells) ?_
            intro a155 ha155; clear ha154 a154
            refine wl_val ha155 rfl rfl rfl (op_move ha155 rfl rfl) ?_
            intro a156 ha156; clear ha155 a155
            refine wl_callR ha156 rfl rfl rfl (op_call ha156 rfl cb36 rfl) (c_laws_heldTable _ u40 u42 ((mkT2 ((((rdT aS).1), ((rdT aS).2)) : List Str × List (List Int)) ((1 : Int)))) (1 : Int) (ho86.rds pos_shStr) ((rds_shRowN (ho87.fin (by omega) (by omega) (by omega)) hN89).cast hE90) (by first | assumption | omega | (simp; omega)) (by first | assumption | omega | (simp; omega) | (simp [kk_mkT]; omega))) ?_
            rintro v157 w158 he159 rfl a160 ha160; clear ha156 a156
            have hx161 := hx147.trans' he159
            have hzhx161 := he159.size
            replace hb61 := hb61.ext he159
            replace ho86 := ho86.ext he159
            replace ho87 := ho87.ext he159
            replace hN89 := hN89.ext he159
            refine wl_val ha160 rfl rfl rfl (op_assign ha160 rfl rfl) ?_
            intro a162 ha162; clear ha160 a160
            refine wpList_nil ?_
            refine then_n ?_
            refine wp_seq ?_
            refine wp_seq ?_
            clear hb61 ho86 ho87 hN89
            refine wp_region_lit ?_
            refine wl_val ha162 rfl rfl rfl (op_move ha162 rfl rfl) ?_
            intro a163 ha163; clear ha162 a162
            refine wl_val ha163 rfl rfl rfl (op_lss ha163 rfl rfl rfl) ?_
            intro a164 ha164; clear ha163 a163
            refine wpList_nil ?_
            refine then_n ?_
            rw [decide_eq_false c106] at ha164
            refine cond_f ha164 rfl ?_
            refine wp_skip ?_
            refine then_n ?_
            refine wp_seq ?_
            refine wp_seq ?_
            refine wp_region_lit ?_
            refine wl_val ha164 rfl rfl rfl (op_move ha164 rfl rfl) ?_
            intro a165 ha165; clear ha164 a164
            refine wl_val ha165 rfl rfl rfl (op_move ha165 rfl rfl) ?_
            intro a166 ha166; clear ha165 a165
            refine wl_val ha166 rfl rfl rfl ((op_neq ha166 rfl rfl rfl).to (congrArg Value.bool decide_not)) ?_
            intro a167 ha167; clear ha166 a166
            refine wpList_nil ?_
            refine then_n ?_
            rw [decide_eq_true c111] at ha167
            refine cond_f ha167 rfl ?_
            refine wp_skip ?_
            refine then_n ?_
            refine wp_seq ?_
            refine wp_region_lit ?_
            refine wl_val ha167 rfl rfl rfl (op_assign ha167 rfl rfl) ?_
            intro a168 ha168; clear ha167 a167
            refine wpList_nil ?_
            refine then_n ?_
            refine wp_ret ?_
            refine ret1 ha168 rfl rfl ?_
            clear ha168 a168
            exact ret_mk hx161 (congrArg Value.bool (by first | rfl | omega | (simp [held_mkT] at c111; done) | (simp [held_mkT] at c111; omega) | (simp [held_mkT] at c106; done) | (simp [held_mkT] at c106; omega) | (exact absurd rfl c106) | (simp at c74; done) | (exact absurd rfl c5)))
          ·
            rw [decide_eq_false c111] at ha110
            refine cond_t ha110 rfl ?_
            refine wp_seq ?_
            clear ho12 ho14 hN16 hb32 hb61 ho86 ho87 hN89
            refine wp_region_lit ?_
            refine wl_val ha110 rfl rfl rfl (op_assign ha110 rfl rfl) ?_
            intro a169 ha169; clear ha110 a110
            refine wpList_nil ?_
            refine then_n ?_
            refine wp_ret ?_
            refine then_r ?_
            refine ret1 ha169 rfl rfl ?_
            clear ha169 a169
            exact ret_mk hx102 (congrArg Value.bool (by first | rfl | omega | (simp [held_mkT] at c111; done) | (simp [held_mkT] at c111; omega) | (simp [held_mkT] at c106; done) | (simp [held_mkT] at c106; omega) | (exact absurd rfl c111) | (exact absurd rfl c106) | (simp at c74; done) | (exact absurd rfl c5)))
      ·
        rw [decide_eq_false c79] at ha78
        refine cond_t ha78 rfl ?_
        refine wp_seq ?_
        clear ho12 ho14 hN16 hb32 ho41 ho43 hN45 hb61
        refine wp_region_lit ?_
        refine wl_val ha78 rfl rfl rfl (op_assign ha78 rfl rfl) ?_
        intro a170 ha170; clear ha78 a78
        refine wpList_nil ?_
        refine then_n ?_
        refine wp_ret ?_
        refine then_r ?_
        refine ret1 ha170 rfl rfl ?_
        clear ha170 a170
        exact ret_mk hx71 (congrArg Value.bool (by first | rfl | omega | (exact absurd rfl c79) | (simp at c74; done) | (exact absurd rfl c5)))
    ·
      rw [c74] at ha73
      refine wl_skip ha73 rfl rfl rfl ?_
      intro a171 ha171; clear ha73 a73
      refine wl_skip ha171 rfl rfl rfl ?_
      intro a172 ha172; clear ha171 a171
      refine wl_skip ha172 rfl rfl rfl ?_
      intro a173 ha173; clear ha172 a172
      refine wl_val ha173 rfl rfl rfl (op_pick_t ha173 rfl rfl rfl) ?_
      intro a174 ha174; clear ha173 a173
      refine wpList_nil ?_
      refine then_n ?_
      refine cond_t ha174 rfl ?_
      refine wp_seq ?_
      clear ho12 ho14 hN16 hb32 ho41 ho43 hN45 hb61
      refine wp_region_lit ?_
      refine wl_val ha174 rfl rfl rfl (op_assign ha174 rfl rfl) ?_
      intro a175 ha175; clear ha174 a174
      refine wpList_nil ?_
      refine then_n ?_
      refine wp_ret ?_
      refine then_r ?_
      refine ret1 ha175 rfl rfl ?_
      clear ha175 a175
      exact ret_mk hx71 (congrArg Value.bool (by first | rfl | omega | (exact absurd rfl c74) | (simp at c74; done) | (exact absurd rfl c5)))


end Go.Proofs.Ytjpldgicibnkcaa
