/- The law IsConsoleLine, walked. -/
import Derived.Test.YthbehhhblchhhaaK2
namespace Go.Proofs.Ythbehhhblchhhaa
open Go Go.RowKit

theorem c_laws_FnExactIsConsoleLine (w0 : World) (aLine : Str) (g0 : aLine.length ≤ 9223372036854775807) :
    Calls Try.prog 3 #[St aLine] w0 (Ret w0 (fun v _ => v = .bool (true))) := by
  refine enter (N := 15) Try.func3 rfl rfl rfl ?_
  intro a0 ha0
  have hx0 := Ext.rfl' w0
  refine wp_seq ?_
  refine wp_region_lit ?_
  refine wl_val ha0 rfl rfl rfl (op_assign ha0 rfl rfl) ?_
  intro a1 ha1; clear ha0 a0
  refine wpList_nil ?_
  refine then_n ?_
  refine wp_seq ?_
  refine wp_seq ?_
  refine wp_region_lit ?_
  refine wl_val ha1 rfl rfl rfl (op_move ha1 rfl rfl) ?_
  intro a2 ha2; clear ha1 a1
  refine wl_val ha2 rfl rfl rfl (op_len_str ha2 rfl Try.underlying9 rfl) ?_
  intro a3 ha3; clear ha2 a2
  refine wl_val ha3 rfl rfl rfl (op_gtr ha3 rfl rfl rfl) ?_
  intro a4 ha4; clear ha3 a3
  refine wpList_nil ?_
  refine then_n ?_
  by_cases c5 : (1048576 : Int) < ((aLine.length : Nat) : Int)
  ·
    rw [decide_eq_true c5] at ha4
    refine cond_t ha4 rfl ?_
    refine wp_seq ?_
    refine wp_region_lit ?_
    refine wl_val ha4 rfl rfl rfl (op_assign ha4 rfl rfl) ?_
    intro a6 ha6; clear ha4 a4
    refine wpList_nil ?_
    refine then_n ?_
    refine wp_ret ?_
    refine then_r ?_
    refine ret1 ha6 rfl rfl ?_
    clear ha6 a6
    exact ret_mk hx0 (congrArg Value.bool (by first | rfl | omega))
  ·
    rw [decide_eq_false c5] at ha4
    refine cond_f ha4 rfl ?_
    refine wp_skip ?_
    refine then_n ?_
    refine wp_seq ?_
    refine wp_region_lit ?_
    refine wl_val ha4 rfl rfl rfl (op_move ha4 rfl rfl) ?_
    intro a7 ha7; clear ha4 a4
    refine wl_callR ha7 rfl rfl rfl (op_call ha7 rfl cb5 rfl) (c_spec_IsConsoleLine _ aLine (by first | assumption | omega | (simp; omega))) ?_
    rintro v8 w9 he10 rfl a11 ha11; clear ha7 a7
    have hx12 := hx0.trans' he10
    have hzhx12 := he10.size
    refine wl_val ha11 rfl rfl rfl (op_assign ha11 rfl rfl) ?_
    intro a13 ha13; clear ha11 a11
    refine wpList_nil ?_
    refine then_n ?_
    refine wp_seq ?_
    refine wp_region_lit ?_
    refine wl_val ha13 rfl rfl rfl (op_move ha13 rfl rfl) ?_
    intro a14 ha14; clear ha13 a13
    refine wl_callR ha14 rfl rfl rfl (op_call ha14 rfl cb6 rfl) (c_impl_IsConsoleLine _ aLine (by first | assumption | omega | (simp; omega))) ?_
    rintro v15 w16 he17 rfl a18 ha18; clear ha14 a14
    have hx19 := hx12.trans' he17
    have hzhx19 := he17.size
    refine wl_val ha18 rfl rfl rfl (op_assign ha18 rfl rfl) ?_
    intro a20 ha20; clear ha18 a18
    refine wpList_nil ?_
    refine then_n ?_
    refine wp_seq ?_
    refine wp_seq ?_
    refine wp_region_lit ?_
    refine wl_val ha20 rfl rfl rfl (op_move ha20 rfl rfl) ?_
    intro a21 ha21; clear ha20 a20
    refine wl_val ha21 rfl rfl rfl (op_move ha21 rfl rfl) ?_
    intro a22 ha22; clear ha21 a21
    refine wl_val ha22 rfl rfl rfl (op_bneq ha22 rfl Try.underlying4 rfl rfl) ?_
    intro a23 ha23; clear ha22 a22
    refine wpList_nil ?_
    refine then_n ?_
    rcases Bool.eq_false_or_eq_true (((pcO aLine).isSome == (pcO aLine).isSome)) with c24 | c24
    ·
      rw [c24] at ha23
      refine cond_f ha23 rfl ?_
      refine wp_skip ?_
      refine then_n ?_
      refine wp_seq ?_
      refine wp_region_lit ?_
      refine wl_val ha23 rfl rfl rfl (op_assign ha23 rfl rfl) ?_
      intro a25 ha25; clear ha23 a23
      refine wpList_nil ?_
      refine then_n ?_
      refine wp_ret ?_
      refine ret1 ha25 rfl rfl ?_
      clear ha25 a25
      exact ret_mk hx19 (congrArg Value.bool (by first | rfl | omega | (simp at c24; done) | (exact absurd rfl c5)))
    ·
      rw [c24] at ha23
      refine cond_t ha23 rfl ?_
      refine wp_seq ?_
      refine wp_region_lit ?_
      refine wl_val ha23 rfl rfl rfl (op_assign ha23 rfl rfl) ?_
      intro a26 ha26; clear ha23 a23
      refine wpList_nil ?_
      refine then_n ?_
      refine wp_ret ?_
      refine then_r ?_
      refine ret1 ha26 rfl rfl ?_
      clear ha26 a26
      exact ret_mk hx19 (congrArg Value.bool (by first | rfl | omega | (exact absurd rfl c24) | (simp at c24; done) | (exact absurd rfl c5)))


end Go.Proofs.Ythbehhhblchhhaa
