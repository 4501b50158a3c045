/- The small functions over what is found. -/
import Derived.Test.YtkdnclpgijkceaaS1
namespace Go.Proofs.Ytkdnclpgijkceaa
open Go Go.RowKit

theorem c_impl_IsFile (w0 : World) (s : Str) (g0 : s.length ≤ 1048576) :
  Calls Try.prog 27 #[St s] w0 (Ret w0 (fun v _ => v = .bool (decide ((salS s).2.1 = 0)))) := by
 refine enter (N := 14) Try.func27 rfl rfl rfl ?_
 intro a0 ha0
 have hx0 := Ext.rfl' w0
 refine wp_seq ?_
 refine wp_region_lit ?_
 refine wl_val ha0 rfl rfl rfl (op_assign ha0 rfl rfl) ?_
 intro a1 ha1; clear ha0 a0
 refine wpList_nil ?_
 refine then_n ?_
 refine wp_seq ?_
 refine wp_region_lit ?_
 refine wl_val ha1 rfl rfl rfl (op_move ha1 rfl rfl) ?_
 intro a2 ha2; clear ha1 a1
 refine wl_callR ha2 rfl rfl rfl (op_call ha2 rfl cb56 rfl) (c_impl_salvage _ s (by first | assumption | omega | (simp; omega) | (simp [mkN_length]; omega))) ?_
 rintro v3 w4 he5 ⟨v6, rfl, ho7⟩ a8 ha8; clear ha2 a2
 have hx9 := hx0.trans' he5
 have hzhx9 := he5.size
 refine wl_val ha8 rfl rfl rfl (op_move ha8 rfl rfl) ?_
 intro a10 ha10; clear ha8 a8
 refine wl_val ha10 rfl rfl rfl (op_extract ha10 rfl rfl rfl) ?_
 intro a11 ha11; clear ha10 a10
 refine wl_val ha11 rfl rfl rfl (op_extract ha11 rfl rfl rfl) ?_
 intro a12 ha12; clear ha11 a11
 refine wl_val ha12 rfl rfl rfl (op_extract ha12 rfl rfl rfl) ?_
 intro a13 ha13; clear ha12 a12
 refine wl_val ha13 rfl rfl rfl (op_assign ha13 rfl rfl) ?_
 intro a14 ha14; clear ha13 a13
 refine wl_val ha14 rfl rfl rfl (op_assign ha14 rfl rfl) ?_
 intro a15 ha15; clear ha14 a14
 refine wl_val ha15 rfl rfl rfl (op_assign ha15 rfl rfl) ?_
 intro a16 ha16; clear ha15 a15
 refine wpList_nil ?_
 refine then_n ?_
 refine wp_seq ?_
 refine wp_region_lit ?_
 refine wl_val ha16 rfl rfl rfl (op_move ha16 rfl rfl) ?_
 intro a17 ha17; clear ha16 a16
 refine wl_val ha17 rfl rfl rfl (op_eql ha17 rfl rfl rfl) ?_
 intro a18 ha18; clear ha17 a17
 refine wl_val ha18 rfl rfl rfl (op_assign ha18 rfl rfl) ?_
 intro a19 ha19; clear ha18 a18
 refine wpList_nil ?_
 refine then_n ?_
 refine wp_ret ?_
 refine ret1 ha19 rfl rfl ?_
 clear ha19 a19
 exact ret_mk hx9 (congrArg Value.bool (by rfl))

theorem c_spec_IsFile (w0 : World) (s : Str) (g0 : s.length ≤ 1048576) :
  Calls Try.prog 26 #[St s] w0 (Ret w0 (fun v _ => v = .bool (decide ((salS s).2.1 = 0)))) := by
 refine enter (N := 14) Try.func26 rfl rfl rfl ?_
 intro a0 ha0
 have hx0 := Ext.rfl' w0
 refine wp_seq ?_
 refine wp_region_lit ?_
 refine wl_val ha0 rfl rfl rfl (op_assign ha0 rfl rfl) ?_
 intro a1 ha1; clear ha0 a0
 refine wpList_nil ?_
 refine then_n ?_
 refine wp_seq ?_
 refine wp_region_lit ?_
 refine wl_val ha1 rfl rfl rfl (op_move ha1 rfl rfl) ?_
 intro a2 ha2; clear ha1 a1
 refine wl_callR ha2 rfl rfl rfl (op_call ha2 rfl cb55 rfl) (c_spec_l32Salvage _ s (by first | assumption | omega | (simp; omega) | (simp [mkN_length]; omega))) ?_
 rintro v3 w4 he5 ⟨v6, rfl, ho7⟩ a8 ha8; clear ha2 a2
 have hx9 := hx0.trans' he5
 have hzhx9 := he5.size
 refine wl_val ha8 rfl rfl rfl (op_move ha8 rfl rfl) ?_
 intro a10 ha10; clear ha8 a8
 refine wl_val ha10 rfl rfl rfl (op_extract ha10 rfl rfl rfl) ?_
 intro a11 ha11; clear ha10 a10
 refine wl_val ha11 rfl rfl rfl (op_extract ha11 rfl rfl rfl) ?_
 intro a12 ha12; clear ha11 a11
 refine wl_val ha12 rfl rfl rfl (op_extract ha12 rfl rfl rfl) ?_
 intro a13 ha13; clear ha12 a12
 refine wl_val ha13 rfl rfl rfl (op_assign ha13 rfl rfl) ?_
 intro a14 ha14; clear ha13 a13
 refine wl_val ha14 rfl rfl rfl (op_assign ha14 rfl rfl) ?_
 intro a15 ha15; clear ha14 a14
 refine wl_val ha15 rfl rfl rfl (op_assign ha15 rfl rfl) ?_
 intro a16 ha16; clear ha15 a15
 refine wpList_nil ?_
 refine then_n ?_
 refine wp_seq ?_
 refine wp_region_lit ?_
 refine wl_val ha16 rfl rfl rfl (op_move ha16 rfl rfl) ?_
 intro a17 ha17; clear ha16 a16
 refine wl_val ha17 rfl rfl rfl (op_eql ha17 rfl rfl rfl) ?_
 intro a18 ha18; clear ha17 a17
 refine wl_val ha18 rfl rfl rfl (op_assign ha18 rfl rfl) ?_
 intro a19 ha19; clear ha18 a18
 refine wpList_nil ?_
 refine then_n ?_
 refine wp_ret ?_
 refine ret1 ha19 rfl rfl ?_
 clear ha19 a19
 exact ret_mk hx9 (congrArg Value.bool (by rfl))

theorem c_impl_SalvageFile (w0 : World) (s : Str) (g0 : s.length ≤ 1048576) :
  Calls Try.prog 31 #[St s] w0 (Ret w0 (fun v w1 => ∃ r0, v = .tuple #[r0, .int .i64 ((salS s).2.1)] ∧ Own shRec 36 w0.heap.size w0.heap.size w1.heap.size w1 r0 ((salS s).1))) := by
 refine enter (N := 15) Try.func31 rfl rfl rfl ?_
 intro a0 ha0
 have hx0 := Ext.rfl' w0
 refine wp_seq ?_
 refine wp_region_lit ?_
 refine wl_val ha0 rfl rfl rfl (op_assign ha0 rfl rfl) ?_
 intro a1 ha1; clear ha0 a0
 refine wl_val ha1 rfl rfl rfl (op_assign ha1 rfl rfl) ?_
 intro a2 ha2; clear ha1 a1
 refine wpList_nil ?_
 refine then_n ?_
 refine wp_seq ?_
 refine wp_region_lit ?_
 refine wl_val ha2 rfl rfl rfl (op_move ha2 rfl rfl) ?_
 intro a3 ha3; clear ha2 a2
 refine wl_callR ha3 rfl rfl rfl (op_call ha3 rfl cb56 rfl) (c_impl_salvage _ s (by first | assumption | omega | (simp; omega) | (simp [mkN_length]; omega))) ?_
 rintro v4 w5 he6 ⟨v7, rfl, ho8⟩ a9 ha9; clear ha3 a3
 have hx10 := hx0.trans' he6
 have hzhx10 := he6.size
 refine wl_val ha9 rfl rfl rfl (op_move ha9 rfl rfl) ?_
 intro a11 ha11; clear ha9 a9
 refine wl_val ha11 rfl rfl rfl (op_extract ha11 rfl rfl rfl) ?_
 intro a12 ha12; clear ha11 a11
 refine wl_val ha12 rfl rfl rfl (op_extract ha12 rfl rfl rfl) ?_
 intro a13 ha13; clear ha12 a12
 refine wl_val ha13 rfl rfl rfl (op_extract ha13 rfl rfl rfl) ?_
 intro a14 ha14; clear ha13 a13
 refine wl_val ha14 rfl rfl rfl (op_assign ha14 rfl rfl) ?_
 intro a15 ha15; clear ha14 a14
 refine wl_val ha15 rfl rfl rfl (op_assign ha15 rfl rfl) ?_
 intro a16 ha16; clear ha15 a15
 refine wl_val ha16 rfl rfl rfl (op_assign ha16 rfl rfl) ?_
 intro a17 ha17; clear ha16 a16
 refine wpList_nil ?_
 refine then_n ?_
 refine wp_seq ?_
 refine wp_region_lit ?_
 refine wl_val ha17 rfl rfl rfl (op_move ha17 rfl rfl) ?_
 intro a18 ha18; clear ha17 a17
 refine wl_val ha18 rfl rfl rfl (op_move ha18 rfl rfl) ?_
 intro a19 ha19; clear ha18 a18
 refine wl_val ha19 rfl rfl rfl (op_assign ha19 rfl rfl) ?_
 intro a20 ha20; clear ha19 a19
 refine wl_val ha20 rfl rfl rfl (op_assign ha20 rfl rfl) ?_
 intro a21 ha21; clear ha20 a20
 refine wpList_nil ?_
 refine then_n ?_
 refine wp_ret ?_
 refine ret2 ha21 rfl rfl rfl ?_
 clear ha21 a21
 refine ret_mk hx10 ⟨v7, (tup2_eq rfl (int_eq (by rfl))), ?_⟩
 ·refine (ho8.fin (by omega) (by omega) (by omega)).cast ?_
  rfl

theorem c_spec_SalvageFile (w0 : World) (s : Str) (g0 : s.length ≤ 1048576) :
  Calls Try.prog 30 #[St s] w0 (Ret w0 (fun v w1 => ∃ r0, v = .tuple #[r0, .int .i64 ((salS s).2.1)] ∧ Own shRec 36 w0.heap.size w0.heap.size w1.heap.size w1 r0 ((salS s).1))) := by
 refine enter (N := 15) Try.func30 rfl rfl rfl ?_
 intro a0 ha0
 have hx0 := Ext.rfl' w0
 refine wp_seq ?_
 refine wp_region_lit ?_
 refine wl_val ha0 rfl rfl rfl (op_assign ha0 rfl rfl) ?_
 intro a1 ha1; clear ha0 a0
 refine wl_val ha1 rfl rfl rfl (op_assign ha1 rfl rfl) ?_
 intro a2 ha2; clear ha1 a1
 refine wpList_nil ?_
 refine then_n ?_
 refine wp_seq ?_
 refine wp_region_lit ?_
 refine wl_val ha2 rfl rfl rfl (op_move ha2 rfl rfl) ?_
 intro a3 ha3; clear ha2 a2
 refine wl_callR ha3 rfl rfl rfl (op_call ha3 rfl cb55 rfl) (c_spec_l32Salvage _ s (by first | assumption | omega | (simp; omega) | (simp [mkN_length]; omega))) ?_
 rintro v4 w5 he6 ⟨v7, rfl, ho8⟩ a9 ha9; clear ha3 a3
 have hx10 := hx0.trans' he6
 have hzhx10 := he6.size
 refine wl_val ha9 rfl rfl rfl (op_move ha9 rfl rfl) ?_
 intro a11 ha11; clear ha9 a9
 refine wl_val ha11 rfl rfl rfl (op_extract ha11 rfl rfl rfl) ?_
 intro a12 ha12; clear ha11 a11
 refine wl_val ha12 rfl rfl rfl (op_extract ha12 rfl rfl rfl) ?_
 intro a13 ha13; clear ha12 a12
 refine wl_val ha13 rfl rfl rfl (op_extract ha13 rfl rfl rfl) ?_
 intro a14 ha14; clear ha13 a13
 refine wl_val ha14 rfl rfl rfl (op_assign ha14 rfl rfl) ?_
 intro a15 ha15; clear ha14 a14
 refine wl_val ha15 rfl rfl rfl (op_assign ha15 rfl rfl) ?_
 intro a16 ha16; clear ha15 a15
 refine wl_val ha16 rfl rfl rfl (op_assign ha16 rfl rfl) ?_
 intro a17 ha17; clear ha16 a16
 refine wpList_nil ?_
 refine then_n ?_
 refine wp_seq ?_
 refine wp_region_lit ?_
 refine wl_val ha17 rfl rfl rfl (op_move ha17 rfl rfl) ?_
 intro a18 ha18; clear ha17 a17
 refine wl_val ha18 rfl rfl rfl (op_move ha18 rfl rfl) ?_
 intro a19 ha19; clear ha18 a18
 refine wl_val ha19 rfl rfl rfl (op_assign ha19 rfl rfl) ?_
 intro a20 ha20; clear ha19 a19
 refine wl_val ha20 rfl rfl rfl (op_assign ha20 rfl rfl) ?_
 intro a21 ha21; clear ha20 a20
 refine wpList_nil ?_
 refine then_n ?_
 refine wp_ret ?_
 refine ret2 ha21 rfl rfl rfl ?_
 clear ha21 a21
 refine ret_mk hx10 ⟨v7, (tup2_eq rfl (int_eq (by rfl))), ?_⟩
 ·refine (ho8.fin (by omega) (by omega) (by omega)).cast ?_
  rfl

theorem c_impl_FirstLost (w0 : World) (s : Str) (g0 : s.length ≤ 1048576) :
  Calls Try.prog 29 #[St s] w0 (Ret w0 (fun v _ => v = .tuple #[.int .i64 (if (salS s).2.2 < 0 then 0 else (salS s).2.2), .int .i64 (if (salS s).2.2 < 0 then 4 else 0)])) := by
 refine enter (N := 16) Try.func29 rfl rfl rfl ?_
 intro a0 ha0
 have hx0 := Ext.rfl' w0
 refine wp_seq ?_
 refine wp_region_lit ?_
 refine wl_val ha0 rfl rfl rfl (op_assign ha0 rfl rfl) ?_
 intro a1 ha1; clear ha0 a0
 refine wl_val ha1 rfl rfl rfl (op_assign ha1 rfl rfl) ?_
 intro a2 ha2; clear ha1 a1
 refine wpList_nil ?_
 refine then_n ?_
 refine wp_seq ?_
 refine wp_region_lit ?_
 refine wl_val ha2 rfl rfl rfl (op_move ha2 rfl rfl) ?_
 intro a3 ha3; clear ha2 a2
 refine wl_callR ha3 rfl rfl rfl (op_call ha3 rfl cb56 rfl) (c_impl_salvage _ s (by first | assumption | omega | (simp; omega) | (simp [mkN_length]; omega))) ?_
 rintro v4 w5 he6 ⟨v7, rfl, ho8⟩ a9 ha9; clear ha3 a3
 have hx10 := hx0.trans' he6
 have hzhx10 := he6.size
 refine wl_val ha9 rfl rfl rfl (op_move ha9 rfl rfl) ?_
 intro a11 ha11; clear ha9 a9
 refine wl_val ha11 rfl rfl rfl (op_extract ha11 rfl rfl rfl) ?_
 intro a12 ha12; clear ha11 a11
 refine wl_val ha12 rfl rfl rfl (op_extract ha12 rfl rfl rfl) ?_
 intro a13 ha13; clear ha12 a12
 refine wl_val ha13 rfl rfl rfl (op_extract ha13 rfl rfl rfl) ?_
 intro a14 ha14; clear ha13 a13
 refine wl_val ha14 rfl rfl rfl (op_assign ha14 rfl rfl) ?_
 intro a15 ha15; clear ha14 a14
 refine wl_val ha15 rfl rfl rfl (op_assign ha15 rfl rfl) ?_
 intro a16 ha16; clear ha15 a15
 refine wl_val ha16 rfl rfl rfl (op_assign ha16 rfl rfl) ?_
 intro a17 ha17; clear ha16 a16
 refine wpList_nil ?_
 refine then_n ?_
 refine wp_seq ?_
 refine wp_seq ?_
 refine wp_region_lit ?_
 refine wl_val ha17 rfl rfl rfl (op_move ha17 rfl rfl) ?_
 intro a18 ha18; clear ha17 a17
 refine wl_val ha18 rfl rfl rfl (op_lss ha18 rfl rfl rfl) ?_
 intro a19 ha19; clear ha18 a18
 refine wpList_nil ?_
 refine then_n ?_
 by_cases c20 : ((salS s).2.2 : Int) < (0 : Int)
 ·
  rw [decide_eq_true c20] at ha19
  refine cond_t ha19 rfl ?_
  refine wp_seq ?_
  refine wp_region_lit ?_
  refine wl_val ha19 rfl rfl rfl (op_assign ha19 rfl rfl) ?_
  intro a21 ha21; clear ha19 a19
  refine wl_val ha21 rfl rfl rfl (op_assign ha21 rfl rfl) ?_
  intro a22 ha22; clear ha21 a21
  refine wpList_nil ?_
  refine then_n ?_
  refine wp_ret ?_
  refine then_r ?_
  refine ret2 ha22 rfl rfl rfl ?_
  clear ha22 a22
  exact ret_mk hx10 (tup2_eq (int_eq (by simp [c20])) (int_eq (by simp [c20])))
 ·
  rw [decide_eq_false c20] at ha19
  refine cond_f ha19 rfl ?_
  refine wp_skip ?_
  refine then_n ?_
  refine wp_seq ?_
  refine wp_region_lit ?_
  refine wl_val ha19 rfl rfl rfl (op_move ha19 rfl rfl) ?_
  intro a23 ha23; clear ha19 a19
  refine wl_val ha23 rfl rfl rfl (op_assign ha23 rfl rfl) ?_
  intro a24 ha24; clear ha23 a23
  refine wl_val ha24 rfl rfl rfl (op_assign ha24 rfl rfl) ?_
  intro a25 ha25; clear ha24 a24
  refine wpList_nil ?_
  refine then_n ?_
  refine wp_ret ?_
  refine ret2 ha25 rfl rfl rfl ?_
  clear ha25 a25
  exact ret_mk hx10 (tup2_eq (int_eq (by simp [c20])) (int_eq (by simp [c20])))

theorem c_spec_FirstLost (w0 : World) (s : Str) (g0 : s.length ≤ 1048576) :
  Calls Try.prog 28 #[St s] w0 (Ret w0 (fun v _ => v = .tuple #[.int .i64 (if (salS s).2.2 < 0 then 0 else (salS s).2.2), .int .i64 (if (salS s).2.2 < 0 then 4 else 0)])) := by
 refine enter (N := 16) Try.func28 rfl rfl rfl ?_
 intro a0 ha0
 have hx0 := Ext.rfl' w0
 refine wp_seq ?_
 refine wp_region_lit ?_
 refine wl_val ha0 rfl rfl rfl (op_assign ha0 rfl rfl) ?_
 intro a1 ha1; clear ha0 a0
 refine wl_val ha1 rfl rfl rfl (op_assign ha1 rfl rfl) ?_
 intro a2 ha2; clear ha1 a1
 refine wpList_nil ?_
 refine then_n ?_
 refine wp_seq ?_
 refine wp_region_lit ?_
 refine wl_val ha2 rfl rfl rfl (op_move ha2 rfl rfl) ?_
 intro a3 ha3; clear ha2 a2
 refine wl_callR ha3 rfl rfl rfl (op_call ha3 rfl cb55 rfl) (c_spec_l32Salvage _ s (by first | assumption | omega | (simp; omega) | (simp [mkN_length]; omega))) ?_
 rintro v4 w5 he6 ⟨v7, rfl, ho8⟩ a9 ha9; clear ha3 a3
 have hx10 := hx0.trans' he6
 have hzhx10 := he6.size
 refine wl_val ha9 rfl rfl rfl (op_move ha9 rfl rfl) ?_
 intro a11 ha11; clear ha9 a9
 refine wl_val ha11 rfl rfl rfl (op_extract ha11 rfl rfl rfl) ?_
 intro a12 ha12; clear ha11 a11
 refine wl_val ha12 rfl rfl rfl (op_extract ha12 rfl rfl rfl) ?_
 intro a13 ha13; clear ha12 a12
 refine wl_val ha13 rfl rfl rfl (op_extract ha13 rfl rfl rfl) ?_
 intro a14 ha14; clear ha13 a13
 refine wl_val ha14 rfl rfl rfl (op_assign ha14 rfl rfl) ?_
 intro a15 ha15; clear ha14 a14
 refine wl_val ha15 rfl rfl rfl (op_assign ha15 rfl rfl) ?_
 intro a16 ha16; clear ha15 a15
 refine wl_val ha16 rfl rfl rfl (op_assign ha16 rfl rfl) ?_
 intro a17 ha17; clear ha16 a16
 refine wpList_nil ?_
 refine then_n ?_
 refine wp_seq ?_
 refine wp_seq ?_
 refine wp_region_lit ?_
 refine wl_val ha17 rfl rfl rfl (op_move ha17 rfl rfl) ?_
 intro a18 ha18; clear ha17 a17
 refine wl_val ha18 rfl rfl rfl (op_lss ha18 rfl rfl rfl) ?_
 intro a19 ha19; clear ha18 a18
 refine wpList_nil ?_
 refine then_n ?_
 by_cases c20 : ((salS s).2.2 : Int) < (0 : Int)
 ·
  rw [decide_eq_true c20] at ha19
  refine cond_t ha19 rfl ?_
  refine wp_seq ?_
  refine wp_region_lit ?_
  refine wl_val ha19 rfl rfl rfl (op_assign ha19 rfl rfl) ?_
  intro a21 ha21; clear ha19 a19
  refine wl_val ha21 rfl rfl rfl (op_assign ha21 rfl rfl) ?_
  intro a22 ha22; clear ha21 a21
  refine wpList_nil ?_
  refine then_n ?_
  refine wp_ret ?_
  refine then_r ?_
  refine ret2 ha22 rfl rfl rfl ?_
  clear ha22 a22
  exact ret_mk hx10 (tup2_eq (int_eq (by simp [c20])) (int_eq (by simp [c20])))
 ·
  rw [decide_eq_false c20] at ha19
  refine cond_f ha19 rfl ?_
  refine wp_skip ?_
  refine then_n ?_
  refine wp_seq ?_
  refine wp_region_lit ?_
  refine wl_val ha19 rfl rfl rfl (op_move ha19 rfl rfl) ?_
  intro a23 ha23; clear ha19 a19
  refine wl_val ha23 rfl rfl rfl (op_assign ha23 rfl rfl) ?_
  intro a24 ha24; clear ha23 a23
  refine wl_val ha24 rfl rfl rfl (op_assign ha24 rfl rfl) ?_
  intro a25 ha25; clear ha24 a24
  refine wpList_nil ?_
  refine then_n ?_
  refine wp_ret ?_
  refine ret2 ha25 rfl rfl rfl ?_
  clear ha25 a25
  exact ret_mk hx10 (tup2_eq (int_eq (by simp [c20])) (int_eq (by simp [c20])))


end Go.Proofs.Ytkdnclpgijkceaa
