/- The law MissingNumbers, walked. -/
import Derived.Test.YtkdnclpgijkceaaM1
import Derived.Test.YtkdnclpgijkceaaL3
namespace Go.Proofs.Ytkdnclpgijkceaa
open Go Go.RowKit

theorem c_laws_FnExactMissingNumbers (w0 : World) (aS : Str)  :
    Calls Try.prog 9 #[St aS] w0 (Ret w0 (fun v _ => v = .bool (true))) := by
  refine enter (N := 44) Try.func9 rfl rfl rfl ?_
  intro a0 ha0
  have hx0 := Ext.rfl' w0
  have hsl := missU_len (salS aS).1 (lastN (salS aS).1)
  refine wp_seq ?_
  refine wp_region_lit ?_
  refine wl_val ha0 rfl rfl rfl (op_assign ha0 rfl rfl) ?_
  intro a1 ha1; clear ha0 a0
  refine wpList_nil ?_
  refine then_n ?_
  refine wp_seq ?_
  refine wp_seq ?_
  refine wp_region_lit ?_
  refine wl_val ha1 rfl rfl rfl (op_move ha1 rfl rfl) ?_
  intro a2 ha2; clear ha1 a1
  refine wl_val ha2 rfl rfl rfl (op_len_str ha2 rfl Try.underlying9 rfl) ?_
  intro a3 ha3; clear ha2 a2
  refine wl_val ha3 rfl rfl rfl (op_gtr ha3 rfl rfl rfl) ?_
  intro a4 ha4; clear ha3 a3
  refine wpList_nil ?_
  refine then_n ?_
  by_cases c5 : (1048576 : Int) < ((aS.length : Nat) : Int)
  ·
    rw [decide_eq_true c5] at ha4
    refine cond_t ha4 rfl ?_
    refine wp_seq ?_
    refine wp_region_lit ?_
    refine wl_val ha4 rfl rfl rfl (op_assign ha4 rfl rfl) ?_
    intro a6 ha6; clear ha4 a4
    refine wpList_nil ?_
    refine then_n ?_
    refine wp_ret ?_
    refine then_r ?_
    refine ret1 ha6 rfl rfl ?_
    clear ha6 a6
    exact ret_mk hx0 (congrArg Value.bool (by first | rfl | omega | (simp [eqL, held_mkN okR_mk, held_mkN okI_mk, mkN_length] at c5; done) | (simp [eqL, held_mkN okR_mk, held_mkN okI_mk, mkN_length] at c5; omega)))
  ·
    rw [decide_eq_false c5] at ha4
    refine cond_f ha4 rfl ?_
    refine wp_skip ?_
    refine then_n ?_
    refine wp_seq ?_
    refine wp_region_lit ?_
    refine wl_val ha4 rfl rfl rfl (op_move ha4 rfl rfl) ?_
    intro a7 ha7; clear ha4 a4
    refine wl_callR ha7 rfl rfl rfl (op_call ha7 rfl cb32 rfl) (c_spec_MissingNumbers _ aS (by first | assumption | omega | (simp; omega) | (simp [mkN_length]; omega))) ?_
    rintro v8 w9 he10 ho11 a12 ha12; clear ha7 a7
    have hx13 := hx0.trans' he10
    have hzhx13 := he10.size
    refine wl_val ha12 rfl rfl rfl (op_assign ha12 rfl rfl) ?_
    intro a14 ha14; clear ha12 a12
    refine wpList_nil ?_
    refine then_n ?_
    refine wp_seq ?_
    refine wp_region_lit ?_
    refine wl_val ha14 rfl rfl rfl (op_move ha14 rfl rfl) ?_
    intro a15 ha15; clear ha14 a14
    refine wl_callR ha15 rfl rfl rfl (op_call ha15 rfl cb33 rfl) (c_impl_MissingNumbers _ aS (by first | assumption | omega | (simp; omega) | (simp [mkN_length]; omega))) ?_
    rintro v16 w17 he18 ho19 a20 ha20; clear ha15 a15
    have hx21 := hx13.trans' he18
    have hzhx21 := he18.size
    replace ho11 := ho11.ext he18
    refine wl_val ha20 rfl rfl rfl (op_assign ha20 rfl rfl) ?_
    intro a22 ha22; clear ha20 a20
    refine wpList_nil ?_
    refine then_n ?_
    refine wp_seq ?_
    refine wp_seq ?_
    refine wp_region_lit ?_
    refine wl_val ha22 rfl rfl rfl (op_move ha22 rfl rfl) ?_
    intro a23 ha23; clear ha22 a22
    refine wl_val ha23 rfl rfl rfl (op_move ha23 rfl rfl) ?_
    intro a24 ha24; clear ha23 a23
    refine wl_callR ha24 rfl rfl rfl (op_call ha24 rfl cb34 rfl) (c_laws_eqInt64S _ v16 ((missU (salS aS).1 (lastN (salS aS).1))) v8 ((missU (salS aS).1 (lastN (salS aS).1))) (ho19.rds pos_shI64) (ho11.rds pos_shI64)) ?_
    rintro v25 w26 he27 rfl a28 ha28; clear ha24 a24
    have hx29 := hx21.trans' he27
    have hzhx29 := he27.size
    replace ho11 := ho11.ext he27
    replace ho19 := ho19.ext he27
    refine wl_val ha28 rfl rfl rfl (op_not ha28 rfl rfl) ?_
    intro a30 ha30; clear ha28 a28
    refine wpList_nil ?_
    refine then_n ?_
    rcases Bool.eq_false_or_eq_true (eqL ((missU (salS aS).1 (lastN (salS aS).1))) ((missU (salS aS).1 (lastN (salS aS).1)))) with c31 | c31
    ·
      rw [c31] at ha30
      refine cond_f ha30 rfl ?_
      refine wp_skip ?_
      refine then_n ?_
      refine wp_seq ?_
      refine wp_region_lit ?_
      refine wl_val ha30 rfl rfl rfl (op_assign ha30 rfl rfl) ?_
      intro a32 ha32; clear ha30 a30
      refine wpList_nil ?_
      refine then_n ?_
      refine wp_seq ?_
      refine wp_region_lit ?_
      refine wl_val ha32 rfl rfl rfl (op_move ha32 rfl rfl) ?_
      intro a33 ha33; clear ha32 a32
      refine wl_val ha33 rfl rfl rfl (op_move ha33 rfl rfl) ?_
      intro a34 ha34; clear ha33 a33
      refine wl_callS ha34 rfl rfl rfl (op_call ha34 rfl cb35 rfl) (c_laws_markInt64S _ v16 ((missU (salS aS).1 (lastN (salS aS).1))) (1 : Int) ho19 (by first | assumption | omega | (simp; omega) | (simp [mkN_length]; omega)) (by first | assumption | omega | (simp; omega) | (simp [mkN_length]; omega)) (by first | assumption | omega | (simp; omega) | (simp [mkN_length]; omega))) ?_
      rintro v35 w36 he37 ⟨rfl, ho38⟩ a39 ha39; clear ha34 a34
      have hx40 := hx29.stp he37 (by intro q hq; have hq0 := ho19.lt q hq; omega)
      have hzhx40 := he37.size
      replace ho11 : Own shI64 2 w0.heap.size w0.heap.size w9.heap.size w36 v8 ((missU (salS aS).1 (lastN (salS aS).1))) := by first | exact ho11.stp he37 (by intro q hq; have hq0 := ho19.lt q hq; omega)
      clear ho19
      refine wl_val ha39 rfl rfl rfl (op_assign ha39 rfl rfl) ?_
      intro a41 ha41; clear ha39 a39
      refine wpList_nil ?_
      refine then_n ?_
      refine wp_seq ?_
      refine wp_region_lit ?_
      refine wl_val ha41 rfl rfl rfl (op_assign ha41 rfl rfl) ?_
      intro a42 ha42; clear ha41 a41
      refine wpList_nil ?_
      refine then_n ?_
      refine wp_seq ?_
      refine wp_region_lit ?_
      refine wl_val ha42 rfl rfl rfl (op_move ha42 rfl rfl) ?_
      intro a43 ha43; clear ha42 a42
      refine wl_val ha43 rfl rfl rfl (op_move ha43 rfl rfl) ?_
      intro a44 ha44; clear ha43 a43
      refine wl_callR ha44 rfl rfl rfl (op_call ha44 rfl cb36 rfl) (c_laws_heldInt64S _ v16 ((mkN mkI 1 ((missU (salS aS).1 (lastN (salS aS).1))).length ((1 : Int)))) (1 : Int) (ho38.rds pos_shI64) (by first | assumption | omega | (simp; omega) | (simp [mkN_length]; omega)) (by first | assumption | omega | (simp; omega) | (simp [mkN_length]; omega)) (by first | assumption | omega | (simp; omega) | (simp [mkN_length]; omega))) ?_
      rintro v45 w46 he47 rfl a48 ha48; clear ha44 a44
      have hx49 := hx40.trans' he47
      have hzhx49 := he47.size
      replace ho11 := ho11.ext he47
      replace ho38 := ho38.ext he47
      refine wl_val ha48 rfl rfl rfl (op_assign ha48 rfl rfl) ?_
      intro a50 ha50; clear ha48 a48
      refine wpList_nil ?_
      refine then_n ?_
      refine wp_seq ?_
      refine wp_seq ?_
      refine wp_region_lit ?_
      refine wl_val ha50 rfl rfl rfl (op_move ha50 rfl rfl) ?_
      intro a51 ha51; clear ha50 a50
      refine wl_val ha51 rfl rfl rfl (op_lss ha51 rfl rfl rfl) ?_
      intro a52 ha52; clear ha51 a51
      refine wpList_nil ?_
      refine then_n ?_
      by_cases c53 : (heldG okI 1 ((mkN mkI 1 ((missU (salS aS).1 (lastN (salS aS).1))).length ((1 : Int)))) (1 : Int) : Int) < (0 : Int)
      ·
        rw [decide_eq_true c53] at ha52
        refine cond_t ha52 rfl ?_
        refine wp_seq ?_
        refine wp_region_lit ?_
        refine wl_val ha52 rfl rfl rfl (op_assign ha52 rfl rfl) ?_
        intro a54 ha54; clear ha52 a52
        refine wpList_nil ?_
        refine then_n ?_
        refine wp_ret ?_
        refine then_r ?_
        refine ret1 ha54 rfl rfl ?_
        clear ha54 a54
        exact ret_mk hx49 (congrArg Value.bool (by first | rfl | omega | (simp [eqL, held_mkN okR_mk, held_mkN okI_mk, mkN_length] at c53; done) | (simp [eqL, held_mkN okR_mk, held_mkN okI_mk, mkN_length] at c31; done) | (simp [eqL, held_mkN okR_mk, held_mkN okI_mk, mkN_length] at c5; done) | (simp [eqL, held_mkN okR_mk, held_mkN okI_mk, mkN_length] at c53; omega) | (simp [eqL, held_mkN okR_mk, held_mkN okI_mk, mkN_length] at c31; omega) | (simp [eqL, held_mkN okR_mk, held_mkN okI_mk, mkN_length] at c5; omega)))
      ·
        rw [decide_eq_false c53] at ha52
        refine cond_f ha52 rfl ?_
        refine wp_skip ?_
        refine then_n ?_
        refine wp_seq ?_
        refine wp_seq ?_
        refine wp_region_lit ?_
        refine wl_val ha52 rfl rfl rfl (op_move ha52 rfl rfl) ?_
        intro a55 ha55; clear ha52 a52
        refine wl_val ha55 rfl rfl rfl (op_move ha55 rfl rfl) ?_
        intro a56 ha56; clear ha55 a55
        refine wl_val ha56 rfl rfl rfl ((op_neq ha56 rfl rfl rfl).to (congrArg Value.bool decide_not)) ?_
        intro a57 ha57; clear ha56 a56
        refine wpList_nil ?_
        refine then_n ?_
        by_cases c58 : (heldG okI 1 ((mkN mkI 1 ((missU (salS aS).1 (lastN (salS aS).1))).length ((1 : Int)))) (1 : Int) : Int) = (((1 : Int)) + 1 * (((missU (salS aS).1 (lastN (salS aS).1))).length : Nat) : Int)
        ·
          rw [decide_eq_true c58] at ha57
          refine cond_f ha57 rfl ?_
          refine wp_skip ?_
          refine then_n ?_
          refine wp_seq ?_
          refine wp_region_lit ?_
          refine wl_val ha57 rfl rfl rfl (op_move ha57 rfl rfl) ?_
          intro a59 ha59; clear ha57 a57
          refine wl_callR ha59 rfl rfl rfl (op_call ha59 rfl cb33 rfl) (c_impl_MissingNumbers _ aS (by first | assumption | omega | (simp; omega) | (simp [mkN_length]; omega))) ?_
          rintro v60 w61 he62 ho63 a64 ha64; clear ha59 a59
          have hx65 := hx49.trans' he62
          have hzhx65 := he62.size
          replace ho11 := ho11.ext he62
          replace ho38 := ho38.ext he62
          refine wl_val ha64 rfl rfl rfl (op_assign ha64 rfl rfl) ?_
          intro a66 ha66; clear ha64 a64
          refine wpList_nil ?_
          refine then_n ?_
          refine wp_seq ?_
          refine wp_seq ?_
          refine wp_region_lit ?_
          refine wl_val ha66 rfl rfl rfl (op_move ha66 rfl rfl) ?_
          intro a67 ha67; clear ha66 a66
          refine wl_val ha67 rfl rfl rfl (op_move ha67 rfl rfl) ?_
          intro a68 ha68; clear ha67 a67
          refine wl_callR ha68 rfl rfl rfl (op_call ha68 rfl cb34 rfl) (c_laws_eqInt64S _ v60 ((missU (salS aS).1 (lastN (salS aS).1))) v8 ((missU (salS aS).1 (lastN (salS aS).1))) (ho63.rds pos_shI64) (ho11.rds pos_shI64)) ?_
          rintro v69 w70 he71 rfl a72 ha72; clear ha68 a68
          have hx73 := hx65.trans' he71
          have hzhx73 := he71.size
          replace ho11 := ho11.ext he71
          replace ho38 := ho38.ext he71
          replace ho63 := ho63.ext he71
          refine wl_val ha72 rfl rfl rfl (op_not ha72 rfl rfl) ?_
          intro a74 ha74; clear ha72 a72
          refine wpList_nil ?_
          refine then_n ?_
          rw [c31] at ha74
          refine cond_f ha74 rfl ?_
          refine wp_skip ?_
          refine then_n ?_
          refine wp_seq ?_
          refine wp_region_lit ?_
          refine wl_val ha74 rfl rfl rfl (op_assign ha74 rfl rfl) ?_
          intro a75 ha75; clear ha74 a74
          refine wpList_nil ?_
          refine then_n ?_
          refine wp_seq ?_
          refine wp_region_lit ?_
          refine wl_val ha75 rfl rfl rfl (op_move ha75 rfl rfl) ?_
          intro a76 ha76; clear ha75 a75
          refine wl_val ha76 rfl rfl rfl (op_move ha76 rfl rfl) ?_
          intro a77 ha77; clear ha76 a76
          refine wl_callR ha77 rfl rfl rfl (op_call ha77 rfl cb36 rfl) (c_laws_heldInt64S _ v16 ((mkN mkI 1 ((missU (salS aS).1 (lastN (salS aS).1))).length ((1 : Int)))) (1 : Int) (ho38.rds pos_shI64) (by first | assumption | omega | (simp; omega) | (simp [mkN_length]; omega)) (by first | assumption | omega | (simp; omega) | (simp [mkN_length]; omega)) (by first | assumption | omega | (simp; omega) | (simp [mkN_length]; omega))) ?_
          rintro v78 w79 he80 rfl a81 ha81; clear ha77 a77
          have hx82 := hx73.trans' he80
          have hzhx82 := he80.size
          replace ho11 := ho11.ext he80
          replace ho38 := ho38.ext he80
          replace ho63 := ho63.ext he80
          refine wl_val ha81 rfl rfl rfl (op_assign ha81 rfl rfl) ?_
          intro a83 ha83; clear ha81 a81
          refine wpList_nil ?_
          refine then_n ?_
          refine wp_seq ?_
          refine wp_seq ?_
          refine wp_region_lit ?_
          refine wl_val ha83 rfl rfl rfl (op_move ha83 rfl rfl) ?_
          intro a84 ha84; clear ha83 a83
          refine wl_val ha84 rfl rfl rfl (op_lss ha84 rfl rfl rfl) ?_
          intro a85 ha85; clear ha84 a84
          refine wpList_nil ?_
          refine then_n ?_
          rw [decide_eq_false c53] at ha85
          refine cond_f ha85 rfl ?_
          refine wp_skip ?_
          refine then_n ?_
          refine wp_seq ?_
          refine wp_seq ?_
          refine wp_region_lit ?_
          refine wl_val ha85 rfl rfl rfl (op_move ha85 rfl rfl) ?_
          intro a86 ha86; clear ha85 a85
          refine wl_val ha86 rfl rfl rfl (op_move ha86 rfl rfl) ?_
          intro a87 ha87; clear ha86 a86
          refine wl_val ha87 rfl rfl rfl ((op_neq ha87 rfl rfl rfl).to (congrArg Value.bool decide_not)) ?_
          intro a88 ha88; clear ha87 a87
          refine wpList_nil ?_
          refine then_n ?_
          rw [decide_eq_true c58] at ha88
          refine cond_f ha88 rfl ?_
          refine wp_skip ?_
          refine then_n ?_
          refine wp_seq ?_
          refine wp_region_lit ?_
          refine wl_val ha88 rfl rfl rfl (op_assign ha88 rfl rfl) ?_
          intro a89 ha89; clear ha88 a88
          refine wpList_nil ?_
          refine then_n ?_
          refine wp_ret ?_
          refine ret1 ha89 rfl rfl ?_
          clear ha89 a89
          exact ret_mk hx82 (congrArg Value.bool (by first | rfl | omega | (simp [eqL, held_mkN okR_mk, held_mkN okI_mk, mkN_length] at c58; done) | (simp [eqL, held_mkN okR_mk, held_mkN okI_mk, mkN_length] at c53; done) | (simp [eqL, held_mkN okR_mk, held_mkN okI_mk, mkN_length] at c31; done) | (simp [eqL, held_mkN okR_mk, held_mkN okI_mk, mkN_length] at c5; done) | (simp [eqL, held_mkN okR_mk, held_mkN okI_mk, mkN_length] at c58; omega) | (simp [eqL, held_mkN okR_mk, held_mkN okI_mk, mkN_length] at c53; omega) | (simp [eqL, held_mkN okR_mk, held_mkN okI_mk, mkN_length] at c31; omega)))
        ·
          rw [decide_eq_false c58] at ha57
          refine cond_t ha57 rfl ?_
          refine wp_seq ?_
          refine wp_region_lit ?_
          refine wl_val ha57 rfl rfl rfl (op_assign ha57 rfl rfl) ?_
          intro a90 ha90; clear ha57 a57
          refine wpList_nil ?_
          refine then_n ?_
          refine wp_ret ?_
          refine then_r ?_
          refine ret1 ha90 rfl rfl ?_
          clear ha90 a90
          exact ret_mk hx49 (congrArg Value.bool (by first | rfl | omega | (simp [eqL, held_mkN okR_mk, held_mkN okI_mk, mkN_length] at c58; done) | (simp [eqL, held_mkN okR_mk, held_mkN okI_mk, mkN_length] at c53; done) | (simp [eqL, held_mkN okR_mk, held_mkN okI_mk, mkN_length] at c31; done) | (simp [eqL, held_mkN okR_mk, held_mkN okI_mk, mkN_length] at c5; done) | (simp [eqL, held_mkN okR_mk, held_mkN okI_mk, mkN_length] at c58; omega) | (simp [eqL, held_mkN okR_mk, held_mkN okI_mk, mkN_length] at c53; omega) | (simp [eqL, held_mkN okR_mk, held_mkN okI_mk, mkN_length] at c31; omega)))
    ·
      rw [c31] at ha30
      refine cond_t ha30 rfl ?_
      refine wp_seq ?_
      refine wp_region_lit ?_
      refine wl_val ha30 rfl rfl rfl (op_assign ha30 rfl rfl) ?_
      intro a91 ha91; clear ha30 a30
      refine wpList_nil ?_
      refine then_n ?_
      refine wp_ret ?_
      refine then_r ?_
      refine ret1 ha91 rfl rfl ?_
      clear ha91 a91
      exact ret_mk hx29 (congrArg Value.bool (by first | rfl | omega | (simp [eqL, held_mkN okR_mk, held_mkN okI_mk, mkN_length] at c31; done) | (simp [eqL, held_mkN okR_mk, held_mkN okI_mk, mkN_length] at c5; done) | (simp [eqL, held_mkN okR_mk, held_mkN okI_mk, mkN_length] at c31; omega) | (simp [eqL, held_mkN okR_mk, held_mkN okI_mk, mkN_length] at c5; omega)))


end Go.Proofs.Ytkdnclpgijkceaa
