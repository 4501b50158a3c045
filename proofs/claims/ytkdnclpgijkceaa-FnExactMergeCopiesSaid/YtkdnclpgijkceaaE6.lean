/- The law MergeCopies, walked. -/
import Derived.Test.YtkdnclpgijkceaaM2
import Derived.Test.YtkdnclpgijkceaaL3
namespace Go.Proofs.Ytkdnclpgijkceaa
open Go Go.RowKit

theorem c_laws_FnExactMergeCopies (w0 : World) (aS : Str) (aT : Str)  :
    Calls Try.prog 10 #[St aS, St aT] w0 (Ret w0 (fun v _ => v = .bool (true))) := by
  refine enter (N := 105) Try.func10 rfl rfl rfl ?_
  intro a0 ha0
  have hx0 := Ext.rfl' w0
  have hsl := mgL_len aS aT
  have hsd := mgD_len aS aT
  refine wp_seq ?_
  refine wp_region_lit ?_
  refine wl_val ha0 rfl rfl rfl (op_assign ha0 rfl rfl) ?_
  intro a1 ha1; clear ha0 a0
  refine wpList_nil ?_
  refine then_n ?_
  refine wp_seq ?_
  refine wp_seq ?_
  refine wp_region_lit ?_
  refine wl_val ha1 rfl rfl rfl (op_move ha1 rfl rfl) ?_
  intro a2 ha2; clear ha1 a1
  refine wl_val ha2 rfl rfl rfl (op_len_str ha2 rfl Try.underlying9 rfl) ?_
  intro a3 ha3; clear ha2 a2
  refine wl_val ha3 rfl rfl rfl (op_gtr ha3 rfl rfl rfl) ?_
  intro a4 ha4; clear ha3 a3
  refine wpList_nil ?_
  refine then_n ?_
  by_cases c5 : (1048576 : Int) < ((aS.length : Nat) : Int)
  ·
    rw [decide_eq_true c5] at ha4
    refine cond_t ha4 rfl ?_
    refine wp_seq ?_
    refine wp_region_lit ?_
    refine wl_val ha4 rfl rfl rfl (op_assign ha4 rfl rfl) ?_
    intro a6 ha6; clear ha4 a4
    refine wpList_nil ?_
    refine then_n ?_
    refine wp_ret ?_
    refine then_r ?_
    refine ret1 ha6 rfl rfl ?_
    clear ha6 a6
    exact ret_mk hx0 (congrArg Value.bool (by first | rfl | omega | (simp [eqL, held_mkN okR_mk, held_mkN okI_mk, mkN_length] at c5; done) | (simp [eqL, held_mkN okR_mk, held_mkN okI_mk, mkN_length] at c5; omega)))
  ·
    rw [decide_eq_false c5] at ha4
    refine cond_f ha4 rfl ?_
    refine wp_skip ?_
    refine then_n ?_
    refine wp_seq ?_
    refine wp_seq ?_
    refine wp_region_lit ?_
    refine wl_val ha4 rfl rfl rfl (op_move ha4 rfl rfl) ?_
    intro a7 ha7; clear ha4 a4
    refine wl_val ha7 rfl rfl rfl (op_len_str ha7 rfl Try.underlying9 rfl) ?_
    intro a8 ha8; clear ha7 a7
    refine wl_val ha8 rfl rfl rfl (op_gtr ha8 rfl rfl rfl) ?_
    intro a9 ha9; clear ha8 a8
    refine wpList_nil ?_
    refine then_n ?_
    by_cases c10 : (1048576 : Int) < ((aT.length : Nat) : Int)
    ·
      rw [decide_eq_true c10] at ha9
      refine cond_t ha9 rfl ?_
      refine wp_seq ?_
      refine wp_region_lit ?_
      refine wl_val ha9 rfl rfl rfl (op_assign ha9 rfl rfl) ?_
      intro a11 ha11; clear ha9 a9
      refine wpList_nil ?_
      refine then_n ?_
      refine wp_ret ?_
      refine then_r ?_
      refine ret1 ha11 rfl rfl ?_
      clear ha11 a11
      exact ret_mk hx0 (congrArg Value.bool (by first | rfl | omega | (simp [eqL, held_mkN okR_mk, held_mkN okI_mk, mkN_length] at c10; done) | (simp [eqL, held_mkN okR_mk, held_mkN okI_mk, mkN_length] at c5; done) | (simp [eqL, held_mkN okR_mk, held_mkN okI_mk, mkN_length] at c10; omega) | (simp [eqL, held_mkN okR_mk, held_mkN okI_mk, mkN_length] at c5; omega)))
    ·
      rw [decide_eq_false c10] at ha9
      refine cond_f ha9 rfl ?_
      refine wp_skip ?_
      refine then_n ?_
      refine wp_seq ?_
      refine wp_region_lit ?_
      refine wl_val ha9 rfl rfl rfl (op_move ha9 rfl rfl) ?_
      intro a12 ha12; clear ha9 a9
      refine wl_val ha12 rfl rfl rfl (op_move ha12 rfl rfl) ?_
      intro a13 ha13; clear ha12 a12
      refine wl_callR ha13 rfl rfl rfl (op_call ha13 rfl cb37 rfl) (c_spec_MergeCopies _ aS aT (by first | assumption | omega | (simp; omega) | (simp [mkN_length, held_mkN okR_mk, held_mkN okI_mk]; omega)) (by first | assumption | omega | (simp; omega) | (simp [mkN_length, held_mkN okR_mk, held_mkN okI_mk]; omega))) ?_
      rintro v14 w15 he16 ⟨v17, v19, rfl, ho18, ho20⟩ a21 ha21; clear ha13 a13
      have hx22 := hx0.trans' he16
      have hzhx22 := he16.size
      refine wl_val ha21 rfl rfl rfl (op_move ha21 rfl rfl) ?_
      intro a23 ha23; clear ha21 a21
      refine wl_val ha23 rfl rfl rfl (op_extract ha23 rfl rfl rfl) ?_
      intro a24 ha24; clear ha23 a23
      refine wl_val ha24 rfl rfl rfl (op_extract ha24 rfl rfl rfl) ?_
      intro a25 ha25; clear ha24 a24
      refine wl_val ha25 rfl rfl rfl (op_extract ha25 rfl rfl rfl) ?_
      intro a26 ha26; clear ha25 a25
      refine wl_val ha26 rfl rfl rfl (op_assign ha26 rfl rfl) ?_
      intro a27 ha27; clear ha26 a26
      refine wl_val ha27 rfl rfl rfl (op_assign ha27 rfl rfl) ?_
      intro a28 ha28; clear ha27 a27
      refine wl_val ha28 rfl rfl rfl (op_assign ha28 rfl rfl) ?_
      intro a29 ha29; clear ha28 a28
      refine wpList_nil ?_
      refine then_n ?_
      refine wp_seq ?_
      refine wp_region_lit ?_
      refine wl_val ha29 rfl rfl rfl (op_move ha29 rfl rfl) ?_
      intro a30 ha30; clear ha29 a29
      refine wl_val ha30 rfl rfl rfl (op_move ha30 rfl rfl) ?_
      intro a31 ha31; clear ha30 a30
      refine wl_callR ha31 rfl rfl rfl (op_call ha31 rfl cb38 rfl) (c_impl_MergeCopies _ aS aT (by first | assumption | omega | (simp; omega) | (simp [mkN_length, held_mkN okR_mk, held_mkN okI_mk]; omega)) (by first | assumption | omega | (simp; omega) | (simp [mkN_length, held_mkN okR_mk, held_mkN okI_mk]; omega))) ?_
      rintro v32 w33 he34 ⟨v35, v37, rfl, ho36, ho38⟩ a39 ha39; clear ha31 a31
      have hx40 := hx22.trans' he34
      have hzhx40 := he34.size
      replace ho18 := ho18.ext he34
      replace ho20 := ho20.ext he34
      refine wl_val ha39 rfl rfl rfl (op_move ha39 rfl rfl) ?_
      intro a41 ha41; clear ha39 a39
      refine wl_val ha41 rfl rfl rfl (op_extract ha41 rfl rfl rfl) ?_
      intro a42 ha42; clear ha41 a41
      refine wl_val ha42 rfl rfl rfl (op_extract ha42 rfl rfl rfl) ?_
      intro a43 ha43; clear ha42 a42
      refine wl_val ha43 rfl rfl rfl (op_extract ha43 rfl rfl rfl) ?_
      intro a44 ha44; clear ha43 a43
      refine wl_val ha44 rfl rfl rfl (op_assign ha44 rfl rfl) ?_
      intro a45 ha45; clear ha44 a44
      refine wl_val ha45 rfl rfl rfl (op_assign ha45 rfl rfl) ?_
      intro a46 ha46; clear ha45 a45
      refine wl_val ha46 rfl rfl rfl (op_assign ha46 rfl rfl) ?_
      intro a47 ha47; clear ha46 a46
      refine wpList_nil ?_
      refine then_n ?_
      refine wp_seq ?_
      refine wp_seq ?_
      refine wp_region_lit ?_
      refine wl_val ha47 rfl rfl rfl (op_move ha47 rfl rfl) ?_
      intro a48 ha48; clear ha47 a47
      refine wl_val ha48 rfl rfl rfl (op_move ha48 rfl rfl) ?_
      intro a49 ha49; clear ha48 a48
      refine wl_callR ha49 rfl rfl rfl (op_call ha49 rfl cb17 rfl) (c_laws_eqRecordS _ v35 ((mgL aS aT)) v17 ((mgL aS aT)) (ho36.rds pos_shRec) (ho18.rds pos_shRec)) ?_
      rintro v50 w51 he52 rfl a53 ha53; clear ha49 a49
      have hx54 := hx40.trans' he52
      have hzhx54 := he52.size
      replace ho18 := ho18.ext he52
      replace ho20 := ho20.ext he52
      replace ho36 := ho36.ext he52
      replace ho38 := ho38.ext he52
      refine wl_val ha53 rfl rfl rfl (op_not ha53 rfl rfl) ?_
      intro a55 ha55; clear ha53 a53
      refine wl_val ha55 rfl rfl rfl (op_move ha55 rfl rfl) ?_
      intro a56 ha56; clear ha55 a55
      rcases Bool.eq_false_or_eq_true (eqL ((mgL aS aT)) ((mgL aS aT))) with c57 | c57
      ·
        rw [c57] at ha56
        refine wl_val ha56 rfl rfl rfl (op_move ha56 rfl rfl) ?_
        intro a58 ha58; clear ha56 a56
        refine wl_val ha58 rfl rfl rfl (op_move ha58 rfl rfl) ?_
        intro a59 ha59; clear ha58 a58
        refine wl_callR ha59 rfl rfl rfl (op_call ha59 rfl cb34 rfl) (c_laws_eqInt64S _ v37 ((mgD aS aT)) v19 ((mgD aS aT)) (ho38.rds pos_shI64) (ho20.rds pos_shI64)) ?_
        rintro v60 w61 he62 rfl a63 ha63; clear ha59 a59
        have hx64 := hx54.trans' he62
        have hzhx64 := he62.size
        replace ho18 := ho18.ext he62
        replace ho20 := ho20.ext he62
        replace ho36 := ho36.ext he62
        replace ho38 := ho38.ext he62
        refine wl_val ha63 rfl rfl rfl (op_not ha63 rfl rfl) ?_
        intro a65 ha65; clear ha63 a63
        refine wl_val ha65 rfl rfl rfl (op_pick_f ha65 rfl rfl rfl) ?_
        intro a66 ha66; clear ha65 a65
        refine wl_val ha66 rfl rfl rfl (op_move ha66 rfl rfl) ?_
        intro a67 ha67; clear ha66 a66
        rcases Bool.eq_false_or_eq_true (eqL ((mgD aS aT)) ((mgD aS aT))) with c68 | c68
        ·
          rw [c68] at ha67
          refine wl_val ha67 rfl rfl rfl (op_move ha67 rfl rfl) ?_
          intro a69 ha69; clear ha67 a67
          refine wl_val ha69 rfl rfl rfl (op_move ha69 rfl rfl) ?_
          intro a70 ha70; clear ha69 a69
          refine wl_val ha70 rfl rfl rfl ((op_neq ha70 rfl rfl rfl).to (congrArg Value.bool decide_not)) ?_
          intro a71 ha71; clear ha70 a70
          refine wl_val ha71 rfl rfl rfl (op_pick_f ha71 rfl rfl rfl) ?_
          intro a72 ha72; clear ha71 a71
          refine wpList_nil ?_
          refine then_n ?_
          by_cases c73 : (mgE aS aT : Int) = (mgE aS aT : Int)
          ·
            rw [decide_eq_true c73] at ha72
            refine cond_f ha72 rfl ?_
            refine wp_skip ?_
            refine then_n ?_
            refine wp_seq ?_
            refine wp_region_lit ?_
            refine wl_val ha72 rfl rfl rfl (op_assign ha72 rfl rfl) ?_
            intro a74 ha74; clear ha72 a72
            refine wpList_nil ?_
            refine then_n ?_
            refine wp_seq ?_
            refine wp_region_lit ?_
            refine wl_val ha74 rfl rfl rfl (op_move ha74 rfl rfl) ?_
            intro a75 ha75; clear ha74 a74
            refine wl_val ha75 rfl rfl rfl (op_move ha75 rfl rfl) ?_
            intro a76 ha76; clear ha75 a75
            refine wl_callS ha76 rfl rfl rfl (op_call ha76 rfl cb24 rfl) (c_laws_markRecordS _ v35 ((mgL aS aT)) (1 : Int) ho36 (by first | assumption | omega | (simp; omega) | (simp [mkN_length, held_mkN okR_mk, held_mkN okI_mk]; omega)) (by first | assumption | omega | (simp; omega) | (simp [mkN_length, held_mkN okR_mk, held_mkN okI_mk]; omega)) (by first | assumption | omega | (simp; omega) | (simp [mkN_length, held_mkN okR_mk, held_mkN okI_mk]; omega))) ?_
            rintro v77 w78 he79 ⟨rfl, ho80⟩ a81 ha81; clear ha76 a76
            have hx82 := hx64.stp he79 (by intro q hq; have hq0 := ho36.lt q hq; omega)
            have hzhx82 := he79.size
            replace ho18 : Own shRec 36 w0.heap.size w0.heap.size w15.heap.size w78 v17 ((mgL aS aT)) := by first | exact ho18.stp he79 (by intro q hq; have hq0 := ho36.lt q hq; omega)
            replace ho20 : Own shI64 2 w0.heap.size w0.heap.size w15.heap.size w78 v19 ((mgD aS aT)) := by first | exact ho20.stp he79 (by intro q hq; have hq0 := ho36.lt q hq; omega) | exact ho20.stpF flat_shI64 he79 (ho20.ne ho36 rfl)
            replace ho38 : Own shI64 2 w15.heap.size w15.heap.size w33.heap.size w78 v37 ((mgD aS aT)) := by first | exact ho38.stp he79 (by intro q hq; have hq0 := ho36.lt q hq; omega) | exact ho38.stpF flat_shI64 he79 (ho38.ne ho36 rfl)
            clear ho36
            refine wl_val ha81 rfl rfl rfl (op_assign ha81 rfl rfl) ?_
            intro a83 ha83; clear ha81 a81
            refine wpList_nil ?_
            refine then_n ?_
            refine wp_seq ?_
            refine wp_region_lit ?_
            refine wl_val ha83 rfl rfl rfl (op_move ha83 rfl rfl) ?_
            intro a84 ha84; clear ha83 a83
            refine wl_val ha84 rfl rfl rfl (op_move ha84 rfl rfl) ?_
            intro a85 ha85; clear ha84 a84
            refine wl_callS ha85 rfl rfl rfl (op_call ha85 rfl cb35 rfl) (c_laws_markInt64S _ v37 ((mgD aS aT)) (((1 : Int)) + 2 * (((mgL aS aT)).length : Nat) : Int) ho38 (by first | assumption | omega | (simp; omega) | (simp [mkN_length, held_mkN okR_mk, held_mkN okI_mk]; omega)) (by first | assumption | omega | (simp; omega) | (simp [mkN_length, held_mkN okR_mk, held_mkN okI_mk]; omega)) (by first | assumption | omega | (simp; omega) | (simp [mkN_length, held_mkN okR_mk, held_mkN okI_mk]; omega))) ?_
            rintro v86 w87 he88 ⟨rfl, ho89⟩ a90 ha90; clear ha85 a85
            have hx91 := hx82.stp he88 (by intro q hq; have hq0 := ho38.lt q hq; omega)
            have hzhx91 := he88.size
            replace ho18 : Own shRec 36 w0.heap.size w0.heap.size w15.heap.size w87 v17 ((mgL aS aT)) := by first | exact ho18.stp he88 (by intro q hq; have hq0 := ho38.lt q hq; omega) | exact ho18.stpF flat_shRec he88 (ho18.ne ho38 rfl)
            replace ho20 : Own shI64 2 w0.heap.size w0.heap.size w15.heap.size w87 v19 ((mgD aS aT)) := by first | exact ho20.stp he88 (by intro q hq; have hq0 := ho38.lt q hq; omega)
            replace ho80 : Own shRec 36 w15.heap.size w15.heap.size w33.heap.size w87 v35 ((mkN mkR 2 ((mgL aS aT)).length ((1 : Int)))) := by first | exact ho80.stp he88 (by intro q hq; have hq0 := ho38.lt q hq; omega) | exact ho80.stpF flat_shRec he88 (ho80.ne ho38 rfl)
            clear ho38
            refine wl_val ha90 rfl rfl rfl (op_assign ha90 rfl rfl) ?_
            intro a92 ha92; clear ha90 a90
            refine wpList_nil ?_
            refine then_n ?_
            refine wp_seq ?_
            refine wp_region_lit ?_
            refine wl_val ha92 rfl rfl rfl (op_assign ha92 rfl rfl) ?_
            intro a93 ha93; clear ha92 a92
            refine wpList_nil ?_
            refine then_n ?_
            refine wp_seq ?_
            refine wp_region_lit ?_
            refine wl_val ha93 rfl rfl rfl (op_move ha93 rfl rfl) ?_
            intro a94 ha94; clear ha93 a93
            refine wl_val ha94 rfl rfl rfl (op_move ha94 rfl rfl) ?_
            intro a95 ha95; clear ha94 a94
            refine wl_callR ha95 rfl rfl rfl (op_call ha95 rfl cb25 rfl) (c_laws_heldRecordS _ v35 ((mkN mkR 2 ((mgL aS aT)).length ((1 : Int)))) (1 : Int) (ho80.rds pos_shRec) (by first | assumption | omega | (simp; omega) | (simp [mkN_length, held_mkN okR_mk, held_mkN okI_mk]; omega)) (by first | assumption | omega | (simp; omega) | (simp [mkN_length, held_mkN okR_mk, held_mkN okI_mk]; omega)) (by first | assumption | omega | (simp; omega) | (simp [mkN_length, held_mkN okR_mk, held_mkN okI_mk]; omega))) ?_
            rintro v96 w97 he98 rfl a99 ha99; clear ha95 a95
            have hx100 := hx91.trans' he98
            have hzhx100 := he98.size
            replace ho18 := ho18.ext he98
            replace ho20 := ho20.ext he98
            replace ho80 := ho80.ext he98
            replace ho89 := ho89.ext he98
            refine wl_val ha99 rfl rfl rfl (op_assign ha99 rfl rfl) ?_
            intro a101 ha101; clear ha99 a99
            refine wpList_nil ?_
            refine then_n ?_
            refine wp_seq ?_
            refine wp_seq ?_
            refine wp_region_lit ?_
            refine wl_val ha101 rfl rfl rfl (op_move ha101 rfl rfl) ?_
            intro a102 ha102; clear ha101 a101
            refine wl_val ha102 rfl rfl rfl (op_lss ha102 rfl rfl rfl) ?_
            intro a103 ha103; clear ha102 a102
            refine wpList_nil ?_
            refine then_n ?_
            by_cases c104 : (heldG okR 2 ((mkN mkR 2 ((mgL aS aT)).length ((1 : Int)))) (1 : Int) : Int) < (0 : Int)
            ·
              rw [decide_eq_true c104] at ha103
              refine cond_t ha103 rfl ?_
              refine wp_seq ?_
              refine wp_region_lit ?_
              refine wl_val ha103 rfl rfl rfl (op_assign ha103 rfl rfl) ?_
              intro a105 ha105; clear ha103 a103
              refine wpList_nil ?_
              refine then_n ?_
              refine wp_ret ?_
              refine then_r ?_
              refine ret1 ha105 rfl rfl ?_
              clear ha105 a105
              exact ret_mk hx100 (congrArg Value.bool (by first | rfl | omega | (simp [eqL, held_mkN okR_mk, held_mkN okI_mk, mkN_length] at c104; done) | (simp [eqL, held_mkN okR_mk, held_mkN okI_mk, mkN_length] at c73; done) | (simp [eqL, held_mkN okR_mk, held_mkN okI_mk, mkN_length] at c68; done) | (simp [eqL, held_mkN okR_mk, held_mkN okI_mk, mkN_length] at c57; done) | (simp [eqL, held_mkN okR_mk, held_mkN okI_mk, mkN_length] at c10; done) | (simp [eqL, held_mkN okR_mk, held_mkN okI_mk, mkN_length] at c5; done) | (simp [eqL, held_mkN okR_mk, held_mkN okI_mk, mkN_length] at c104; omega) | (simp [eqL, held_mkN okR_mk, held_mkN okI_mk, mkN_length] at c73; omega) | (simp [eqL, held_mkN okR_mk, held_mkN okI_mk, mkN_length] at c68; omega)))
            ·
              rw [decide_eq_false c104] at ha103
              refine cond_f ha103 rfl ?_
              refine wp_skip ?_
              refine then_n ?_
              refine wp_seq ?_
              refine wp_region_lit ?_
              refine wl_val ha103 rfl rfl rfl (op_move ha103 rfl rfl) ?_
              intro a106 ha106; clear ha103 a103
              refine wl_val ha106 rfl rfl rfl (op_move ha106 rfl rfl) ?_
              intro a107 ha107; clear ha106 a106
              refine wl_callR ha107 rfl rfl rfl (op_call ha107 rfl cb36 rfl) (c_laws_heldInt64S _ v37 ((mkN mkI 1 ((mgD aS aT)).length ((((1 : Int)) + 2 * (((mgL aS aT)).length : Nat) : Int)))) (heldG okR 2 ((mkN mkR 2 ((mgL aS aT)).length ((1 : Int)))) (1 : Int) : Int) (ho89.rds pos_shI64) (by first | assumption | omega | (simp; omega) | (simp [mkN_length, held_mkN okR_mk, held_mkN okI_mk]; omega)) (by first | assumption | omega | (simp; omega) | (simp [mkN_length, held_mkN okR_mk, held_mkN okI_mk]; omega)) (by first | assumption | omega | (simp; omega) | (simp [mkN_length, held_mkN okR_mk, held_mkN okI_mk]; omega))) ?_
              rintro v108 w109 he110 rfl a111 ha111; clear ha107 a107
              have hx112 := hx100.trans' he110
              have hzhx112 := he110.size
              replace ho18 := ho18.ext he110
              replace ho20 := ho20.ext he110
              replace ho80 := ho80.ext he110
              replace ho89 := ho89.ext he110
              refine wl_val ha111 rfl rfl rfl (op_assign ha111 rfl rfl) ?_
              intro a113 ha113; clear ha111 a111
              refine wpList_nil ?_
              refine then_n ?_
              refine wp_seq ?_
              refine wp_seq ?_
              refine wp_region_lit ?_
              refine wl_val ha113 rfl rfl rfl (op_move ha113 rfl rfl) ?_
              intro a114 ha114; clear ha113 a113
              refine wl_val ha114 rfl rfl rfl (op_lss ha114 rfl rfl rfl) ?_
              intro a115 ha115; clear ha114 a114
              refine wpList_nil ?_
              refine then_n ?_
              by_cases c116 : (heldG okI 1 ((mkN mkI 1 ((mgD aS aT)).length ((((1 : Int)) + 2 * (((mgL aS aT)).length : Nat) : Int)))) (heldG okR 2 ((mkN mkR 2 ((mgL aS aT)).length ((1 : Int)))) (1 : Int) : Int) : Int) < (0 : Int)
              ·
                rw [decide_eq_true c116] at ha115
                refine cond_t ha115 rfl ?_
                refine wp_seq ?_
                refine wp_region_lit ?_
                refine wl_val ha115 rfl rfl rfl (op_assign ha115 rfl rfl) ?_
                intro a117 ha117; clear ha115 a115
                refine wpList_nil ?_
                refine then_n ?_
                refine wp_ret ?_
                refine then_r ?_
                refine ret1 ha117 rfl rfl ?_
                clear ha117 a117
                exact ret_mk hx112 (congrArg Value.bool (by first | rfl | omega | (simp [eqL, held_mkN okR_mk, held_mkN okI_mk, mkN_length] at c116; done) | (simp [eqL, held_mkN okR_mk, held_mkN okI_mk, mkN_length] at c104; done) | (simp [eqL, held_mkN okR_mk, held_mkN okI_mk, mkN_length] at c73; done) | (simp [eqL, held_mkN okR_mk, held_mkN okI_mk, mkN_length] at c68; done) | (simp [eqL, held_mkN okR_mk, held_mkN okI_mk, mkN_length] at c57; done) | (simp [eqL, held_mkN okR_mk, held_mkN okI_mk, mkN_length] at c10; done) | (simp [eqL, held_mkN okR_mk, held_mkN okI_mk, mkN_length] at c5; done) | (simp [eqL, held_mkN okR_mk, held_mkN okI_mk, mkN_length] at c116; omega) | (simp [eqL, held_mkN okR_mk, held_mkN okI_mk, mkN_length] at c104; omega) | (simp [eqL, held_mkN okR_mk, held_mkN okI_mk, mkN_length] at c73; omega)))
              ·
                rw [decide_eq_false c116] at ha115
                refine cond_f ha115 rfl ?_
                refine wp_skip ?_
                refine then_n ?_
                refine wp_seq ?_
                refine wp_seq ?_
                refine wp_region_lit ?_
                refine wl_val ha115 rfl rfl rfl (op_move ha115 rfl rfl) ?_
                intro a118 ha118; clear ha115 a115
                refine wl_val ha118 rfl rfl rfl (op_move ha118 rfl rfl) ?_
                intro a119 ha119; clear ha118 a118
                refine wl_val ha119 rfl rfl rfl ((op_neq ha119 rfl rfl rfl).to (congrArg Value.bool decide_not)) ?_
                intro a120 ha120; clear ha119 a119
                refine wpList_nil ?_
                refine then_n ?_
                by_cases c121 : (heldG okI 1 ((mkN mkI 1 ((mgD aS aT)).length ((((1 : Int)) + 2 * (((mgL aS aT)).length : Nat) : Int)))) (heldG okR 2 ((mkN mkR 2 ((mgL aS aT)).length ((1 : Int)))) (1 : Int) : Int) : Int) = (((((1 : Int)) + 2 * (((mgL aS aT)).length : Nat) : Int)) + 1 * (((mgD aS aT)).length : Nat) : Int)
                ·
                  rw [decide_eq_true c121] at ha120
                  refine cond_f ha120 rfl ?_
                  refine wp_skip ?_
                  refine then_n ?_
                  refine wp_seq ?_
                  refine wp_region_lit ?_
                  refine wl_val ha120 rfl rfl rfl (op_move ha120 rfl rfl) ?_
                  intro a122 ha122; clear ha120 a120
                  refine wl_val ha122 rfl rfl rfl (op_move ha122 rfl rfl) ?_
                  intro a123 ha123; clear ha122 a122
                  refine wl_callR ha123 rfl rfl rfl (op_call ha123 rfl cb38 rfl) (c_impl_MergeCopies _ aS aT (by first | assumption | omega | (simp; omega) | (simp [mkN_length, held_mkN okR_mk, held_mkN okI_mk]; omega)) (by first | assumption | omega | (simp; omega) | (simp [mkN_length, held_mkN okR_mk, held_mkN okI_mk]; omega))) ?_
                  rintro v124 w125 he126 ⟨v127, v129, rfl, ho128, ho130⟩ a131 ha131; clear ha123 a123
                  have hx132 := hx112.trans' he126
                  have hzhx132 := he126.size
                  replace ho18 := ho18.ext he126
                  replace ho20 := ho20.ext he126
                  replace ho80 := ho80.ext he126
                  replace ho89 := ho89.ext he126
                  refine wl_val ha131 rfl rfl rfl (op_move ha131 rfl rfl) ?_
                  intro a133 ha133; clear ha131 a131
                  refine wl_val ha133 rfl rfl rfl (op_extract ha133 rfl rfl rfl) ?_
                  intro a134 ha134; clear ha133 a133
                  refine wl_val ha134 rfl rfl rfl (op_extract ha134 rfl rfl rfl) ?_
                  intro a135 ha135; clear ha134 a134
                  refine wl_val ha135 rfl rfl rfl (op_extract ha135 rfl rfl rfl) ?_
                  intro a136 ha136; clear ha135 a135
                  refine wl_val ha136 rfl rfl rfl (op_assign ha136 rfl rfl) ?_
                  intro a137 ha137; clear ha136 a136
                  refine wl_val ha137 rfl rfl rfl (op_assign ha137 rfl rfl) ?_
                  intro a138 ha138; clear ha137 a137
                  refine wl_val ha138 rfl rfl rfl (op_assign ha138 rfl rfl) ?_
                  intro a139 ha139; clear ha138 a138
                  refine wpList_nil ?_
                  refine then_n ?_
                  refine wp_seq ?_
                  refine wp_seq ?_
                  refine wp_region_lit ?_
                  refine wl_val ha139 rfl rfl rfl (op_move ha139 rfl rfl) ?_
                  intro a140 ha140; clear ha139 a139
                  refine wl_val ha140 rfl rfl rfl (op_move ha140 rfl rfl) ?_
                  intro a141 ha141; clear ha140 a140
                  refine wl_callR ha141 rfl rfl rfl (op_call ha141 rfl cb17 rfl) (c_laws_eqRecordS _ v127 ((mgL aS aT)) v17 ((mgL aS aT)) (ho128.rds pos_shRec) (ho18.rds pos_shRec)) ?_
                  rintro v142 w143 he144 rfl a145 ha145; clear ha141 a141
                  have hx146 := hx132.trans' he144
                  have hzhx146 := he144.size
                  replace ho18 := ho18.ext he144
                  replace ho20 := ho20.ext he144
                  replace ho80 := ho80.ext he144
                  replace ho89 := ho89.ext he144
                  replace ho128 := ho128.ext he144
                  replace ho130 := ho130.ext he144
                  refine wl_val ha145 rfl rfl rfl (op_not ha145 rfl rfl) ?_
                  intro a147 ha147; clear ha145 a145
                  refine wl_val ha147 rfl rfl rfl (op_move ha147 rfl rfl) ?_
                  intro a148 ha148; clear ha147 a147
                  rw [c57] at ha148
                  refine wl_val ha148 rfl rfl rfl (op_move ha148 rfl rfl) ?_
                  intro a149 ha149; clear ha148 a148
                  refine wl_val ha149 rfl rfl rfl (op_move ha149 rfl rfl) ?_
                  intro a150 ha150; clear ha149 a149
                  refine wl_callR ha150 rfl rfl rfl (op_call ha150 rfl cb34 rfl) (c_laws_eqInt64S _ v129 ((mgD aS aT)) v19 ((mgD aS aT)) (ho130.rds pos_shI64) (ho20.rds pos_shI64)) ?_
                  rintro v151 w152 he153 rfl a154 ha154; clear ha150 a150
                  have hx155 := hx146.trans' he153
                  have hzhx155 := he153.size
                  replace ho18 := ho18.ext he153
                  replace ho20 := ho20.ext he153
                  replace ho80 := ho80.ext he153
                  replace ho89 := ho89.ext he153
                  replace ho128 := ho128.ext he153
                  replace ho130 := ho130.ext he153
                  refine wl_val ha154 rfl rfl rfl (op_not ha154 rfl rfl) ?_
                  intro a156 ha156; clear ha154 a154
                  refine wl_val ha156 rfl rfl rfl (op_pick_f ha156 rfl rfl rfl) ?_
                  intro a157 ha157; clear ha156 a156
                  refine wl_val ha157 rfl rfl rfl (op_move ha157 rfl rfl) ?_
                  intro a158 ha158; clear ha157 a157
                  rw [c68] at ha158
                  refine wl_val ha158 rfl rfl rfl (op_move ha158 rfl rfl) ?_
                  intro a159 ha159; clear ha158 a158
                  refine wl_val ha159 rfl rfl rfl (op_move ha159 rfl rfl) ?_
                  intro a160 ha160; clear ha159 a159
                  refine wl_val ha160 rfl rfl rfl ((op_neq ha160 rfl rfl rfl).to (congrArg Value.bool decide_not)) ?_
                  intro a161 ha161; clear ha160 a160
                  refine wl_val ha161 rfl rfl rfl (op_pick_f ha161 rfl rfl rfl) ?_
                  intro a162 ha162; clear ha161 a161
                  refine wpList_nil ?_
                  refine then_n ?_
                  rw [decide_eq_true c73] at ha162
                  refine cond_f ha162 rfl ?_
                  refine wp_skip ?_
                  refine then_n ?_
                  refine wp_seq ?_
                  refine wp_region_lit ?_
                  refine wl_val ha162 rfl rfl rfl (op_assign ha162 rfl rfl) ?_
                  intro a163 ha163; clear ha162 a162
                  refine wpList_nil ?_
                  refine then_n ?_
                  refine wp_seq ?_
                  refine wp_region_lit ?_
                  refine wl_val ha163 rfl rfl rfl (op_move ha163 rfl rfl) ?_
                  intro a164 ha164; clear ha163 a163
                  refine wl_val ha164 rfl rfl rfl (op_move ha164 rfl rfl) ?_
                  intro a165 ha165; clear ha164 a164
                  refine wl_callR ha165 rfl rfl rfl (op_call ha165 rfl cb25 rfl) (c_laws_heldRecordS _ v35 ((mkN mkR 2 ((mgL aS aT)).length ((1 : Int)))) (1 : Int) (ho80.rds pos_shRec) (by first | assumption | omega | (simp; omega) | (simp [mkN_length, held_mkN okR_mk, held_mkN okI_mk]; omega)) (by first | assumption | omega | (simp; omega) | (simp [mkN_length, held_mkN okR_mk, held_mkN okI_mk]; omega)) (by first | assumption | omega | (simp; omega) | (simp [mkN_length, held_mkN okR_mk, held_mkN okI_mk]; omega))) ?_
                  rintro v166 w167 he168 rfl a169 ha169; clear ha165 a165
                  have hx170 := hx155.trans' he168
                  have hzhx170 := he168.size
                  replace ho18 := ho18.ext he168
                  replace ho20 := ho20.ext he168
                  replace ho80 := ho80.ext he168
                  replace ho89 := ho89.ext he168
                  replace ho128 := ho128.ext he168
                  replace ho130 := ho130.ext he168
                  refine wl_val ha169 rfl rfl rfl (op_assign ha169 rfl rfl) ?_
                  intro a171 ha171; clear ha169 a169
                  refine wpList_nil ?_
                  refine then_n ?_
                  refine wp_seq ?_
                  refine wp_seq ?_
                  refine wp_region_lit ?_
                  refine wl_val ha171 rfl rfl rfl (op_move ha171 rfl rfl) ?_
                  intro a172 ha172; clear ha171 a171
                  refine wl_val ha172 rfl rfl rfl (op_lss ha172 rfl rfl rfl) ?_
                  intro a173 ha173; clear ha172 a172
                  refine wpList_nil ?_
                  refine then_n ?_
                  rw [decide_eq_false c104] at ha173
                  refine cond_f ha173 rfl ?_
                  refine wp_skip ?_
                  refine then_n ?_
                  refine wp_seq ?_
                  refine wp_region_lit ?_
                  refine wl_val ha173 rfl rfl rfl (op_move ha173 rfl rfl) ?_
                  intro a174 ha174; clear ha173 a173
                  refine wl_val ha174 rfl rfl rfl (op_move ha174 rfl rfl) ?_
                  intro a175 ha175; clear ha174 a174
                  refine wl_callR ha175 rfl rfl rfl (op_call ha175 rfl cb36 rfl) (c_laws_heldInt64S _ v37 ((mkN mkI 1 ((mgD aS aT)).length ((((1 : Int)) + 2 * (((mgL aS aT)).length : Nat) : Int)))) (heldG okR 2 ((mkN mkR 2 ((mgL aS aT)).length ((1 : Int)))) (1 : Int) : Int) (ho89.rds pos_shI64) (by first | assumption | omega | (simp; omega) | (simp [mkN_length, held_mkN okR_mk, held_mkN okI_mk]; omega)) (by first | assumption | omega | (simp; omega) | (simp [mkN_length, held_mkN okR_mk, held_mkN okI_mk]; omega)) (by first | assumption | omega | (simp; omega) | (simp [mkN_length, held_mkN okR_mk, held_mkN okI_mk]; omega))) ?_
                  rintro v176 w177 he178 rfl a179 ha179; clear ha175 a175
                  have hx180 := hx170.trans' he178
                  have hzhx180 := he178.size
                  replace ho18 := ho18.ext he178
                  replace ho20 := ho20.ext he178
                  replace ho80 := ho80.ext he178
                  replace ho89 := ho89.ext he178
                  replace ho128 := ho128.ext he178
                  replace ho130 := ho130.ext he178
                  refine wl_val ha179 rfl rfl rfl (op_assign ha179 rfl rfl) ?_
                  intro a181 ha181; clear ha179 a179
                  refine wpList_nil ?_
                  refine then_n ?_
                  refine wp_seq ?_
                  refine wp_seq ?_
                  refine wp_region_lit ?_
                  refine wl_val ha181 rfl rfl rfl (op_move ha181 rfl rfl) ?_
                  intro a182 ha182; clear ha181 a181
                  refine wl_val ha182 rfl rfl rfl (op_lss ha182 rfl rfl rfl) ?_
                  intro a183 ha183; clear ha182 a182
                  refine wpList_nil ?_
                  refine then_n ?_
                  rw [decide_eq_false c116] at ha183
                  refine cond_f ha183 rfl ?_
                  refine wp_skip ?_
                  refine then_n ?_
                  refine wp_seq ?_
                  refine wp_seq ?_
                  refine wp_region_lit ?_
                  refine wl_val ha183 rfl rfl rfl (op_move ha183 rfl rfl) ?_
                  intro a184 ha184; clear ha183 a183
                  refine wl_val ha184 rfl rfl rfl (op_move ha184 rfl rfl) ?_
                  intro a185 ha185; clear ha184 a184
                  refine wl_val ha185 rfl rfl rfl ((op_neq ha185 rfl rfl rfl).to (congrArg Value.bool decide_not)) ?_
                  intro a186 ha186; clear ha185 a185
                  refine wpList_nil ?_
                  refine then_n ?_
                  rw [decide_eq_true c121] at ha186
                  refine cond_f ha186 rfl ?_
                  refine wp_skip ?_
                  refine then_n ?_
                  refine wp_seq ?_
                  refine wp_region_lit ?_
                  refine wl_val ha186 rfl rfl rfl (op_assign ha186 rfl rfl) ?_
                  intro a187 ha187; clear ha186 a186
                  refine wpList_nil ?_
                  refine then_n ?_
                  refine wp_ret ?_
                  refine ret1 ha187 rfl rfl ?_
                  clear ha187 a187
                  exact ret_mk hx180 (congrArg Value.bool (by first | rfl | omega | (simp [eqL, held_mkN okR_mk, held_mkN okI_mk, mkN_length] at c121; done) | (simp [eqL, held_mkN okR_mk, held_mkN okI_mk, mkN_length] at c116; done) | (simp [eqL, held_mkN okR_mk, held_mkN okI_mk, mkN_length] at c104; done) | (simp [eqL, held_mkN okR_mk, held_mkN okI_mk, mkN_length] at c73; done) | (simp [eqL, held_mkN okR_mk, held_mkN okI_mk, mkN_length] at c68; done) | (simp [eqL, held_mkN okR_mk, held_mkN okI_mk, mkN_length] at c57; done) | (simp [eqL, held_mkN okR_mk, held_mkN okI_mk, mkN_length] at c10; done) | (simp [eqL, held_mkN okR_mk, held_mkN okI_mk, mkN_length] at c5; done) | (simp [eqL, held_mkN okR_mk, held_mkN okI_mk, mkN_length] at c121; omega) | (simp [eqL, held_mkN okR_mk, held_mkN okI_mk, mkN_length] at c116; omega) | (simp [eqL, held_mkN okR_mk, held_mkN okI_mk, mkN_length] at c104; omega)))
                ·
                  rw [decide_eq_false c121] at ha120
                  refine cond_t ha120 rfl ?_
                  refine wp_seq ?_
                  refine wp_region_lit ?_
                  refine wl_val ha120 rfl rfl rfl (op_assign ha120 rfl rfl) ?_
                  intro a188 ha188; clear ha120 a120
                  refine wpList_nil ?_
                  refine then_n ?_
                  refine wp_ret ?_
                  refine then_r ?_
                  refine ret1 ha188 rfl rfl ?_
                  clear ha188 a188
                  exact ret_mk hx112 (congrArg Value.bool (by first | rfl | omega | (simp [eqL, held_mkN okR_mk, held_mkN okI_mk, mkN_length] at c121; done) | (simp [eqL, held_mkN okR_mk, held_mkN okI_mk, mkN_length] at c116; done) | (simp [eqL, held_mkN okR_mk, held_mkN okI_mk, mkN_length] at c104; done) | (simp [eqL, held_mkN okR_mk, held_mkN okI_mk, mkN_length] at c73; done) | (simp [eqL, held_mkN okR_mk, held_mkN okI_mk, mkN_length] at c68; done) | (simp [eqL, held_mkN okR_mk, held_mkN okI_mk, mkN_length] at c57; done) | (simp [eqL, held_mkN okR_mk, held_mkN okI_mk, mkN_length] at c10; done) | (simp [eqL, held_mkN okR_mk, held_mkN okI_mk, mkN_length] at c5; done) | (simp [eqL, held_mkN okR_mk, held_mkN okI_mk, mkN_length] at c121; omega) | (simp [eqL, held_mkN okR_mk, held_mkN okI_mk, mkN_length] at c116; omega) | (simp [eqL, held_mkN okR_mk, held_mkN okI_mk, mkN_length] at c104; omega)))
          ·
            rw [decide_eq_false c73] at ha72
            refine cond_t ha72 rfl ?_
            refine wp_seq ?_
            refine wp_region_lit ?_
            refine wl_val ha72 rfl rfl rfl (op_assign ha72 rfl rfl) ?_
            intro a189 ha189; clear ha72 a72
            refine wpList_nil ?_
            refine then_n ?_
            refine wp_ret ?_
            refine then_r ?_
            refine ret1 ha189 rfl rfl ?_
            clear ha189 a189
            exact ret_mk hx64 (congrArg Value.bool (by first | rfl | omega | (simp [eqL, held_mkN okR_mk, held_mkN okI_mk, mkN_length] at c73; done) | (simp [eqL, held_mkN okR_mk, held_mkN okI_mk, mkN_length] at c68; done) | (simp [eqL, held_mkN okR_mk, held_mkN okI_mk, mkN_length] at c57; done) | (simp [eqL, held_mkN okR_mk, held_mkN okI_mk, mkN_length] at c10; done) | (simp [eqL, held_mkN okR_mk, held_mkN okI_mk, mkN_length] at c5; done) | (simp [eqL, held_mkN okR_mk, held_mkN okI_mk, mkN_length] at c73; omega) | (simp [eqL, held_mkN okR_mk, held_mkN okI_mk, mkN_length] at c68; omega) | (simp [eqL, held_mkN okR_mk, held_mkN okI_mk, mkN_length] at c57; omega)))
        ·
          rw [c68] at ha67
          refine wl_skip ha67 rfl rfl rfl ?_
          intro a190 ha190; clear ha67 a67
          refine wl_skip ha190 rfl rfl rfl ?_
          intro a191 ha191; clear ha190 a190
          refine wl_skip ha191 rfl rfl rfl ?_
          intro a192 ha192; clear ha191 a191
          refine wl_val ha192 rfl rfl rfl (op_pick_t ha192 rfl rfl rfl) ?_
          intro a193 ha193; clear ha192 a192
          refine wpList_nil ?_
          refine then_n ?_
          refine cond_t ha193 rfl ?_
          refine wp_seq ?_
          refine wp_region_lit ?_
          refine wl_val ha193 rfl rfl rfl (op_assign ha193 rfl rfl) ?_
          intro a194 ha194; clear ha193 a193
          refine wpList_nil ?_
          refine then_n ?_
          refine wp_ret ?_
          refine then_r ?_
          refine ret1 ha194 rfl rfl ?_
          clear ha194 a194
          exact ret_mk hx64 (congrArg Value.bool (by first | rfl | omega | (simp [eqL, held_mkN okR_mk, held_mkN okI_mk, mkN_length] at c68; done) | (simp [eqL, held_mkN okR_mk, held_mkN okI_mk, mkN_length] at c57; done) | (simp [eqL, held_mkN okR_mk, held_mkN okI_mk, mkN_length] at c10; done) | (simp [eqL, held_mkN okR_mk, held_mkN okI_mk, mkN_length] at c5; done) | (simp [eqL, held_mkN okR_mk, held_mkN okI_mk, mkN_length] at c68; omega) | (simp [eqL, held_mkN okR_mk, held_mkN okI_mk, mkN_length] at c57; omega) | (simp [eqL, held_mkN okR_mk, held_mkN okI_mk, mkN_length] at c10; omega)))
      ·
        rw [c57] at ha56
        refine wl_skip ha56 rfl rfl rfl ?_
        intro a195 ha195; clear ha56 a56
        refine wl_skip ha195 rfl rfl rfl ?_
        intro a196 ha196; clear ha195 a195
        refine wl_skip ha196 rfl rfl rfl ?_
        intro a197 ha197; clear ha196 a196
        refine wl_skip ha197 rfl rfl rfl ?_
        intro a198 ha198; clear ha197 a197
        refine wl_val ha198 rfl rfl rfl (op_pick_t ha198 rfl rfl rfl) ?_
        intro a199 ha199; clear ha198 a198
        refine wl_val ha199 rfl rfl rfl (op_move ha199 rfl rfl) ?_
        intro a200 ha200; clear ha199 a199
        refine wl_skip ha200 rfl rfl rfl ?_
        intro a201 ha201; clear ha200 a200
        refine wl_skip ha201 rfl rfl rfl ?_
        intro a202 ha202; clear ha201 a201
        refine wl_skip ha202 rfl rfl rfl ?_
        intro a203 ha203; clear ha202 a202
        refine wl_val ha203 rfl rfl rfl (op_pick_t ha203 rfl rfl rfl) ?_
        intro a204 ha204; clear ha203 a203
        refine wpList_nil ?_
        refine then_n ?_
        refine cond_t ha204 rfl ?_
        refine wp_seq ?_
        refine wp_region_lit ?_
        refine wl_val ha204 rfl rfl rfl (op_assign ha204 rfl rfl) ?_
        intro a205 ha205; clear ha204 a204
        refine wpList_nil ?_
        refine then_n ?_
        refine wp_ret ?_
        refine then_r ?_
        refine ret1 ha205 rfl rfl ?_
        clear ha205 a205
        exact ret_mk hx54 (congrArg Value.bool (by first | rfl | omega | (simp [eqL, held_mkN okR_mk, held_mkN okI_mk, mkN_length] at c57; done) | (simp [eqL, held_mkN okR_mk, held_mkN okI_mk, mkN_length] at c10; done) | (simp [eqL, held_mkN okR_mk, held_mkN okI_mk, mkN_length] at c5; done) | (simp [eqL, held_mkN okR_mk, held_mkN okI_mk, mkN_length] at c57; omega) | (simp [eqL, held_mkN okR_mk, held_mkN okI_mk, mkN_length] at c10; omega) | (simp [eqL, held_mkN okR_mk, held_mkN okI_mk, mkN_length] at c5; omega)))


end Go.Proofs.Ytkdnclpgijkceaa
