/- The laws IsFile, SalvageFile, FirstLost, walked. -/
import Derived.Test.YtkdnclpgijkceaaS2
import Derived.Test.YtkdnclpgijkceaaL3
namespace Go.Proofs.Ytkdnclpgijkceaa
open Go Go.RowKit

theorem c_laws_FnExactIsFile (w0 : World) (aS : Str)  :
    Calls Try.prog 6 #[St aS] w0 (Ret w0 (fun v _ => v = .bool (true))) := by
  refine enter (N := 15) Try.func6 rfl rfl rfl ?_
  intro a0 ha0
  have hx0 := Ext.rfl' w0
  have hsl := areB_len (salS_are aS)
  refine wp_seq ?_
  refine wp_region_lit ?_
  refine wl_val ha0 rfl rfl rfl (op_assign ha0 rfl rfl) ?_
  intro a1 ha1; clear ha0 a0
  refine wpList_nil ?_
  refine then_n ?_
  refine wp_seq ?_
  refine wp_seq ?_
  refine wp_region_lit ?_
  refine wl_val ha1 rfl rfl rfl (op_move ha1 rfl rfl) ?_
  intro a2 ha2; clear ha1 a1
  refine wl_val ha2 rfl rfl rfl (op_len_str ha2 rfl Try.underlying9 rfl) ?_
  intro a3 ha3; clear ha2 a2
  refine wl_val ha3 rfl rfl rfl (op_gtr ha3 rfl rfl rfl) ?_
  intro a4 ha4; clear ha3 a3
  refine wpList_nil ?_
  refine then_n ?_
  by_cases c5 : (1048576 : Int) < ((aS.length : Nat) : Int)
  ·
    rw [decide_eq_true c5] at ha4
    refine cond_t ha4 rfl ?_
    refine wp_seq ?_
    refine wp_region_lit ?_
    refine wl_val ha4 rfl rfl rfl (op_assign ha4 rfl rfl) ?_
    intro a6 ha6; clear ha4 a4
    refine wpList_nil ?_
    refine then_n ?_
    refine wp_ret ?_
    refine then_r ?_
    refine ret1 ha6 rfl rfl ?_
    clear ha6 a6
    exact ret_mk hx0 (congrArg Value.bool (by first | rfl | omega | (simp [eqL, held_mkN okR_mk, held_mkN okI_mk, mkN_length] at c5; done) | (simp [eqL, held_mkN okR_mk, held_mkN okI_mk, mkN_length] at c5; omega)))
  ·
    rw [decide_eq_false c5] at ha4
    refine cond_f ha4 rfl ?_
    refine wp_skip ?_
    refine then_n ?_
    refine wp_seq ?_
    refine wp_region_lit ?_
    refine wl_val ha4 rfl rfl rfl (op_move ha4 rfl rfl) ?_
    intro a7 ha7; clear ha4 a4
    refine wl_callR ha7 rfl rfl rfl (op_call ha7 rfl cb26 rfl) (c_spec_IsFile _ aS (by first | assumption | omega | (simp; omega) | (simp [mkN_length]; omega))) ?_
    rintro v8 w9 he10 rfl a11 ha11; clear ha7 a7
    have hx12 := hx0.trans' he10
    have hzhx12 := he10.size
    refine wl_val ha11 rfl rfl rfl (op_assign ha11 rfl rfl) ?_
    intro a13 ha13; clear ha11 a11
    refine wpList_nil ?_
    refine then_n ?_
    refine wp_seq ?_
    refine wp_region_lit ?_
    refine wl_val ha13 rfl rfl rfl (op_move ha13 rfl rfl) ?_
    intro a14 ha14; clear ha13 a13
    refine wl_callR ha14 rfl rfl rfl (op_call ha14 rfl cb27 rfl) (c_impl_IsFile _ aS (by first | assumption | omega | (simp; omega) | (simp [mkN_length]; omega))) ?_
    rintro v15 w16 he17 rfl a18 ha18; clear ha14 a14
    have hx19 := hx12.trans' he17
    have hzhx19 := he17.size
    refine wl_val ha18 rfl rfl rfl (op_assign ha18 rfl rfl) ?_
    intro a20 ha20; clear ha18 a18
    refine wpList_nil ?_
    refine then_n ?_
    refine wp_seq ?_
    refine wp_seq ?_
    refine wp_region_lit ?_
    refine wl_val ha20 rfl rfl rfl (op_move ha20 rfl rfl) ?_
    intro a21 ha21; clear ha20 a20
    refine wl_val ha21 rfl rfl rfl (op_move ha21 rfl rfl) ?_
    intro a22 ha22; clear ha21 a21
    refine wl_val ha22 rfl rfl rfl (op_bneq ha22 rfl Try.underlying4 rfl rfl) ?_
    intro a23 ha23; clear ha22 a22
    refine wpList_nil ?_
    refine then_n ?_
    rcases Bool.eq_false_or_eq_true ((decide ((salS aS).2.1 = 0) == decide ((salS aS).2.1 = 0))) with c24 | c24
    ·
      rw [c24] at ha23
      refine cond_f ha23 rfl ?_
      refine wp_skip ?_
      refine then_n ?_
      refine wp_seq ?_
      refine wp_region_lit ?_
      refine wl_val ha23 rfl rfl rfl (op_assign ha23 rfl rfl) ?_
      intro a25 ha25; clear ha23 a23
      refine wpList_nil ?_
      refine then_n ?_
      refine wp_ret ?_
      refine ret1 ha25 rfl rfl ?_
      clear ha25 a25
      exact ret_mk hx19 (congrArg Value.bool (by first | rfl | omega | (simp [eqL, held_mkN okR_mk, held_mkN okI_mk, mkN_length] at c24; done) | (simp [eqL, held_mkN okR_mk, held_mkN okI_mk, mkN_length] at c5; done) | (simp [eqL, held_mkN okR_mk, held_mkN okI_mk, mkN_length] at c24; omega) | (simp [eqL, held_mkN okR_mk, held_mkN okI_mk, mkN_length] at c5; omega)))
    ·
      rw [c24] at ha23
      refine cond_t ha23 rfl ?_
      refine wp_seq ?_
      refine wp_region_lit ?_
      refine wl_val ha23 rfl rfl rfl (op_assign ha23 rfl rfl) ?_
      intro a26 ha26; clear ha23 a23
      refine wpList_nil ?_
      refine then_n ?_
      refine wp_ret ?_
      refine then_r ?_
      refine ret1 ha26 rfl rfl ?_
      clear ha26 a26
      exact ret_mk hx19 (congrArg Value.bool (by first | rfl | omega | (simp [eqL, held_mkN okR_mk, held_mkN okI_mk, mkN_length] at c24; done) | (simp [eqL, held_mkN okR_mk, held_mkN okI_mk, mkN_length] at c5; done) | (simp [eqL, held_mkN okR_mk, held_mkN okI_mk, mkN_length] at c24; omega) | (simp [eqL, held_mkN okR_mk, held_mkN okI_mk, mkN_length] at c5; omega)))

theorem c_laws_FnExactSalvageFile (w0 : World) (aS : Str)  :
    Calls Try.prog 8 #[St aS] w0 (Ret w0 (fun v _ => v = .bool (true))) := by
  refine enter (N := 66) Try.func8 rfl rfl rfl ?_
  intro a0 ha0
  have hx0 := Ext.rfl' w0
  have hsl := areB_len (salS_are aS)
  refine wp_seq ?_
  refine wp_region_lit ?_
  refine wl_val ha0 rfl rfl rfl (op_assign ha0 rfl rfl) ?_
  intro a1 ha1; clear ha0 a0
  refine wpList_nil ?_
  refine then_n ?_
  refine wp_seq ?_
  refine wp_seq ?_
  refine wp_region_lit ?_
  refine wl_val ha1 rfl rfl rfl (op_move ha1 rfl rfl) ?_
  intro a2 ha2; clear ha1 a1
  refine wl_val ha2 rfl rfl rfl (op_len_str ha2 rfl Try.underlying9 rfl) ?_
  intro a3 ha3; clear ha2 a2
  refine wl_val ha3 rfl rfl rfl (op_gtr ha3 rfl rfl rfl) ?_
  intro a4 ha4; clear ha3 a3
  refine wpList_nil ?_
  refine then_n ?_
  by_cases c5 : (1048576 : Int) < ((aS.length : Nat) : Int)
  ·
    rw [decide_eq_true c5] at ha4
    refine cond_t ha4 rfl ?_
    refine wp_seq ?_
    refine wp_region_lit ?_
    refine wl_val ha4 rfl rfl rfl (op_assign ha4 rfl rfl) ?_
    intro a6 ha6; clear ha4 a4
    refine wpList_nil ?_
    refine then_n ?_
    refine wp_ret ?_
    refine then_r ?_
    refine ret1 ha6 rfl rfl ?_
    clear ha6 a6
    exact ret_mk hx0 (congrArg Value.bool (by first | rfl | omega | (simp [eqL, held_mkN okR_mk, held_mkN okI_mk, mkN_length] at c5; done) | (simp [eqL, held_mkN okR_mk, held_mkN okI_mk, mkN_length] at c5; omega)))
  ·
    rw [decide_eq_false c5] at ha4
    refine cond_f ha4 rfl ?_
    refine wp_skip ?_
    refine then_n ?_
    refine wp_seq ?_
    refine wp_region_lit ?_
    refine wl_val ha4 rfl rfl rfl (op_move ha4 rfl rfl) ?_
    intro a7 ha7; clear ha4 a4
    refine wl_callR ha7 rfl rfl rfl (op_call ha7 rfl cb30 rfl) (c_spec_SalvageFile _ aS (by first | assumption | omega | (simp; omega) | (simp [mkN_length]; omega))) ?_
    rintro v8 w9 he10 ⟨v11, rfl, ho12⟩ a13 ha13; clear ha7 a7
    have hx14 := hx0.trans' he10
    have hzhx14 := he10.size
    refine wl_val ha13 rfl rfl rfl (op_move ha13 rfl rfl) ?_
    intro a15 ha15; clear ha13 a13
    refine wl_val ha15 rfl rfl rfl (op_extract ha15 rfl rfl rfl) ?_
    intro a16 ha16; clear ha15 a15
    refine wl_val ha16 rfl rfl rfl (op_extract ha16 rfl rfl rfl) ?_
    intro a17 ha17; clear ha16 a16
    refine wl_val ha17 rfl rfl rfl (op_assign ha17 rfl rfl) ?_
    intro a18 ha18; clear ha17 a17
    refine wl_val ha18 rfl rfl rfl (op_assign ha18 rfl rfl) ?_
    intro a19 ha19; clear ha18 a18
    refine wpList_nil ?_
    refine then_n ?_
    refine wp_seq ?_
    refine wp_region_lit ?_
    refine wl_val ha19 rfl rfl rfl (op_move ha19 rfl rfl) ?_
    intro a20 ha20; clear ha19 a19
    refine wl_callR ha20 rfl rfl rfl (op_call ha20 rfl cb31 rfl) (c_impl_SalvageFile _ aS (by first | assumption | omega | (simp; omega) | (simp [mkN_length]; omega))) ?_
    rintro v21 w22 he23 ⟨v24, rfl, ho25⟩ a26 ha26; clear ha20 a20
    have hx27 := hx14.trans' he23
    have hzhx27 := he23.size
    replace ho12 := ho12.ext he23
    refine wl_val ha26 rfl rfl rfl (op_move ha26 rfl rfl) ?_
    intro a28 ha28; clear ha26 a26
    refine wl_val ha28 rfl rfl rfl (op_extract ha28 rfl rfl rfl) ?_
    intro a29 ha29; clear ha28 a28
    refine wl_val ha29 rfl rfl rfl (op_extract ha29 rfl rfl rfl) ?_
    intro a30 ha30; clear ha29 a29
    refine wl_val ha30 rfl rfl rfl (op_assign ha30 rfl rfl) ?_
    intro a31 ha31; clear ha30 a30
    refine wl_val ha31 rfl rfl rfl (op_assign ha31 rfl rfl) ?_
    intro a32 ha32; clear ha31 a31
    refine wpList_nil ?_
    refine then_n ?_
    refine wp_seq ?_
    refine wp_seq ?_
    refine wp_region_lit ?_
    refine wl_val ha32 rfl rfl rfl (op_move ha32 rfl rfl) ?_
    intro a33 ha33; clear ha32 a32
    refine wl_val ha33 rfl rfl rfl (op_move ha33 rfl rfl) ?_
    intro a34 ha34; clear ha33 a33
    refine wl_callR ha34 rfl rfl rfl (op_call ha34 rfl cb17 rfl) (c_laws_eqRecordS _ v24 (((salS aS).1)) v11 (((salS aS).1)) (ho25.rds pos_shRec) (ho12.rds pos_shRec)) ?_
    rintro v35 w36 he37 rfl a38 ha38; clear ha34 a34
    have hx39 := hx27.trans' he37
    have hzhx39 := he37.size
    replace ho12 := ho12.ext he37
    replace ho25 := ho25.ext he37
    refine wl_val ha38 rfl rfl rfl (op_not ha38 rfl rfl) ?_
    intro a40 ha40; clear ha38 a38
    refine wl_val ha40 rfl rfl rfl (op_move ha40 rfl rfl) ?_
    intro a41 ha41; clear ha40 a40
    rcases Bool.eq_false_or_eq_true (eqL (((salS aS).1)) (((salS aS).1))) with c42 | c42
    ·
      rw [c42] at ha41
      refine wl_val ha41 rfl rfl rfl (op_move ha41 rfl rfl) ?_
      intro a43 ha43; clear ha41 a41
      refine wl_val ha43 rfl rfl rfl (op_move ha43 rfl rfl) ?_
      intro a44 ha44; clear ha43 a43
      refine wl_val ha44 rfl rfl rfl ((op_neq ha44 rfl rfl rfl).to (congrArg Value.bool decide_not)) ?_
      intro a45 ha45; clear ha44 a44
      refine wl_val ha45 rfl rfl rfl (op_pick_f ha45 rfl rfl rfl) ?_
      intro a46 ha46; clear ha45 a45
      refine wpList_nil ?_
      refine then_n ?_
      by_cases c47 : ((salS aS).2.1 : Int) = ((salS aS).2.1 : Int)
      ·
        rw [decide_eq_true c47] at ha46
        refine cond_f ha46 rfl ?_
        refine wp_skip ?_
        refine then_n ?_
        refine wp_seq ?_
        refine wp_region_lit ?_
        refine wl_val ha46 rfl rfl rfl (op_assign ha46 rfl rfl) ?_
        intro a48 ha48; clear ha46 a46
        refine wpList_nil ?_
        refine then_n ?_
        refine wp_seq ?_
        refine wp_region_lit ?_
        refine wl_val ha48 rfl rfl rfl (op_move ha48 rfl rfl) ?_
        intro a49 ha49; clear ha48 a48
        refine wl_val ha49 rfl rfl rfl (op_move ha49 rfl rfl) ?_
        intro a50 ha50; clear ha49 a49
        refine wl_callS ha50 rfl rfl rfl (op_call ha50 rfl cb24 rfl) (c_laws_markRecordS _ v24 (((salS aS).1)) (1 : Int) ho25 (by first | assumption | omega | (simp; omega) | (simp [mkN_length]; omega)) (by first | assumption | omega | (simp; omega) | (simp [mkN_length]; omega)) (by first | assumption | omega | (simp; omega) | (simp [mkN_length]; omega))) ?_
        rintro v51 w52 he53 ⟨rfl, ho54⟩ a55 ha55; clear ha50 a50
        have hx56 := hx39.stp he53 (by intro q hq; have hq0 := ho25.lt q hq; omega)
        have hzhx56 := he53.size
        replace ho12 : Own shRec 36 w0.heap.size w0.heap.size w9.heap.size w52 v11 (((salS aS).1)) := by first | exact ho12.stp he53 (by intro q hq; have hq0 := ho25.lt q hq; omega)
        clear ho25
        refine wl_val ha55 rfl rfl rfl (op_assign ha55 rfl rfl) ?_
        intro a57 ha57; clear ha55 a55
        refine wpList_nil ?_
        refine then_n ?_
        refine wp_seq ?_
        refine wp_region_lit ?_
        refine wl_val ha57 rfl rfl rfl (op_assign ha57 rfl rfl) ?_
        intro a58 ha58; clear ha57 a57
        refine wpList_nil ?_
        refine then_n ?_
        refine wp_seq ?_
        refine wp_region_lit ?_
        refine wl_val ha58 rfl rfl rfl (op_move ha58 rfl rfl) ?_
        intro a59 ha59; clear ha58 a58
        refine wl_val ha59 rfl rfl rfl (op_move ha59 rfl rfl) ?_
        intro a60 ha60; clear ha59 a59
        refine wl_callR ha60 rfl rfl rfl (op_call ha60 rfl cb25 rfl) (c_laws_heldRecordS _ v24 ((mkN mkR 2 (((salS aS).1)).length ((1 : Int)))) (1 : Int) (ho54.rds pos_shRec) (by first | assumption | omega | (simp; omega) | (simp [mkN_length]; omega)) (by first | assumption | omega | (simp; omega) | (simp [mkN_length]; omega)) (by first | assumption | omega | (simp; omega) | (simp [mkN_length]; omega))) ?_
        rintro v61 w62 he63 rfl a64 ha64; clear ha60 a60
        have hx65 := hx56.trans' he63
        have hzhx65 := he63.size
        replace ho12 := ho12.ext he63
        replace ho54 := ho54.ext he63
        refine wl_val ha64 rfl rfl rfl (op_assign ha64 rfl rfl) ?_
        intro a66 ha66; clear ha64 a64
        refine wpList_nil ?_
        refine then_n ?_
        refine wp_seq ?_
        refine wp_seq ?_
        refine wp_region_lit ?_
        refine wl_val ha66 rfl rfl rfl (op_move ha66 rfl rfl) ?_
        intro a67 ha67; clear ha66 a66
        refine wl_val ha67 rfl rfl rfl (op_lss ha67 rfl rfl rfl) ?_
        intro a68 ha68; clear ha67 a67
        refine wpList_nil ?_
        refine then_n ?_
        by_cases c69 : (heldG okR 2 ((mkN mkR 2 (((salS aS).1)).length ((1 : Int)))) (1 : Int) : Int) < (0 : Int)
        ·
          rw [decide_eq_true c69] at ha68
          refine cond_t ha68 rfl ?_
          refine wp_seq ?_
          refine wp_region_lit ?_
          refine wl_val ha68 rfl rfl rfl (op_assign ha68 rfl rfl) ?_
          intro a70 ha70; clear ha68 a68
          refine wpList_nil ?_
          refine then_n ?_
          refine wp_ret ?_
          refine then_r ?_
          refine ret1 ha70 rfl rfl ?_
          clear ha70 a70
          exact ret_mk hx65 (congrArg Value.bool (by first | rfl | omega | (simp [eqL, held_mkN okR_mk, held_mkN okI_mk, mkN_length] at c69; done) | (simp [eqL, held_mkN okR_mk, held_mkN okI_mk, mkN_length] at c47; done) | (simp [eqL, held_mkN okR_mk, held_mkN okI_mk, mkN_length] at c42; done) | (simp [eqL, held_mkN okR_mk, held_mkN okI_mk, mkN_length] at c5; done) | (simp [eqL, held_mkN okR_mk, held_mkN okI_mk, mkN_length] at c69; omega) | (simp [eqL, held_mkN okR_mk, held_mkN okI_mk, mkN_length] at c47; omega) | (simp [eqL, held_mkN okR_mk, held_mkN okI_mk, mkN_length] at c42; omega)))
        ·
          rw [decide_eq_false c69] at ha68
          refine cond_f ha68 rfl ?_
          refine wp_skip ?_
          refine then_n ?_
          refine wp_seq ?_
          refine wp_seq ?_
          refine wp_region_lit ?_
          refine wl_val ha68 rfl rfl rfl (op_move ha68 rfl rfl) ?_
          intro a71 ha71; clear ha68 a68
          refine wl_val ha71 rfl rfl rfl (op_move ha71 rfl rfl) ?_
          intro a72 ha72; clear ha71 a71
          refine wl_val ha72 rfl rfl rfl ((op_neq ha72 rfl rfl rfl).to (congrArg Value.bool decide_not)) ?_
          intro a73 ha73; clear ha72 a72
          refine wpList_nil ?_
          refine then_n ?_
          by_cases c74 : (heldG okR 2 ((mkN mkR 2 (((salS aS).1)).length ((1 : Int)))) (1 : Int) : Int) = (((1 : Int)) + 2 * ((((salS aS).1)).length : Nat) : Int)
          ·
            rw [decide_eq_true c74] at ha73
            refine cond_f ha73 rfl ?_
            refine wp_skip ?_
            refine then_n ?_
            refine wp_seq ?_
            refine wp_region_lit ?_
            refine wl_val ha73 rfl rfl rfl (op_move ha73 rfl rfl) ?_
            intro a75 ha75; clear ha73 a73
            refine wl_callR ha75 rfl rfl rfl (op_call ha75 rfl cb31 rfl) (c_impl_SalvageFile _ aS (by first | assumption | omega | (simp; omega) | (simp [mkN_length]; omega))) ?_
            rintro v76 w77 he78 ⟨v79, rfl, ho80⟩ a81 ha81; clear ha75 a75
            have hx82 := hx65.trans' he78
            have hzhx82 := he78.size
            replace ho12 := ho12.ext he78
            replace ho54 := ho54.ext he78
            refine wl_val ha81 rfl rfl rfl (op_move ha81 rfl rfl) ?_
            intro a83 ha83; clear ha81 a81
            refine wl_val ha83 rfl rfl rfl (op_extract ha83 rfl rfl rfl) ?_
            intro a84 ha84; clear ha83 a83
            refine wl_val ha84 rfl rfl rfl (op_extract ha84 rfl rfl rfl) ?_
            intro a85 ha85; clear ha84 a84
            refine wl_val ha85 rfl rfl rfl (op_assign ha85 rfl rfl) ?_
            intro a86 ha86; clear ha85 a85
            refine wl_val ha86 rfl rfl rfl (op_assign ha86 rfl rfl) ?_
            intro a87 ha87; clear ha86 a86
            refine wpList_nil ?_
            refine then_n ?_
            refine wp_seq ?_
            refine wp_seq ?_
            refine wp_region_lit ?_
            refine wl_val ha87 rfl rfl rfl (op_move ha87 rfl rfl) ?_
            intro a88 ha88; clear ha87 a87
            refine wl_val ha88 rfl rfl rfl (op_move ha88 rfl rfl) ?_
            intro a89 ha89; clear ha88 a88
            refine wl_callR ha89 rfl rfl rfl (op_call ha89 rfl cb17 rfl) (c_laws_eqRecordS _ v79 (((salS aS).1)) v11 (((salS aS).1)) (ho80.rds pos_shRec) (ho12.rds pos_shRec)) ?_
            rintro v90 w91 he92 rfl a93 ha93; clear ha89 a89
            have hx94 := hx82.trans' he92
            have hzhx94 := he92.size
            replace ho12 := ho12.ext he92
            replace ho54 := ho54.ext he92
            replace ho80 := ho80.ext he92
            refine wl_val ha93 rfl rfl rfl (op_not ha93 rfl rfl) ?_
            intro a95 ha95; clear ha93 a93
            refine wl_val ha95 rfl rfl rfl (op_move ha95 rfl rfl) ?_
            intro a96 ha96; clear ha95 a95
            rw [c42] at ha96
            refine wl_val ha96 rfl rfl rfl (op_move ha96 rfl rfl) ?_
            intro a97 ha97; clear ha96 a96
            refine wl_val ha97 rfl rfl rfl (op_move ha97 rfl rfl) ?_
            intro a98 ha98; clear ha97 a97
            refine wl_val ha98 rfl rfl rfl ((op_neq ha98 rfl rfl rfl).to (congrArg Value.bool decide_not)) ?_
            intro a99 ha99; clear ha98 a98
            refine wl_val ha99 rfl rfl rfl (op_pick_f ha99 rfl rfl rfl) ?_
            intro a100 ha100; clear ha99 a99
            refine wpList_nil ?_
            refine then_n ?_
            rw [decide_eq_true c47] at ha100
            refine cond_f ha100 rfl ?_
            refine wp_skip ?_
            refine then_n ?_
            refine wp_seq ?_
            refine wp_region_lit ?_
            refine wl_val ha100 rfl rfl rfl (op_assign ha100 rfl rfl) ?_
            intro a101 ha101; clear ha100 a100
            refine wpList_nil ?_
            refine then_n ?_
            refine wp_seq ?_
            refine wp_region_lit ?_
            refine wl_val ha101 rfl rfl rfl (op_move ha101 rfl rfl) ?_
            intro a102 ha102; clear ha101 a101
            refine wl_val ha102 rfl rfl rfl (op_move ha102 rfl rfl) ?_
            intro a103 ha103; clear ha102 a102
            refine wl_callR ha103 rfl rfl rfl (op_call ha103 rfl cb25 rfl) (c_laws_heldRecordS _ v24 ((mkN mkR 2 (((salS aS).1)).length ((1 : Int)))) (1 : Int) (ho54.rds pos_shRec) (by first | assumption | omega | (simp; omega) | (simp [mkN_length]; omega)) (by first | assumption | omega | (simp; omega) | (simp [mkN_length]; omega)) (by first | assumption | omega | (simp; omega) | (simp [mkN_length]; omega))) ?_
            rintro v104 w105 he106 rfl a107 ha107; clear ha103 a103
            have hx108 := hx94.trans' he106
            have hzhx108 := he106.size
            replace ho12 := ho12.ext he106
            replace ho54 := ho54.ext he106
            replace ho80 := ho80.ext he106
            refine wl_val ha107 rfl rfl rfl (op_assign ha107 rfl rfl) ?_
            intro a109 ha109; clear ha107 a107
            refine wpList_nil ?_
            refine then_n ?_
            refine wp_seq ?_
            refine wp_seq ?_
            refine wp_region_lit ?_
            refine wl_val ha109 rfl rfl rfl (op_move ha109 rfl rfl) ?_
            intro a110 ha110; clear ha109 a109
            refine wl_val ha110 rfl rfl rfl (op_lss ha110 rfl rfl rfl) ?_
            intro a111 ha111; clear ha110 a110
            refine wpList_nil ?_
            refine then_n ?_
            rw [decide_eq_false c69] at ha111
            refine cond_f ha111 rfl ?_
            refine wp_skip ?_
            refine then_n ?_
            refine wp_seq ?_
            refine wp_seq ?_
            refine wp_region_lit ?_
            refine wl_val ha111 rfl rfl rfl (op_move ha111 rfl rfl) ?_
            intro a112 ha112; clear ha111 a111
            refine wl_val ha112 rfl rfl rfl (op_move ha112 rfl rfl) ?_
            intro a113 ha113; clear ha112 a112
            refine wl_val ha113 rfl rfl rfl ((op_neq ha113 rfl rfl rfl).to (congrArg Value.bool decide_not)) ?_
            intro a114 ha114; clear ha113 a113
            refine wpList_nil ?_
            refine then_n ?_
            rw [decide_eq_true c74] at ha114
            refine cond_f ha114 rfl ?_
            refine wp_skip ?_
            refine then_n ?_
            refine wp_seq ?_
            refine wp_region_lit ?_
            refine wl_val ha114 rfl rfl rfl (op_assign ha114 rfl rfl) ?_
            intro a115 ha115; clear ha114 a114
            refine wpList_nil ?_
            refine then_n ?_
            refine wp_ret ?_
            refine ret1 ha115 rfl rfl ?_
            clear ha115 a115
            exact ret_mk hx108 (congrArg Value.bool (by first | rfl | omega | (simp [eqL, held_mkN okR_mk, held_mkN okI_mk, mkN_length] at c74; done) | (simp [eqL, held_mkN okR_mk, held_mkN okI_mk, mkN_length] at c69; done) | (simp [eqL, held_mkN okR_mk, held_mkN okI_mk, mkN_length] at c47; done) | (simp [eqL, held_mkN okR_mk, held_mkN okI_mk, mkN_length] at c42; done) | (simp [eqL, held_mkN okR_mk, held_mkN okI_mk, mkN_length] at c5; done) | (simp [eqL, held_mkN okR_mk, held_mkN okI_mk, mkN_length] at c74; omega) | (simp [eqL, held_mkN okR_mk, held_mkN okI_mk, mkN_length] at c69; omega) | (simp [eqL, held_mkN okR_mk, held_mkN okI_mk, mkN_length] at c47; omega)))
          ·
            rw [decide_eq_false c74] at ha73
            refine cond_t ha73 rfl ?_
            refine wp_seq ?_
            refine wp_region_lit ?_
            refine wl_val ha73 rfl rfl rfl (op_assign ha73 rfl rfl) ?_
            intro a116 ha116; clear ha73 a73
            refine wpList_nil ?_
            refine then_n ?_
            refine wp_ret ?_
            refine then_r ?_
            refine ret1 ha116 rfl rfl ?_
            clear ha116 a116
            exact ret_mk hx65 (congrArg Value.bool (by first | rfl | omega | (simp [eqL, held_mkN okR_mk, held_mkN okI_mk, mkN_length] at c74; done) | (simp [eqL, held_mkN okR_mk, held_mkN okI_mk, mkN_length] at c69; done) | (simp [eqL, held_mkN okR_mk, held_mkN okI_mk, mkN_length] at c47; done) | (simp [eqL, held_mkN okR_mk, held_mkN okI_mk, mkN_length] at c42; done) | (simp [eqL, held_mkN okR_mk, held_mkN okI_mk, mkN_length] at c5; done) | (simp [eqL, held_mkN okR_mk, held_mkN okI_mk, mkN_length] at c74; omega) | (simp [eqL, held_mkN okR_mk, held_mkN okI_mk, mkN_length] at c69; omega) | (simp [eqL, held_mkN okR_mk, held_mkN okI_mk, mkN_length] at c47; omega)))
      ·
        rw [decide_eq_false c47] at ha46
        refine cond_t ha46 rfl ?_
        refine wp_seq ?_
        refine wp_region_lit ?_
        refine wl_val ha46 rfl rfl rfl (op_assign ha46 rfl rfl) ?_
        intro a117 ha117; clear ha46 a46
        refine wpList_nil ?_
        refine then_n ?_
        refine wp_ret ?_
        refine then_r ?_
        refine ret1 ha117 rfl rfl ?_
        clear ha117 a117
        exact ret_mk hx39 (congrArg Value.bool (by first | rfl | omega | (simp [eqL, held_mkN okR_mk, held_mkN okI_mk, mkN_length] at c47; done) | (simp [eqL, held_mkN okR_mk, held_mkN okI_mk, mkN_length] at c42; done) | (simp [eqL, held_mkN okR_mk, held_mkN okI_mk, mkN_length] at c5; done) | (simp [eqL, held_mkN okR_mk, held_mkN okI_mk, mkN_length] at c47; omega) | (simp [eqL, held_mkN okR_mk, held_mkN okI_mk, mkN_length] at c42; omega) | (simp [eqL, held_mkN okR_mk, held_mkN okI_mk, mkN_length] at c5; omega)))
    ·
      rw [c42] at ha41
      refine wl_skip ha41 rfl rfl rfl ?_
      intro a118 ha118; clear ha41 a41
      refine wl_skip ha118 rfl rfl rfl ?_
      intro a119 ha119; clear ha118 a118
      refine wl_skip ha119 rfl rfl rfl ?_
      intro a120 ha120; clear ha119 a119
      refine wl_val ha120 rfl rfl rfl (op_pick_t ha120 rfl rfl rfl) ?_
      intro a121 ha121; clear ha120 a120
      refine wpList_nil ?_
      refine then_n ?_
      refine cond_t ha121 rfl ?_
      refine wp_seq ?_
      refine wp_region_lit ?_
      refine wl_val ha121 rfl rfl rfl (op_assign ha121 rfl rfl) ?_
      intro a122 ha122; clear ha121 a121
      refine wpList_nil ?_
      refine then_n ?_
      refine wp_ret ?_
      refine then_r ?_
      refine ret1 ha122 rfl rfl ?_
      clear ha122 a122
      exact ret_mk hx39 (congrArg Value.bool (by first | rfl | omega | (simp [eqL, held_mkN okR_mk, held_mkN okI_mk, mkN_length] at c42; done) | (simp [eqL, held_mkN okR_mk, held_mkN okI_mk, mkN_length] at c5; done) | (simp [eqL, held_mkN okR_mk, held_mkN okI_mk, mkN_length] at c42; omega) | (simp [eqL, held_mkN okR_mk, held_mkN okI_mk, mkN_length] at c5; omega)))

theorem c_laws_FnExactFirstLost (w0 : World) (aS : Str)  :
    Calls Try.prog 7 #[St aS] w0 (Ret w0 (fun v _ => v = .bool (true))) := by
  refine enter (N := 28) Try.func7 rfl rfl rfl ?_
  intro a0 ha0
  have hx0 := Ext.rfl' w0
  have hsl := areB_len (salS_are aS)
  refine wp_seq ?_
  refine wp_region_lit ?_
  refine wl_val ha0 rfl rfl rfl (op_assign ha0 rfl rfl) ?_
  intro a1 ha1; clear ha0 a0
  refine wpList_nil ?_
  refine then_n ?_
  refine wp_seq ?_
  refine wp_seq ?_
  refine wp_region_lit ?_
  refine wl_val ha1 rfl rfl rfl (op_move ha1 rfl rfl) ?_
  intro a2 ha2; clear ha1 a1
  refine wl_val ha2 rfl rfl rfl (op_len_str ha2 rfl Try.underlying9 rfl) ?_
  intro a3 ha3; clear ha2 a2
  refine wl_val ha3 rfl rfl rfl (op_gtr ha3 rfl rfl rfl) ?_
  intro a4 ha4; clear ha3 a3
  refine wpList_nil ?_
  refine then_n ?_
  by_cases c5 : (1048576 : Int) < ((aS.length : Nat) : Int)
  ·
    rw [decide_eq_true c5] at ha4
    refine cond_t ha4 rfl ?_
    refine wp_seq ?_
    refine wp_region_lit ?_
    refine wl_val ha4 rfl rfl rfl (op_assign ha4 rfl rfl) ?_
    intro a6 ha6; clear ha4 a4
    refine wpList_nil ?_
    refine then_n ?_
    refine wp_ret ?_
    refine then_r ?_
    refine ret1 ha6 rfl rfl ?_
    clear ha6 a6
    exact ret_mk hx0 (congrArg Value.bool (by first | rfl | omega | (simp [eqL, held_mkN okR_mk, held_mkN okI_mk, mkN_length] at c5; done) | (simp [eqL, held_mkN okR_mk, held_mkN okI_mk, mkN_length] at c5; omega)))
  ·
    rw [decide_eq_false c5] at ha4
    refine cond_f ha4 rfl ?_
    refine wp_skip ?_
    refine then_n ?_
    refine wp_seq ?_
    refine wp_region_lit ?_
    refine wl_val ha4 rfl rfl rfl (op_move ha4 rfl rfl) ?_
    intro a7 ha7; clear ha4 a4
    refine wl_callR ha7 rfl rfl rfl (op_call ha7 rfl cb28 rfl) (c_spec_FirstLost _ aS (by first | assumption | omega | (simp; omega) | (simp [mkN_length]; omega))) ?_
    rintro v8 w9 he10 rfl a11 ha11; clear ha7 a7
    have hx12 := hx0.trans' he10
    have hzhx12 := he10.size
    refine wl_val ha11 rfl rfl rfl (op_move ha11 rfl rfl) ?_
    intro a13 ha13; clear ha11 a11
    refine wl_val ha13 rfl rfl rfl (op_extract ha13 rfl rfl rfl) ?_
    intro a14 ha14; clear ha13 a13
    refine wl_val ha14 rfl rfl rfl (op_extract ha14 rfl rfl rfl) ?_
    intro a15 ha15; clear ha14 a14
    refine wl_val ha15 rfl rfl rfl (op_assign ha15 rfl rfl) ?_
    intro a16 ha16; clear ha15 a15
    refine wl_val ha16 rfl rfl rfl (op_assign ha16 rfl rfl) ?_
    intro a17 ha17; clear ha16 a16
    refine wpList_nil ?_
    refine then_n ?_
    refine wp_seq ?_
    refine wp_region_lit ?_
    refine wl_val ha17 rfl rfl rfl (op_move ha17 rfl rfl) ?_
    intro a18 ha18; clear ha17 a17
    refine wl_callR ha18 rfl rfl rfl (op_call ha18 rfl cb29 rfl) (c_impl_FirstLost _ aS (by first | assumption | omega | (simp; omega) | (simp [mkN_length]; omega))) ?_
    rintro v19 w20 he21 rfl a22 ha22; clear ha18 a18
    have hx23 := hx12.trans' he21
    have hzhx23 := he21.size
    refine wl_val ha22 rfl rfl rfl (op_move ha22 rfl rfl) ?_
    intro a24 ha24; clear ha22 a22
    refine wl_val ha24 rfl rfl rfl (op_extract ha24 rfl rfl rfl) ?_
    intro a25 ha25; clear ha24 a24
    refine wl_val ha25 rfl rfl rfl (op_extract ha25 rfl rfl rfl) ?_
    intro a26 ha26; clear ha25 a25
    refine wl_val ha26 rfl rfl rfl (op_assign ha26 rfl rfl) ?_
    intro a27 ha27; clear ha26 a26
    refine wl_val ha27 rfl rfl rfl (op_assign ha27 rfl rfl) ?_
    intro a28 ha28; clear ha27 a27
    refine wpList_nil ?_
    refine then_n ?_
    refine wp_seq ?_
    refine wp_seq ?_
    refine wp_region_lit ?_
    refine wl_val ha28 rfl rfl rfl (op_move ha28 rfl rfl) ?_
    intro a29 ha29; clear ha28 a28
    refine wl_val ha29 rfl rfl rfl (op_move ha29 rfl rfl) ?_
    intro a30 ha30; clear ha29 a29
    refine wl_val ha30 rfl rfl rfl ((op_neq ha30 rfl rfl rfl).to (congrArg Value.bool decide_not)) ?_
    intro a31 ha31; clear ha30 a30
    refine wl_val ha31 rfl rfl rfl (op_move ha31 rfl rfl) ?_
    intro a32 ha32; clear ha31 a31
    by_cases c33 : (if (salS aS).2.2 < 0 then 0 else (salS aS).2.2 : Int) = (if (salS aS).2.2 < 0 then 0 else (salS aS).2.2 : Int)
    ·
      rw [decide_eq_true c33] at ha32
      refine wl_val ha32 rfl rfl rfl (op_move ha32 rfl rfl) ?_
      intro a34 ha34; clear ha32 a32
      refine wl_val ha34 rfl rfl rfl (op_move ha34 rfl rfl) ?_
      intro a35 ha35; clear ha34 a34
      refine wl_val ha35 rfl rfl rfl ((op_neq ha35 rfl rfl rfl).to (congrArg Value.bool decide_not)) ?_
      intro a36 ha36; clear ha35 a35
      refine wl_val ha36 rfl rfl rfl (op_pick_f ha36 rfl rfl rfl) ?_
      intro a37 ha37; clear ha36 a36
      refine wpList_nil ?_
      refine then_n ?_
      by_cases c38 : (if (salS aS).2.2 < 0 then 4 else 0 : Int) = (if (salS aS).2.2 < 0 then 4 else 0 : Int)
      ·
        rw [decide_eq_true c38] at ha37
        refine cond_f ha37 rfl ?_
        refine wp_skip ?_
        refine then_n ?_
        refine wp_seq ?_
        refine wp_region_lit ?_
        refine wl_val ha37 rfl rfl rfl (op_assign ha37 rfl rfl) ?_
        intro a39 ha39; clear ha37 a37
        refine wpList_nil ?_
        refine then_n ?_
        refine wp_ret ?_
        refine ret1 ha39 rfl rfl ?_
        clear ha39 a39
        exact ret_mk hx23 (congrArg Value.bool (by first | rfl | omega | (simp [eqL, held_mkN okR_mk, held_mkN okI_mk, mkN_length] at c38; done) | (simp [eqL, held_mkN okR_mk, held_mkN okI_mk, mkN_length] at c33; done) | (simp [eqL, held_mkN okR_mk, held_mkN okI_mk, mkN_length] at c5; done) | (simp [eqL, held_mkN okR_mk, held_mkN okI_mk, mkN_length] at c38; omega) | (simp [eqL, held_mkN okR_mk, held_mkN okI_mk, mkN_length] at c33; omega) | (simp [eqL, held_mkN okR_mk, held_mkN okI_mk, mkN_length] at c5; omega)))
      ·
        rw [decide_eq_false c38] at ha37
        refine cond_t ha37 rfl ?_
        refine wp_seq ?_
        refine wp_region_lit ?_
        refine wl_val ha37 rfl rfl rfl (op_assign ha37 rfl rfl) ?_
        intro a40 ha40; clear ha37 a37
        refine wpList_nil ?_
        refine then_n ?_
        refine wp_ret ?_
        refine then_r ?_
        refine ret1 ha40 rfl rfl ?_
        clear ha40 a40
        exact ret_mk hx23 (congrArg Value.bool (by first | rfl | omega | (simp [eqL, held_mkN okR_mk, held_mkN okI_mk, mkN_length] at c38; done) | (simp [eqL, held_mkN okR_mk, held_mkN okI_mk, mkN_length] at c33; done) | (simp [eqL, held_mkN okR_mk, held_mkN okI_mk, mkN_length] at c5; done) | (simp [eqL, held_mkN okR_mk, held_mkN okI_mk, mkN_length] at c38; omega) | (simp [eqL, held_mkN okR_mk, held_mkN okI_mk, mkN_length] at c33; omega) | (simp [eqL, held_mkN okR_mk, held_mkN okI_mk, mkN_length] at c5; omega)))
    ·
      rw [decide_eq_false c33] at ha32
      refine wl_skip ha32 rfl rfl rfl ?_
      intro a41 ha41; clear ha32 a32
      refine wl_skip ha41 rfl rfl rfl ?_
      intro a42 ha42; clear ha41 a41
      refine wl_skip ha42 rfl rfl rfl ?_
      intro a43 ha43; clear ha42 a42
      refine wl_val ha43 rfl rfl rfl (op_pick_t ha43 rfl rfl rfl) ?_
      intro a44 ha44; clear ha43 a43
      refine wpList_nil ?_
      refine then_n ?_
      refine cond_t ha44 rfl ?_
      refine wp_seq ?_
      refine wp_region_lit ?_
      refine wl_val ha44 rfl rfl rfl (op_assign ha44 rfl rfl) ?_
      intro a45 ha45; clear ha44 a44
      refine wpList_nil ?_
      refine then_n ?_
      refine wp_ret ?_
      refine then_r ?_
      refine ret1 ha45 rfl rfl ?_
      clear ha45 a45
      exact ret_mk hx23 (congrArg Value.bool (by first | rfl | omega | (simp [eqL, held_mkN okR_mk, held_mkN okI_mk, mkN_length] at c33; done) | (simp [eqL, held_mkN okR_mk, held_mkN okI_mk, mkN_length] at c5; done) | (simp [eqL, held_mkN okR_mk, held_mkN okI_mk, mkN_length] at c33; omega) | (simp [eqL, held_mkN okR_mk, held_mkN okI_mk, mkN_length] at c5; omega)))


end Go.Proofs.Ytkdnclpgijkceaa
