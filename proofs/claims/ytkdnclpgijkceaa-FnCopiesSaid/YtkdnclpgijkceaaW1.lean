/- Small functions over records. -/
import Derived.Test.YtkdnclpgijkceaaShapes
namespace Go.Proofs.Ytkdnclpgijkceaa
open Go Go.RowKit

/-- May the byte stand in a record's text? -/
def okB (c : UInt8) : Bool := (decide (97 ≤ c.toNat) && decide (c.toNat ≤ 122)) || (decide (48 ≤ c.toNat) && decide (c.toNat ≤ 57)) || decide (c.toNat = 32)
theorem okB_iff (c : UInt8) : okB c = true ↔ (97 ≤ c.toNat ∧ c.toNat ≤ 122) ∨ (48 ≤ c.toNat ∧ c.toNat ≤ 57) ∨ c.toNat = 32 := by unfold okB; simp [or_assoc]
theorem okB_t {c : UInt8} (h : (97 ≤ c.toNat ∧ c.toNat ≤ 122) ∨ (48 ≤ c.toNat ∧ c.toNat ≤ 57) ∨ c.toNat = 32) : okB c = true := (okB_iff c).2 h
theorem okB_f {c : UInt8} (h : ¬ ((97 ≤ c.toNat ∧ c.toNat ≤ 122) ∨ (48 ≤ c.toNat ∧ c.toNat ≤ 57) ∨ c.toNat = 32)) : okB c = false := Bool.eq_false_iff.2 fun e => h ((okB_iff c).1 e)
/-- Is it a record? -/
def recB (r : Int × Str) : Bool := (decide (0 ≤ r.1) && decide (r.1 ≤ 9999)) && decide (r.2.length ≤ 20) && r.2.all okB

theorem c_impl_within (w0 : World) (n : Int) (lo : Int) (hi : Int)  :
  Calls Try.prog 67 #[.int .i64 n, .int .i64 lo, .int .i64 hi] w0 (Ret w0 (fun v _ => v = .bool (decide (lo ≤ n) && decide (n ≤ hi)))) := by
 refine enter (N := 15) Try.func67 rfl rfl rfl ?_
 intro a0 ha0
 have hx0 := Ext.rfl' w0
 refine wp_seq ?_
 refine wp_region_lit ?_
 refine wl_val ha0 rfl rfl rfl (op_assign ha0 rfl rfl) ?_
 intro a1 ha1; clear ha0 a0
 refine wpList_nil ?_
 refine then_n ?_
 refine wp_seq ?_
 refine wp_region_lit ?_
 refine wl_val ha1 rfl rfl rfl (op_move ha1 rfl rfl) ?_
 intro a2 ha2; clear ha1 a1
 refine wl_val ha2 rfl rfl rfl (op_move ha2 rfl rfl) ?_
 intro a3 ha3; clear ha2 a2
 refine wl_val ha3 rfl rfl rfl (op_leq ha3 rfl rfl rfl) ?_
 intro a4 ha4; clear ha3 a3
 refine wl_val ha4 rfl rfl rfl (op_move ha4 rfl rfl) ?_
 intro a5 ha5; clear ha4 a4
 by_cases c6 : lo ≤ n
 ·
  rw [decide_eq_true c6] at ha5
  refine wl_val ha5 rfl rfl rfl (op_move ha5 rfl rfl) ?_
  intro a7 ha7; clear ha5 a5
  refine wl_val ha7 rfl rfl rfl (op_move ha7 rfl rfl) ?_
  intro a8 ha8; clear ha7 a7
  refine wl_val ha8 rfl rfl rfl (op_leq ha8 rfl rfl rfl) ?_
  intro a9 ha9; clear ha8 a8
  refine wl_val ha9 rfl rfl rfl (op_pick_t ha9 rfl rfl rfl) ?_
  intro a10 ha10; clear ha9 a9
  refine wl_val ha10 rfl rfl rfl (op_assign ha10 rfl rfl) ?_
  intro a11 ha11; clear ha10 a10
  refine wpList_nil ?_
  refine then_n ?_
  refine wp_ret ?_
  refine ret1 ha11 rfl rfl ?_
  clear ha11 a11
  exact ret_mk hx0 (congrArg Value.bool (by simp_all <;> omega))
 ·
  rw [decide_eq_false c6] at ha5
  refine wl_skip ha5 rfl rfl rfl ?_
  intro a12 ha12; clear ha5 a5
  refine wl_skip ha12 rfl rfl rfl ?_
  intro a13 ha13; clear ha12 a12
  refine wl_skip ha13 rfl rfl rfl ?_
  intro a14 ha14; clear ha13 a13
  refine wl_val ha14 rfl rfl rfl (op_pick_f ha14 rfl rfl rfl) ?_
  intro a15 ha15; clear ha14 a14
  refine wl_val ha15 rfl rfl rfl (op_assign ha15 rfl rfl) ?_
  intro a16 ha16; clear ha15 a15
  refine wpList_nil ?_
  refine then_n ?_
  refine wp_ret ?_
  refine ret1 ha16 rfl rfl ?_
  clear ha16 a16
  exact ret_mk hx0 (congrArg Value.bool (by simp_all <;> omega))

theorem c_spec_l01In (w0 : World) (n : Int) (lo : Int) (hi : Int)  :
  Calls Try.prog 66 #[.int .i64 n, .int .i64 lo, .int .i64 hi] w0 (Ret w0 (fun v _ => v = .bool (decide (lo ≤ n) && decide (n ≤ hi)))) := by
 refine enter (N := 15) Try.func66 rfl rfl rfl ?_
 intro a0 ha0
 have hx0 := Ext.rfl' w0
 refine wp_seq ?_
 refine wp_region_lit ?_
 refine wl_val ha0 rfl rfl rfl (op_assign ha0 rfl rfl) ?_
 intro a1 ha1; clear ha0 a0
 refine wpList_nil ?_
 refine then_n ?_
 refine wp_seq ?_
 refine wp_region_lit ?_
 refine wl_val ha1 rfl rfl rfl (op_move ha1 rfl rfl) ?_
 intro a2 ha2; clear ha1 a1
 refine wl_val ha2 rfl rfl rfl (op_move ha2 rfl rfl) ?_
 intro a3 ha3; clear ha2 a2
 refine wl_val ha3 rfl rfl rfl (op_geq ha3 rfl rfl rfl) ?_
 intro a4 ha4; clear ha3 a3
 refine wl_val ha4 rfl rfl rfl (op_move ha4 rfl rfl) ?_
 intro a5 ha5; clear ha4 a4
 by_cases c6 : lo ≤ n
 ·
  rw [decide_eq_true c6] at ha5
  refine wl_val ha5 rfl rfl rfl (op_move ha5 rfl rfl) ?_
  intro a7 ha7; clear ha5 a5
  refine wl_val ha7 rfl rfl rfl (op_move ha7 rfl rfl) ?_
  intro a8 ha8; clear ha7 a7
  refine wl_val ha8 rfl rfl rfl (op_leq ha8 rfl rfl rfl) ?_
  intro a9 ha9; clear ha8 a8
  refine wl_val ha9 rfl rfl rfl (op_pick_t ha9 rfl rfl rfl) ?_
  intro a10 ha10; clear ha9 a9
  refine wl_val ha10 rfl rfl rfl (op_assign ha10 rfl rfl) ?_
  intro a11 ha11; clear ha10 a10
  refine wpList_nil ?_
  refine then_n ?_
  refine wp_ret ?_
  refine ret1 ha11 rfl rfl ?_
  clear ha11 a11
  exact ret_mk hx0 (congrArg Value.bool (by simp_all <;> omega))
 ·
  rw [decide_eq_false c6] at ha5
  refine wl_skip ha5 rfl rfl rfl ?_
  intro a12 ha12; clear ha5 a5
  refine wl_skip ha12 rfl rfl rfl ?_
  intro a13 ha13; clear ha12 a12
  refine wl_skip ha13 rfl rfl rfl ?_
  intro a14 ha14; clear ha13 a13
  refine wl_val ha14 rfl rfl rfl (op_pick_f ha14 rfl rfl rfl) ?_
  intro a15 ha15; clear ha14 a14
  refine wl_val ha15 rfl rfl rfl (op_assign ha15 rfl rfl) ?_
  intro a16 ha16; clear ha15 a15
  refine wpList_nil ?_
  refine then_n ?_
  refine wp_ret ?_
  refine ret1 ha16 rfl rfl ?_
  clear ha16 a16
  exact ret_mk hx0 (congrArg Value.bool (by simp_all <;> omega))

theorem c_impl_isRecord (w0 : World) (r : Int × Str) (g0 : I64 r.1) (g1 : r.2.length ≤ 9223372036854775807) :
  Calls Try.prog 49 #[.agg #[.int .i64 r.1, St r.2]] w0 (Ret w0 (fun v _ => v = .bool (recB r))) := by
 refine enter (N := 44) Try.func49 rfl rfl rfl ?_
 intro a0 ha0
 have hx0 := Ext.rfl' w0
 refine wp_seq ?_
 refine wp_region_lit ?_
 refine wl_eff ha0 rfl rfl rfl (op_box' ha0 rfl rfl rfl) ?_
 rintro _ w2 ⟨rfl, he3, hb4, hz5⟩ a6 ha6; clear ha0 a0
 have hx7 := hx0.trans' he3
 have hzhx7 := he3.size
 refine wl_val ha6 rfl rfl rfl (op_assign ha6 rfl rfl) ?_
 intro a8 ha8; clear ha6 a6
 refine wpList_nil ?_
 refine then_n ?_
 refine wp_seq ?_
 refine wp_seq ?_
 refine wp_region_lit ?_
 refine wl_val ha8 rfl rfl rfl (op_fieldAddr (sz := 0) ha8 rfl Try.underlying36 rfl rfl ti2 rfl) ?_
 intro a9 ha9; clear ha8 a8
 refine wl_val ha9 rfl rfl rfl (op_loadF (off := 0) ha9 rfl Try.underlying2 rfl rfl hb4.cells rfl) ?_
 intro a10 ha10; clear ha9 a9
 refine wl_callR ha10 rfl rfl rfl (op_call ha10 rfl cb67 rfl) (c_impl_within _ r.1 (0 : Int) (9999 : Int) ) ?_
 rintro v11 w12 he13 rfl a14 ha14; clear ha10 a10
 have hx15 := hx7.trans' he13
 have hzhx15 := he13.size
 replace hb4 := hb4.ext he13
 refine wl_val ha14 rfl rfl rfl (op_not ha14 rfl rfl) ?_
 intro a16 ha16; clear ha14 a14
 refine wl_val ha16 rfl rfl rfl (op_move ha16 rfl rfl) ?_
 intro a17 ha17; clear ha16 a16
 rcases Bool.eq_false_or_eq_true (decide ((0 : Int) ≤ r.1) && decide (r.1 ≤ (9999 : Int))) with c18 | c18
 ·
  rw [c18] at ha17
  refine wl_val ha17 rfl rfl rfl (op_fieldAddr (sz := 0) ha17 rfl Try.underlying36 rfl rfl ti9 rfl) ?_
  intro a19 ha19; clear ha17 a17
  refine wl_val ha19 rfl rfl rfl (op_loadF (off := 1) ha19 rfl Try.underlying9 rfl rfl hb4.cells rfl) ?_
  intro a20 ha20; clear ha19 a19
  refine wl_val ha20 rfl rfl rfl (op_len_str ha20 rfl Try.underlying9 rfl) ?_
  intro a21 ha21; clear ha20 a20
  refine wl_val ha21 rfl rfl rfl (op_gtr ha21 rfl rfl rfl) ?_
  intro a22 ha22; clear ha21 a21
  refine wl_val ha22 rfl rfl rfl (op_pick_f ha22 rfl rfl rfl) ?_
  intro a23 ha23; clear ha22 a22
  refine wpList_nil ?_
  refine then_n ?_
  by_cases c24 : (20 : Int) < ((r.2.length : Nat) : Int)
  ·
   rw [decide_eq_true c24] at ha23
   refine cond_t ha23 rfl ?_
   refine wp_seq ?_
   refine wp_region_lit ?_
   refine wl_val ha23 rfl rfl rfl (op_assign ha23 rfl rfl) ?_
   intro a25 ha25; clear ha23 a23
   refine wpList_nil ?_
   refine then_n ?_
   refine wp_ret ?_
   refine then_r ?_
   refine ret1 ha25 rfl rfl ?_
   clear ha25 a25
   
   exact ret_mk hx15 (congrArg Value.bool (by first | (simp [recB, c18, c24]; done) | (simp [recB, c18, c24]; omega) | (rw [Bool.eq_iff_iff]; simp [recB, c18, c24]; done) | (rw [Bool.eq_iff_iff]; simp [recB, c18, c24]; omega)))
  ·
   rw [decide_eq_false c24] at ha23
   refine cond_f ha23 rfl ?_
   refine wp_skip ?_
   refine then_n ?_
   refine wp_seq ?_
   refine wp_seq ?_
   refine wp_region_lit ?_
   refine wl_val ha23 rfl rfl rfl (op_assign ha23 rfl rfl) ?_
   intro a26 ha26; clear ha23 a23
   refine wpList_nil ?_
   refine then_n ?_
   refine wp_block ?_
   refine loop_inv (X := Nat) (fun (i : Nat) fr wl => Sl 44 fr [(1, .pointer (some (⟨w0.heap.size, 0, none⟩ : Addr))), (3, .int .i64 ((i : Nat) : Int))] ∧ Ext w0 wl ∧ Box wl w0.heap.size 36 [.int .i64 r.1, St r.2] ∧ w12.heap.size ≤ wl.heap.size ∧ (i ≤ r.2.length) ∧ ((r.2.drop i).all okB = r.2.all okB)) (fun (i : Nat) => r.2.length - i) (0) ?_ ?_
   ·
    exact ⟨(Sl.cons_ ha26 rfl rfl (Sl.cons_ ha26 rfl (int_eq (by omega)) (Sl.nil_ ha26))), hx15, hb4, (by omega), (by first | omega | (simp; done) | (simp; omega) | assumption), (by first | omega | (simp; done) | (simp; omega) | assumption)⟩
   ·
    clear ha26 a26
    rintro i a30 w27 ⟨ha30, hx28, hf29, hzl31, hi, hF⟩
    have hzhx28 := hx28.size
    refine wp_seq ?_
    refine wp_seq ?_
    refine wp_region_lit ?_
    refine wl_val ha30 rfl rfl rfl (op_move ha30 rfl rfl) ?_
    intro a32 ha32; clear ha30 a30
    refine wl_val ha32 rfl rfl rfl (op_fieldAddr (sz := 0) ha32 rfl Try.underlying36 rfl rfl ti9 rfl) ?_
    intro a33 ha33; clear ha32 a32
    refine wl_val ha33 rfl rfl rfl (op_loadF (off := 1) ha33 rfl Try.underlying9 rfl rfl hf29.cells rfl) ?_
    intro a34 ha34; clear ha33 a33
    refine wl_val ha34 rfl rfl rfl (op_len_str ha34 rfl Try.underlying9 rfl) ?_
    intro a35 ha35; clear ha34 a34
    refine wl_val ha35 rfl rfl rfl (op_lss ha35 rfl rfl rfl) ?_
    intro a36 ha36; clear ha35 a35
    refine wpList_nil ?_
    refine then_n ?_
    by_cases c37 : ((i : Nat) : Int) < ((r.2.length : Nat) : Int)
    ·
     rw [decide_eq_true c37] at ha36
     refine cond_t ha36 rfl ?_
     refine wp_skip ?_
     refine then_n ?_
     refine wp_seq ?_
     refine wp_block ?_
     refine wp_seq ?_
     refine wp_region_lit ?_
     refine wl_val ha36 rfl rfl rfl (op_fieldAddr (sz := 0) ha36 rfl Try.underlying36 rfl rfl ti9 rfl) ?_
     intro a38 ha38; clear ha36 a36
     refine wl_val ha38 rfl rfl rfl (op_loadF (off := 1) ha38 rfl Try.underlying9 rfl rfl hf29.cells rfl) ?_
     intro a39 ha39; clear ha38 a38
     refine wl_val ha39 rfl rfl rfl (op_move ha39 rfl rfl) ?_
     intro a40 ha40; clear ha39 a39
     obtain ⟨b41, hb41⟩ := get_ex (xs := r.2) (j := i) (by omega)
     have b41_lt := b41.toNat_lt
     refine wl_val ha40 rfl rfl rfl (op_index_str ha40 rfl Try.underlying9 rfl rfl (by omega) hb41) ?_
     intro a42 ha42; clear ha40 a40
     refine wl_val ha42 rfl rfl rfl (op_assign ha42 rfl rfl) ?_
     intro a43 ha43; clear ha42 a42
     refine wpList_nil ?_
     refine then_n ?_
     refine wp_seq ?_
     refine wp_region_lit ?_
     refine wl_val ha43 rfl rfl rfl (op_move ha43 rfl rfl) ?_
     intro a44 ha44; clear ha43 a43
     refine wl_val ha44 rfl rfl rfl (op_lss ha44 rfl rfl rfl) ?_
     intro a45 ha45; clear ha44 a44
     refine wl_val ha45 rfl rfl rfl (op_move ha45 rfl rfl) ?_
     intro a46 ha46; clear ha45 a45
     by_cases c47 : (b41.toNat : Int) < (97 : Int)
     ·
      rw [decide_eq_true c47] at ha46
      refine wl_skip ha46 rfl rfl rfl ?_
      intro a48 ha48; clear ha46 a46
      refine wl_skip ha48 rfl rfl rfl ?_
      intro a49 ha49; clear ha48 a48
      refine wl_val ha49 rfl rfl rfl (op_pick_t ha49 rfl rfl rfl) ?_
      intro a50 ha50; clear ha49 a49
      refine wl_val ha50 rfl rfl rfl (op_move ha50 rfl rfl) ?_
      intro a51 ha51; clear ha50 a50
      refine wl_val ha51 rfl rfl rfl (op_move ha51 rfl rfl) ?_
      intro a52 ha52; clear ha51 a51
      refine wl_val ha52 rfl rfl rfl (op_lss ha52 rfl rfl rfl) ?_
      intro a53 ha53; clear ha52 a52
      refine wl_val ha53 rfl rfl rfl (op_move ha53 rfl rfl) ?_
      intro a54 ha54; clear ha53 a53
      by_cases c55 : (b41.toNat : Int) < (48 : Int)
      ·
       rw [decide_eq_true c55] at ha54
       refine wl_skip ha54 rfl rfl rfl ?_
       intro a56 ha56; clear ha54 a54
       refine wl_skip ha56 rfl rfl rfl ?_
       intro a57 ha57; clear ha56 a56
       refine wl_val ha57 rfl rfl rfl (op_pick_t ha57 rfl rfl rfl) ?_
       intro a58 ha58; clear ha57 a57
       refine wl_val ha58 rfl rfl rfl (op_pick_t ha58 rfl rfl rfl) ?_
       intro a59 ha59; clear ha58 a58
       refine wl_val ha59 rfl rfl rfl (op_move ha59 rfl rfl) ?_
       intro a60 ha60; clear ha59 a59
       refine wl_val ha60 rfl rfl rfl (op_move ha60 rfl rfl) ?_
       intro a61 ha61; clear ha60 a60
       refine wl_val ha61 rfl rfl rfl ((op_neq ha61 rfl rfl rfl).to (congrArg Value.bool decide_not)) ?_
       intro a62 ha62; clear ha61 a61
       refine wl_val ha62 rfl rfl rfl (op_pick_t ha62 rfl rfl rfl) ?_
       intro a63 ha63; clear ha62 a62
       refine wpList_nil ?_
       refine then_n ?_
       by_cases c64 : (b41.toNat : Int) = (32 : Int)
       ·
        rw [decide_eq_true c64] at ha63
        refine cond_f ha63 rfl ?_
        refine wp_skip ?_
        refine block_n ?_
        refine then_n ?_
        refine wp_region_lit ?_
        refine wl_val ha63 rfl rfl rfl (op_move ha63 rfl rfl) ?_
        intro a65 ha65; clear ha63 a63
        refine wl_val ha65 rfl rfl rfl ((op_add ha65 rfl rfl rfl).int (IntWalk.i64_in _ (by omega))) ?_
        intro a66 ha66; clear ha65 a65
        refine wl_val ha66 rfl rfl rfl (op_assign ha66 rfl rfl) ?_
        intro a67 ha67; clear ha66 a66
        refine wpList_nil ?_
        refine round_end (x := i) ((i + 1)) ?_ ?_
        ·
         refine ⟨(Sl.cons_ ha67 rfl rfl (Sl.cons_ ha67 rfl (int_eq (by omega)) (Sl.nil_ ha67))), hx28, hf29, (by omega), (by omega), (by rw [drop_cons hb41, List.all_cons, okB_t (by omega), Bool.true_and] at hF; exact hF)⟩
        ·show (r.2.length - ((i + 1)) : Nat) < r.2.length - i; omega
       ·
        rw [decide_eq_false c64] at ha63
        refine cond_t ha63 rfl ?_
        refine wp_seq ?_
        refine wp_region_lit ?_
        refine wl_val ha63 rfl rfl rfl (op_assign ha63 rfl rfl) ?_
        intro a68 ha68; clear ha63 a63
        refine wpList_nil ?_
        refine then_n ?_
        refine wp_ret ?_
        refine block_r ?_
        refine then_r ?_
        refine then_r ?_
        refine block_r ?_
        refine then_r ?_
        refine ret1 ha68 rfl rfl ?_
        clear ha68 a68
        rw [drop_cons hb41, List.all_cons, okB_f (by omega), Bool.false_and] at hF
        exact ret_mk hx28 (congrArg Value.bool (by first | (simp [← hF, recB, c18, c24, c37, c47, c55, c64]; done) | (simp [← hF, recB, c18, c24, c37, c47, c55, c64]; omega) | (rw [Bool.eq_iff_iff]; simp [← hF, recB, c18, c24, c37, c47, c55, c64]; done) | (rw [Bool.eq_iff_iff]; simp [← hF, recB, c18, c24, c37, c47, c55, c64]; omega)))
      ·
       rw [decide_eq_false c55] at ha54
       refine wl_val ha54 rfl rfl rfl (op_move ha54 rfl rfl) ?_
       intro a69 ha69; clear ha54 a54
       refine wl_val ha69 rfl rfl rfl (op_gtr ha69 rfl rfl rfl) ?_
       intro a70 ha70; clear ha69 a69
       refine wl_val ha70 rfl rfl rfl (op_pick_f ha70 rfl rfl rfl) ?_
       intro a71 ha71; clear ha70 a70
       refine wl_val ha71 rfl rfl rfl (op_pick_t ha71 rfl rfl rfl) ?_
       intro a72 ha72; clear ha71 a71
       refine wl_val ha72 rfl rfl rfl (op_move ha72 rfl rfl) ?_
       intro a73 ha73; clear ha72 a72
       by_cases c74 : (57 : Int) < (b41.toNat : Int)
       ·
        rw [decide_eq_true c74] at ha73
        refine wl_val ha73 rfl rfl rfl (op_move ha73 rfl rfl) ?_
        intro a75 ha75; clear ha73 a73
        refine wl_val ha75 rfl rfl rfl ((op_neq ha75 rfl rfl rfl).to (congrArg Value.bool decide_not)) ?_
        intro a76 ha76; clear ha75 a75
        refine wl_val ha76 rfl rfl rfl (op_pick_t ha76 rfl rfl rfl) ?_
        intro a77 ha77; clear ha76 a76
        refine wpList_nil ?_
        refine then_n ?_
        by_cases c78 : (b41.toNat : Int) = (32 : Int)
        ·
         rw [decide_eq_true c78] at ha77
         refine cond_f ha77 rfl ?_
         refine wp_skip ?_
         refine block_n ?_
         refine then_n ?_
         refine wp_region_lit ?_
         refine wl_val ha77 rfl rfl rfl (op_move ha77 rfl rfl) ?_
         intro a79 ha79; clear ha77 a77
         refine wl_val ha79 rfl rfl rfl ((op_add ha79 rfl rfl rfl).int (IntWalk.i64_in _ (by omega))) ?_
         intro a80 ha80; clear ha79 a79
         refine wl_val ha80 rfl rfl rfl (op_assign ha80 rfl rfl) ?_
         intro a81 ha81; clear ha80 a80
         refine wpList_nil ?_
         refine round_end (x := i) ((i + 1)) ?_ ?_
         ·
          refine ⟨(Sl.cons_ ha81 rfl rfl (Sl.cons_ ha81 rfl (int_eq (by omega)) (Sl.nil_ ha81))), hx28, hf29, (by omega), (by omega), (by rw [drop_cons hb41, List.all_cons, okB_t (by omega), Bool.true_and] at hF; exact hF)⟩
         ·show (r.2.length - ((i + 1)) : Nat) < r.2.length - i; omega
        ·
         rw [decide_eq_false c78] at ha77
         refine cond_t ha77 rfl ?_
         refine wp_seq ?_
         refine wp_region_lit ?_
         refine wl_val ha77 rfl rfl rfl (op_assign ha77 rfl rfl) ?_
         intro a82 ha82; clear ha77 a77
         refine wpList_nil ?_
         refine then_n ?_
         refine wp_ret ?_
         refine block_r ?_
         refine then_r ?_
         refine then_r ?_
         refine block_r ?_
         refine then_r ?_
         refine ret1 ha82 rfl rfl ?_
         clear ha82 a82
         rw [drop_cons hb41, List.all_cons, okB_f (by omega), Bool.false_and] at hF
         exact ret_mk hx28 (congrArg Value.bool (by first | (simp [← hF, recB, c18, c24, c37, c47, c55, c74, c78]; done) | (simp [← hF, recB, c18, c24, c37, c47, c55, c74, c78]; omega) | (rw [Bool.eq_iff_iff]; simp [← hF, recB, c18, c24, c37, c47, c55, c74, c78]; done) | (rw [Bool.eq_iff_iff]; simp [← hF, recB, c18, c24, c37, c47, c55, c74, c78]; omega)))
       ·
        rw [decide_eq_false c74] at ha73
        refine wl_skip ha73 rfl rfl rfl ?_
        intro a83 ha83; clear ha73 a73
        refine wl_skip ha83 rfl rfl rfl ?_
        intro a84 ha84; clear ha83 a83
        refine wl_val ha84 rfl rfl rfl (op_pick_f ha84 rfl rfl rfl) ?_
        intro a85 ha85; clear ha84 a84
        refine wpList_nil ?_
        refine then_n ?_
        refine cond_f ha85 rfl ?_
        refine wp_skip ?_
        refine block_n ?_
        refine then_n ?_
        refine wp_region_lit ?_
        refine wl_val ha85 rfl rfl rfl (op_move ha85 rfl rfl) ?_
        intro a86 ha86; clear ha85 a85
        refine wl_val ha86 rfl rfl rfl ((op_add ha86 rfl rfl rfl).int (IntWalk.i64_in _ (by omega))) ?_
        intro a87 ha87; clear ha86 a86
        refine wl_val ha87 rfl rfl rfl (op_assign ha87 rfl rfl) ?_
        intro a88 ha88; clear ha87 a87
        refine wpList_nil ?_
        refine round_end (x := i) ((i + 1)) ?_ ?_
        ·
         refine ⟨(Sl.cons_ ha88 rfl rfl (Sl.cons_ ha88 rfl (int_eq (by omega)) (Sl.nil_ ha88))), hx28, hf29, (by omega), (by omega), (by rw [drop_cons hb41, List.all_cons, okB_t (by omega), Bool.true_and] at hF; exact hF)⟩
        ·show (r.2.length - ((i + 1)) : Nat) < r.2.length - i; omega
     ·
      rw [decide_eq_false c47] at ha46
      refine wl_val ha46 rfl rfl rfl (op_move ha46 rfl rfl) ?_
      intro a89 ha89; clear ha46 a46
      refine wl_val ha89 rfl rfl rfl (op_gtr ha89 rfl rfl rfl) ?_
      intro a90 ha90; clear ha89 a89
      refine wl_val ha90 rfl rfl rfl (op_pick_f ha90 rfl rfl rfl) ?_
      intro a91 ha91; clear ha90 a90
      refine wl_val ha91 rfl rfl rfl (op_move ha91 rfl rfl) ?_
      intro a92 ha92; clear ha91 a91
      by_cases c93 : (122 : Int) < (b41.toNat : Int)
      ·
       rw [decide_eq_true c93] at ha92
       refine wl_val ha92 rfl rfl rfl (op_move ha92 rfl rfl) ?_
       intro a94 ha94; clear ha92 a92
       refine wl_val ha94 rfl rfl rfl (op_lss ha94 rfl rfl rfl) ?_
       intro a95 ha95; clear ha94 a94
       refine wl_val ha95 rfl rfl rfl (op_move ha95 rfl rfl) ?_
       intro a96 ha96; clear ha95 a95
       by_cases c97 : (b41.toNat : Int) < (48 : Int)
       ·
        rw [decide_eq_true c97] at ha96
        refine wl_skip ha96 rfl rfl rfl ?_
        intro a98 ha98; clear ha96 a96
        refine wl_skip ha98 rfl rfl rfl ?_
        intro a99 ha99; clear ha98 a98
        refine wl_val ha99 rfl rfl rfl (op_pick_t ha99 rfl rfl rfl) ?_
        intro a100 ha100; clear ha99 a99
        refine wl_val ha100 rfl rfl rfl (op_pick_t ha100 rfl rfl rfl) ?_
        intro a101 ha101; clear ha100 a100
        refine wl_val ha101 rfl rfl rfl (op_move ha101 rfl rfl) ?_
        intro a102 ha102; clear ha101 a101
        refine wl_val ha102 rfl rfl rfl (op_move ha102 rfl rfl) ?_
        intro a103 ha103; clear ha102 a102
        refine wl_val ha103 rfl rfl rfl ((op_neq ha103 rfl rfl rfl).to (congrArg Value.bool decide_not)) ?_
        intro a104 ha104; clear ha103 a103
        refine wl_val ha104 rfl rfl rfl (op_pick_t ha104 rfl rfl rfl) ?_
        intro a105 ha105; clear ha104 a104
        refine wpList_nil ?_
        refine then_n ?_
        by_cases c106 : (b41.toNat : Int) = (32 : Int)
        ·
         rw [decide_eq_true c106] at ha105
         refine cond_f ha105 rfl ?_
         refine wp_skip ?_
         refine block_n ?_
         refine then_n ?_
         refine wp_region_lit ?_
         refine wl_val ha105 rfl rfl rfl (op_move ha105 rfl rfl) ?_
         intro a107 ha107; clear ha105 a105
         refine wl_val ha107 rfl rfl rfl ((op_add ha107 rfl rfl rfl).int (IntWalk.i64_in _ (by omega))) ?_
         intro a108 ha108; clear ha107 a107
         refine wl_val ha108 rfl rfl rfl (op_assign ha108 rfl rfl) ?_
         intro a109 ha109; clear ha108 a108
         refine wpList_nil ?_
         refine round_end (x := i) ((i + 1)) ?_ ?_
         ·
          refine ⟨(Sl.cons_ ha109 rfl rfl (Sl.cons_ ha109 rfl (int_eq (by omega)) (Sl.nil_ ha109))), hx28, hf29, (by omega), (by omega), (by rw [drop_cons hb41, List.all_cons, okB_t (by omega), Bool.true_and] at hF; exact hF)⟩
         ·show (r.2.length - ((i + 1)) : Nat) < r.2.length - i; omega
        ·
         rw [decide_eq_false c106] at ha105
         refine cond_t ha105 rfl ?_
         refine wp_seq ?_
         refine wp_region_lit ?_
         refine wl_val ha105 rfl rfl rfl (op_assign ha105 rfl rfl) ?_
         intro a110 ha110; clear ha105 a105
         refine wpList_nil ?_
         refine then_n ?_
         refine wp_ret ?_
         refine block_r ?_
         refine then_r ?_
         refine then_r ?_
         refine block_r ?_
         refine then_r ?_
         refine ret1 ha110 rfl rfl ?_
         clear ha110 a110
         rw [drop_cons hb41, List.all_cons, okB_f (by omega), Bool.false_and] at hF
         exact ret_mk hx28 (congrArg Value.bool (by first | (simp [← hF, recB, c18, c24, c37, c47, c93, c97, c106]; done) | (simp [← hF, recB, c18, c24, c37, c47, c93, c97, c106]; omega) | (rw [Bool.eq_iff_iff]; simp [← hF, recB, c18, c24, c37, c47, c93, c97, c106]; done) | (rw [Bool.eq_iff_iff]; simp [← hF, recB, c18, c24, c37, c47, c93, c97, c106]; omega)))
       ·
        rw [decide_eq_false c97] at ha96
        refine wl_val ha96 rfl rfl rfl (op_move ha96 rfl rfl) ?_
        intro a111 ha111; clear ha96 a96
        refine wl_val ha111 rfl rfl rfl (op_gtr ha111 rfl rfl rfl) ?_
        intro a112 ha112; clear ha111 a111
        refine wl_val ha112 rfl rfl rfl (op_pick_f ha112 rfl rfl rfl) ?_
        intro a113 ha113; clear ha112 a112
        refine wl_val ha113 rfl rfl rfl (op_pick_t ha113 rfl rfl rfl) ?_
        intro a114 ha114; clear ha113 a113
        refine wl_val ha114 rfl rfl rfl (op_move ha114 rfl rfl) ?_
        intro a115 ha115; clear ha114 a114
        by_cases c116 : (57 : Int) < (b41.toNat : Int)
        ·
         rw [decide_eq_true c116] at ha115
         refine wl_val ha115 rfl rfl rfl (op_move ha115 rfl rfl) ?_
         intro a117 ha117; clear ha115 a115
         refine wl_val ha117 rfl rfl rfl ((op_neq ha117 rfl rfl rfl).to (congrArg Value.bool decide_not)) ?_
         intro a118 ha118; clear ha117 a117
         refine wl_val ha118 rfl rfl rfl (op_pick_t ha118 rfl rfl rfl) ?_
         intro a119 ha119; clear ha118 a118
         refine wpList_nil ?_
         refine then_n ?_
         by_cases c120 : (b41.toNat : Int) = (32 : Int)
         ·
          rw [decide_eq_true c120] at ha119
          refine cond_f ha119 rfl ?_
          refine wp_skip ?_
          refine block_n ?_
          refine then_n ?_
          refine wp_region_lit ?_
          refine wl_val ha119 rfl rfl rfl (op_move ha119 rfl rfl) ?_
          intro a121 ha121; clear ha119 a119
          refine wl_val ha121 rfl rfl rfl ((op_add ha121 rfl rfl rfl).int (IntWalk.i64_in _ (by omega))) ?_
          intro a122 ha122; clear ha121 a121
          refine wl_val ha122 rfl rfl rfl (op_assign ha122 rfl rfl) ?_
          intro a123 ha123; clear ha122 a122
          refine wpList_nil ?_
          refine round_end (x := i) ((i + 1)) ?_ ?_
          ·
           refine ⟨(Sl.cons_ ha123 rfl rfl (Sl.cons_ ha123 rfl (int_eq (by omega)) (Sl.nil_ ha123))), hx28, hf29, (by omega), (by omega), (by rw [drop_cons hb41, List.all_cons, okB_t (by omega), Bool.true_and] at hF; exact hF)⟩
          ·show (r.2.length - ((i + 1)) : Nat) < r.2.length - i; omega
         ·
          rw [decide_eq_false c120] at ha119
          refine cond_t ha119 rfl ?_
          refine wp_seq ?_
          refine wp_region_lit ?_
          refine wl_val ha119 rfl rfl rfl (op_assign ha119 rfl rfl) ?_
          intro a124 ha124; clear ha119 a119
          refine wpList_nil ?_
          refine then_n ?_
          refine wp_ret ?_
          refine block_r ?_
          refine then_r ?_
          refine then_r ?_
          refine block_r ?_
          refine then_r ?_
          refine ret1 ha124 rfl rfl ?_
          clear ha124 a124
          rw [drop_cons hb41, List.all_cons, okB_f (by omega), Bool.false_and] at hF
          exact ret_mk hx28 (congrArg Value.bool (by first | (simp [← hF, recB, c18, c24, c37, c47, c93, c97, c116, c120]; done) | (simp [← hF, recB, c18, c24, c37, c47, c93, c97, c116, c120]; omega) | (rw [Bool.eq_iff_iff]; simp [← hF, recB, c18, c24, c37, c47, c93, c97, c116, c120]; done) | (rw [Bool.eq_iff_iff]; simp [← hF, recB, c18, c24, c37, c47, c93, c97, c116, c120]; omega)))
        ·
         rw [decide_eq_false c116] at ha115
         refine wl_skip ha115 rfl rfl rfl ?_
         intro a125 ha125; clear ha115 a115
         refine wl_skip ha125 rfl rfl rfl ?_
         intro a126 ha126; clear ha125 a125
         refine wl_val ha126 rfl rfl rfl (op_pick_f ha126 rfl rfl rfl) ?_
         intro a127 ha127; clear ha126 a126
         refine wpList_nil ?_
         refine then_n ?_
         refine cond_f ha127 rfl ?_
         refine wp_skip ?_
         refine block_n ?_
         refine then_n ?_
         refine wp_region_lit ?_
         refine wl_val ha127 rfl rfl rfl (op_move ha127 rfl rfl) ?_
         intro a128 ha128; clear ha127 a127
         refine wl_val ha128 rfl rfl rfl ((op_add ha128 rfl rfl rfl).int (IntWalk.i64_in _ (by omega))) ?_
         intro a129 ha129; clear ha128 a128
         refine wl_val ha129 rfl rfl rfl (op_assign ha129 rfl rfl) ?_
         intro a130 ha130; clear ha129 a129
         refine wpList_nil ?_
         refine round_end (x := i) ((i + 1)) ?_ ?_
         ·
          refine ⟨(Sl.cons_ ha130 rfl rfl (Sl.cons_ ha130 rfl (int_eq (by omega)) (Sl.nil_ ha130))), hx28, hf29, (by omega), (by omega), (by rw [drop_cons hb41, List.all_cons, okB_t (by omega), Bool.true_and] at hF; exact hF)⟩
         ·show (r.2.length - ((i + 1)) : Nat) < r.2.length - i; omega
      ·
       rw [decide_eq_false c93] at ha92
       refine wl_skip ha92 rfl rfl rfl ?_
       intro a131 ha131; clear ha92 a92
       refine wl_skip ha131 rfl rfl rfl ?_
       intro a132 ha132; clear ha131 a131
       refine wl_skip ha132 rfl rfl rfl ?_
       intro a133 ha133; clear ha132 a132
       refine wl_skip ha133 rfl rfl rfl ?_
       intro a134 ha134; clear ha133 a133
       refine wl_skip ha134 rfl rfl rfl ?_
       intro a135 ha135; clear ha134 a134
       refine wl_skip ha135 rfl rfl rfl ?_
       intro a136 ha136; clear ha135 a135
       refine wl_val ha136 rfl rfl rfl (op_pick_f ha136 rfl rfl rfl) ?_
       intro a137 ha137; clear ha136 a136
       refine wl_val ha137 rfl rfl rfl (op_move ha137 rfl rfl) ?_
       intro a138 ha138; clear ha137 a137
       refine wl_skip ha138 rfl rfl rfl ?_
       intro a139 ha139; clear ha138 a138
       refine wl_skip ha139 rfl rfl rfl ?_
       intro a140 ha140; clear ha139 a139
       refine wl_val ha140 rfl rfl rfl (op_pick_f ha140 rfl rfl rfl) ?_
       intro a141 ha141; clear ha140 a140
       refine wpList_nil ?_
       refine then_n ?_
       refine cond_f ha141 rfl ?_
       refine wp_skip ?_
       refine block_n ?_
       refine then_n ?_
       refine wp_region_lit ?_
       refine wl_val ha141 rfl rfl rfl (op_move ha141 rfl rfl) ?_
       intro a142 ha142; clear ha141 a141
       refine wl_val ha142 rfl rfl rfl ((op_add ha142 rfl rfl rfl).int (IntWalk.i64_in _ (by omega))) ?_
       intro a143 ha143; clear ha142 a142
       refine wl_val ha143 rfl rfl rfl (op_assign ha143 rfl rfl) ?_
       intro a144 ha144; clear ha143 a143
       refine wpList_nil ?_
       refine round_end (x := i) ((i + 1)) ?_ ?_
       ·
        refine ⟨(Sl.cons_ ha144 rfl rfl (Sl.cons_ ha144 rfl (int_eq (by omega)) (Sl.nil_ ha144))), hx28, hf29, (by omega), (by omega), (by rw [drop_cons hb41, List.all_cons, okB_t (by omega), Bool.true_and] at hF; exact hF)⟩
       ·show (r.2.length - ((i + 1)) : Nat) < r.2.length - i; omega
    ·
     rw [decide_eq_false c37] at ha36
     refine cond_f ha36 rfl ?_
     refine wp_exit ?_
     refine then_e ?_
     refine then_e ?_
     refine block_hit ?_
     refine then_n ?_
     refine wp_seq ?_
     refine wp_region_lit ?_
     refine wl_val ha36 rfl rfl rfl (op_assign ha36 rfl rfl) ?_
     intro a145 ha145; clear ha36 a36
     refine wpList_nil ?_
     refine then_n ?_
     refine wp_ret ?_
     refine ret1 ha145 rfl rfl ?_
     clear ha145 a145
     rw [drop_nil (by omega), List.all_nil] at hF
     exact ret_mk hx28 (congrArg Value.bool (by first | (simp [← hF, recB, c18, c24, c37]; done) | (simp [← hF, recB, c18, c24, c37]; omega) | (rw [Bool.eq_iff_iff]; simp [← hF, recB, c18, c24, c37]; done) | (rw [Bool.eq_iff_iff]; simp [← hF, recB, c18, c24, c37]; omega)))
 ·
  rw [c18] at ha17
  refine wl_skip ha17 rfl rfl rfl ?_
  intro a146 ha146; clear ha17 a17
  refine wl_skip ha146 rfl rfl rfl ?_
  intro a147 ha147; clear ha146 a146
  refine wl_skip ha147 rfl rfl rfl ?_
  intro a148 ha148; clear ha147 a147
  refine wl_skip ha148 rfl rfl rfl ?_
  intro a149 ha149; clear ha148 a148
  refine wl_val ha149 rfl rfl rfl (op_pick_t ha149 rfl rfl rfl) ?_
  intro a150 ha150; clear ha149 a149
  refine wpList_nil ?_
  refine then_n ?_
  refine cond_t ha150 rfl ?_
  refine wp_seq ?_
  refine wp_region_lit ?_
  refine wl_val ha150 rfl rfl rfl (op_assign ha150 rfl rfl) ?_
  intro a151 ha151; clear ha150 a150
  refine wpList_nil ?_
  refine then_n ?_
  refine wp_ret ?_
  refine then_r ?_
  refine ret1 ha151 rfl rfl ?_
  clear ha151 a151
  
  exact ret_mk hx15 (congrArg Value.bool (by first | (simp [recB, c18]; done) | (simp [recB, c18]; omega) | (rw [Bool.eq_iff_iff]; simp [recB, c18]; done) | (rw [Bool.eq_iff_iff]; simp [recB, c18]; omega)))

theorem c_spec_l32Is (w0 : World) (r : Int × Str) (g0 : I64 r.1) (g1 : r.2.length ≤ 9223372036854775807) :
  Calls Try.prog 48 #[.agg #[.int .i64 r.1, St r.2]] w0 (Ret w0 (fun v _ => v = .bool (recB r))) := by
 refine enter (N := 43) Try.func48 rfl rfl rfl ?_
 intro a0 ha0
 have hx0 := Ext.rfl' w0
 refine wp_seq ?_
 refine wp_region_lit ?_
 refine wl_eff ha0 rfl rfl rfl (op_box' ha0 rfl rfl rfl) ?_
 rintro _ w2 ⟨rfl, he3, hb4, hz5⟩ a6 ha6; clear ha0 a0
 have hx7 := hx0.trans' he3
 have hzhx7 := he3.size
 refine wl_val ha6 rfl rfl rfl (op_assign ha6 rfl rfl) ?_
 intro a8 ha8; clear ha6 a6
 refine wpList_nil ?_
 refine then_n ?_
 refine wp_seq ?_
 refine wp_seq ?_
 refine wp_region_lit ?_
 refine wl_val ha8 rfl rfl rfl (op_assign ha8 rfl rfl) ?_
 intro a9 ha9; clear ha8 a8
 refine wpList_nil ?_
 refine then_n ?_
 refine wp_block ?_
 refine loop_inv (X := Nat) (fun (i : Nat) fr wl => Sl 43 fr [(1, .pointer (some (⟨w0.heap.size, 0, none⟩ : Addr))), (3, .int .i64 ((i : Nat) : Int))] ∧ Ext w0 wl ∧ Box wl w0.heap.size 36 [.int .i64 r.1, St r.2] ∧ w2.heap.size ≤ wl.heap.size ∧ (i ≤ r.2.length) ∧ ((r.2.drop i).all okB = r.2.all okB)) (fun (i : Nat) => r.2.length - i) (0) ?_ ?_
 ·
  exact ⟨(Sl.cons_ ha9 rfl rfl (Sl.cons_ ha9 rfl (int_eq (by omega)) (Sl.nil_ ha9))), hx7, hb4, (by omega), (by first | omega | (simp; done) | (simp; omega) | assumption), (by first | omega | (simp; done) | (simp; omega) | assumption)⟩
 ·
  clear ha9 a9
  rintro i a13 w10 ⟨ha13, hx11, hf12, hzl14, hi, hF⟩
  have hzhx11 := hx11.size
  refine wp_seq ?_
  refine wp_seq ?_
  refine wp_region_lit ?_
  refine wl_val ha13 rfl rfl rfl (op_move ha13 rfl rfl) ?_
  intro a15 ha15; clear ha13 a13
  refine wl_val ha15 rfl rfl rfl (op_fieldAddr (sz := 0) ha15 rfl Try.underlying36 rfl rfl ti9 rfl) ?_
  intro a16 ha16; clear ha15 a15
  refine wl_val ha16 rfl rfl rfl (op_loadF (off := 1) ha16 rfl Try.underlying9 rfl rfl hf12.cells rfl) ?_
  intro a17 ha17; clear ha16 a16
  refine wl_val ha17 rfl rfl rfl (op_len_str ha17 rfl Try.underlying9 rfl) ?_
  intro a18 ha18; clear ha17 a17
  refine wl_val ha18 rfl rfl rfl (op_lss ha18 rfl rfl rfl) ?_
  intro a19 ha19; clear ha18 a18
  refine wpList_nil ?_
  refine then_n ?_
  by_cases c20 : ((i : Nat) : Int) < ((r.2.length : Nat) : Int)
  ·
   rw [decide_eq_true c20] at ha19
   refine cond_t ha19 rfl ?_
   refine wp_skip ?_
   refine then_n ?_
   refine wp_seq ?_
   refine wp_block ?_
   refine wp_seq ?_
   refine wp_region_lit ?_
   refine wl_val ha19 rfl rfl rfl (op_fieldAddr (sz := 0) ha19 rfl Try.underlying36 rfl rfl ti9 rfl) ?_
   intro a21 ha21; clear ha19 a19
   refine wl_val ha21 rfl rfl rfl (op_loadF (off := 1) ha21 rfl Try.underlying9 rfl rfl hf12.cells rfl) ?_
   intro a22 ha22; clear ha21 a21
   refine wl_val ha22 rfl rfl rfl (op_move ha22 rfl rfl) ?_
   intro a23 ha23; clear ha22 a22
   obtain ⟨b24, hb24⟩ := get_ex (xs := r.2) (j := i) (by omega)
   have b24_lt := b24.toNat_lt
   refine wl_val ha23 rfl rfl rfl (op_index_str ha23 rfl Try.underlying9 rfl rfl (by omega) hb24) ?_
   intro a25 ha25; clear ha23 a23
   refine wl_val ha25 rfl rfl rfl (op_assign ha25 rfl rfl) ?_
   intro a26 ha26; clear ha25 a25
   refine wpList_nil ?_
   refine then_n ?_
   refine wp_seq ?_
   refine wp_region_lit ?_
   refine wl_val ha26 rfl rfl rfl (op_move ha26 rfl rfl) ?_
   intro a27 ha27; clear ha26 a26
   refine wl_val ha27 rfl rfl rfl ((op_neq ha27 rfl rfl rfl).to (congrArg Value.bool decide_not)) ?_
   intro a28 ha28; clear ha27 a27
   refine wl_val ha28 rfl rfl rfl (op_move ha28 rfl rfl) ?_
   intro a29 ha29; clear ha28 a28
   by_cases c30 : (b24.toNat : Int) = (32 : Int)
   ·
    rw [decide_eq_true c30] at ha29
    refine wl_skip ha29 rfl rfl rfl ?_
    intro a31 ha31; clear ha29 a29
    refine wl_skip ha31 rfl rfl rfl ?_
    intro a32 ha32; clear ha31 a31
    refine wl_skip ha32 rfl rfl rfl ?_
    intro a33 ha33; clear ha32 a32
    refine wl_skip ha33 rfl rfl rfl ?_
    intro a34 ha34; clear ha33 a33
    refine wl_skip ha34 rfl rfl rfl ?_
    intro a35 ha35; clear ha34 a34
    refine wl_skip ha35 rfl rfl rfl ?_
    intro a36 ha36; clear ha35 a35
    refine wl_val ha36 rfl rfl rfl (op_pick_f ha36 rfl rfl rfl) ?_
    intro a37 ha37; clear ha36 a36
    refine wl_val ha37 rfl rfl rfl (op_move ha37 rfl rfl) ?_
    intro a38 ha38; clear ha37 a37
    refine wl_skip ha38 rfl rfl rfl ?_
    intro a39 ha39; clear ha38 a38
    refine wl_skip ha39 rfl rfl rfl ?_
    intro a40 ha40; clear ha39 a39
    refine wl_skip ha40 rfl rfl rfl ?_
    intro a41 ha41; clear ha40 a40
    refine wl_skip ha41 rfl rfl rfl ?_
    intro a42 ha42; clear ha41 a41
    refine wl_skip ha42 rfl rfl rfl ?_
    intro a43 ha43; clear ha42 a42
    refine wl_skip ha43 rfl rfl rfl ?_
    intro a44 ha44; clear ha43 a43
    refine wl_val ha44 rfl rfl rfl (op_pick_f ha44 rfl rfl rfl) ?_
    intro a45 ha45; clear ha44 a44
    refine wpList_nil ?_
    refine then_n ?_
    refine cond_f ha45 rfl ?_
    refine wp_skip ?_
    refine block_n ?_
    refine then_n ?_
    refine wp_region_lit ?_
    refine wl_val ha45 rfl rfl rfl (op_move ha45 rfl rfl) ?_
    intro a46 ha46; clear ha45 a45
    refine wl_val ha46 rfl rfl rfl ((op_add ha46 rfl rfl rfl).int (IntWalk.i64_in _ (by omega))) ?_
    intro a47 ha47; clear ha46 a46
    refine wl_val ha47 rfl rfl rfl (op_assign ha47 rfl rfl) ?_
    intro a48 ha48; clear ha47 a47
    refine wpList_nil ?_
    refine round_end (x := i) ((i + 1)) ?_ ?_
    ·
     refine ⟨(Sl.cons_ ha48 rfl rfl (Sl.cons_ ha48 rfl (int_eq (by omega)) (Sl.nil_ ha48))), hx11, hf12, (by omega), (by omega), (by rw [drop_cons hb24, List.all_cons, okB_t (by omega), Bool.true_and] at hF; exact hF)⟩
    ·show (r.2.length - ((i + 1)) : Nat) < r.2.length - i; omega
   ·
    rw [decide_eq_false c30] at ha29
    refine wl_val ha29 rfl rfl rfl (op_move ha29 rfl rfl) ?_
    intro a49 ha49; clear ha29 a29
    refine wl_val ha49 rfl rfl rfl (op_lss ha49 rfl rfl rfl) ?_
    intro a50 ha50; clear ha49 a49
    refine wl_val ha50 rfl rfl rfl (op_move ha50 rfl rfl) ?_
    intro a51 ha51; clear ha50 a50
    by_cases c52 : (b24.toNat : Int) < (48 : Int)
    ·
     rw [decide_eq_true c52] at ha51
     refine wl_skip ha51 rfl rfl rfl ?_
     intro a53 ha53; clear ha51 a51
     refine wl_skip ha53 rfl rfl rfl ?_
     intro a54 ha54; clear ha53 a53
     refine wl_val ha54 rfl rfl rfl (op_pick_t ha54 rfl rfl rfl) ?_
     intro a55 ha55; clear ha54 a54
     refine wl_val ha55 rfl rfl rfl (op_pick_t ha55 rfl rfl rfl) ?_
     intro a56 ha56; clear ha55 a55
     refine wl_val ha56 rfl rfl rfl (op_move ha56 rfl rfl) ?_
     intro a57 ha57; clear ha56 a56
     refine wl_val ha57 rfl rfl rfl (op_move ha57 rfl rfl) ?_
     intro a58 ha58; clear ha57 a57
     refine wl_val ha58 rfl rfl rfl (op_lss ha58 rfl rfl rfl) ?_
     intro a59 ha59; clear ha58 a58
     refine wl_val ha59 rfl rfl rfl (op_move ha59 rfl rfl) ?_
     intro a60 ha60; clear ha59 a59
     by_cases c61 : (b24.toNat : Int) < (97 : Int)
     ·
      rw [decide_eq_true c61] at ha60
      refine wl_skip ha60 rfl rfl rfl ?_
      intro a62 ha62; clear ha60 a60
      refine wl_skip ha62 rfl rfl rfl ?_
      intro a63 ha63; clear ha62 a62
      refine wl_val ha63 rfl rfl rfl (op_pick_t ha63 rfl rfl rfl) ?_
      intro a64 ha64; clear ha63 a63
      refine wl_val ha64 rfl rfl rfl (op_pick_t ha64 rfl rfl rfl) ?_
      intro a65 ha65; clear ha64 a64
      refine wpList_nil ?_
      refine then_n ?_
      refine cond_t ha65 rfl ?_
      refine wp_seq ?_
      refine wp_region_lit ?_
      refine wl_val ha65 rfl rfl rfl (op_assign ha65 rfl rfl) ?_
      intro a66 ha66; clear ha65 a65
      refine wpList_nil ?_
      refine then_n ?_
      refine wp_ret ?_
      refine block_r ?_
      refine then_r ?_
      refine then_r ?_
      refine block_r ?_
      refine then_r ?_
      refine ret1 ha66 rfl rfl ?_
      clear ha66 a66
      rw [drop_cons hb24, List.all_cons, okB_f (by omega), Bool.false_and] at hF
      exact ret_mk hx11 (congrArg Value.bool (by first | (simp [← hF, recB, c20, c30, c52, c61]; done) | (simp [← hF, recB, c20, c30, c52, c61]; omega) | (rw [Bool.eq_iff_iff]; simp [← hF, recB, c20, c30, c52, c61]; done) | (rw [Bool.eq_iff_iff]; simp [← hF, recB, c20, c30, c52, c61]; omega)))
     ·
      rw [decide_eq_false c61] at ha60
      refine wl_val ha60 rfl rfl rfl (op_move ha60 rfl rfl) ?_
      intro a67 ha67; clear ha60 a60
      refine wl_val ha67 rfl rfl rfl (op_gtr ha67 rfl rfl rfl) ?_
      intro a68 ha68; clear ha67 a67
      refine wl_val ha68 rfl rfl rfl (op_pick_f ha68 rfl rfl rfl) ?_
      intro a69 ha69; clear ha68 a68
      refine wl_val ha69 rfl rfl rfl (op_pick_t ha69 rfl rfl rfl) ?_
      intro a70 ha70; clear ha69 a69
      refine wpList_nil ?_
      refine then_n ?_
      by_cases c71 : (122 : Int) < (b24.toNat : Int)
      ·
       rw [decide_eq_true c71] at ha70
       refine cond_t ha70 rfl ?_
       refine wp_seq ?_
       refine wp_region_lit ?_
       refine wl_val ha70 rfl rfl rfl (op_assign ha70 rfl rfl) ?_
       intro a72 ha72; clear ha70 a70
       refine wpList_nil ?_
       refine then_n ?_
       refine wp_ret ?_
       refine block_r ?_
       refine then_r ?_
       refine then_r ?_
       refine block_r ?_
       refine then_r ?_
       refine ret1 ha72 rfl rfl ?_
       clear ha72 a72
       rw [drop_cons hb24, List.all_cons, okB_f (by omega), Bool.false_and] at hF
       exact ret_mk hx11 (congrArg Value.bool (by first | (simp [← hF, recB, c20, c30, c52, c61, c71]; done) | (simp [← hF, recB, c20, c30, c52, c61, c71]; omega) | (rw [Bool.eq_iff_iff]; simp [← hF, recB, c20, c30, c52, c61, c71]; done) | (rw [Bool.eq_iff_iff]; simp [← hF, recB, c20, c30, c52, c61, c71]; omega)))
      ·
       rw [decide_eq_false c71] at ha70
       refine cond_f ha70 rfl ?_
       refine wp_skip ?_
       refine block_n ?_
       refine then_n ?_
       refine wp_region_lit ?_
       refine wl_val ha70 rfl rfl rfl (op_move ha70 rfl rfl) ?_
       intro a73 ha73; clear ha70 a70
       refine wl_val ha73 rfl rfl rfl ((op_add ha73 rfl rfl rfl).int (IntWalk.i64_in _ (by omega))) ?_
       intro a74 ha74; clear ha73 a73
       refine wl_val ha74 rfl rfl rfl (op_assign ha74 rfl rfl) ?_
       intro a75 ha75; clear ha74 a74
       refine wpList_nil ?_
       refine round_end (x := i) ((i + 1)) ?_ ?_
       ·
        refine ⟨(Sl.cons_ ha75 rfl rfl (Sl.cons_ ha75 rfl (int_eq (by omega)) (Sl.nil_ ha75))), hx11, hf12, (by omega), (by omega), (by rw [drop_cons hb24, List.all_cons, okB_t (by omega), Bool.true_and] at hF; exact hF)⟩
       ·show (r.2.length - ((i + 1)) : Nat) < r.2.length - i; omega
    ·
     rw [decide_eq_false c52] at ha51
     refine wl_val ha51 rfl rfl rfl (op_move ha51 rfl rfl) ?_
     intro a76 ha76; clear ha51 a51
     refine wl_val ha76 rfl rfl rfl (op_gtr ha76 rfl rfl rfl) ?_
     intro a77 ha77; clear ha76 a76
     refine wl_val ha77 rfl rfl rfl (op_pick_f ha77 rfl rfl rfl) ?_
     intro a78 ha78; clear ha77 a77
     refine wl_val ha78 rfl rfl rfl (op_pick_t ha78 rfl rfl rfl) ?_
     intro a79 ha79; clear ha78 a78
     refine wl_val ha79 rfl rfl rfl (op_move ha79 rfl rfl) ?_
     intro a80 ha80; clear ha79 a79
     by_cases c81 : (57 : Int) < (b24.toNat : Int)
     ·
      rw [decide_eq_true c81] at ha80
      refine wl_val ha80 rfl rfl rfl (op_move ha80 rfl rfl) ?_
      intro a82 ha82; clear ha80 a80
      refine wl_val ha82 rfl rfl rfl (op_lss ha82 rfl rfl rfl) ?_
      intro a83 ha83; clear ha82 a82
      refine wl_val ha83 rfl rfl rfl (op_move ha83 rfl rfl) ?_
      intro a84 ha84; clear ha83 a83
      by_cases c85 : (b24.toNat : Int) < (97 : Int)
      ·
       rw [decide_eq_true c85] at ha84
       refine wl_skip ha84 rfl rfl rfl ?_
       intro a86 ha86; clear ha84 a84
       refine wl_skip ha86 rfl rfl rfl ?_
       intro a87 ha87; clear ha86 a86
       refine wl_val ha87 rfl rfl rfl (op_pick_t ha87 rfl rfl rfl) ?_
       intro a88 ha88; clear ha87 a87
       refine wl_val ha88 rfl rfl rfl (op_pick_t ha88 rfl rfl rfl) ?_
       intro a89 ha89; clear ha88 a88
       refine wpList_nil ?_
       refine then_n ?_
       refine cond_t ha89 rfl ?_
       refine wp_seq ?_
       refine wp_region_lit ?_
       refine wl_val ha89 rfl rfl rfl (op_assign ha89 rfl rfl) ?_
       intro a90 ha90; clear ha89 a89
       refine wpList_nil ?_
       refine then_n ?_
       refine wp_ret ?_
       refine block_r ?_
       refine then_r ?_
       refine then_r ?_
       refine block_r ?_
       refine then_r ?_
       refine ret1 ha90 rfl rfl ?_
       clear ha90 a90
       rw [drop_cons hb24, List.all_cons, okB_f (by omega), Bool.false_and] at hF
       exact ret_mk hx11 (congrArg Value.bool (by first | (simp [← hF, recB, c20, c30, c52, c81, c85]; done) | (simp [← hF, recB, c20, c30, c52, c81, c85]; omega) | (rw [Bool.eq_iff_iff]; simp [← hF, recB, c20, c30, c52, c81, c85]; done) | (rw [Bool.eq_iff_iff]; simp [← hF, recB, c20, c30, c52, c81, c85]; omega)))
      ·
       rw [decide_eq_false c85] at ha84
       refine wl_val ha84 rfl rfl rfl (op_move ha84 rfl rfl) ?_
       intro a91 ha91; clear ha84 a84
       refine wl_val ha91 rfl rfl rfl (op_gtr ha91 rfl rfl rfl) ?_
       intro a92 ha92; clear ha91 a91
       refine wl_val ha92 rfl rfl rfl (op_pick_f ha92 rfl rfl rfl) ?_
       intro a93 ha93; clear ha92 a92
       refine wl_val ha93 rfl rfl rfl (op_pick_t ha93 rfl rfl rfl) ?_
       intro a94 ha94; clear ha93 a93
       refine wpList_nil ?_
       refine then_n ?_
       by_cases c95 : (122 : Int) < (b24.toNat : Int)
       ·
        rw [decide_eq_true c95] at ha94
        refine cond_t ha94 rfl ?_
        refine wp_seq ?_
        refine wp_region_lit ?_
        refine wl_val ha94 rfl rfl rfl (op_assign ha94 rfl rfl) ?_
        intro a96 ha96; clear ha94 a94
        refine wpList_nil ?_
        refine then_n ?_
        refine wp_ret ?_
        refine block_r ?_
        refine then_r ?_
        refine then_r ?_
        refine block_r ?_
        refine then_r ?_
        refine ret1 ha96 rfl rfl ?_
        clear ha96 a96
        rw [drop_cons hb24, List.all_cons, okB_f (by omega), Bool.false_and] at hF
        exact ret_mk hx11 (congrArg Value.bool (by first | (simp [← hF, recB, c20, c30, c52, c81, c85, c95]; done) | (simp [← hF, recB, c20, c30, c52, c81, c85, c95]; omega) | (rw [Bool.eq_iff_iff]; simp [← hF, recB, c20, c30, c52, c81, c85, c95]; done) | (rw [Bool.eq_iff_iff]; simp [← hF, recB, c20, c30, c52, c81, c85, c95]; omega)))
       ·
        rw [decide_eq_false c95] at ha94
        refine cond_f ha94 rfl ?_
        refine wp_skip ?_
        refine block_n ?_
        refine then_n ?_
        refine wp_region_lit ?_
        refine wl_val ha94 rfl rfl rfl (op_move ha94 rfl rfl) ?_
        intro a97 ha97; clear ha94 a94
        refine wl_val ha97 rfl rfl rfl ((op_add ha97 rfl rfl rfl).int (IntWalk.i64_in _ (by omega))) ?_
        intro a98 ha98; clear ha97 a97
        refine wl_val ha98 rfl rfl rfl (op_assign ha98 rfl rfl) ?_
        intro a99 ha99; clear ha98 a98
        refine wpList_nil ?_
        refine round_end (x := i) ((i + 1)) ?_ ?_
        ·
         refine ⟨(Sl.cons_ ha99 rfl rfl (Sl.cons_ ha99 rfl (int_eq (by omega)) (Sl.nil_ ha99))), hx11, hf12, (by omega), (by omega), (by rw [drop_cons hb24, List.all_cons, okB_t (by omega), Bool.true_and] at hF; exact hF)⟩
        ·show (r.2.length - ((i + 1)) : Nat) < r.2.length - i; omega
     ·
      rw [decide_eq_false c81] at ha80
      refine wl_skip ha80 rfl rfl rfl ?_
      intro a100 ha100; clear ha80 a80
      refine wl_skip ha100 rfl rfl rfl ?_
      intro a101 ha101; clear ha100 a100
      refine wl_skip ha101 rfl rfl rfl ?_
      intro a102 ha102; clear ha101 a101
      refine wl_skip ha102 rfl rfl rfl ?_
      intro a103 ha103; clear ha102 a102
      refine wl_skip ha103 rfl rfl rfl ?_
      intro a104 ha104; clear ha103 a103
      refine wl_skip ha104 rfl rfl rfl ?_
      intro a105 ha105; clear ha104 a104
      refine wl_val ha105 rfl rfl rfl (op_pick_f ha105 rfl rfl rfl) ?_
      intro a106 ha106; clear ha105 a105
      refine wpList_nil ?_
      refine then_n ?_
      refine cond_f ha106 rfl ?_
      refine wp_skip ?_
      refine block_n ?_
      refine then_n ?_
      refine wp_region_lit ?_
      refine wl_val ha106 rfl rfl rfl (op_move ha106 rfl rfl) ?_
      intro a107 ha107; clear ha106 a106
      refine wl_val ha107 rfl rfl rfl ((op_add ha107 rfl rfl rfl).int (IntWalk.i64_in _ (by omega))) ?_
      intro a108 ha108; clear ha107 a107
      refine wl_val ha108 rfl rfl rfl (op_assign ha108 rfl rfl) ?_
      intro a109 ha109; clear ha108 a108
      refine wpList_nil ?_
      refine round_end (x := i) ((i + 1)) ?_ ?_
      ·
       refine ⟨(Sl.cons_ ha109 rfl rfl (Sl.cons_ ha109 rfl (int_eq (by omega)) (Sl.nil_ ha109))), hx11, hf12, (by omega), (by omega), (by rw [drop_cons hb24, List.all_cons, okB_t (by omega), Bool.true_and] at hF; exact hF)⟩
      ·show (r.2.length - ((i + 1)) : Nat) < r.2.length - i; omega
  ·
   rw [decide_eq_false c20] at ha19
   refine cond_f ha19 rfl ?_
   refine wp_exit ?_
   refine then_e ?_
   refine then_e ?_
   refine block_hit ?_
   refine then_n ?_
   refine wp_seq ?_
   refine wp_region_lit ?_
   refine wl_val ha19 rfl rfl rfl (op_fieldAddr (sz := 0) ha19 rfl Try.underlying36 rfl rfl ti2 rfl) ?_
   intro a110 ha110; clear ha19 a19
   refine wl_val ha110 rfl rfl rfl (op_loadF (off := 0) ha110 rfl Try.underlying2 rfl rfl hf12.cells rfl) ?_
   intro a111 ha111; clear ha110 a110
   refine wl_callR ha111 rfl rfl rfl (op_call ha111 rfl cb66 rfl) (c_spec_l01In _ r.1 (0 : Int) (9999 : Int) ) ?_
   rintro v112 w113 he114 rfl a115 ha115; clear ha111 a111
   have hx116 := hx11.trans' he114
   have hzhx116 := he114.size
   replace hf12 := hf12.ext he114
   refine wl_val ha115 rfl rfl rfl (op_move ha115 rfl rfl) ?_
   intro a117 ha117; clear ha115 a115
   rcases Bool.eq_false_or_eq_true (decide ((0 : Int) ≤ r.1) && decide (r.1 ≤ (9999 : Int))) with c118 | c118
   ·
    rw [c118] at ha117
    refine wl_val ha117 rfl rfl rfl (op_fieldAddr (sz := 0) ha117 rfl Try.underlying36 rfl rfl ti9 rfl) ?_
    intro a119 ha119; clear ha117 a117
    refine wl_val ha119 rfl rfl rfl (op_loadF (off := 1) ha119 rfl Try.underlying9 rfl rfl hf12.cells rfl) ?_
    intro a120 ha120; clear ha119 a119
    refine wl_val ha120 rfl rfl rfl (op_len_str ha120 rfl Try.underlying9 rfl) ?_
    intro a121 ha121; clear ha120 a120
    refine wl_val ha121 rfl rfl rfl (op_leq ha121 rfl rfl rfl) ?_
    intro a122 ha122; clear ha121 a121
    refine wl_val ha122 rfl rfl rfl (op_pick_t ha122 rfl rfl rfl) ?_
    intro a123 ha123; clear ha122 a122
    refine wl_val ha123 rfl rfl rfl (op_assign ha123 rfl rfl) ?_
    intro a124 ha124; clear ha123 a123
    refine wpList_nil ?_
    refine then_n ?_
    refine wp_ret ?_
    refine ret1 ha124 rfl rfl ?_
    clear ha124 a124
    rw [drop_nil (by omega), List.all_nil] at hF
    exact ret_mk hx116 (congrArg Value.bool (by first | (simp [← hF, recB, c20, c118]; done) | (simp [← hF, recB, c20, c118]; omega) | (rw [Bool.eq_iff_iff]; simp [← hF, recB, c20, c118]; done) | (rw [Bool.eq_iff_iff]; simp [← hF, recB, c20, c118]; omega)))
   ·
    rw [c118] at ha117
    refine wl_skip ha117 rfl rfl rfl ?_
    intro a125 ha125; clear ha117 a117
    refine wl_skip ha125 rfl rfl rfl ?_
    intro a126 ha126; clear ha125 a125
    refine wl_skip ha126 rfl rfl rfl ?_
    intro a127 ha127; clear ha126 a126
    refine wl_skip ha127 rfl rfl rfl ?_
    intro a128 ha128; clear ha127 a127
    refine wl_val ha128 rfl rfl rfl (op_pick_f ha128 rfl rfl rfl) ?_
    intro a129 ha129; clear ha128 a128
    refine wl_val ha129 rfl rfl rfl (op_assign ha129 rfl rfl) ?_
    intro a130 ha130; clear ha129 a129
    refine wpList_nil ?_
    refine then_n ?_
    refine wp_ret ?_
    refine ret1 ha130 rfl rfl ?_
    clear ha130 a130
    rw [drop_nil (by omega), List.all_nil] at hF
    exact ret_mk hx116 (congrArg Value.bool (by first | (simp [← hF, recB, c20, c118]; done) | (simp [← hF, recB, c20, c118]; omega) | (rw [Bool.eq_iff_iff]; simp [← hF, recB, c20, c118]; done) | (rw [Bool.eq_iff_iff]; simp [← hF, recB, c20, c118]; omega)))


end Go.Proofs.Ytkdnclpgijkceaa
