/- Are records records? -/
import Derived.Test.YtkdnclpgijkceaaW1
namespace Go.Proofs.Ytkdnclpgijkceaa
open Go Go.RowKit

/-- From here on the records rise, and each is one. -/
def riseB : Option Int → List (Int × Str) → Bool
  | _, [] => true
  | p, r :: rs => recB r && (match p with | none => true | some q => !decide (r.1 ≤ q)) && riseB (some r.1) rs
def areB (xs : List (Int × Str)) : Bool := decide (xs.length ≤ 30) && riseB none xs
/-- What stands in front of place i. -/
def prevN (xs : List (Int × Str)) (i : Nat) : Option Int := if i = 0 then none else (xs[i - 1]?).map (·.1)
theorem riseB_step {xs : List (Int × Str)} {i : Nat} {x : Int × Str} (h : xs[i]? = some x) :
    riseB (prevN xs i) (xs.drop i) = (recB x && (match prevN xs i with | none => true | some q => !decide (x.1 ≤ q)) && riseB (prevN xs (i + 1)) (xs.drop (i + 1))) := by
  rw [drop_cons h]
  have e : prevN xs (i + 1) = some x.1 := by simp [prevN, h]
  rw [e]; rfl
theorem prevN_zero (xs : List (Int × Str)) : prevN xs 0 = none := rfl
theorem prevN_pos {xs : List (Int × Str)} {i : Nat} {y : Int × Str} (h : xs[i - 1]? = some y) (hi : 0 < i) : prevN xs i = some y.1 := by
  unfold prevN; rw [if_neg (by omega), h]; rfl

theorem c_impl_AreRecords (w0 : World) (v_list : Value) (list : List (Int × Str)) {S_list : Nat → Prop} (h_list : Rds shRec S_list w0 v_list list) (g0 : list.length ≤ 1048576) :
  Calls Try.prog 16 #[v_list] w0 (Ret w0 (fun v _ => v = .bool (areB list))) := by
 refine enter (N := 34) Try.func16 rfl rfl rfl ?_
 intro a0 ha0
 have hx0 := Ext.rfl' w0
 have hl_list := h_list.length_le
 refine wp_seq ?_
 refine wp_region_lit ?_
 refine wl_val ha0 rfl rfl rfl (op_assign ha0 rfl rfl) ?_
 intro a1 ha1; clear ha0 a0
 refine wpList_nil ?_
 refine then_n ?_
 refine wp_seq ?_
 refine wp_seq ?_
 refine wp_region_lit ?_
 refine wl_val ha1 rfl rfl rfl (op_move ha1 rfl rfl) ?_
 intro a2 ha2; clear ha1 a1
 refine wl_val ha2 rfl rfl rfl (op_len_sl ha2 rfl Try.underlying25 rfl h_list) ?_
 intro a3 ha3; clear ha2 a2
 refine wl_val ha3 rfl rfl rfl (op_gtr ha3 rfl rfl rfl) ?_
 intro a4 ha4; clear ha3 a3
 refine wpList_nil ?_
 refine then_n ?_
 by_cases c5 : (30 : Int) < ((list.length : Nat) : Int)
 ·
  rw [decide_eq_true c5] at ha4
  refine cond_t ha4 rfl ?_
  refine wp_seq ?_
  refine wp_region_lit ?_
  refine wl_val ha4 rfl rfl rfl (op_assign ha4 rfl rfl) ?_
  intro a6 ha6; clear ha4 a4
  refine wpList_nil ?_
  refine then_n ?_
  refine wp_ret ?_
  refine then_r ?_
  refine ret1 ha6 rfl rfl ?_
  clear ha6 a6
  
  exact ret_mk hx0 (congrArg Value.bool (by first | (simp [areB, c5]; done) | (simp [areB, c5]; omega) | (rw [Bool.eq_iff_iff]; simp [areB, c5]; done) | (rw [Bool.eq_iff_iff]; simp [areB, c5]; omega)))
 ·
  rw [decide_eq_false c5] at ha4
  refine cond_f ha4 rfl ?_
  refine wp_skip ?_
  refine then_n ?_
  refine wp_seq ?_
  refine wp_seq ?_
  refine wp_region_lit ?_
  refine wl_val ha4 rfl rfl rfl (op_move ha4 rfl rfl) ?_
  intro a7 ha7; clear ha4 a4
  refine wl_val ha7 rfl rfl rfl (op_len_sl ha7 rfl Try.underlying25 rfl h_list) ?_
  intro a8 ha8; clear ha7 a7
  refine wl_val ha8 rfl rfl rfl (op_move ha8 rfl rfl) ?_
  intro a9 ha9; clear ha8 a8
  refine wpList_nil ?_
  refine then_n ?_
  refine wp_block ?_
  refine loop_inv (X := Nat) (fun (i : Nat) fr wl => Sl 34 fr [(0, v_list), (8, v_list), (9, .int .i64 ((list.length : Nat) : Int)), (10, .int .i64 ((i : Nat) : Int))] ∧ Ext w0 wl ∧ w0.heap.size ≤ wl.heap.size ∧ (i ≤ list.length) ∧ (riseB (prevN list i) (list.drop i) = riseB none list)) (fun (i : Nat) => list.length - i) (0) ?_ ?_
  ·
   exact ⟨(Sl.cons_ ha9 rfl rfl (Sl.cons_ ha9 rfl rfl (Sl.cons_ ha9 rfl rfl (Sl.cons_ ha9 rfl (int_eq (by omega)) (Sl.nil_ ha9))))), hx0, (by omega), (by omega), (by rfl)⟩
  ·
   clear ha9 a9
   rintro i a12 w10 ⟨ha12, hx11, hzl13, hi, hF⟩
   have hzhx11 := hx11.size
   refine wp_seq ?_
   refine wp_region_lit ?_
   refine wl_val ha12 rfl rfl rfl (op_lss ha12 rfl rfl rfl) ?_
   intro a14 ha14; clear ha12 a12
   refine wpList_nil ?_
   refine then_n ?_
   refine wp_seq ?_
   by_cases c15 : ((i : Nat) : Int) < ((list.length : Nat) : Int)
   ·
    rw [decide_eq_true c15] at ha14
    refine cond_t ha14 rfl ?_
    refine wp_skip ?_
    refine then_n ?_
    refine wp_seq ?_
    refine wp_block ?_
    refine wp_seq ?_
    refine wp_region_lit ?_
    refine wl_val ha14 rfl rfl rfl (op_move ha14 rfl rfl) ?_
    intro a16 ha16; clear ha14 a14
    obtain ⟨x17, hx17⟩ := get_ex (xs := list) (j := i) (by omega)
    obtain ⟨p18, c19, hi20, hc21, hr22, hs23⟩ := Rds.at_ h_list hx17
    obtain ⟨rfl, b24, b25⟩ := inv_shRec hr22
    refine wl_val ha16 rfl rfl rfl (op_indexAddr ha16 rfl Try.underlying25 ti36 rfl rfl (by omega) hi20) ?_
    intro a26 ha26; clear ha16 a16
    refine wl_val ha26 rfl rfl rfl (op_loadS ha26 rfl Try.underlying36 ti36 rfl rfl (hc21.ext hx11)) ?_
    intro a27 ha27; clear ha26 a26
    refine wl_eff ha27 rfl rfl rfl (op_alloc' rfl ti36 rfl) ?_
    rintro _ w29 ⟨rfl, he30, hb31, hz32⟩ a33 ha33; clear ha27 a27
    have hx34 := hx11.trans' he30
    have hzhx34 := he30.size
    refine wl_val ha33 rfl rfl rfl (op_assign ha33 rfl rfl) ?_
    intro a35 ha35; clear ha33 a33
    refine wl_effS ha35 rfl rfl (op_storeAll' ha35 rfl ti36 rfl rfl hb31 rfl rfl (by simp [Value.oneCell']) rfl) ?_
    rintro w36 ⟨hb38, hst37, hz39⟩
    have hx40 := hx34.stp hst37 (by intro q hq; cases hq; exact (by omega))
    have hzhx40 := hst37.size
    clear hb31
    refine wpList_nil ?_
    refine then_n ?_
    refine wp_seq ?_
    refine dr_enter Ext follows_mixed ?_
    intro w41 he42
    have hx43 := hx40.trans' he42
    have hzhx43 := he42.size
    replace hb38 := hb38.ext he42
    have hs44 : Ext w41 w41 := Ext.rfl' _
    refine dr_val (i := 0) ha35 rfl (by kernel_rfl) (by kernel_rfl) (by kernel_rfl) rfl rfl rfl hs44 (fun w' hw' => op_loadS ha35 rfl Try.underlying36 ti36 rfl rfl (hb38.ext hw').cells) ?_
    intro a45 ha45; clear ha35 a35
    refine dr_one (i := 1) (by kernel_rfl) ?_
    refine po_callR ha45 rfl rfl rfl rfl (op_call ha45 rfl cb49 rfl) (c_impl_isRecord _ x17 (by first | assumption | omega | (simp; omega) | (simp [mkN_length]; omega)) (by first | assumption | omega | (simp; omega) | (simp [mkN_length]; omega))) ?_
    rintro v46 w47 he48 rfl a49 ha49; clear ha45 a45
    have hs50 := hs44.trans' he48
    have hx51 := hx43.trans' he48
    have hzhx51 := he48.size
    refine ⟨hs50, ?_⟩
    refine dr_val (i := 2) ha49 rfl (by kernel_rfl) (by kernel_rfl) (by kernel_rfl) rfl rfl rfl hs50 (fun w' hw' => op_not ha49 rfl rfl) ?_
    intro a52 ha52; clear ha49 a49
    refine dr_val (i := 3) ha52 rfl (by kernel_rfl) (by kernel_rfl) (by kernel_rfl) rfl rfl rfl hs50 (fun w' hw' => op_move ha52 rfl rfl) ?_
    intro a53 ha53; clear ha52 a52
    rcases Bool.eq_false_or_eq_true (recB x17) with c54 | c54
    ·
     rw [c54] at ha53
     refine dr_val (i := 4) ha53 rfl (by kernel_rfl) (by kernel_rfl) (by kernel_rfl) rfl rfl rfl hs50 (fun w' hw' => op_move ha53 rfl rfl) ?_
     intro a55 ha55; clear ha53 a53
     refine dr_val (i := 5) ha55 rfl (by kernel_rfl) (by kernel_rfl) (by kernel_rfl) rfl rfl rfl hs50 (fun w' hw' => op_gtr ha55 rfl rfl rfl) ?_
     intro a56 ha56; clear ha55 a55
     refine dr_val (i := 6) ha56 rfl (by kernel_rfl) (by kernel_rfl) (by kernel_rfl) rfl rfl rfl hs50 (fun w' hw' => op_move ha56 rfl rfl) ?_
     intro a57 ha57; clear ha56 a56
     by_cases c58 : (0 : Int) < ((i : Nat) : Int)
     ·
      rw [decide_eq_true c58] at ha57
      refine dr_val (i := 7) ha57 rfl (by kernel_rfl) (by kernel_rfl) (by kernel_rfl) rfl rfl rfl hs50 (fun w' hw' => op_move ha57 rfl rfl) ?_
      intro a59 ha59; clear ha57 a57
      refine dr_val (i := 8) ha59 rfl (by kernel_rfl) (by kernel_rfl) (by kernel_rfl) rfl rfl rfl hs50 (fun w' hw' => op_move ha59 rfl rfl) ?_
      intro a60 ha60; clear ha59 a59
      refine dr_val (i := 9) ha60 rfl (by kernel_rfl) (by kernel_rfl) (by kernel_rfl) rfl rfl rfl hs50 (fun w' hw' => (op_sub ha60 rfl rfl rfl).int (IntWalk.i64_in _ (by omega))) ?_
      intro a61 ha61; clear ha60 a60
      obtain ⟨x62, hx62⟩ := get_ex (xs := list) (j := (i - 1)) (by omega)
      obtain ⟨p63, c64, hi65, hc66, hr67, hs68⟩ := Rds.at_ h_list hx62
      obtain ⟨rfl, b69, b70⟩ := inv_shRec hr67
      refine dr_val (i := 10) ha61 rfl (by kernel_rfl) (by kernel_rfl) (by kernel_rfl) rfl rfl rfl hs50 (fun w' hw' => op_indexAddr ha61 rfl Try.underlying25 ti36 rfl rfl (by omega) hi65) ?_
      intro a71 ha71; clear ha61 a61
      refine dr_val (i := 11) ha71 rfl (by kernel_rfl) (by kernel_rfl) (by kernel_rfl) rfl rfl rfl hs50 (fun w' hw' => op_fieldAddr (sz := 0) ha71 rfl Try.underlying36 rfl rfl ti2 rfl) ?_
      intro a72 ha72; clear ha71 a71
      refine dr_val (i := 12) ha72 rfl (by kernel_rfl) (by kernel_rfl) (by kernel_rfl) rfl rfl rfl hs50 (fun w' hw' => op_loadF (off := 0) ha72 rfl Try.underlying2 rfl rfl (hc66.ext (hx43.trans' hw')) rfl) ?_
      intro a73 ha73; clear ha72 a72
      refine dr_val (i := 13) ha73 rfl (by kernel_rfl) (by kernel_rfl) (by kernel_rfl) rfl rfl rfl hs50 (fun w' hw' => op_fieldAddr (sz := 0) ha73 rfl Try.underlying36 rfl rfl ti2 rfl) ?_
      intro a74 ha74; clear ha73 a73
      refine dr_val (i := 14) ha74 rfl (by kernel_rfl) (by kernel_rfl) (by kernel_rfl) rfl rfl rfl hs50 (fun w' hw' => op_loadF (off := 0) ha74 rfl Try.underlying2 rfl rfl (hb38.ext hw').cells rfl) ?_
      intro a75 ha75; clear ha74 a74
      refine dr_val (i := 15) ha75 rfl (by kernel_rfl) (by kernel_rfl) (by kernel_rfl) rfl rfl rfl hs50 (fun w' hw' => op_geq ha75 rfl rfl rfl) ?_
      intro a76 ha76; clear ha75 a75
      refine dr_val (i := 16) ha76 rfl (by kernel_rfl) (by kernel_rfl) (by kernel_rfl) rfl rfl rfl hs50 (fun w' hw' => op_pick_t ha76 rfl rfl rfl) ?_
      intro a77 ha77; clear ha76 a76
      refine dr_val (i := 17) ha77 rfl (by kernel_rfl) (by kernel_rfl) (by kernel_rfl) rfl rfl rfl hs50 (fun w' hw' => op_pick_f ha77 rfl rfl rfl) ?_
      intro a78 ha78; clear ha77 a77
      refine dr_end (by kernel_rfl) ?_
      replace hb38 := hb38.ext hs50
      refine then_n ?_
      by_cases c79 : x17.1 ≤ x62.1
      ·
       rw [decide_eq_true c79] at ha78
       refine cond_t ha78 rfl ?_
       refine wp_seq ?_
       refine wp_region_lit ?_
       refine wl_val ha78 rfl rfl rfl (op_assign ha78 rfl rfl) ?_
       intro a80 ha80; clear ha78 a78
       refine wpList_nil ?_
       refine then_n ?_
       refine wp_ret ?_
       refine block_r ?_
       refine then_r ?_
       refine then_r ?_
       refine block_r ?_
       refine then_r ?_
       refine ret1 ha80 rfl rfl ?_
       clear ha80 a80
       rw [riseB_step hx17] at hF
       rw [prevN_pos hx62 (by omega)] at hF
       exact ret_mk hx51 (congrArg Value.bool (by first | (simp [← hF, areB, c5, c15, c54, c58, c79]; done) | (simp [← hF, areB, c5, c15, c54, c58, c79]; omega) | (rw [Bool.eq_iff_iff]; simp [← hF, areB, c5, c15, c54, c58, c79]; done) | (rw [Bool.eq_iff_iff]; simp [← hF, areB, c5, c15, c54, c58, c79]; omega)))
      ·
       rw [decide_eq_false c79] at ha78
       refine cond_f ha78 rfl ?_
       refine wp_skip ?_
       refine block_n ?_
       refine then_n ?_
       refine wp_region_lit ?_
       refine wl_val ha78 rfl rfl rfl ((op_add ha78 rfl rfl rfl).int (IntWalk.i64_in _ (by omega))) ?_
       intro a81 ha81; clear ha78 a78
       refine wl_val ha81 rfl rfl rfl (op_move ha81 rfl rfl) ?_
       intro a82 ha82; clear ha81 a81
       refine wpList_nil ?_
       refine round_end (x := i) ((i + 1)) ?_ ?_
       ·
        refine ⟨(Sl.cons_ ha82 rfl rfl (Sl.cons_ ha82 rfl rfl (Sl.cons_ ha82 rfl rfl (Sl.cons_ ha82 rfl (int_eq (by omega)) (Sl.nil_ ha82))))), hx51, (by omega), (by omega), (by rw [riseB_step hx17] at hF; rw [prevN_pos hx62 (by omega)] at hF; simpa [c5, c15, c54, c58, c79] using hF)⟩
       ·show (list.length - ((i + 1)) : Nat) < list.length - i; omega
     ·
      rw [decide_eq_false c58] at ha57
      refine dr_skip (i := 7) ha57 rfl (by kernel_rfl) (by kernel_rfl) (by kernel_rfl) rfl rfl rfl hs50 ?_
      intro a83 ha83; clear ha57 a57
      refine dr_skip (i := 8) ha83 rfl (by kernel_rfl) (by kernel_rfl) (by kernel_rfl) rfl rfl rfl hs50 ?_
      intro a84 ha84; clear ha83 a83
      refine dr_skip (i := 9) ha84 rfl (by kernel_rfl) (by kernel_rfl) (by kernel_rfl) rfl rfl rfl hs50 ?_
      intro a85 ha85; clear ha84 a84
      refine dr_skip (i := 10) ha85 rfl (by kernel_rfl) (by kernel_rfl) (by kernel_rfl) rfl rfl rfl hs50 ?_
      intro a86 ha86; clear ha85 a85
      refine dr_skip (i := 11) ha86 rfl (by kernel_rfl) (by kernel_rfl) (by kernel_rfl) rfl rfl rfl hs50 ?_
      intro a87 ha87; clear ha86 a86
      refine dr_skip (i := 12) ha87 rfl (by kernel_rfl) (by kernel_rfl) (by kernel_rfl) rfl rfl rfl hs50 ?_
      intro a88 ha88; clear ha87 a87
      refine dr_skip (i := 13) ha88 rfl (by kernel_rfl) (by kernel_rfl) (by kernel_rfl) rfl rfl rfl hs50 ?_
      intro a89 ha89; clear ha88 a88
      refine dr_skip (i := 14) ha89 rfl (by kernel_rfl) (by kernel_rfl) (by kernel_rfl) rfl rfl rfl hs50 ?_
      intro a90 ha90; clear ha89 a89
      refine dr_skip (i := 15) ha90 rfl (by kernel_rfl) (by kernel_rfl) (by kernel_rfl) rfl rfl rfl hs50 ?_
      intro a91 ha91; clear ha90 a90
      refine dr_val (i := 16) ha91 rfl (by kernel_rfl) (by kernel_rfl) (by kernel_rfl) rfl rfl rfl hs50 (fun w' hw' => op_pick_f ha91 rfl rfl rfl) ?_
      intro a92 ha92; clear ha91 a91
      refine dr_val (i := 17) ha92 rfl (by kernel_rfl) (by kernel_rfl) (by kernel_rfl) rfl rfl rfl hs50 (fun w' hw' => op_pick_f ha92 rfl rfl rfl) ?_
      intro a93 ha93; clear ha92 a92
      refine dr_end (by kernel_rfl) ?_
      replace hb38 := hb38.ext hs50
      refine then_n ?_
      refine cond_f ha93 rfl ?_
      refine wp_skip ?_
      refine block_n ?_
      refine then_n ?_
      refine wp_region_lit ?_
      refine wl_val ha93 rfl rfl rfl ((op_add ha93 rfl rfl rfl).int (IntWalk.i64_in _ (by omega))) ?_
      intro a94 ha94; clear ha93 a93
      refine wl_val ha94 rfl rfl rfl (op_move ha94 rfl rfl) ?_
      intro a95 ha95; clear ha94 a94
      refine wpList_nil ?_
      refine round_end (x := i) ((i + 1)) ?_ ?_
      ·
       refine ⟨(Sl.cons_ ha95 rfl rfl (Sl.cons_ ha95 rfl rfl (Sl.cons_ ha95 rfl rfl (Sl.cons_ ha95 rfl (int_eq (by omega)) (Sl.nil_ ha95))))), hx51, (by omega), (by omega), (by rw [riseB_step hx17] at hF; have h0 : i = 0 := (by omega); subst h0; simpa [prevN_zero, c5, c15, c54, c58] using hF)⟩
      ·show (list.length - ((i + 1)) : Nat) < list.length - i; omega
    ·
     rw [c54] at ha53
     refine dr_skip (i := 4) ha53 rfl (by kernel_rfl) (by kernel_rfl) (by kernel_rfl) rfl rfl rfl hs50 ?_
     intro a96 ha96; clear ha53 a53
     refine dr_skip (i := 5) ha96 rfl (by kernel_rfl) (by kernel_rfl) (by kernel_rfl) rfl rfl rfl hs50 ?_
     intro a97 ha97; clear ha96 a96
     refine dr_skip (i := 6) ha97 rfl (by kernel_rfl) (by kernel_rfl) (by kernel_rfl) rfl rfl rfl hs50 ?_
     intro a98 ha98; clear ha97 a97
     refine dr_skip (i := 7) ha98 rfl (by kernel_rfl) (by kernel_rfl) (by kernel_rfl) rfl rfl rfl hs50 ?_
     intro a99 ha99; clear ha98 a98
     refine dr_skip (i := 8) ha99 rfl (by kernel_rfl) (by kernel_rfl) (by kernel_rfl) rfl rfl rfl hs50 ?_
     intro a100 ha100; clear ha99 a99
     refine dr_skip (i := 9) ha100 rfl (by kernel_rfl) (by kernel_rfl) (by kernel_rfl) rfl rfl rfl hs50 ?_
     intro a101 ha101; clear ha100 a100
     refine dr_skip (i := 10) ha101 rfl (by kernel_rfl) (by kernel_rfl) (by kernel_rfl) rfl rfl rfl hs50 ?_
     intro a102 ha102; clear ha101 a101
     refine dr_skip (i := 11) ha102 rfl (by kernel_rfl) (by kernel_rfl) (by kernel_rfl) rfl rfl rfl hs50 ?_
     intro a103 ha103; clear ha102 a102
     refine dr_skip (i := 12) ha103 rfl (by kernel_rfl) (by kernel_rfl) (by kernel_rfl) rfl rfl rfl hs50 ?_
     intro a104 ha104; clear ha103 a103
     refine dr_skip (i := 13) ha104 rfl (by kernel_rfl) (by kernel_rfl) (by kernel_rfl) rfl rfl rfl hs50 ?_
     intro a105 ha105; clear ha104 a104
     refine dr_skip (i := 14) ha105 rfl (by kernel_rfl) (by kernel_rfl) (by kernel_rfl) rfl rfl rfl hs50 ?_
     intro a106 ha106; clear ha105 a105
     refine dr_skip (i := 15) ha106 rfl (by kernel_rfl) (by kernel_rfl) (by kernel_rfl) rfl rfl rfl hs50 ?_
     intro a107 ha107; clear ha106 a106
     refine dr_skip (i := 16) ha107 rfl (by kernel_rfl) (by kernel_rfl) (by kernel_rfl) rfl rfl rfl hs50 ?_
     intro a108 ha108; clear ha107 a107
     refine dr_val (i := 17) ha108 rfl (by kernel_rfl) (by kernel_rfl) (by kernel_rfl) rfl rfl rfl hs50 (fun w' hw' => op_pick_t ha108 rfl rfl rfl) ?_
     intro a109 ha109; clear ha108 a108
     refine dr_end (by kernel_rfl) ?_
     replace hb38 := hb38.ext hs50
     refine then_n ?_
     refine cond_t ha109 rfl ?_
     refine wp_seq ?_
     refine wp_region_lit ?_
     refine wl_val ha109 rfl rfl rfl (op_assign ha109 rfl rfl) ?_
     intro a110 ha110; clear ha109 a109
     refine wpList_nil ?_
     refine then_n ?_
     refine wp_ret ?_
     refine block_r ?_
     refine then_r ?_
     refine then_r ?_
     refine block_r ?_
     refine then_r ?_
     refine ret1 ha110 rfl rfl ?_
     clear ha110 a110
     rw [riseB_step hx17] at hF
     exact ret_mk hx51 (congrArg Value.bool (by first | (simp [← hF, areB, c5, c15, c54]; done) | (simp [← hF, areB, c5, c15, c54]; omega) | (rw [Bool.eq_iff_iff]; simp [← hF, areB, c5, c15, c54]; done) | (rw [Bool.eq_iff_iff]; simp [← hF, areB, c5, c15, c54]; omega)))
   ·
    rw [decide_eq_false c15] at ha14
    refine cond_f ha14 rfl ?_
    refine wp_exit ?_
    refine then_e ?_
    refine then_e ?_
    refine block_hit ?_
    refine then_n ?_
    refine wp_seq ?_
    refine wp_region_lit ?_
    refine wl_val ha14 rfl rfl rfl (op_assign ha14 rfl rfl) ?_
    intro a111 ha111; clear ha14 a14
    refine wpList_nil ?_
    refine then_n ?_
    refine wp_ret ?_
    refine ret1 ha111 rfl rfl ?_
    clear ha111 a111
    rw [drop_nil (by omega)] at hF
    simp only [riseB] at hF
    exact ret_mk hx11 (congrArg Value.bool (by first | (simp [← hF, areB, c5, c15]; done) | (simp [← hF, areB, c5, c15]; omega) | (rw [Bool.eq_iff_iff]; simp [← hF, areB, c5, c15]; done) | (rw [Bool.eq_iff_iff]; simp [← hF, areB, c5, c15]; omega)))

theorem c_spec_AreRecords (w0 : World) (v_list : Value) (list : List (Int × Str)) {S_list : Nat → Prop} (h_list : Rds shRec S_list w0 v_list list) (g0 : list.length ≤ 1048576) :
  Calls Try.prog 14 #[v_list] w0 (Ret w0 (fun v _ => v = .bool (areB list))) := by
 refine enter (N := 37) Try.func14 rfl rfl rfl ?_
 intro a0 ha0
 have hx0 := Ext.rfl' w0
 have hl_list := h_list.length_le
 refine wp_seq ?_
 refine wp_region_lit ?_
 refine wl_val ha0 rfl rfl rfl (op_assign ha0 rfl rfl) ?_
 intro a1 ha1; clear ha0 a0
 refine wpList_nil ?_
 refine then_n ?_
 refine wp_seq ?_
 refine wp_seq ?_
 refine wp_region_lit ?_
 refine wl_val ha1 rfl rfl rfl (op_assign ha1 rfl rfl) ?_
 intro a2 ha2; clear ha1 a1
 refine wpList_nil ?_
 refine then_n ?_
 refine wp_block ?_
 refine loop_inv (X := Nat) (fun (i : Nat) fr wl => Sl 37 fr [(0, v_list), (3, .int .i64 ((i : Nat) : Int))] ∧ Ext w0 wl ∧ w0.heap.size ≤ wl.heap.size ∧ (i ≤ list.length) ∧ (riseB (prevN list i) (list.drop i) = riseB none list)) (fun (i : Nat) => list.length - i) (0) ?_ ?_
 ·
  exact ⟨(Sl.cons_ ha2 rfl rfl (Sl.cons_ ha2 rfl (int_eq (by omega)) (Sl.nil_ ha2))), hx0, (by omega), (by omega), (by rfl)⟩
 ·
  clear ha2 a2
  rintro i a5 w3 ⟨ha5, hx4, hzl6, hi, hF⟩
  have hzhx4 := hx4.size
  refine wp_seq ?_
  refine wp_seq ?_
  refine wp_region_lit ?_
  refine wl_val ha5 rfl rfl rfl (op_move ha5 rfl rfl) ?_
  intro a7 ha7; clear ha5 a5
  refine wl_val ha7 rfl rfl rfl (op_move ha7 rfl rfl) ?_
  intro a8 ha8; clear ha7 a7
  refine wl_val ha8 rfl rfl rfl (op_len_sl ha8 rfl Try.underlying25 rfl h_list) ?_
  intro a9 ha9; clear ha8 a8
  refine wl_val ha9 rfl rfl rfl (op_lss ha9 rfl rfl rfl) ?_
  intro a10 ha10; clear ha9 a9
  refine wpList_nil ?_
  refine then_n ?_
  by_cases c11 : ((i : Nat) : Int) < ((list.length : Nat) : Int)
  ·
   rw [decide_eq_true c11] at ha10
   refine cond_t ha10 rfl ?_
   refine wp_skip ?_
   refine then_n ?_
   refine wp_seq ?_
   refine wp_block ?_
   refine wp_seq ?_
   refine dr_enter Ext follows_mixed ?_
   intro w12 he13
   have hx14 := hx4.trans' he13
   have hzhx14 := he13.size
   have hs15 : Ext w12 w12 := Ext.rfl' _
   refine dr_val (i := 0) ha10 rfl (by kernel_rfl) (by kernel_rfl) (by kernel_rfl) rfl rfl rfl hs15 (fun w' hw' => op_move ha10 rfl rfl) ?_
   intro a16 ha16; clear ha10 a10
   refine dr_val (i := 1) ha16 rfl (by kernel_rfl) (by kernel_rfl) (by kernel_rfl) rfl rfl rfl hs15 (fun w' hw' => op_move ha16 rfl rfl) ?_
   intro a17 ha17; clear ha16 a16
   obtain ⟨x18, hx18⟩ := get_ex (xs := list) (j := i) (by omega)
   obtain ⟨p19, c20, hi21, hc22, hr23, hs24⟩ := Rds.at_ h_list hx18
   obtain ⟨rfl, b25, b26⟩ := inv_shRec hr23
   refine dr_val (i := 2) ha17 rfl (by kernel_rfl) (by kernel_rfl) (by kernel_rfl) rfl rfl rfl hs15 (fun w' hw' => op_indexAddr ha17 rfl Try.underlying25 ti36 rfl rfl (by omega) hi21) ?_
   intro a27 ha27; clear ha17 a17
   refine dr_val (i := 3) ha27 rfl (by kernel_rfl) (by kernel_rfl) (by kernel_rfl) rfl rfl rfl hs15 (fun w' hw' => op_loadS ha27 rfl Try.underlying36 ti36 rfl rfl (hc22.ext (hx14.trans' hw'))) ?_
   intro a28 ha28; clear ha27 a27
   refine dr_one (i := 4) (by kernel_rfl) ?_
   refine po_callR ha28 rfl rfl rfl rfl (op_call ha28 rfl cb48 rfl) (c_spec_l32Is _ x18 (by first | assumption | omega | (simp; omega) | (simp [mkN_length]; omega)) (by first | assumption | omega | (simp; omega) | (simp [mkN_length]; omega))) ?_
   rintro v29 w30 he31 rfl a32 ha32; clear ha28 a28
   have hs33 := hs15.trans' he31
   have hx34 := hx14.trans' he31
   have hzhx34 := he31.size
   refine ⟨hs33, ?_⟩
   refine dr_val (i := 5) ha32 rfl (by kernel_rfl) (by kernel_rfl) (by kernel_rfl) rfl rfl rfl hs33 (fun w' hw' => op_not ha32 rfl rfl) ?_
   intro a35 ha35; clear ha32 a32
   refine dr_val (i := 6) ha35 rfl (by kernel_rfl) (by kernel_rfl) (by kernel_rfl) rfl rfl rfl hs33 (fun w' hw' => op_move ha35 rfl rfl) ?_
   intro a36 ha36; clear ha35 a35
   rcases Bool.eq_false_or_eq_true (recB x18) with c37 | c37
   ·
    rw [c37] at ha36
    refine dr_val (i := 7) ha36 rfl (by kernel_rfl) (by kernel_rfl) (by kernel_rfl) rfl rfl rfl hs33 (fun w' hw' => op_move ha36 rfl rfl) ?_
    intro a38 ha38; clear ha36 a36
    refine dr_val (i := 8) ha38 rfl (by kernel_rfl) (by kernel_rfl) (by kernel_rfl) rfl rfl rfl hs33 (fun w' hw' => op_gtr ha38 rfl rfl rfl) ?_
    intro a39 ha39; clear ha38 a38
    refine dr_val (i := 9) ha39 rfl (by kernel_rfl) (by kernel_rfl) (by kernel_rfl) rfl rfl rfl hs33 (fun w' hw' => op_move ha39 rfl rfl) ?_
    intro a40 ha40; clear ha39 a39
    by_cases c41 : (0 : Int) < ((i : Nat) : Int)
    ·
     rw [decide_eq_true c41] at ha40
     refine dr_val (i := 10) ha40 rfl (by kernel_rfl) (by kernel_rfl) (by kernel_rfl) rfl rfl rfl hs33 (fun w' hw' => op_move ha40 rfl rfl) ?_
     intro a42 ha42; clear ha40 a40
     refine dr_val (i := 11) ha42 rfl (by kernel_rfl) (by kernel_rfl) (by kernel_rfl) rfl rfl rfl hs33 (fun w' hw' => op_move ha42 rfl rfl) ?_
     intro a43 ha43; clear ha42 a42
     refine dr_val (i := 12) ha43 rfl (by kernel_rfl) (by kernel_rfl) (by kernel_rfl) rfl rfl rfl hs33 (fun w' hw' => (op_sub ha43 rfl rfl rfl).int (IntWalk.i64_in _ (by omega))) ?_
     intro a44 ha44; clear ha43 a43
     obtain ⟨x45, hx45⟩ := get_ex (xs := list) (j := (i - 1)) (by omega)
     obtain ⟨p46, c47, hi48, hc49, hr50, hs51⟩ := Rds.at_ h_list hx45
     obtain ⟨rfl, b52, b53⟩ := inv_shRec hr50
     refine dr_val (i := 13) ha44 rfl (by kernel_rfl) (by kernel_rfl) (by kernel_rfl) rfl rfl rfl hs33 (fun w' hw' => op_indexAddr ha44 rfl Try.underlying25 ti36 rfl rfl (by omega) hi48) ?_
     intro a54 ha54; clear ha44 a44
     refine dr_val (i := 14) ha54 rfl (by kernel_rfl) (by kernel_rfl) (by kernel_rfl) rfl rfl rfl hs33 (fun w' hw' => op_fieldAddr (sz := 0) ha54 rfl Try.underlying36 rfl rfl ti2 rfl) ?_
     intro a55 ha55; clear ha54 a54
     refine dr_val (i := 15) ha55 rfl (by kernel_rfl) (by kernel_rfl) (by kernel_rfl) rfl rfl rfl hs33 (fun w' hw' => op_loadF (off := 0) ha55 rfl Try.underlying2 rfl rfl (hc49.ext (hx14.trans' hw')) rfl) ?_
     intro a56 ha56; clear ha55 a55
     refine dr_val (i := 16) ha56 rfl (by kernel_rfl) (by kernel_rfl) (by kernel_rfl) rfl rfl rfl hs33 (fun w' hw' => op_move ha56 rfl rfl) ?_
     intro a57 ha57; clear ha56 a56
     refine dr_val (i := 17) ha57 rfl (by kernel_rfl) (by kernel_rfl) (by kernel_rfl) rfl rfl rfl hs33 (fun w' hw' => op_move ha57 rfl rfl) ?_
     intro a58 ha58; clear ha57 a57
     refine dr_val (i := 18) ha58 rfl (by kernel_rfl) (by kernel_rfl) (by kernel_rfl) rfl rfl rfl hs33 (fun w' hw' => op_indexAddr ha58 rfl Try.underlying25 ti36 rfl rfl (by omega) hi21) ?_
     intro a59 ha59; clear ha58 a58
     refine dr_val (i := 19) ha59 rfl (by kernel_rfl) (by kernel_rfl) (by kernel_rfl) rfl rfl rfl hs33 (fun w' hw' => op_fieldAddr (sz := 0) ha59 rfl Try.underlying36 rfl rfl ti2 rfl) ?_
     intro a60 ha60; clear ha59 a59
     refine dr_val (i := 20) ha60 rfl (by kernel_rfl) (by kernel_rfl) (by kernel_rfl) rfl rfl rfl hs33 (fun w' hw' => op_loadF (off := 0) ha60 rfl Try.underlying2 rfl rfl (hc22.ext (hx14.trans' hw')) rfl) ?_
     intro a61 ha61; clear ha60 a60
     refine dr_val (i := 21) ha61 rfl (by kernel_rfl) (by kernel_rfl) (by kernel_rfl) rfl rfl rfl hs33 (fun w' hw' => op_geq ha61 rfl rfl rfl) ?_
     intro a62 ha62; clear ha61 a61
     refine dr_val (i := 22) ha62 rfl (by kernel_rfl) (by kernel_rfl) (by kernel_rfl) rfl rfl rfl hs33 (fun w' hw' => op_pick_t ha62 rfl rfl rfl) ?_
     intro a63 ha63; clear ha62 a62
     refine dr_val (i := 23) ha63 rfl (by kernel_rfl) (by kernel_rfl) (by kernel_rfl) rfl rfl rfl hs33 (fun w' hw' => op_pick_f ha63 rfl rfl rfl) ?_
     intro a64 ha64; clear ha63 a63
     refine dr_end (by kernel_rfl) ?_
     refine then_n ?_
     by_cases c65 : x18.1 ≤ x45.1
     ·
      rw [decide_eq_true c65] at ha64
      refine cond_t ha64 rfl ?_
      refine wp_seq ?_
      refine wp_region_lit ?_
      refine wl_val ha64 rfl rfl rfl (op_assign ha64 rfl rfl) ?_
      intro a66 ha66; clear ha64 a64
      refine wpList_nil ?_
      refine then_n ?_
      refine wp_ret ?_
      refine block_r ?_
      refine then_r ?_
      refine then_r ?_
      refine block_r ?_
      refine then_r ?_
      refine ret1 ha66 rfl rfl ?_
      clear ha66 a66
      rw [riseB_step hx18] at hF
      rw [prevN_pos hx45 (by omega)] at hF
      exact ret_mk hx34 (congrArg Value.bool (by first | (simp [← hF, areB, c11, c37, c41, c65]; done) | (simp [← hF, areB, c11, c37, c41, c65]; omega) | (rw [Bool.eq_iff_iff]; simp [← hF, areB, c11, c37, c41, c65]; done) | (rw [Bool.eq_iff_iff]; simp [← hF, areB, c11, c37, c41, c65]; omega)))
     ·
      rw [decide_eq_false c65] at ha64
      refine cond_f ha64 rfl ?_
      refine wp_skip ?_
      refine block_n ?_
      refine then_n ?_
      refine wp_region_lit ?_
      refine wl_val ha64 rfl rfl rfl (op_move ha64 rfl rfl) ?_
      intro a67 ha67; clear ha64 a64
      refine wl_val ha67 rfl rfl rfl ((op_add ha67 rfl rfl rfl).int (IntWalk.i64_in _ (by omega))) ?_
      intro a68 ha68; clear ha67 a67
      refine wl_val ha68 rfl rfl rfl (op_assign ha68 rfl rfl) ?_
      intro a69 ha69; clear ha68 a68
      refine wpList_nil ?_
      refine round_end (x := i) ((i + 1)) ?_ ?_
      ·
       refine ⟨(Sl.cons_ ha69 rfl rfl (Sl.cons_ ha69 rfl (int_eq (by omega)) (Sl.nil_ ha69))), hx34, (by omega), (by omega), (by rw [riseB_step hx18] at hF; rw [prevN_pos hx45 (by omega)] at hF; simpa [c11, c37, c41, c65] using hF)⟩
      ·show (list.length - ((i + 1)) : Nat) < list.length - i; omega
    ·
     rw [decide_eq_false c41] at ha40
     refine dr_skip (i := 10) ha40 rfl (by kernel_rfl) (by kernel_rfl) (by kernel_rfl) rfl rfl rfl hs33 ?_
     intro a70 ha70; clear ha40 a40
     refine dr_skip (i := 11) ha70 rfl (by kernel_rfl) (by kernel_rfl) (by kernel_rfl) rfl rfl rfl hs33 ?_
     intro a71 ha71; clear ha70 a70
     refine dr_skip (i := 12) ha71 rfl (by kernel_rfl) (by kernel_rfl) (by kernel_rfl) rfl rfl rfl hs33 ?_
     intro a72 ha72; clear ha71 a71
     refine dr_skip (i := 13) ha72 rfl (by kernel_rfl) (by kernel_rfl) (by kernel_rfl) rfl rfl rfl hs33 ?_
     intro a73 ha73; clear ha72 a72
     refine dr_skip (i := 14) ha73 rfl (by kernel_rfl) (by kernel_rfl) (by kernel_rfl) rfl rfl rfl hs33 ?_
     intro a74 ha74; clear ha73 a73
     refine dr_skip (i := 15) ha74 rfl (by kernel_rfl) (by kernel_rfl) (by kernel_rfl) rfl rfl rfl hs33 ?_
     intro a75 ha75; clear ha74 a74
     refine dr_skip (i := 16) ha75 rfl (by kernel_rfl) (by kernel_rfl) (by kernel_rfl) rfl rfl rfl hs33 ?_
     intro a76 ha76; clear ha75 a75
     refine dr_skip (i := 17) ha76 rfl (by kernel_rfl) (by kernel_rfl) (by kernel_rfl) rfl rfl rfl hs33 ?_
     intro a77 ha77; clear ha76 a76
     refine dr_skip (i := 18) ha77 rfl (by kernel_rfl) (by kernel_rfl) (by kernel_rfl) rfl rfl rfl hs33 ?_
     intro a78 ha78; clear ha77 a77
     refine dr_skip (i := 19) ha78 rfl (by kernel_rfl) (by kernel_rfl) (by kernel_rfl) rfl rfl rfl hs33 ?_
     intro a79 ha79; clear ha78 a78
     refine dr_skip (i := 20) ha79 rfl (by kernel_rfl) (by kernel_rfl) (by kernel_rfl) rfl rfl rfl hs33 ?_
     intro a80 ha80; clear ha79 a79
     refine dr_skip (i := 21) ha80 rfl (by kernel_rfl) (by kernel_rfl) (by kernel_rfl) rfl rfl rfl hs33 ?_
     intro a81 ha81; clear ha80 a80
     refine dr_val (i := 22) ha81 rfl (by kernel_rfl) (by kernel_rfl) (by kernel_rfl) rfl rfl rfl hs33 (fun w' hw' => op_pick_f ha81 rfl rfl rfl) ?_
     intro a82 ha82; clear ha81 a81
     refine dr_val (i := 23) ha82 rfl (by kernel_rfl) (by kernel_rfl) (by kernel_rfl) rfl rfl rfl hs33 (fun w' hw' => op_pick_f ha82 rfl rfl rfl) ?_
     intro a83 ha83; clear ha82 a82
     refine dr_end (by kernel_rfl) ?_
     refine then_n ?_
     refine cond_f ha83 rfl ?_
     refine wp_skip ?_
     refine block_n ?_
     refine then_n ?_
     refine wp_region_lit ?_
     refine wl_val ha83 rfl rfl rfl (op_move ha83 rfl rfl) ?_
     intro a84 ha84; clear ha83 a83
     refine wl_val ha84 rfl rfl rfl ((op_add ha84 rfl rfl rfl).int (IntWalk.i64_in _ (by omega))) ?_
     intro a85 ha85; clear ha84 a84
     refine wl_val ha85 rfl rfl rfl (op_assign ha85 rfl rfl) ?_
     intro a86 ha86; clear ha85 a85
     refine wpList_nil ?_
     refine round_end (x := i) ((i + 1)) ?_ ?_
     ·
      refine ⟨(Sl.cons_ ha86 rfl rfl (Sl.cons_ ha86 rfl (int_eq (by omega)) (Sl.nil_ ha86))), hx34, (by omega), (by omega), (by rw [riseB_step hx18] at hF; have h0 : i = 0 := (by omega); subst h0; simpa [prevN_zero, c11, c37, c41] using hF)⟩
     ·show (list.length - ((i + 1)) : Nat) < list.length - i; omega
   ·
    rw [c37] at ha36
    refine dr_skip (i := 7) ha36 rfl (by kernel_rfl) (by kernel_rfl) (by kernel_rfl) rfl rfl rfl hs33 ?_
    intro a87 ha87; clear ha36 a36
    refine dr_skip (i := 8) ha87 rfl (by kernel_rfl) (by kernel_rfl) (by kernel_rfl) rfl rfl rfl hs33 ?_
    intro a88 ha88; clear ha87 a87
    refine dr_skip (i := 9) ha88 rfl (by kernel_rfl) (by kernel_rfl) (by kernel_rfl) rfl rfl rfl hs33 ?_
    intro a89 ha89; clear ha88 a88
    refine dr_skip (i := 10) ha89 rfl (by kernel_rfl) (by kernel_rfl) (by kernel_rfl) rfl rfl rfl hs33 ?_
    intro a90 ha90; clear ha89 a89
    refine dr_skip (i := 11) ha90 rfl (by kernel_rfl) (by kernel_rfl) (by kernel_rfl) rfl rfl rfl hs33 ?_
    intro a91 ha91; clear ha90 a90
    refine dr_skip (i := 12) ha91 rfl (by kernel_rfl) (by kernel_rfl) (by kernel_rfl) rfl rfl rfl hs33 ?_
    intro a92 ha92; clear ha91 a91
    refine dr_skip (i := 13) ha92 rfl (by kernel_rfl) (by kernel_rfl) (by kernel_rfl) rfl rfl rfl hs33 ?_
    intro a93 ha93; clear ha92 a92
    refine dr_skip (i := 14) ha93 rfl (by kernel_rfl) (by kernel_rfl) (by kernel_rfl) rfl rfl rfl hs33 ?_
    intro a94 ha94; clear ha93 a93
    refine dr_skip (i := 15) ha94 rfl (by kernel_rfl) (by kernel_rfl) (by kernel_rfl) rfl rfl rfl hs33 ?_
    intro a95 ha95; clear ha94 a94
    refine dr_skip (i := 16) ha95 rfl (by kernel_rfl) (by kernel_rfl) (by kernel_rfl) rfl rfl rfl hs33 ?_
    intro a96 ha96; clear ha95 a95
    refine dr_skip (i := 17) ha96 rfl (by kernel_rfl) (by kernel_rfl) (by kernel_rfl) rfl rfl rfl hs33 ?_
    intro a97 ha97; clear ha96 a96
    refine dr_skip (i := 18) ha97 rfl (by kernel_rfl) (by kernel_rfl) (by kernel_rfl) rfl rfl rfl hs33 ?_
    intro a98 ha98; clear ha97 a97
    refine dr_skip (i := 19) ha98 rfl (by kernel_rfl) (by kernel_rfl) (by kernel_rfl) rfl rfl rfl hs33 ?_
    intro a99 ha99; clear ha98 a98
    refine dr_skip (i := 20) ha99 rfl (by kernel_rfl) (by kernel_rfl) (by kernel_rfl) rfl rfl rfl hs33 ?_
    intro a100 ha100; clear ha99 a99
    refine dr_skip (i := 21) ha100 rfl (by kernel_rfl) (by kernel_rfl) (by kernel_rfl) rfl rfl rfl hs33 ?_
    intro a101 ha101; clear ha100 a100
    refine dr_skip (i := 22) ha101 rfl (by kernel_rfl) (by kernel_rfl) (by kernel_rfl) rfl rfl rfl hs33 ?_
    intro a102 ha102; clear ha101 a101
    refine dr_val (i := 23) ha102 rfl (by kernel_rfl) (by kernel_rfl) (by kernel_rfl) rfl rfl rfl hs33 (fun w' hw' => op_pick_t ha102 rfl rfl rfl) ?_
    intro a103 ha103; clear ha102 a102
    refine dr_end (by kernel_rfl) ?_
    refine then_n ?_
    refine cond_t ha103 rfl ?_
    refine wp_seq ?_
    refine wp_region_lit ?_
    refine wl_val ha103 rfl rfl rfl (op_assign ha103 rfl rfl) ?_
    intro a104 ha104; clear ha103 a103
    refine wpList_nil ?_
    refine then_n ?_
    refine wp_ret ?_
    refine block_r ?_
    refine then_r ?_
    refine then_r ?_
    refine block_r ?_
    refine then_r ?_
    refine ret1 ha104 rfl rfl ?_
    clear ha104 a104
    rw [riseB_step hx18] at hF
    exact ret_mk hx34 (congrArg Value.bool (by first | (simp [← hF, areB, c11, c37]; done) | (simp [← hF, areB, c11, c37]; omega) | (rw [Bool.eq_iff_iff]; simp [← hF, areB, c11, c37]; done) | (rw [Bool.eq_iff_iff]; simp [← hF, areB, c11, c37]; omega)))
  ·
   rw [decide_eq_false c11] at ha10
   refine cond_f ha10 rfl ?_
   refine wp_exit ?_
   refine then_e ?_
   refine then_e ?_
   refine block_hit ?_
   refine then_n ?_
   refine wp_seq ?_
   refine wp_region_lit ?_
   refine wl_val ha10 rfl rfl rfl (op_move ha10 rfl rfl) ?_
   intro a105 ha105; clear ha10 a10
   refine wl_val ha105 rfl rfl rfl (op_len_sl ha105 rfl Try.underlying25 rfl h_list) ?_
   intro a106 ha106; clear ha105 a105
   refine wl_val ha106 rfl rfl rfl (op_leq ha106 rfl rfl rfl) ?_
   intro a107 ha107; clear ha106 a106
   refine wl_val ha107 rfl rfl rfl (op_assign ha107 rfl rfl) ?_
   intro a108 ha108; clear ha107 a107
   refine wpList_nil ?_
   refine then_n ?_
   refine wp_ret ?_
   refine ret1 ha108 rfl rfl ?_
   clear ha108 a108
   rw [drop_nil (by omega)] at hF
   simp only [riseB] at hF
   exact ret_mk hx4 (congrArg Value.bool (by first | (simp [← hF, areB, c11]; done) | (simp [← hF, areB, c11]; omega) | (rw [Bool.eq_iff_iff]; simp [← hF, areB, c11]; done) | (rw [Bool.eq_iff_iff]; simp [← hF, areB, c11]; omega)))


end Go.Proofs.Ytkdnclpgijkceaa
