/- Are records records? -/
import Derived.Test.YtkdnclpgijkceaaW1
namespace Go.Proofs.Ytkdnclpgijkceaa
open Go Go.RowKit

/-- From here on the records rise, and each is one. -/
def riseB : Option Int → List (Int × Str) → Bool
  | _, [] => true
  | p, r :: rs => recB r && (match p with | none => true | some q => !decide (r.1 ≤ q)) && riseB (some r.1) rs
def areB (xs : List (Int × Str)) : Bool := decide (xs.length ≤ 30) && riseB none xs
/-- What stands in front of place i. -/
def prevN (xs : List (Int × Str)) (i : Nat) : Option Int := if i = 0 then none else (xs[i - 1]?).map (·.1)
theorem riseB_step {xs : List (Int × Str)} {i : Nat} {x : Int × Str} (h : xs[i]? = some x) :
    riseB (prevN xs i) (xs.drop i) = (recB x && (match prevN xs i with | none => true | some q => !decide (x.1 ≤ q)) && riseB (prevN xs (i + 1)) (xs.drop (i + 1))) := by
  rw [drop_cons h]
  have e : prevN xs (i + 1) = some x.1 := by simp [prevN, h]
  rw [e]; rfl
theorem prevN_zero (xs : List (Int × Str)) : prevN xs 0 = none := rfl
theorem prevN_pos {xs : List (Int × Str)} {i : Nat} {y : Int × Str} (h : xs[i - 1]? = some y) (hi : 0 < i) : prevN xs i = some y.1 := by
  unfold prevN; rw [if_neg (by omega), h]; rfl

theorem c_impl_AreRecords (w0 : World) (v_list : Value) (list : List (Int × Str)) {S_list : Nat → Prop} (h_list : Rds shRec S_list w0 v_list list) (g0 : list.length ≤ 1048576) :
    Calls Try.prog 16 #[v_list] w0 (Ret w0 (fun v _ => v = .bool (areB list))) := by
  refine enter (N := 34) Try.func16 rfl rfl rfl ?_
  intro a0 ha0
  have hx0 := Ext.rfl' w0
  have hl_list := h_list.length_le
  refine wp_seq ?_
  refine wp_region_lit ?_
  refine wl_val ha0 rfl rfl rfl (op_assign ha0 rfl rfl) ?_
  intro a1 ha1; clear ha0 a0
  refine wpList_nil ?_
  refine then_n ?_
  refine wp_seq ?_
  refine wp_seq ?_
  refine wp_region_lit ?_
  refine wl_val ha1 rfl rfl rfl (op_move ha1 rfl rfl) ?_
  intro a2 ha2; clear ha1 a1
  refine wl_val ha2 rfl rfl rfl (op_len_sl ha2 rfl Try.underlying25 rfl h_list) ?_
  intro a3 ha3; clear ha2 a2
  refine wl_val ha3 rfl rfl rfl (op_gtr ha3 rfl rfl rfl) ?_
  intro a4 ha4; clear ha3 a3
  refine wpList_nil ?_
  refine then_n ?_
  by_cases c5 : (30 : Int) < ((list.length : Nat) : Int)
  ·
    rw [decide_eq_true c5] at ha4
    refine cond_t ha4 rfl ?_
    refine wp_seq ?_
    refine wp_region_lit ?_
    refine wl_val ha4 rfl rfl rfl (op_assign ha4 rfl rfl) ?_
    intro a6 ha6; clear ha4 a4
    refine wpList_nil ?_
    refine then_n ?_
    refine wp_ret ?_
    refine then_r ?_
    refine ret1 ha6 rfl rfl ?_
    clear ha6 a6
    
    exact ret_mk hx0 (congrArg Value.bool (by first | (simp [areB, c5]; done) | (simp [areB, c5]; omega) | (rw [Bool.eq_iff_iff]; simp [areB, c5]; done) | (rw [Bool.eq_iff_iff]; simp [areB, c5]; omega)))
  ·
    rw [decide_eq_false c5] at ha4
    refine cond_f ha4 rfl ?_
    refine wp_skip ?_
    refine then_n ?_
    refine wp_seq ?_
    refine wp_seq ?_
    refine wp_region_lit ?_
    refine wl_val ha4 rfl rfl rfl (op_move ha4 rfl rfl) ?_
    intro a7 ha7; clear ha4 a4
    refine wl_val ha7 rfl rfl rfl (op_len_sl ha7 rfl Try.underlying25 rfl h_list) ?_
    intro a8 ha8; clear ha7 a7
    refine wl_val ha8 rfl rfl rfl (op_move ha8 rfl rfl) ?_
    intro a9 ha9; clear ha8 a8
    refine wpList_nil ?_
    refine then_n ?_
    refine wp_block ?_
    refine loop_inv (X := Nat) (fun (i : Nat) fr wl => Sl 34 fr [(0, v_list), (8, v_list), (9, .int .i64 ((list.length : Nat) : Int)), (10, .int .i64 ((i : Nat) : Int))] ∧ Ext w0 wl ∧ (i ≤ list.length) ∧ (riseB (prevN list i) (list.drop i) = riseB none list)) (fun (i : Nat) => list.length - i) (0) ?_ ?_
    ·
      exact ⟨(Sl.cons_ ha9 rfl rfl (Sl.cons_ ha9 rfl rfl (Sl.cons_ ha9 rfl rfl (Sl.cons_ ha9 rfl (int_eq (by omega)) (Sl.nil_ ha9))))), hx0, (by omega), (by rfl)⟩
    ·
      clear ha9 a9
      rintro i a12 w10 ⟨ha12, hx11, hi, hF⟩
      have hzhx11 := hx11.size
      refine wp_seq ?_
      refine wp_region_lit ?_
      refine wl_val ha12 rfl rfl rfl (op_lss ha12 rfl rfl rfl) ?_
      intro a13 ha13; clear ha12 a12
      refine wpList_nil ?_
      refine then_n ?_
      refine wp_seq ?_
      by_cases c14 : ((i : Nat) : Int) < ((list.length : Nat) : Int)
      ·
        rw [decide_eq_true c14] at ha13
        refine cond_t ha13 rfl ?_
        refine wp_skip ?_
        refine then_n ?_
        refine wp_seq ?_
        refine wp_block ?_
        refine wp_seq ?_
        refine wp_region_lit ?_
        refine wl_val ha13 rfl rfl rfl (op_move ha13 rfl rfl) ?_
        intro a15 ha15; clear ha13 a13
        obtain ⟨x16, hx16⟩ := get_ex (xs := list) (j := i) (by omega)
        obtain ⟨p17, c18, hi19, hc20, hr21, hs22⟩ := Rds.at_ h_list hx16
        obtain ⟨rfl, b23, b24⟩ := inv_shRec hr21
        refine wl_val ha15 rfl rfl rfl (op_indexAddr ha15 rfl Try.underlying25 ti36 rfl rfl (by omega) hi19) ?_
        intro a25 ha25; clear ha15 a15
        refine wl_val ha25 rfl rfl rfl (op_loadS ha25 rfl Try.underlying36 ti36 rfl rfl (hc20.ext hx11)) ?_
        intro a26 ha26; clear ha25 a25
        refine wl_eff ha26 rfl rfl rfl (op_alloc' rfl ti36 rfl) ?_
        rintro _ w28 ⟨rfl, he29, hb30, hz31⟩ a32 ha32; clear ha26 a26
        have hx33 := hx11.trans' he29
        have hzhx33 := he29.size
        refine wl_val ha32 rfl rfl rfl (op_assign ha32 rfl rfl) ?_
        intro a34 ha34; clear ha32 a32
        refine wl_effS ha34 rfl rfl (op_storeAll' ha34 rfl ti36 rfl rfl hb30 rfl rfl (by simp [Value.oneCell']) rfl) ?_
        rintro w35 ⟨hb37, hst36, hz38⟩
        have hx39 := hx33.stp hst36 (by intro q hq; cases hq; exact (by omega))
        have hzhx39 := hst36.size
        clear hb30
        refine wpList_nil ?_
        refine then_n ?_
        refine wp_seq ?_
        refine dr_enter Ext follows_mixed ?_
        intro w40 he41
        have hx42 := hx39.trans' he41
        have hzhx42 := he41.size
        replace hb37 := hb37.ext he41
        have hs43 : Ext w40 w40 := Ext.rfl' _
        refine dr_val (i := 0) ha34 rfl (by kernel_rfl) (by kernel_rfl) (by kernel_rfl) rfl rfl rfl hs43 (fun w' hw' => op_loadS ha34 rfl Try.underlying36 ti36 rfl rfl (hb37.ext hw').cells) ?_
        intro a44 ha44; clear ha34 a34
        refine dr_one (i := 1) (by kernel_rfl) ?_
        refine po_callR ha44 rfl rfl rfl rfl (op_call ha44 rfl cb49 rfl) (c_impl_isRecord _ x16 (by first | assumption | omega | (simp; omega)) (by first | assumption | omega | (simp; omega))) ?_
        rintro v45 w46 he47 rfl a48 ha48; clear ha44 a44
        have hs49 := hs43.trans' he47
        have hx50 := hx42.trans' he47
        have hzhx50 := he47.size
        refine ⟨hs49, ?_⟩
        refine dr_val (i := 2) ha48 rfl (by kernel_rfl) (by kernel_rfl) (by kernel_rfl) rfl rfl rfl hs49 (fun w' hw' => op_not ha48 rfl rfl) ?_
        intro a51 ha51; clear ha48 a48
        refine dr_val (i := 3) ha51 rfl (by kernel_rfl) (by kernel_rfl) (by kernel_rfl) rfl rfl rfl hs49 (fun w' hw' => op_move ha51 rfl rfl) ?_
        intro a52 ha52; clear ha51 a51
        rcases Bool.eq_false_or_eq_true (recB x16) with c53 | c53
        ·
          rw [c53] at ha52
          refine dr_val (i := 4) ha52 rfl (by kernel_rfl) (by kernel_rfl) (by kernel_rfl) rfl rfl rfl hs49 (fun w' hw' => op_move ha52 rfl rfl) ?_
          intro a54 ha54; clear ha52 a52
          refine dr_val (i := 5) ha54 rfl (by kernel_rfl) (by kernel_rfl) (by kernel_rfl) rfl rfl rfl hs49 (fun w' hw' => op_gtr ha54 rfl rfl rfl) ?_
          intro a55 ha55; clear ha54 a54
          refine dr_val (i := 6) ha55 rfl (by kernel_rfl) (by kernel_rfl) (by kernel_rfl) rfl rfl rfl hs49 (fun w' hw' => op_move ha55 rfl rfl) ?_
          intro a56 ha56; clear ha55 a55
          by_cases c57 : (0 : Int) < ((i : Nat) : Int)
          ·
            rw [decide_eq_true c57] at ha56
            refine dr_val (i := 7) ha56 rfl (by kernel_rfl) (by kernel_rfl) (by kernel_rfl) rfl rfl rfl hs49 (fun w' hw' => op_move ha56 rfl rfl) ?_
            intro a58 ha58; clear ha56 a56
            refine dr_val (i := 8) ha58 rfl (by kernel_rfl) (by kernel_rfl) (by kernel_rfl) rfl rfl rfl hs49 (fun w' hw' => op_move ha58 rfl rfl) ?_
            intro a59 ha59; clear ha58 a58
            refine dr_val (i := 9) ha59 rfl (by kernel_rfl) (by kernel_rfl) (by kernel_rfl) rfl rfl rfl hs49 (fun w' hw' => (op_sub ha59 rfl rfl rfl).int (IntWalk.i64_in _ (by omega))) ?_
            intro a60 ha60; clear ha59 a59
            obtain ⟨x61, hx61⟩ := get_ex (xs := list) (j := (i - 1)) (by omega)
            obtain ⟨p62, c63, hi64, hc65, hr66, hs67⟩ := Rds.at_ h_list hx61
            obtain ⟨rfl, b68, b69⟩ := inv_shRec hr66
            refine dr_val (i := 10) ha60 rfl (by kernel_rfl) (by kernel_rfl) (by kernel_rfl) rfl rfl rfl hs49 (fun w' hw' => op_indexAddr ha60 rfl Try.underlying25 ti36 rfl rfl (by omega) hi64) ?_
            intro a70 ha70; clear ha60 a60
            refine dr_val (i := 11) ha70 rfl (by kernel_rfl) (by kernel_rfl) (by kernel_rfl) rfl rfl rfl hs49 (fun w' hw' => op_fieldAddr (sz := 0) ha70 rfl Try.underlying36 rfl rfl ti2 rfl) ?_
            intro a71 ha71; clear ha70 a70
            refine dr_val (i := 12) ha71 rfl (by kernel_rfl) (by kernel_rfl) (by kernel_rfl) rfl rfl rfl hs49 (fun w' hw' => op_loadF (off := 0) ha71 rfl Try.underlying2 rfl rfl (hc65.ext (hx42.trans' hw')) rfl) ?_
            intro a72 ha72; clear ha71 a71
            refine dr_val (i := 13) ha72 rfl (by kernel_rfl) (by kernel_rfl) (by kernel_rfl) rfl rfl rfl hs49 (fun w' hw' => op_fieldAddr (sz := 0) ha72 rfl Try.underlying36 rfl rfl ti2 rfl) ?_
            intro a73 ha73; clear ha72 a72
            refine dr_val (i := 14) ha73 rfl (by kernel_rfl) (by kernel_rfl) (by kernel_rfl) rfl rfl rfl hs49 (fun w' hw' => op_loadF (off := 0) ha73 rfl Try.underlying2 rfl rfl (hb37.ext hw').cells rfl) ?_
            intro a74 ha74; clear ha73 a73
            refine dr_val (i := 15) ha74 rfl (by kernel_rfl) (by kernel_rfl) (by kernel_rfl) rfl rfl rfl hs49 (fun w' hw' => op_geq ha74 rfl rfl rfl) ?_
            intro a75 ha75; clear ha74 a74
            refine dr_val (i := 16) ha75 rfl (by kernel_rfl) (by kernel_rfl) (by kernel_rfl) rfl rfl rfl hs49 (fun w' hw' => op_pick_t ha75 rfl rfl rfl) ?_
            intro a76 ha76; clear ha75 a75
            refine dr_val (i := 17) ha76 rfl (by kernel_rfl) (by kernel_rfl) (by kernel_rfl) rfl rfl rfl hs49 (fun w' hw' => op_pick_f ha76 rfl rfl rfl) ?_
            intro a77 ha77; clear ha76 a76
            refine dr_end (by kernel_rfl) ?_
            replace hb37 := hb37.ext hs49
            refine then_n ?_
            by_cases c78 : x16.1 ≤ x61.1
            ·
              rw [decide_eq_true c78] at ha77
              refine cond_t ha77 rfl ?_
              refine wp_seq ?_
              refine wp_region_lit ?_
              refine wl_val ha77 rfl rfl rfl (op_assign ha77 rfl rfl) ?_
              intro a79 ha79; clear ha77 a77
              refine wpList_nil ?_
              refine then_n ?_
              refine wp_ret ?_
              refine block_r ?_
              refine then_r ?_
              refine then_r ?_
              refine block_r ?_
              refine then_r ?_
              refine ret1 ha79 rfl rfl ?_
              clear ha79 a79
              rw [riseB_step hx16] at hF
              rw [prevN_pos hx61 (by omega)] at hF
              exact ret_mk hx50 (congrArg Value.bool (by first | (simp [← hF, areB, c5, c14, c53, c57, c78]; done) | (simp [← hF, areB, c5, c14, c53, c57, c78]; omega) | (rw [Bool.eq_iff_iff]; simp [← hF, areB, c5, c14, c53, c57, c78]; done) | (rw [Bool.eq_iff_iff]; simp [← hF, areB, c5, c14, c53, c57, c78]; omega)))
            ·
              rw [decide_eq_false c78] at ha77
              refine cond_f ha77 rfl ?_
              refine wp_skip ?_
              refine block_n ?_
              refine then_n ?_
              refine wp_region_lit ?_
              refine wl_val ha77 rfl rfl rfl ((op_add ha77 rfl rfl rfl).int (IntWalk.i64_in _ (by omega))) ?_
              intro a80 ha80; clear ha77 a77
              refine wl_val ha80 rfl rfl rfl (op_move ha80 rfl rfl) ?_
              intro a81 ha81; clear ha80 a80
              refine wpList_nil ?_
              refine round_end (x := i) ((i + 1)) ?_ ?_
              ·
                refine ⟨(Sl.cons_ ha81 rfl rfl (Sl.cons_ ha81 rfl rfl (Sl.cons_ ha81 rfl rfl (Sl.cons_ ha81 rfl (int_eq (by omega)) (Sl.nil_ ha81))))), hx50, (by omega), (by rw [riseB_step hx16] at hF; rw [prevN_pos hx61 (by omega)] at hF; simpa [c5, c14, c53, c57, c78] using hF)⟩
              · show (list.length - ((i + 1)) : Nat) < list.length - i; omega
          ·
            rw [decide_eq_false c57] at ha56
            refine dr_skip (i := 7) ha56 rfl (by kernel_rfl) (by kernel_rfl) (by kernel_rfl) rfl rfl rfl hs49 ?_
            intro a82 ha82; clear ha56 a56
            refine dr_skip (i := 8) ha82 rfl (by kernel_rfl) (by kernel_rfl) (by kernel_rfl) rfl rfl rfl hs49 ?_
            intro a83 ha83; clear ha82 a82
            refine dr_skip (i := 9) ha83 rfl (by kernel_rfl) (by kernel_rfl) (by kernel_rfl) rfl rfl rfl hs49 ?_
            intro a84 ha84; clear ha83 a83
            refine dr_skip (i := 10) ha84 rfl (by kernel_rfl) (by kernel_rfl) (by kernel_rfl) rfl rfl rfl hs49 ?_
            intro a85 ha85; clear ha84 a84
            refine dr_skip (i := 11) ha85 rfl (by kernel_rfl) (by kernel_rfl) (by kernel_rfl) rfl rfl rfl hs49 ?_
            intro a86 ha86; clear ha85 a85
            refine dr_skip (i := 12) ha86 rfl (by kernel_rfl) (by kernel_rfl) (by kernel_rfl) rfl rfl rfl hs49 ?_
            intro a87 ha87; clear ha86 a86
            refine dr_skip (i := 13) ha87 rfl (by kernel_rfl) (by kernel_rfl) (by kernel_rfl) rfl rfl rfl hs49 ?_
            intro a88 ha88; clear ha87 a87
            refine dr_skip (i := 14) ha88 rfl (by kernel_rfl) (by kernel_rfl) (by kernel_rfl) rfl rfl rfl hs49 ?_
            intro a89 ha89; clear ha88 a88
            refine dr_skip (i := 15) ha89 rfl (by kernel_rfl) (by kernel_rfl) (by kernel_rfl) rfl rfl rfl hs49 ?_
            intro a90 ha90; clear ha89 a89
            refine dr_val (i := 16) ha90 rfl (by kernel_rfl) (by kernel_rfl) (by kernel_rfl) rfl rfl rfl hs49 (fun w' hw' => op_pick_f ha90 rfl rfl rfl) ?_
            intro a91 ha91; clear ha90 a90
            refine dr_val (i := 17) ha91 rfl (by kernel_rfl) (by kernel_rfl) (by kernel_rfl) rfl rfl rfl hs49 (fun w' hw' => op_pick_f ha91 rfl rfl rfl) ?_
            intro a92 ha92; clear ha91 a91
            refine dr_end (by kernel_rfl) ?_
            replace hb37 := hb37.ext hs49
            refine then_n ?_
            refine cond_f ha92 rfl ?_
            refine wp_skip ?_
            refine block_n ?_
            refine then_n ?_
            refine wp_region_lit ?_
            refine wl_val ha92 rfl rfl rfl ((op_add ha92 rfl rfl rfl).int (IntWalk.i64_in _ (by omega))) ?_
            intro a93 ha93; clear ha92 a92
            refine wl_val ha93 rfl rfl rfl (op_move ha93 rfl rfl) ?_
            intro a94 ha94; clear ha93 a93
            refine wpList_nil ?_
            refine round_end (x := i) ((i + 1)) ?_ ?_
            ·
              refine ⟨(Sl.cons_ ha94 rfl rfl (Sl.cons_ ha94 rfl rfl (Sl.cons_ ha94 rfl rfl (Sl.cons_ ha94 rfl (int_eq (by omega)) (Sl.nil_ ha94))))), hx50, (by omega), (by rw [riseB_step hx16] at hF; have h0 : i = 0 := (by omega); subst h0; simpa [prevN_zero, c5, c14, c53, c57] using hF)⟩
            · show (list.length - ((i + 1)) : Nat) < list.length - i; omega
        ·
          rw [c53] at ha52
          refine dr_skip (i := 4) ha52 rfl (by kernel_rfl) (by kernel_rfl) (by kernel_rfl) rfl rfl rfl hs49 ?_
          intro a95 ha95; clear ha52 a52
          refine dr_skip (i := 5) ha95 rfl (by kernel_rfl) (by kernel_rfl) (by kernel_rfl) rfl rfl rfl hs49 ?_
          intro a96 ha96; clear ha95 a95
          refine dr_skip (i := 6) ha96 rfl (by kernel_rfl) (by kernel_rfl) (by kernel_rfl) rfl rfl rfl hs49 ?_
          intro a97 ha97; clear ha96 a96
          refine dr_skip (i := 7) ha97 rfl (by kernel_rfl) (by kernel_rfl) (by kernel_rfl) rfl rfl rfl hs49 ?_
          intro a98 ha98; clear ha97 a97
          refine dr_skip (i := 8) ha98 rfl (by kernel_rfl) (by kernel_rfl) (by kernel_rfl) rfl rfl rfl hs49 ?_
          intro a99 ha99; clear ha98 a98
          refine dr_skip (i := 9) ha99 rfl (by kernel_rfl) (by kernel_rfl) (by kernel_rfl) rfl rfl rfl hs49 ?_
          intro a100 ha100; clear ha99 a99
          refine dr_skip (i := 10) ha100 rfl (by kernel_rfl) (by kernel_rfl) (by kernel_rfl) rfl rfl rfl hs49 ?_
          intro a101 ha101; clear ha100 a100
          refine dr_skip (i := 11) ha101 rfl (by kernel_rfl) (by kernel_rfl) (by kernel_rfl) rfl rfl rfl hs49 ?_
          intro a102 ha102; clear ha101 a101
          refine dr_skip (i := 12) ha102 rfl (by kernel_rfl) (by kernel_rfl) (by kernel_rfl) rfl rfl rfl hs49 ?_
          intro a103 ha103; clear ha102 a102
          refine dr_skip (i := 13) ha103 rfl (by kernel_rfl) (by kernel_rfl) (by kernel_rfl) rfl rfl rfl hs49 ?_
          intro a104 ha104; clear ha103 a103
          refine dr_skip (i := 14) ha104 rfl (by kernel_rfl) (by kernel_rfl) (by kernel_rfl) rfl rfl rfl hs49 ?_
          intro a105 ha105; clear ha104 a104
          refine dr_skip (i := 15) ha105 rfl (by kernel_rfl) (by kernel_rfl) (by kernel_rfl) rfl rfl rfl hs49 ?_
          intro a106 ha106; clear ha105 a105
          refine dr_skip (i := 16) ha106 rfl (by kernel_rfl) (by kernel_rfl) (by kernel_rfl) rfl rfl rfl hs49 ?_
          intro a107 ha107; clear ha106 a106
          refine dr_val (i := 17) ha107 rfl (by kernel_rfl) (by kernel_rfl) (by kernel_rfl) rfl rfl rfl hs49 (fun w' hw' => op_pick_t ha107 rfl rfl rfl) ?_
          intro a108 ha108; clear ha107 a107
          refine dr_end (by kernel_rfl) ?_
          replace hb37 := hb37.ext hs49
          refine then_n ?_
          refine cond_t ha108 rfl ?_
          refine wp_seq ?_
          refine wp_region_lit ?_
          refine wl_val ha108 rfl rfl rfl (op_assign ha108 rfl rfl) ?_
          intro a109 ha109; clear ha108 a108
          refine wpList_nil ?_
          refine then_n ?_
          refine wp_ret ?_
          refine block_r ?_
          refine then_r ?_
          refine then_r ?_
          refine block_r ?_
          refine then_r ?_
          refine ret1 ha109 rfl rfl ?_
          clear ha109 a109
          rw [riseB_step hx16] at hF
          exact ret_mk hx50 (congrArg Value.bool (by first | (simp [← hF, areB, c5, c14, c53]; done) | (simp [← hF, areB, c5, c14, c53]; omega) | (rw [Bool.eq_iff_iff]; simp [← hF, areB, c5, c14, c53]; done) | (rw [Bool.eq_iff_iff]; simp [← hF, areB, c5, c14, c53]; omega)))
      ·
        rw [decide_eq_false c14] at ha13
        refine cond_f ha13 rfl ?_
        refine wp_exit ?_
        refine then_e ?_
        refine then_e ?_
        refine block_hit ?_
        refine then_n ?_
        refine wp_seq ?_
        refine wp_region_lit ?_
        refine wl_val ha13 rfl rfl rfl (op_assign ha13 rfl rfl) ?_
        intro a110 ha110; clear ha13 a13
        refine wpList_nil ?_
        refine then_n ?_
        refine wp_ret ?_
        refine ret1 ha110 rfl rfl ?_
        clear ha110 a110
        rw [drop_nil (by omega)] at hF
        simp only [riseB] at hF
        exact ret_mk hx11 (congrArg Value.bool (by first | (simp [← hF, areB, c5, c14]; done) | (simp [← hF, areB, c5, c14]; omega) | (rw [Bool.eq_iff_iff]; simp [← hF, areB, c5, c14]; done) | (rw [Bool.eq_iff_iff]; simp [← hF, areB, c5, c14]; omega)))

theorem c_spec_AreRecords (w0 : World) (v_list : Value) (list : List (Int × Str)) {S_list : Nat → Prop} (h_list : Rds shRec S_list w0 v_list list) (g0 : list.length ≤ 1048576) :
    Calls Try.prog 14 #[v_list] w0 (Ret w0 (fun v _ => v = .bool (areB list))) := by
  refine enter (N := 37) Try.func14 rfl rfl rfl ?_
  intro a0 ha0
  have hx0 := Ext.rfl' w0
  have hl_list := h_list.length_le
  refine wp_seq ?_
  refine wp_region_lit ?_
  refine wl_val ha0 rfl rfl rfl (op_assign ha0 rfl rfl) ?_
  intro a1 ha1; clear ha0 a0
  refine wpList_nil ?_
  refine then_n ?_
  refine wp_seq ?_
  refine wp_seq ?_
  refine wp_region_lit ?_
  refine wl_val ha1 rfl rfl rfl (op_assign ha1 rfl rfl) ?_
  intro a2 ha2; clear ha1 a1
  refine wpList_nil ?_
  refine then_n ?_
  refine wp_block ?_
  refine loop_inv (X := Nat) (fun (i : Nat) fr wl => Sl 37 fr [(0, v_list), (3, .int .i64 ((i : Nat) : Int))] ∧ Ext w0 wl ∧ (i ≤ list.length) ∧ (riseB (prevN list i) (list.drop i) = riseB none list)) (fun (i : Nat) => list.length - i) (0) ?_ ?_
  ·
    exact ⟨(Sl.cons_ ha2 rfl rfl (Sl.cons_ ha2 rfl (int_eq (by omega)) (Sl.nil_ ha2))), hx0, (by omega), (by rfl)⟩
  ·
    clear ha2 a2
    rintro i a5 w3 ⟨ha5, hx4, hi, hF⟩
    have hzhx4 := hx4.size
    refine wp_seq ?_
    refine wp_seq ?_
    refine wp_region_lit ?_
    refine wl_val ha5 rfl rfl rfl (op_move ha5 rfl rfl) ?_
    intro a6 ha6; clear ha5 a5
    refine wl_val ha6 rfl rfl rfl (op_move ha6 rfl rfl) ?_
    intro a7 ha7; clear ha6 a6
    refine wl_val ha7 rfl rfl rfl (op_len_sl ha7 rfl Try.underlying25 rfl h_list) ?_
    intro a8 ha8; clear ha7 a7
    refine wl_val ha8 rfl rfl rfl (op_lss ha8 rfl rfl rfl) ?_
    intro a9 ha9; clear ha8 a8
    refine wpList_nil ?_
    refine then_n ?_
    by_cases c10 : ((i : Nat) : Int) < ((list.length : Nat) : Int)
    ·
      rw [decide_eq_true c10] at ha9
      refine cond_t ha9 rfl ?_
      refine wp_skip ?_
      refine then_n ?_
      refine wp_seq ?_
      refine wp_block ?_
      refine wp_seq ?_
      refine dr_enter Ext follows_mixed ?_
      intro w11 he12
      have hx13 := hx4.trans' he12
      have hzhx13 := he12.size
      have hs14 : Ext w11 w11 := Ext.rfl' _
      refine dr_val (i := 0) ha9 rfl (by kernel_rfl) (by kernel_rfl) (by kernel_rfl) rfl rfl rfl hs14 (fun w' hw' => op_move ha9 rfl rfl) ?_
      intro a15 ha15; clear ha9 a9
      refine dr_val (i := 1) ha15 rfl (by kernel_rfl) (by kernel_rfl) (by kernel_rfl) rfl rfl rfl hs14 (fun w' hw' => op_move ha15 rfl rfl) ?_
      intro a16 ha16; clear ha15 a15
      obtain ⟨x17, hx17⟩ := get_ex (xs := list) (j := i) (by omega)
      obtain ⟨p18, c19, hi20, hc21, hr22, hs23⟩ := Rds.at_ h_list hx17
      obtain ⟨rfl, b24, b25⟩ := inv_shRec hr22
      refine dr_val (i := 2) ha16 rfl (by kernel_rfl) (by kernel_rfl) (by kernel_rfl) rfl rfl rfl hs14 (fun w' hw' => op_indexAddr ha16 rfl Try.underlying25 ti36 rfl rfl (by omega) hi20) ?_
      intro a26 ha26; clear ha16 a16
      refine dr_val (i := 3) ha26 rfl (by kernel_rfl) (by kernel_rfl) (by kernel_rfl) rfl rfl rfl hs14 (fun w' hw' => op_loadS ha26 rfl Try.underlying36 ti36 rfl rfl (hc21.ext (hx13.trans' hw'))) ?_
      intro a27 ha27; clear ha26 a26
      refine dr_one (i := 4) (by kernel_rfl) ?_
      refine po_callR ha27 rfl rfl rfl rfl (op_call ha27 rfl cb48 rfl) (c_spec_l32Is _ x17 (by first | assumption | omega | (simp; omega)) (by first | assumption | omega | (simp; omega))) ?_
      rintro v28 w29 he30 rfl a31 ha31; clear ha27 a27
      have hs32 := hs14.trans' he30
      have hx33 := hx13.trans' he30
      have hzhx33 := he30.size
      refine ⟨hs32, ?_⟩
      refine dr_val (i := 5) ha31 rfl (by kernel_rfl) (by kernel_rfl) (by kernel_rfl) rfl rfl rfl hs32 (fun w' hw' => op_not ha31 rfl rfl) ?_
      intro a34 ha34; clear ha31 a31
      refine dr_val (i := 6) ha34 rfl (by kernel_rfl) (by kernel_rfl) (by kernel_rfl) rfl rfl rfl hs32 (fun w' hw' => op_move ha34 rfl rfl) ?_
      intro a35 ha35; clear ha34 a34
      rcases Bool.eq_false_or_eq_true (recB x17) with c36 | c36
      ·
        rw [c36] at ha35
        refine dr_val (i := 7) ha35 rfl (by kernel_rfl) (by kernel_rfl) (by kernel_rfl) rfl rfl rfl hs32 (fun w' hw' => op_move ha35 rfl rfl) ?_
        intro a37 ha37; clear ha35 a35
        refine dr_val (i := 8) ha37 rfl (by kernel_rfl) (by kernel_rfl) (by kernel_rfl) rfl rfl rfl hs32 (fun w' hw' => op_gtr ha37 rfl rfl rfl) ?_
        intro a38 ha38; clear ha37 a37
        refine dr_val (i := 9) ha38 rfl (by kernel_rfl) (by kernel_rfl) (by kernel_rfl) rfl rfl rfl hs32 (fun w' hw' => op_move ha38 rfl rfl) ?_
        intro a39 ha39; clear ha38 a38
        by_cases c40 : (0 : Int) < ((i : Nat) : Int)
        ·
          rw [decide_eq_true c40] at ha39
          refine dr_val (i := 10) ha39 rfl (by kernel_rfl) (by kernel_rfl) (by kernel_rfl) rfl rfl rfl hs32 (fun w' hw' => op_move ha39 rfl rfl) ?_
          intro a41 ha41; clear ha39 a39
          refine dr_val (i := 11) ha41 rfl (by kernel_rfl) (by kernel_rfl) (by kernel_rfl) rfl rfl rfl hs32 (fun w' hw' => op_move ha41 rfl rfl) ?_
          intro a42 ha42; clear ha41 a41
          refine dr_val (i := 12) ha42 rfl (by kernel_rfl) (by kernel_rfl) (by kernel_rfl) rfl rfl rfl hs32 (fun w' hw' => (op_sub ha42 rfl rfl rfl).int (IntWalk.i64_in _ (by omega))) ?_
          intro a43 ha43; clear ha42 a42
          obtain ⟨x44, hx44⟩ := get_ex (xs := list) (j := (i - 1)) (by omega)
          obtain ⟨p45, c46, hi47, hc48, hr49, hs50⟩ := Rds.at_ h_list hx44
          obtain ⟨rfl, b51, b52⟩ := inv_shRec hr49
          refine dr_val (i := 13) ha43 rfl (by kernel_rfl) (by kernel_rfl) (by kernel_rfl) rfl rfl rfl hs32 (fun w' hw' => op_indexAddr ha43 rfl Try.underlying25 ti36 rfl rfl (by omega) hi47) ?_
          intro a53 ha53; clear ha43 a43
          refine dr_val (i := 14) ha53 rfl (by kernel_rfl) (by kernel_rfl) (by kernel_rfl) rfl rfl rfl hs32 (fun w' hw' => op_fieldAddr (sz := 0) ha53 rfl Try.underlying36 rfl rfl ti2 rfl) ?_
          intro a54 ha54; clear ha53 a53
          refine dr_val (i := 15) ha54 rfl (by kernel_rfl) (by kernel_rfl) (by kernel_rfl) rfl rfl rfl hs32 (fun w' hw' => op_loadF (off := 0) ha54 rfl Try.underlying2 rfl rfl (hc48.ext (hx13.trans' hw')) rfl) ?_
          intro a55 ha55; clear ha54 a54
          refine dr_val (i := 16) ha55 rfl (by kernel_rfl) (by kernel_rfl) (by kernel_rfl) rfl rfl rfl hs32 (fun w' hw' => op_move ha55 rfl rfl) ?_
          intro a56 ha56; clear ha55 a55
          refine dr_val (i := 17) ha56 rfl (by kernel_rfl) (by kernel_rfl) (by kernel_rfl) rfl rfl rfl hs32 (fun w' hw' => op_move ha56 rfl rfl) ?_
          intro a57 ha57; clear ha56 a56
          refine dr_val (i := 18) ha57 rfl (by kernel_rfl) (by kernel_rfl) (by kernel_rfl) rfl rfl rfl hs32 (fun w' hw' => op_indexAddr ha57 rfl Try.underlying25 ti36 rfl rfl (by omega) hi20) ?_
          intro a58 ha58; clear ha57 a57
          refine dr_val (i := 19) ha58 rfl (by kernel_rfl) (by kernel_rfl) (by kernel_rfl) rfl rfl rfl hs32 (fun w' hw' => op_fieldAddr (sz := 0) ha58 rfl Try.underlying36 rfl rfl ti2 rfl) ?_
          intro a59 ha59; clear ha58 a58
          refine dr_val (i := 20) ha59 rfl (by kernel_rfl) (by kernel_rfl) (by kernel_rfl) rfl rfl rfl hs32 (fun w' hw' => op_loadF (off := 0) ha59 rfl Try.underlying2 rfl rfl (hc21.ext (hx13.trans' hw')) rfl) ?_
          intro a60 ha60; clear ha59 a59
          refine dr_val (i := 21) ha60 rfl (by kernel_rfl) (by kernel_rfl) (by kernel_rfl) rfl rfl rfl hs32 (fun w' hw' => op_geq ha60 rfl rfl rfl) ?_
          intro a61 ha61; clear ha60 a60
          refine dr_val (i := 22) ha61 rfl (by kernel_rfl) (by kernel_rfl) (by kernel_rfl) rfl rfl rfl hs32 (fun w' hw' => op_pick_t ha61 rfl rfl rfl) ?_
          intro a62 ha62; clear ha61 a61
          refine dr_val (i := 23) ha62 rfl (by kernel_rfl) (by kernel_rfl) (by kernel_rfl) rfl rfl rfl hs32 (fun w' hw' => op_pick_f ha62 rfl rfl rfl) ?_
          intro a63 ha63; clear ha62 a62
          refine dr_end (by kernel_rfl) ?_
          refine then_n ?_
          by_cases c64 : x17.1 ≤ x44.1
          ·
            rw [decide_eq_true c64] at ha63
            refine cond_t ha63 rfl ?_
            refine wp_seq ?_
            refine wp_region_lit ?_
            refine wl_val ha63 rfl rfl rfl (op_assign ha63 rfl rfl) ?_
            intro a65 ha65; clear ha63 a63
            refine wpList_nil ?_
            refine then_n ?_
            refine wp_ret ?_
            refine block_r ?_
            refine then_r ?_
            refine then_r ?_
            refine block_r ?_
            refine then_r ?_
            refine ret1 ha65 rfl rfl ?_
            clear ha65 a65
            rw [riseB_step hx17] at hF
            rw [prevN_pos hx44 (by omega)] at hF
            exact ret_mk hx33 (congrArg Value.bool (by first | (simp [← hF, areB, c10, c36, c40, c64]; done) | (simp [← hF, areB, c10, c36, c40, c64]; omega) | (rw [Bool.eq_iff_iff]; simp [← hF, areB, c10, c36, c40, c64]; done) | (rw [Bool.eq_iff_iff]; simp [← hF, areB, c10, c36, c40, c64]; omega)))
          ·
            rw [decide_eq_false c64] at ha63
            refine cond_f ha63 rfl ?_
            refine wp_skip ?_
            refine block_n ?_
            refine then_n ?_
            refine wp_region_lit ?_
            refine wl_val ha63 rfl rfl rfl (op_move ha63 rfl rfl) ?_
            intro a66 ha66; clear ha63 a63
            refine wl_val ha66 rfl rfl rfl ((op_add ha66 rfl rfl rfl).int (IntWalk.i64_in _ (by omega))) ?_
            intro a67 ha67; clear ha66 a66
            refine wl_val ha67 rfl rfl rfl (op_assign ha67 rfl rfl) ?_
            intro a68 ha68; clear ha67 a67
            refine wpList_nil ?_
            refine round_end (x := i) ((i + 1)) ?_ ?_
            ·
              refine ⟨(Sl.cons_ ha68 rfl rfl (Sl.cons_ ha68 rfl (int_eq (by omega)) (Sl.nil_ ha68))), hx33, (by omega), (by rw [riseB_step hx17] at hF; rw [prevN_pos hx44 (by omega)] at hF; simpa [c10, c36, c40, c64] using hF)⟩
            · show (list.length - ((i + 1)) : Nat) < list.length - i; omega
        ·
          rw [decide_eq_false c40] at ha39
          refine dr_skip (i := 10) ha39 rfl (by kernel_rfl) (by kernel_rfl) (by kernel_rfl) rfl rfl rfl hs32 ?_
          intro a69 ha69; clear ha39 a39
          refine dr_skip (i := 11) ha69 rfl (by kernel_rfl) (by kernel_rfl) (by kernel_rfl) rfl rfl rfl hs32 ?_
          intro a70 ha70; clear ha69 a69
          refine dr_skip (i := 12) ha70 rfl (by kernel_rfl) (by kernel_rfl) (by kernel_rfl) rfl rfl rfl hs32 ?_
          intro a71 ha71; clear ha70 a70
          refine dr_skip (i := 13) ha71 rfl (by kernel_rfl) (by kernel_rfl) (by kernel_rfl) rfl rfl rfl hs32 ?_
          intro a72 ha72; clear ha71 a71
          refine dr_skip (i := 14) ha72 rfl (by kernel_rfl) (by kernel_rfl) (by kernel_rfl) rfl rfl rfl hs32 ?_
          intro a73 ha73; clear ha72 a72
          refine dr_skip (i := 15) ha73 rfl (by kernel_rfl) (by kernel_rfl) (by kernel_rfl) rfl rfl rfl hs32 ?_
          intro a74 ha74; clear ha73 a73
          refine dr_skip (i := 16) ha74 rfl (by kernel_rfl) (by kernel_rfl) (by kernel_rfl) rfl rfl rfl hs32 ?_
          intro a75 ha75; clear ha74 a74
          refine dr_skip (i := 17) ha75 rfl (by kernel_rfl) (by kernel_rfl) (by kernel_rfl) rfl rfl rfl hs32 ?_
          intro a76 ha76; clear ha75 a75
          refine dr_skip (i := 18) ha76 rfl (by kernel_rfl) (by kernel_rfl) (by kernel_rfl) rfl rfl rfl hs32 ?_
          intro a77 ha77; clear ha76 a76
          refine dr_skip (i := 19) ha77 rfl (by kernel_rfl) (by kernel_rfl) (by kernel_rfl) rfl rfl rfl hs32 ?_
          intro a78 ha78; clear ha77 a77
          refine dr_skip (i := 20) ha78 rfl (by kernel_rfl) (by kernel_rfl) (by kernel_rfl) rfl rfl rfl hs32 ?_
          intro a79 ha79; clear ha78 a78
          refine dr_skip (i := 21) ha79 rfl (by kernel_rfl) (by kernel_rfl) (by kernel_rfl) rfl rfl rfl hs32 ?_
          intro a80 ha80; clear ha79 a79
          refine dr_val (i := 22) ha80 rfl (by kernel_rfl) (by kernel_rfl) (by kernel_rfl) rfl rfl rfl hs32 (fun w' hw' => op_pick_f ha80 rfl rfl rfl) ?_
          intro a81 ha81; clear ha80 a80
          refine dr_val (i := 23) ha81 rfl (by kernel_rfl) (by kernel_rfl) (by kernel_rfl) rfl rfl rfl hs32 (fun w' hw' => op_pick_f ha81 rfl rfl rfl) ?_
          intro a82 ha82; clear ha81 a81
          refine dr_end (by kernel_rfl) ?_
          refine then_n ?_
          refine cond_f ha82 rfl ?_
          refine wp_skip ?_
          refine block_n ?_
          refine then_n ?_
          refine wp_region_lit ?_
          refine wl_val ha82 rfl rfl rfl (op_move ha82 rfl rfl) ?_
          intro a83 ha83; clear ha82 a82
          refine wl_val ha83 rfl rfl rfl ((op_add ha83 rfl rfl rfl).int (IntWalk.i64_in _ (by omega))) ?_
          intro a84 ha84; clear ha83 a83
          refine wl_val ha84 rfl rfl rfl (op_assign ha84 rfl rfl) ?_
          intro a85 ha85; clear ha84 a84
          refine wpList_nil ?_
          refine round_end (x := i) ((i + 1)) ?_ ?_
          ·
            refine ⟨(Sl.cons_ ha85 rfl rfl (Sl.cons_ ha85 rfl (int_eq (by omega)) (Sl.nil_ ha85))), hx33, (by omega), (by rw [riseB_step hx17] at hF; have h0 : i = 0 := (by omega); subst h0; simpa [prevN_zero, c10, c36, c40] using hF)⟩
          · show (list.length - ((i + 1)) : Nat) < list.length - i; omega
      ·
        rw [c36] at ha35
        refine dr_skip (i := 7) ha35 rfl (by kernel_rfl) (by kernel_rfl) (by kernel_rfl) rfl rfl rfl hs32 ?_
        intro a86 ha86; clear ha35 a35
        refine dr_skip (i := 8) ha86 rfl (by kernel_rfl) (by kernel_rfl) (by kernel_rfl) rfl rfl rfl hs32 ?_
        intro a87 ha87; clear ha86 a86
        refine dr_skip (i := 9) ha87 rfl (by kernel_rfl) (by kernel_rfl) (by kernel_rfl) rfl rfl rfl hs32 ?_
        intro a88 ha88; clear ha87 a87
        refine dr_skip (i := 10) ha88 rfl (by kernel_rfl) (by kernel_rfl) (by kernel_rfl) rfl rfl rfl hs32 ?_
        intro a89 ha89; clear ha88 a88
        refine dr_skip (i := 11) ha89 rfl (by kernel_rfl) (by kernel_rfl) (by kernel_rfl) rfl rfl rfl hs32 ?_
        intro a90 ha90; clear ha89 a89
        refine dr_skip (i := 12) ha90 rfl (by kernel_rfl) (by kernel_rfl) (by kernel_rfl) rfl rfl rfl hs32 ?_
        intro a91 ha91; clear ha90 a90
        refine dr_skip (i := 13) ha91 rfl (by kernel_rfl) (by kernel_rfl) (by kernel_rfl) rfl rfl rfl hs32 ?_
        intro a92 ha92; clear ha91 a91
        refine dr_skip (i := 14) ha92 rfl (by kernel_rfl) (by kernel_rfl) (by kernel_rfl) rfl rfl rfl hs32 ?_
        intro a93 ha93; clear ha92 a92
        refine dr_skip (i := 15) ha93 rfl (by kernel_rfl) (by kernel_rfl) (by kernel_rfl) rfl rfl rfl hs32 ?_
        intro a94 ha94; clear ha93 a93
        refine dr_skip (i := 16) ha94 rfl (by kernel_rfl) (by kernel_rfl) (by kernel_rfl) rfl rfl rfl hs32 ?_
        intro a95 ha95; clear ha94 a94
        refine dr_skip (i := 17) ha95 rfl (by kernel_rfl) (by kernel_rfl) (by kernel_rfl) rfl rfl rfl hs32 ?_
        intro a96 ha96; clear ha95 a95
        refine dr_skip (i := 18) ha96 rfl (by kernel_rfl) (by kernel_rfl) (by kernel_rfl) rfl rfl rfl hs32 ?_
        intro a97 ha97; clear ha96 a96
        refine dr_skip (i := 19) ha97 rfl (by kernel_rfl) (by kernel_rfl) (by kernel_rfl) rfl rfl rfl hs32 ?_
        intro a98 ha98; clear ha97 a97
        refine dr_skip (i := 20) ha98 rfl (by kernel_rfl) (by kernel_rfl) (by kernel_rfl) rfl rfl rfl hs32 ?_
        intro a99 ha99; clear ha98 a98
        refine dr_skip (i := 21) ha99 rfl (by kernel_rfl) (by kernel_rfl) (by kernel_rfl) rfl rfl rfl hs32 ?_
        intro a100 ha100; clear ha99 a99
        refine dr_skip (i := 22) ha100 rfl (by kernel_rfl) (by kernel_rfl) (by kernel_rfl) rfl rfl rfl hs32 ?_
        intro a101 ha101; clear ha100 a100
        refine dr_val (i := 23) ha101 rfl (by kernel_rfl) (by kernel_rfl) (by kernel_rfl) rfl rfl rfl hs32 (fun w' hw' => op_pick_t ha101 rfl rfl rfl) ?_
        intro a102 ha102; clear ha101 a101
        refine dr_end (by kernel_rfl) ?_
        refine then_n ?_
        refine cond_t ha102 rfl ?_
        refine wp_seq ?_
        refine wp_region_lit ?_
        refine wl_val ha102 rfl rfl rfl (op_assign ha102 rfl rfl) ?_
        intro a103 ha103; clear ha102 a102
        refine wpList_nil ?_
        refine then_n ?_
        refine wp_ret ?_
        refine block_r ?_
        refine then_r ?_
        refine then_r ?_
        refine block_r ?_
        refine then_r ?_
        refine ret1 ha103 rfl rfl ?_
        clear ha103 a103
        rw [riseB_step hx17] at hF
        exact ret_mk hx33 (congrArg Value.bool (by first | (simp [← hF, areB, c10, c36]; done) | (simp [← hF, areB, c10, c36]; omega) | (rw [Bool.eq_iff_iff]; simp [← hF, areB, c10, c36]; done) | (rw [Bool.eq_iff_iff]; simp [← hF, areB, c10, c36]; omega)))
    ·
      rw [decide_eq_false c10] at ha9
      refine cond_f ha9 rfl ?_
      refine wp_exit ?_
      refine then_e ?_
      refine then_e ?_
      refine block_hit ?_
      refine then_n ?_
      refine wp_seq ?_
      refine wp_region_lit ?_
      refine wl_val ha9 rfl rfl rfl (op_move ha9 rfl rfl) ?_
      intro a104 ha104; clear ha9 a9
      refine wl_val ha104 rfl rfl rfl (op_len_sl ha104 rfl Try.underlying25 rfl h_list) ?_
      intro a105 ha105; clear ha104 a104
      refine wl_val ha105 rfl rfl rfl (op_leq ha105 rfl rfl rfl) ?_
      intro a106 ha106; clear ha105 a105
      refine wl_val ha106 rfl rfl rfl (op_assign ha106 rfl rfl) ?_
      intro a107 ha107; clear ha106 a106
      refine wpList_nil ?_
      refine then_n ?_
      refine wp_ret ?_
      refine ret1 ha107 rfl rfl ?_
      clear ha107 a107
      rw [drop_nil (by omega)] at hF
      simp only [riseB] at hF
      exact ret_mk hx4 (congrArg Value.bool (by first | (simp [← hF, areB, c10]; done) | (simp [← hF, areB, c10]; omega) | (rw [Bool.eq_iff_iff]; simp [← hF, areB, c10]; done) | (rw [Bool.eq_iff_iff]; simp [← hF, areB, c10]; omega)))


end Go.Proofs.Ytkdnclpgijkceaa
