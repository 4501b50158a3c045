/- All keys of some sheets. -/
import Derived.Test.YtllpdkidaldkiaaW2
namespace Go.Proofs.Ytllpdkidaldkiaa
open Go Go.RowKit

set_option maxHeartbeats 4000000 in
theorem c_impl_allKeys (w0 : World) (v_sheets : Value) (sheets : List (List (Str × Int))) {S_sheets : Nat → Prop} (h_sheets : Rds shLns S_sheets w0 v_sheets sheets) (g0 : sheets.length ≤ 3) (g1 : ∀ q ∈ sheets, q.length ≤ 8) :
  Calls Try.prog 55 #[v_sheets] w0 (Ret w0 (fun v w1 => Own shStr 9 w0.heap.size w0.heap.size w1.heap.size w1 v (allK sheets))) := by
 refine enter (N := 68) Try.func55 rfl rfl rfl ?_
 intro a0 ha0
 have hx0 := Ext.rfl' w0
 have hl_sheets := h_sheets.length_le
 refine wp_seq ?_
 refine wp_region_lit ?_
 refine wl_val ha0 rfl rfl rfl (op_assign ha0 rfl rfl) ?_
 intro a1 ha1; clear ha0 a0
 refine wpList_nil ?_
 refine then_n ?_
 refine wp_seq ?_
 refine wp_region_lit ?_
 refine wl_val ha1 rfl rfl rfl (op_assign ha1 rfl rfl) ?_
 intro a2 ha2; clear ha1 a1
 refine wpList_nil ?_
 refine then_n ?_
 refine wp_seq ?_
 refine wp_seq ?_
 refine wp_region_lit ?_
 refine wl_val ha2 rfl rfl rfl (op_move ha2 rfl rfl) ?_
 intro a3 ha3; clear ha2 a2
 refine wl_val ha3 rfl rfl rfl (op_len_sl ha3 rfl Try.underlying72 rfl h_sheets) ?_
 intro a4 ha4; clear ha3 a3
 refine wl_val ha4 rfl rfl rfl (op_move ha4 rfl rfl) ?_
 intro a5 ha5; clear ha4 a4
 refine wpList_nil ?_
 refine then_n ?_
 refine wp_block ?_
 refine loop_inv (X := Nat × Value × (List Str)) (fun (⟨i, v, acc⟩ : Nat × Value × (List Str)) fr wl => Sl 68 fr [(3, v), (9, v_sheets), (10, .int .i64 ((sheets.length : Nat) : Int)), (11, .int .i64 ((i : Nat) : Int))] ∧ Ext w0 wl ∧ Own shStr 9 w0.heap.size w0.heap.size wl.heap.size wl v acc ∧ w0.heap.size ≤ wl.heap.size ∧ (i ≤ sheets.length) ∧ (acc.length ≤ 8 * i) ∧ (UpS acc) ∧ (keS (sheets.drop i) acc = allK sheets)) (fun (⟨i, v, acc⟩ : Nat × Value × (List Str)) => sheets.length - i) (0, (.slice none 0 0), []) ?_ ?_
 ·
  exact ⟨(Sl.cons_ ha5 rfl rfl (Sl.cons_ ha5 rfl rfl (Sl.cons_ ha5 rfl rfl (Sl.cons_ ha5 rfl (int_eq (by omega)) (Sl.nil_ ha5))))), hx0, (Own.nil _ _ _ _ _ _), (by omega), (by omega), (by exact Nat.zero_le _), (by exact List.Pairwise.nil), (by rfl)⟩
 ·
  clear ha5 a5
  rintro ⟨i, v, acc⟩ a9 w6 ⟨ha9, hx7, hf8, hzl10, hi, hl, hU, hF⟩
  have hzhx7 := hx7.size
  refine wp_seq ?_
  refine wp_region_lit ?_
  refine wl_val ha9 rfl rfl rfl (op_lss ha9 rfl rfl rfl) ?_
  intro a11 ha11; clear ha9 a9
  refine wpList_nil ?_
  refine then_n ?_
  refine wp_seq ?_
  by_cases c12 : ((i : Nat) : Int) < ((sheets.length : Nat) : Int)
  ·
   rw [decide_eq_true c12] at ha11
   refine cond_t ha11 rfl ?_
   refine wp_skip ?_
   refine then_n ?_
   refine wp_seq ?_
   refine wp_block ?_
   refine wp_seq ?_
   refine wp_region_lit ?_
   obtain ⟨x13, hx13⟩ := get_ex (xs := sheets) (j := i) (by first | omega | (simp only [List.length_set, List.length_append, List.length_take, List.length_drop, List.length_singleton]; omega))
   obtain ⟨p14, c15, hi16, hc17, hr18, hs19⟩ := Rds.at_ h_sheets hx13
   obtain ⟨v20, rfl, b21⟩ := inv_shLns hr18
   have hlb21 := b21.length_le
   have hbx13 := g1 _ (List.mem_of_getElem? hx13)
   refine wl_val ha11 rfl rfl rfl (op_indexAddr ha11 rfl Try.underlying72 ti34 rfl rfl (by omega) hi16) ?_
   intro a22 ha22; clear ha11 a11
   refine wl_val ha22 rfl rfl rfl (op_loadH ha22 rfl Try.underlying34 rfl rfl (hc17.ext hx7) rfl) ?_
   intro a23 ha23; clear ha22 a22
   refine wl_val ha23 rfl rfl rfl (op_assign ha23 rfl rfl) ?_
   intro a24 ha24; clear ha23 a23
   refine wpList_nil ?_
   refine then_n ?_
   refine wp_seq ?_
   refine wp_region_lit ?_
   refine wl_val ha24 rfl rfl rfl (op_move ha24 rfl rfl) ?_
   intro a25 ha25; clear ha24 a24
   refine wl_val ha25 rfl rfl rfl (op_len_sl ha25 rfl Try.underlying34 rfl b21) ?_
   intro a26 ha26; clear ha25 a25
   refine wl_val ha26 rfl rfl rfl (op_move ha26 rfl rfl) ?_
   intro a27 ha27; clear ha26 a26
   refine wpList_nil ?_
   refine then_n ?_
   refine wp_block ?_
   refine loop_inv (X := Nat × Value × (List Str)) (fun (⟨j, v2, ac2⟩ : Nat × Value × (List Str)) fr wl => Sl 68 fr [(3, v2), (9, v_sheets), (10, .int .i64 ((sheets.length : Nat) : Int)), (11, .int .i64 ((i : Nat) : Int)), (15, v20), (16, .int .i64 ((x13.length : Nat) : Int)), (17, .int .i64 ((j : Nat) : Int))] ∧ Ext w0 wl ∧ Own shStr 9 w0.heap.size w0.heap.size wl.heap.size wl v2 ac2 ∧ w6.heap.size ≤ wl.heap.size ∧ (j ≤ x13.length) ∧ (ac2.length ≤ 8 * i + j) ∧ (UpS ac2) ∧ (keS (sheets.drop (i + 1)) (keG (x13.drop j) ac2) = allK sheets)) (fun (⟨j, v2, ac2⟩ : Nat × Value × (List Str)) => x13.length - j) (0, v, acc) ?_ ?_
   ·
    exact ⟨(Sl.cons_ ha27 rfl rfl (Sl.cons_ ha27 rfl rfl (Sl.cons_ ha27 rfl rfl (Sl.cons_ ha27 rfl rfl (Sl.cons_ ha27 rfl rfl (Sl.cons_ ha27 rfl rfl (Sl.cons_ ha27 rfl (int_eq (by omega)) (Sl.nil_ ha27)))))))), hx7, (hf8.fin (by omega) (by omega) (by omega)), (by omega), (by omega), (by omega), (by exact hU), (by rw [drop_cons hx13, keS] at hF; exact hF)⟩
   ·
    clear ha27 a27
    rintro ⟨j, v2, ac2⟩ a31 w28 ⟨ha31, hx29, hf30, hzl32, hj, hl2, hU2, hF2⟩
    have hzhx29 := hx29.size
    refine wp_seq ?_
    refine wp_region_lit ?_
    refine wl_val ha31 rfl rfl rfl (op_lss ha31 rfl rfl rfl) ?_
    intro a33 ha33; clear ha31 a31
    refine wpList_nil ?_
    refine then_n ?_
    refine wp_seq ?_
    by_cases c34 : ((j : Nat) : Int) < ((x13.length : Nat) : Int)
    ·
     rw [decide_eq_true c34] at ha33
     refine cond_t ha33 rfl ?_
     refine wp_skip ?_
     refine then_n ?_
     refine wp_seq ?_
     refine wp_block ?_
     refine wp_seq ?_
     refine wp_region_lit ?_
     obtain ⟨x35, hx35⟩ := get_ex (xs := x13) (j := j) (by first | omega | (simp only [List.length_set, List.length_append, List.length_take, List.length_drop, List.length_singleton]; omega))
     obtain ⟨p36, c37, hi38, hc39, hr40, hs41⟩ := Rds.at_ b21 hx35
     obtain ⟨rfl, b42, b43⟩ := inv_shLine hr40
     refine wl_val ha33 rfl rfl rfl (op_indexAddr ha33 rfl Try.underlying34 ti83 rfl rfl (by omega) hi38) ?_
     intro a44 ha44; clear ha33 a33
     refine wl_val ha44 rfl rfl rfl (op_loadS ha44 rfl Try.underlying83 ti83 rfl rfl (hc39.ext hx29)) ?_
     intro a45 ha45; clear ha44 a44
     refine wl_eff ha45 rfl rfl rfl (op_alloc' rfl ti83 rfl) ?_
     rintro _ w47 ⟨rfl, he48, hb49, hz50⟩ a51 ha51; clear ha45 a45
     have hx52 := hx29.trans' he48
     have hzhx52 := he48.size
     replace hf30 := hf30.ext he48
     refine wl_effS ha51 rfl rfl (op_storeAll' ha51 rfl ti83 rfl rfl hb49 rfl rfl (by simp [Value.oneCell']) rfl) ?_
     rintro w53 ⟨hb55, hst54, hz56⟩
     have hx57 := hx52.stp hst54 (by intro q hq; cases hq; exact (by omega))
     have hzhx57 := hst54.size
     replace hf30 := hf30.stp hst54 (by intro q hq; cases hq; omega)
     clear hb49
     refine wpList_nil ?_
     refine then_n ?_
     refine wp_seq ?_
     refine wp_region_lit ?_
     refine wl_val ha51 rfl rfl rfl (op_move ha51 rfl rfl) ?_
     intro a58 ha58; clear ha51 a51
     refine wl_val ha58 rfl rfl rfl (op_len_sl ha58 rfl Try.underlying24 rfl (hf30.rds pos_shStr)) ?_
     intro a59 ha59; clear ha58 a58
     refine wl_val ha59 rfl rfl rfl (op_assign ha59 rfl rfl) ?_
     intro a60 ha60; clear ha59 a59
     refine wpList_nil ?_
     refine then_n ?_
     refine wp_seq ?_
     refine wp_block ?_
     refine loop_inv (X := Nat) (fun (k : Nat) fr wl => Sl 68 fr [(3, v2), (7, .pointer (some (⟨w28.heap.size, 0, none⟩ : Addr))), (8, .int .i64 ((k : Nat) : Int)), (9, v_sheets), (10, .int .i64 ((sheets.length : Nat) : Int)), (11, .int .i64 ((i : Nat) : Int)), (15, v20), (16, .int .i64 ((x13.length : Nat) : Int)), (17, .int .i64 ((j : Nat) : Int))] ∧ Ext w0 wl ∧ Own shStr 9 w0.heap.size w0.heap.size w28.heap.size wl v2 ac2 ∧ Box wl w28.heap.size 83 [St x35.1, .int .i64 x35.2] ∧ w53.heap.size ≤ wl.heap.size ∧ (k ≤ ac2.length) ∧ (∀ (q : Nat) (y : Str), k ≤ q → ac2[q]? = some y → x35.1 < y)) (fun (k : Nat) => k) (ac2.length) ?_ ?_
     ·
      exact ⟨(Sl.cons_ ha60 rfl rfl (Sl.cons_ ha60 rfl rfl (Sl.cons_ ha60 rfl (int_eq (by omega)) (Sl.cons_ ha60 rfl rfl (Sl.cons_ ha60 rfl rfl (Sl.cons_ ha60 rfl rfl (Sl.cons_ ha60 rfl rfl (Sl.cons_ ha60 rfl rfl (Sl.cons_ ha60 rfl rfl (Sl.nil_ ha60)))))))))), hx57, hf30, hb55, (by omega), (by omega), (by intro q y hq hy; have := (List.getElem?_eq_some_iff.1 hy).1; omega)⟩
     ·
      clear ha60 a60
      rintro k a65 w61 ⟨ha65, hx62, hf63, hf64, hzl66, hk, hk2⟩
      have hzhx62 := hx62.size
      refine wp_seq ?_
      refine wp_seq ?_
      refine dr_enter Ext follows_mixed ?_
      intro w67 he68
      have hx69 := hx62.trans' he68
      have hzhx69 := he68.size
      replace hf63 := hf63.ext he68
      replace hf64 := hf64.ext he68
      have hs70 : Ext w67 w67 := Ext.rfl' _
      refine dr_val (i := 0) ha65 rfl (by kernel_rfl) (by kernel_rfl) (by kernel_rfl) rfl rfl rfl hs70 (fun w' hw' => op_move ha65 rfl rfl) ?_
      intro a71 ha71; clear ha65 a65
      refine dr_val (i := 1) ha71 rfl (by kernel_rfl) (by kernel_rfl) (by kernel_rfl) rfl rfl rfl hs70 (fun w' hw' => op_gtr ha71 rfl rfl rfl) ?_
      intro a72 ha72; clear ha71 a71
      refine dr_val (i := 2) ha72 rfl (by kernel_rfl) (by kernel_rfl) (by kernel_rfl) rfl rfl rfl hs70 (fun w' hw' => op_move ha72 rfl rfl) ?_
      intro a73 ha73; clear ha72 a72
      by_cases c74 : (0 : Int) < ((k : Nat) : Int)
      ·
       rw [decide_eq_true c74] at ha73
       refine dr_val (i := 3) ha73 rfl (by kernel_rfl) (by kernel_rfl) (by kernel_rfl) rfl rfl rfl hs70 (fun w' hw' => op_move ha73 rfl rfl) ?_
       intro a75 ha75; clear ha73 a73
       refine dr_val (i := 4) ha75 rfl (by kernel_rfl) (by kernel_rfl) (by kernel_rfl) rfl rfl rfl hs70 (fun w' hw' => op_move ha75 rfl rfl) ?_
       intro a76 ha76; clear ha75 a75
       refine dr_val (i := 5) ha76 rfl (by kernel_rfl) (by kernel_rfl) (by kernel_rfl) rfl rfl rfl hs70 (fun w' hw' => (op_sub ha76 rfl rfl rfl).int (IntWalk.i64_in _ (by omega))) ?_
       intro a77 ha77; clear ha76 a76
       obtain ⟨x78, hx78⟩ := get_ex (xs := ac2) (j := (k - 1)) (by first | omega | (simp only [List.length_set, List.length_append, List.length_take, List.length_drop, List.length_singleton]; omega))
       obtain ⟨p79, c80, hi81, hc82, hr83, hs84⟩ := Rds.at_ (hf63.rds pos_shStr) hx78
       obtain ⟨rfl, b85⟩ := inv_shStr hr83
       obtain ⟨_, _⟩ : _ ∧ _ := hs84
       refine dr_val (i := 6) ha77 rfl (by kernel_rfl) (by kernel_rfl) (by kernel_rfl) rfl rfl rfl hs70 (fun w' hw' => op_indexAddr ha77 rfl Try.underlying24 ti9 rfl rfl (by omega) hi81) ?_
       intro a86 ha86; clear ha77 a77
       refine dr_val (i := 7) ha86 rfl (by kernel_rfl) (by kernel_rfl) (by kernel_rfl) rfl rfl rfl hs70 (fun w' hw' => op_loadH ha86 rfl Try.underlying9 rfl rfl (hc82.ext hw') rfl) ?_
       intro a87 ha87; clear ha86 a86
       refine dr_val (i := 8) ha87 rfl (by kernel_rfl) (by kernel_rfl) (by kernel_rfl) rfl rfl rfl hs70 (fun w' hw' => op_fieldAddr (sz := 0) ha87 rfl Try.underlying83 rfl rfl ti9 rfl) ?_
       intro a88 ha88; clear ha87 a87
       refine dr_val (i := 9) ha88 rfl (by kernel_rfl) (by kernel_rfl) (by kernel_rfl) rfl rfl rfl hs70 (fun w' hw' => op_loadF (off := 0) ha88 rfl Try.underlying9 rfl rfl (hf64.ext hw').cells rfl) ?_
       intro a89 ha89; clear ha88 a88
       refine dr_val (i := 10) ha89 rfl (by kernel_rfl) (by kernel_rfl) (by kernel_rfl) rfl rfl rfl hs70 (fun w' hw' => (op_sgtr ha89 rfl rfl rfl).to (congrArg Value.bool (str_gtr _ _))) ?_
       intro a90 ha90; clear ha89 a89
       refine dr_val (i := 11) ha90 rfl (by kernel_rfl) (by kernel_rfl) (by kernel_rfl) rfl rfl rfl hs70 (fun w' hw' => op_pick_t ha90 rfl rfl rfl) ?_
       intro a91 ha91; clear ha90 a90
       refine dr_end (by kernel_rfl) ?_
       replace hf63 := hf63.ext hs70
       replace hf64 := hf64.ext hs70
       replace hc82 := hc82.ext hs70
       refine then_n ?_
       by_cases c92 : x35.1 < x78
       ·
        rw [decide_eq_true c92] at ha91
        refine cond_t ha91 rfl ?_
        refine wp_skip ?_
        refine then_n ?_
        refine wp_block ?_
        refine wp_region_lit ?_
        refine wl_val ha91 rfl rfl rfl (op_move ha91 rfl rfl) ?_
        intro a93 ha93; clear ha91 a91
        refine wl_val ha93 rfl rfl rfl ((op_sub ha93 rfl rfl rfl).int (IntWalk.i64_in _ (by omega))) ?_
        intro a94 ha94; clear ha93 a93
        refine wl_val ha94 rfl rfl rfl (op_assign ha94 rfl rfl) ?_
        intro a95 ha95; clear ha94 a94
        refine wpList_nil ?_
        refine block_n ?_
        refine round_end (x := k) ((k - 1)) ?_ ?_
        ·
         refine ⟨(Sl.cons_ ha95 rfl rfl (Sl.cons_ ha95 rfl rfl (Sl.cons_ ha95 rfl (int_eq (by omega)) (Sl.cons_ ha95 rfl rfl (Sl.cons_ ha95 rfl rfl (Sl.cons_ ha95 rfl rfl (Sl.cons_ ha95 rfl rfl (Sl.cons_ ha95 rfl rfl (Sl.cons_ ha95 rfl rfl (Sl.nil_ ha95)))))))))), hx69, hf63, hf64, (by omega), (by omega), (by intro q y hq hy; by_cases e : q = k - 1; (subst e; rw [hx78] at hy; cases hy; exact c92); exact hk2 q y (by omega) hy)⟩
        ·show (((k - 1)) : Nat) < k; omega
       ·
        rw [decide_eq_false c92] at ha91
        refine cond_f ha91 rfl ?_
        refine wp_exit ?_
        refine then_e ?_
        refine then_e ?_
        refine block_hit ?_
        refine then_n ?_
        refine wp_seq ?_
        refine wp_seq ?_
        refine dr_enter Ext follows_mixed ?_
        intro w96 he97
        have hx98 := hx69.trans' he97
        have hzhx98 := he97.size
        replace hf63 := hf63.ext he97
        replace hf64 := hf64.ext he97
        replace hc82 := hc82.ext he97
        have hs99 : Ext w96 w96 := Ext.rfl' _
        refine dr_val (i := 0) ha91 rfl (by kernel_rfl) (by kernel_rfl) (by kernel_rfl) rfl rfl rfl hs99 (fun w' hw' => op_move ha91 rfl rfl) ?_
        intro a100 ha100; clear ha91 a91
        refine dr_val (i := 1) ha100 rfl (by kernel_rfl) (by kernel_rfl) (by kernel_rfl) rfl rfl rfl hs99 (fun w' hw' => op_gtr ha100 rfl rfl rfl) ?_
        intro a101 ha101; clear ha100 a100
        refine dr_val (i := 2) ha101 rfl (by kernel_rfl) (by kernel_rfl) (by kernel_rfl) rfl rfl rfl hs99 (fun w' hw' => op_move ha101 rfl rfl) ?_
        intro a102 ha102; clear ha101 a101
        rw [decide_eq_true c74] at ha102
        refine dr_val (i := 3) ha102 rfl (by kernel_rfl) (by kernel_rfl) (by kernel_rfl) rfl rfl rfl hs99 (fun w' hw' => op_move ha102 rfl rfl) ?_
        intro a103 ha103; clear ha102 a102
        refine dr_val (i := 4) ha103 rfl (by kernel_rfl) (by kernel_rfl) (by kernel_rfl) rfl rfl rfl hs99 (fun w' hw' => op_move ha103 rfl rfl) ?_
        intro a104 ha104; clear ha103 a103
        refine dr_val (i := 5) ha104 rfl (by kernel_rfl) (by kernel_rfl) (by kernel_rfl) rfl rfl rfl hs99 (fun w' hw' => (op_sub ha104 rfl rfl rfl).int (IntWalk.i64_in _ (by omega))) ?_
        intro a105 ha105; clear ha104 a104
        refine dr_val (i := 6) ha105 rfl (by kernel_rfl) (by kernel_rfl) (by kernel_rfl) rfl rfl rfl hs99 (fun w' hw' => op_indexAddr ha105 rfl Try.underlying24 ti9 rfl rfl (by omega) hi81) ?_
        intro a106 ha106; clear ha105 a105
        refine dr_val (i := 7) ha106 rfl (by kernel_rfl) (by kernel_rfl) (by kernel_rfl) rfl rfl rfl hs99 (fun w' hw' => op_loadH ha106 rfl Try.underlying9 rfl rfl (hc82.ext hw') rfl) ?_
        intro a107 ha107; clear ha106 a106
        refine dr_val (i := 8) ha107 rfl (by kernel_rfl) (by kernel_rfl) (by kernel_rfl) rfl rfl rfl hs99 (fun w' hw' => op_fieldAddr (sz := 0) ha107 rfl Try.underlying83 rfl rfl ti9 rfl) ?_
        intro a108 ha108; clear ha107 a107
        refine dr_val (i := 9) ha108 rfl (by kernel_rfl) (by kernel_rfl) (by kernel_rfl) rfl rfl rfl hs99 (fun w' hw' => op_loadF (off := 0) ha108 rfl Try.underlying9 rfl rfl (hf64.ext hw').cells rfl) ?_
        intro a109 ha109; clear ha108 a108
        refine dr_val (i := 10) ha109 rfl (by kernel_rfl) (by kernel_rfl) (by kernel_rfl) rfl rfl rfl hs99 (fun w' hw' => op_seql ha109 rfl rfl rfl) ?_
        intro a110 ha110; clear ha109 a109
        refine dr_val (i := 11) ha110 rfl (by kernel_rfl) (by kernel_rfl) (by kernel_rfl) rfl rfl rfl hs99 (fun w' hw' => op_pick_t ha110 rfl rfl rfl) ?_
        intro a111 ha111; clear ha110 a110
        refine dr_end (by kernel_rfl) ?_
        replace hf63 := hf63.ext hs99
        replace hf64 := hf64.ext hs99
        replace hc82 := hc82.ext hs99
        refine then_n ?_
        by_cases c112 : x78 = x35.1
        ·
         rw [decide_eq_true c112] at ha111
         refine cond_t ha111 rfl ?_
         refine wp_exit ?_
         refine then_e ?_
         refine block_hit ?_
         refine then_n ?_
         refine wp_region_lit ?_
         refine wl_val ha111 rfl rfl rfl ((op_add ha111 rfl rfl rfl).int (IntWalk.i64_in _ (by omega))) ?_
         intro a113 ha113; clear ha111 a111
         refine wl_val ha113 rfl rfl rfl (op_move ha113 rfl rfl) ?_
         intro a114 ha114; clear ha113 a113
         refine wpList_nil ?_
         
         refine round_end (x := (j, v2, ac2)) ((j + 1), v2, ac2) ?_ ?_
         ·
          refine ⟨(Sl.cons_ ha114 rfl rfl (Sl.cons_ ha114 rfl rfl (Sl.cons_ ha114 rfl rfl (Sl.cons_ ha114 rfl rfl (Sl.cons_ ha114 rfl rfl (Sl.cons_ ha114 rfl rfl (Sl.cons_ ha114 rfl (int_eq (by omega)) (Sl.nil_ ha114)))))))), hx98, (hf63.fin (by omega) (by omega) (by omega)), (by omega), (by omega), (by omega), (by exact hU2), (by rw [drop_cons hx35, keG, insU_has hU2 (by have h5 := List.mem_of_getElem? hx78; rwa [c112] at h5)] at hF2; exact hF2)⟩
         ·show (x13.length - ((j + 1)) : Nat) < x13.length - j; omega
        ·
         rw [decide_eq_false c112] at ha111
         refine cond_f ha111 rfl ?_
         refine wp_skip ?_
         refine then_n ?_
         refine wp_seq ?_
         refine wp_region_lit ?_
         refine wl_val ha111 rfl rfl rfl (op_move ha111 rfl rfl) ?_
         intro a115 ha115; clear ha111 a111
         refine wl_eff ha115 rfl rfl rfl (op_buildSlice (s := shStr) (xs := [([] : Str)]) (cs := [St (([] : Str))]) (vs := [(0, St (([] : Str)))]) (S := fun _ => False) (le := w96.heap.size) ha115 rfl pos_shStr Try.underlying24 ti9 rfl rfl (by decide) (by kernel_rfl) (Els.single (mk_shStr (([] : Str)) (by first | assumption | omega | (simp; done)))) (fun _ h => h.elim)) ?_
         rintro v116 w117 ⟨ho118, he119, hob120⟩ a121 ha121; clear ha115 a115
         have hx122 := hx98.trans' he119
         have hzhx122 := he119.size
         replace hf63 := hf63.ext he119
         replace hf64 := hf64.ext he119
         replace hc82 := hc82.ext he119
         refine wl_eff ha121 rfl rfl rfl (op_append (ts := #[]) (s := shStr) ha121 rfl Try.underlying24 ti9 rfl pos_shStr rfl rfl hf63 (ho118.rds pos_shStr) (by omega) (by omega) (by first | omega | (simp; omega)) (by first | omega | (simp; omega)) (.inl flat_shStr)) ?_
         rintro v123 w124 ⟨ho125, hst126, hob127⟩ a128 ha128; clear ha121 a121
         have hx129 := hx122.stp hst126 (by intro q hq; have hq0 := hf63.lt q hq; omega)
         have hzhx129 := hst126.size
         replace hf64 := hf64.stp hst126 (by intro q hq; have hq0 := hf63.lt q hq; omega)
         replace ho118 := ho118.stp hst126 (by intro q hq; have hq0 := hf63.lt q hq; omega)
         have hsp130 : ∀ q, Value.ownBlock v123 = some q → Value.ownBlock v116 ≠ some q := by intro q hq hb; have hq0 := ho118.lt q hb; rcases hob127 with h | h; (rw [h] at hq; first | (have hq1 := hf63.lt q hq; omega)); (rw [h] at hq; cases hq; omega)
         refine wl_val ha128 rfl rfl rfl (op_assign ha128 rfl rfl) ?_
         intro a131 ha131; clear ha128 a128
         refine wpList_nil ?_
         refine then_n ?_
         refine wp_seq ?_
         refine dr_enter (fun wa_ wb_ => Stp wa_ wb_ (Value.ownBlock v123)) follows_mixed ?_
         intro w132 he133
         have hx134 := hx129.trans' he133
         have hzhx134 := he133.size
         replace hf64 := hf64.ext he133
         replace ho118 := ho118.ext he133
         replace ho125 := ho125.ext he133
         have hs135 : Ext w132 w132 := Ext.rfl' _
         refine dr_val (i := 0) ha131 rfl (by kernel_rfl) (by kernel_rfl) (by kernel_rfl) rfl rfl rfl (Stp.of_ext hs135 _) (fun w' hw' => op_move ha131 rfl rfl) ?_
         intro a136 ha136; clear ha131 a131
         refine dr_val (i := 1) ha136 rfl (by kernel_rfl) (by kernel_rfl) (by kernel_rfl) rfl rfl rfl (Stp.of_ext hs135 _) (fun w' hw' => op_move ha136 rfl rfl) ?_
         intro a137 ha137; clear ha136 a136
         refine dr_val (i := 2) ha137 rfl (by kernel_rfl) (by kernel_rfl) (by kernel_rfl) rfl rfl rfl (Stp.of_ext hs135 _) (fun w' hw' => (op_add ha137 rfl rfl rfl).int (IntWalk.i64_in _ (by omega))) ?_
         intro a138 ha138; clear ha137 a137
         obtain ⟨u139, hu140, hpp142, hr141⟩ := Own.partw ho125 pos_shStr (by simp; try omega) Try.underlying24 ti9 (some (.int .i64 ((k + 1) : Nat))) none ((k + 1)) (((ac2 ++ [([] : Str)])).length) (.inr ⟨.i64, rfl⟩) (.inl ⟨rfl, rfl⟩) (by first | omega | (simp; omega)) (by first | omega | (simp; omega))
         replace hr141 := hr141.cast (ys := ((ac2 ++ [([] : Str)])).drop ((k + 1))) (by first | rw [List.take_length] | simp)
         refine dr_val (i := 3) ha138 rfl (by kernel_rfl) (by kernel_rfl) (by kernel_rfl) rfl rfl rfl (Stp.of_ext hs135 _) (fun w' hw' => op_slice_f (by omega) ha138 rfl rfl rfl hu140) ?_
         intro a143 ha143; clear ha138 a138
         refine dr_val (i := 4) ha143 rfl (by kernel_rfl) (by kernel_rfl) (by kernel_rfl) rfl rfl rfl (Stp.of_ext hs135 _) (fun w' hw' => op_move ha143 rfl rfl) ?_
         intro a144 ha144; clear ha143 a143
         refine dr_val (i := 5) ha144 rfl (by kernel_rfl) (by kernel_rfl) (by kernel_rfl) rfl rfl rfl (Stp.of_ext hs135 _) (fun w' hw' => op_move ha144 rfl rfl) ?_
         intro a145 ha145; clear ha144 a144
         obtain ⟨u146, hu147, hpp149, hr148⟩ := Own.partw ho125 pos_shStr (by simp; try omega) Try.underlying24 ti9 (some (.int .i64 (k : Nat))) none k (((ac2 ++ [([] : Str)])).length) (.inr ⟨.i64, rfl⟩) (.inl ⟨rfl, rfl⟩) (by first | omega | (simp; omega)) (by first | omega | (simp; omega))
         replace hr148 := hr148.cast (ys := ((ac2 ++ [([] : Str)])).drop k) (by first | rw [List.take_length] | simp)
         refine dr_val (i := 6) ha145 rfl (by kernel_rfl) (by kernel_rfl) (by kernel_rfl) rfl rfl rfl (Stp.of_ext hs135 _) (fun w' hw' => op_slice_f (by omega) ha145 rfl rfl rfl hu147) ?_
         intro a150 ha150; clear ha145 a145
         refine dr_one (i := 7) (by kernel_rfl) ?_
         replace hf64 := hf64.ext hs135
         replace ho118 := ho118.ext hs135
         replace ho125 := ho125.ext hs135
         replace hr141 := hr141.ext pos_shStr hs135
         replace hr148 := hr148.ext pos_shStr hs135
         refine po_eff ha150 rfl rfl rfl rfl (op_copyIn (s := shStr) ha150 rfl Try.underlying24 ti9 rfl rfl ho125 (by simp; try omega) hpp142 hpp149) ?_
         rintro _ w151 ⟨rfl, ho153, hst152, hz154⟩ a155 ha155; clear ha150 a150
         have hx156 := hx134.stp hst152 (by intro q hq; have hq0 := ho125.lt q hq; omega)
         have hzhx156 := hst152.size
         first | replace hf64 := hf64.stp hst152 (by intro q hq; have hq0 := ho125.lt q hq; omega) | replace hf64 := hf64.stp hst152 (by intro q hq e; subst e; exact ho125.ne_box hf64 rfl hq)
         first | replace ho118 := ho118.stp hst152 (by intro q hq; have hq0 := ho125.lt q hq; omega) | replace ho118 := ho118.stpF flat_shStr hst152 (fun q hq => hsp130 q hq)
         clear ho125
         have hs157 := (Stp.of_ext hs135 (Value.ownBlock v123)).trans' hst152
         refine ⟨hs157, ?_⟩
         refine dr_end (by kernel_rfl) ?_
         refine then_n ?_
         refine wp_region_lit ?_
         refine wl_val ha155 rfl rfl rfl (op_move ha155 rfl rfl) ?_
         intro a158 ha158; clear ha155 a155
         refine wl_val ha158 rfl rfl rfl (op_move ha158 rfl rfl) ?_
         intro a159 ha159; clear ha158 a158
         refine wl_val ha159 rfl rfl rfl (op_fieldAddr (sz := 0) ha159 rfl Try.underlying83 rfl rfl ti9 rfl) ?_
         intro a160 ha160; clear ha159 a159
         refine wl_val ha160 rfl rfl rfl (op_loadF (off := 0) ha160 rfl Try.underlying9 rfl rfl hf64.cells rfl) ?_
         intro a161 ha161; clear ha160 a160
         obtain ⟨x162, hx162⟩ := get_ex (xs := (((ac2 ++ [([] : Str)])).take ((k + 1)) ++ (((ac2 ++ [([] : Str)])).drop k).take (min (((ac2 ++ [([] : Str)])).length - (k + 1)) (((ac2 ++ [([] : Str)])).length - k)) ++ ((ac2 ++ [([] : Str)])).drop ((k + 1) + (min (((ac2 ++ [([] : Str)])).length - (k + 1)) (((ac2 ++ [([] : Str)])).length - k))))) (j := k) (by first | omega | (simp only [List.length_set, List.length_append, List.length_take, List.length_drop, List.length_singleton]; omega))
         obtain ⟨p163, c164, hi165, hc166, hr167, hs168⟩ := Rds.at_ (ho153.rds pos_shStr) hx162
         obtain ⟨rfl, b169⟩ := inv_shStr hr167
         obtain ⟨_, _⟩ : _ ∧ _ := hs168
         refine wl_val ha161 rfl rfl rfl (op_indexAddr ha161 rfl Try.underlying24 ti9 rfl rfl (by omega) hi165) ?_
         intro a170 ha170; clear ha161 a161
         refine wl_effS ha170 rfl rfl (op_setElem (s := shStr) (ds := [St x35.1]) (S' := fun _ => False) ha170 rfl ti9 rfl rfl rfl ho153 pos_shStr hi165 (by first | omega | (simp only [List.length_set, List.length_append, List.length_take, List.length_drop, List.length_singleton]; omega)) (mk_shStr x35.1 (by first | assumption | omega | (simp; done))) (fun _ h => h.elim)) ?_
         rintro w171 ⟨ho173, hst172, hz174⟩
         have hx175 := hx156.stp hst172 (by intro q hq; have hq0 := ho153.lt q hq; omega)
         have hzhx175 := hst172.size
         first | replace hf64 := hf64.stp hst172 (by intro q hq; have hq0 := ho153.lt q hq; omega) | replace hf64 := hf64.stp hst172 (by intro q hq e; subst e; exact ho153.ne_box hf64 rfl hq)
         first | replace ho118 := ho118.stp hst172 (by intro q hq; have hq0 := ho153.lt q hq; omega) | replace ho118 := ho118.stpF flat_shStr hst172 (fun q hq => hsp130 q hq)
         clear ho153
         have hlsho173 : ((((((ac2 ++ [([] : Str)])).take ((k + 1)) ++ (((ac2 ++ [([] : Str)])).drop k).take (min (((ac2 ++ [([] : Str)])).length - (k + 1)) (((ac2 ++ [([] : Str)])).length - k)) ++ ((ac2 ++ [([] : Str)])).drop ((k + 1) + (min (((ac2 ++ [([] : Str)])).length - (k + 1)) (((ac2 ++ [([] : Str)])).length - k))))).set k x35.1)).length = ((((ac2 ++ [([] : Str)])).take ((k + 1)) ++ (((ac2 ++ [([] : Str)])).drop k).take (min (((ac2 ++ [([] : Str)])).length - (k + 1)) (((ac2 ++ [([] : Str)])).length - k)) ++ ((ac2 ++ [([] : Str)])).drop ((k + 1) + (min (((ac2 ++ [([] : Str)])).length - (k + 1)) (((ac2 ++ [([] : Str)])).length - k))))).length := List.length_set
         refine wpList_nil ?_
         refine block_n ?_
         refine then_n ?_
         refine wp_region_lit ?_
         refine wl_val ha170 rfl rfl rfl ((op_add ha170 rfl rfl rfl).int (IntWalk.i64_in _ (by omega))) ?_
         intro a176 ha176; clear ha170 a170
         refine wl_val ha176 rfl rfl rfl (op_move ha176 rfl rfl) ?_
         intro a177 ha177; clear ha176 a176
         refine wpList_nil ?_
         have hins := insU_back (x := x35.1) hU2 hk2 (.inr ⟨_, hx78, c92, c112⟩)
         have hieq := ins_eq (acc := ac2) (k := k) (x := x35.1) (z := ([] : Str)) (by omega)
         have hils := insU_len x35.1 ac2
         rw [← hins] at hieq
         refine round_end (x := (j, v2, ac2)) ((j + 1), v123, (((((ac2 ++ [([] : Str)])).take ((k + 1)) ++ (((ac2 ++ [([] : Str)])).drop k).take (min (((ac2 ++ [([] : Str)])).length - (k + 1)) (((ac2 ++ [([] : Str)])).length - k)) ++ ((ac2 ++ [([] : Str)])).drop ((k + 1) + (min (((ac2 ++ [([] : Str)])).length - (k + 1)) (((ac2 ++ [([] : Str)])).length - k))))).set k x35.1)) ?_ ?_
         ·
          refine ⟨(Sl.cons_ ha177 rfl rfl (Sl.cons_ ha177 rfl rfl (Sl.cons_ ha177 rfl rfl (Sl.cons_ ha177 rfl rfl (Sl.cons_ ha177 rfl rfl (Sl.cons_ ha177 rfl rfl (Sl.cons_ ha177 rfl (int_eq (by omega)) (Sl.nil_ ha177)))))))), hx175, (ho173.fin (by omega) (by omega) (by omega)), (by omega), (by omega), (by rw [hieq]; omega), (by rw [hieq]; exact insU_up hU2), (by rw [drop_cons hx35, keG] at hF2; rw [hieq]; exact hF2)⟩
         ·show (x13.length - ((j + 1)) : Nat) < x13.length - j; omega
      ·
       rw [decide_eq_false c74] at ha73
       refine dr_skip (i := 3) ha73 rfl (by kernel_rfl) (by kernel_rfl) (by kernel_rfl) rfl rfl rfl hs70 ?_
       intro a178 ha178; clear ha73 a73
       refine dr_skip (i := 4) ha178 rfl (by kernel_rfl) (by kernel_rfl) (by kernel_rfl) rfl rfl rfl hs70 ?_
       intro a179 ha179; clear ha178 a178
       refine dr_skip (i := 5) ha179 rfl (by kernel_rfl) (by kernel_rfl) (by kernel_rfl) rfl rfl rfl hs70 ?_
       intro a180 ha180; clear ha179 a179
       refine dr_skip (i := 6) ha180 rfl (by kernel_rfl) (by kernel_rfl) (by kernel_rfl) rfl rfl rfl hs70 ?_
       intro a181 ha181; clear ha180 a180
       refine dr_skip (i := 7) ha181 rfl (by kernel_rfl) (by kernel_rfl) (by kernel_rfl) rfl rfl rfl hs70 ?_
       intro a182 ha182; clear ha181 a181
       refine dr_skip (i := 8) ha182 rfl (by kernel_rfl) (by kernel_rfl) (by kernel_rfl) rfl rfl rfl hs70 ?_
       intro a183 ha183; clear ha182 a182
       refine dr_skip (i := 9) ha183 rfl (by kernel_rfl) (by kernel_rfl) (by kernel_rfl) rfl rfl rfl hs70 ?_
       intro a184 ha184; clear ha183 a183
       refine dr_skip (i := 10) ha184 rfl (by kernel_rfl) (by kernel_rfl) (by kernel_rfl) rfl rfl rfl hs70 ?_
       intro a185 ha185; clear ha184 a184
       refine dr_val (i := 11) ha185 rfl (by kernel_rfl) (by kernel_rfl) (by kernel_rfl) rfl rfl rfl hs70 (fun w' hw' => op_pick_f ha185 rfl rfl rfl) ?_
       intro a186 ha186; clear ha185 a185
       refine dr_end (by kernel_rfl) ?_
       replace hf63 := hf63.ext hs70
       replace hf64 := hf64.ext hs70
       refine then_n ?_
       refine cond_f ha186 rfl ?_
       refine wp_exit ?_
       refine then_e ?_
       refine then_e ?_
       refine block_hit ?_
       refine then_n ?_
       refine wp_seq ?_
       refine wp_seq ?_
       refine dr_enter Ext follows_mixed ?_
       intro w187 he188
       have hx189 := hx69.trans' he188
       have hzhx189 := he188.size
       replace hf63 := hf63.ext he188
       replace hf64 := hf64.ext he188
       have hs190 : Ext w187 w187 := Ext.rfl' _
       refine dr_val (i := 0) ha186 rfl (by kernel_rfl) (by kernel_rfl) (by kernel_rfl) rfl rfl rfl hs190 (fun w' hw' => op_move ha186 rfl rfl) ?_
       intro a191 ha191; clear ha186 a186
       refine dr_val (i := 1) ha191 rfl (by kernel_rfl) (by kernel_rfl) (by kernel_rfl) rfl rfl rfl hs190 (fun w' hw' => op_gtr ha191 rfl rfl rfl) ?_
       intro a192 ha192; clear ha191 a191
       refine dr_val (i := 2) ha192 rfl (by kernel_rfl) (by kernel_rfl) (by kernel_rfl) rfl rfl rfl hs190 (fun w' hw' => op_move ha192 rfl rfl) ?_
       intro a193 ha193; clear ha192 a192
       rw [decide_eq_false c74] at ha193
       refine dr_skip (i := 3) ha193 rfl (by kernel_rfl) (by kernel_rfl) (by kernel_rfl) rfl rfl rfl hs190 ?_
       intro a194 ha194; clear ha193 a193
       refine dr_skip (i := 4) ha194 rfl (by kernel_rfl) (by kernel_rfl) (by kernel_rfl) rfl rfl rfl hs190 ?_
       intro a195 ha195; clear ha194 a194
       refine dr_skip (i := 5) ha195 rfl (by kernel_rfl) (by kernel_rfl) (by kernel_rfl) rfl rfl rfl hs190 ?_
       intro a196 ha196; clear ha195 a195
       refine dr_skip (i := 6) ha196 rfl (by kernel_rfl) (by kernel_rfl) (by kernel_rfl) rfl rfl rfl hs190 ?_
       intro a197 ha197; clear ha196 a196
       refine dr_skip (i := 7) ha197 rfl (by kernel_rfl) (by kernel_rfl) (by kernel_rfl) rfl rfl rfl hs190 ?_
       intro a198 ha198; clear ha197 a197
       refine dr_skip (i := 8) ha198 rfl (by kernel_rfl) (by kernel_rfl) (by kernel_rfl) rfl rfl rfl hs190 ?_
       intro a199 ha199; clear ha198 a198
       refine dr_skip (i := 9) ha199 rfl (by kernel_rfl) (by kernel_rfl) (by kernel_rfl) rfl rfl rfl hs190 ?_
       intro a200 ha200; clear ha199 a199
       refine dr_skip (i := 10) ha200 rfl (by kernel_rfl) (by kernel_rfl) (by kernel_rfl) rfl rfl rfl hs190 ?_
       intro a201 ha201; clear ha200 a200
       refine dr_val (i := 11) ha201 rfl (by kernel_rfl) (by kernel_rfl) (by kernel_rfl) rfl rfl rfl hs190 (fun w' hw' => op_pick_f ha201 rfl rfl rfl) ?_
       intro a202 ha202; clear ha201 a201
       refine dr_end (by kernel_rfl) ?_
       replace hf63 := hf63.ext hs190
       replace hf64 := hf64.ext hs190
       refine then_n ?_
       refine cond_f ha202 rfl ?_
       refine wp_skip ?_
       refine then_n ?_
       refine wp_seq ?_
       refine wp_region_lit ?_
       refine wl_val ha202 rfl rfl rfl (op_move ha202 rfl rfl) ?_
       intro a203 ha203; clear ha202 a202
       refine wl_eff ha203 rfl rfl rfl (op_buildSlice (s := shStr) (xs := [([] : Str)]) (cs := [St (([] : Str))]) (vs := [(0, St (([] : Str)))]) (S := fun _ => False) (le := w187.heap.size) ha203 rfl pos_shStr Try.underlying24 ti9 rfl rfl (by decide) (by kernel_rfl) (Els.single (mk_shStr (([] : Str)) (by first | assumption | omega | (simp; done)))) (fun _ h => h.elim)) ?_
       rintro v204 w205 ⟨ho206, he207, hob208⟩ a209 ha209; clear ha203 a203
       have hx210 := hx189.trans' he207
       have hzhx210 := he207.size
       replace hf63 := hf63.ext he207
       replace hf64 := hf64.ext he207
       refine wl_eff ha209 rfl rfl rfl (op_append (ts := #[]) (s := shStr) ha209 rfl Try.underlying24 ti9 rfl pos_shStr rfl rfl hf63 (ho206.rds pos_shStr) (by omega) (by omega) (by first | omega | (simp; omega)) (by first | omega | (simp; omega)) (.inl flat_shStr)) ?_
       rintro v211 w212 ⟨ho213, hst214, hob215⟩ a216 ha216; clear ha209 a209
       have hx217 := hx210.stp hst214 (by intro q hq; have hq0 := hf63.lt q hq; omega)
       have hzhx217 := hst214.size
       replace hf64 := hf64.stp hst214 (by intro q hq; have hq0 := hf63.lt q hq; omega)
       replace ho206 := ho206.stp hst214 (by intro q hq; have hq0 := hf63.lt q hq; omega)
       have hsp218 : ∀ q, Value.ownBlock v211 = some q → Value.ownBlock v204 ≠ some q := by intro q hq hb; have hq0 := ho206.lt q hb; rcases hob215 with h | h; (rw [h] at hq; first | (have hq1 := hf63.lt q hq; omega)); (rw [h] at hq; cases hq; omega)
       refine wl_val ha216 rfl rfl rfl (op_assign ha216 rfl rfl) ?_
       intro a219 ha219; clear ha216 a216
       refine wpList_nil ?_
       refine then_n ?_
       refine wp_seq ?_
       refine dr_enter (fun wa_ wb_ => Stp wa_ wb_ (Value.ownBlock v211)) follows_mixed ?_
       intro w220 he221
       have hx222 := hx217.trans' he221
       have hzhx222 := he221.size
       replace hf64 := hf64.ext he221
       replace ho206 := ho206.ext he221
       replace ho213 := ho213.ext he221
       have hs223 : Ext w220 w220 := Ext.rfl' _
       refine dr_val (i := 0) ha219 rfl (by kernel_rfl) (by kernel_rfl) (by kernel_rfl) rfl rfl rfl (Stp.of_ext hs223 _) (fun w' hw' => op_move ha219 rfl rfl) ?_
       intro a224 ha224; clear ha219 a219
       refine dr_val (i := 1) ha224 rfl (by kernel_rfl) (by kernel_rfl) (by kernel_rfl) rfl rfl rfl (Stp.of_ext hs223 _) (fun w' hw' => op_move ha224 rfl rfl) ?_
       intro a225 ha225; clear ha224 a224
       refine dr_val (i := 2) ha225 rfl (by kernel_rfl) (by kernel_rfl) (by kernel_rfl) rfl rfl rfl (Stp.of_ext hs223 _) (fun w' hw' => (op_add ha225 rfl rfl rfl).int (IntWalk.i64_in _ (by omega))) ?_
       intro a226 ha226; clear ha225 a225
       obtain ⟨u227, hu228, hpp230, hr229⟩ := Own.partw ho213 pos_shStr (by simp; try omega) Try.underlying24 ti9 (some (.int .i64 ((k + 1) : Nat))) none ((k + 1)) (((ac2 ++ [([] : Str)])).length) (.inr ⟨.i64, rfl⟩) (.inl ⟨rfl, rfl⟩) (by first | omega | (simp; omega)) (by first | omega | (simp; omega))
       replace hr229 := hr229.cast (ys := ((ac2 ++ [([] : Str)])).drop ((k + 1))) (by first | rw [List.take_length] | simp)
       refine dr_val (i := 3) ha226 rfl (by kernel_rfl) (by kernel_rfl) (by kernel_rfl) rfl rfl rfl (Stp.of_ext hs223 _) (fun w' hw' => op_slice_f (by omega) ha226 rfl rfl rfl hu228) ?_
       intro a231 ha231; clear ha226 a226
       refine dr_val (i := 4) ha231 rfl (by kernel_rfl) (by kernel_rfl) (by kernel_rfl) rfl rfl rfl (Stp.of_ext hs223 _) (fun w' hw' => op_move ha231 rfl rfl) ?_
       intro a232 ha232; clear ha231 a231
       refine dr_val (i := 5) ha232 rfl (by kernel_rfl) (by kernel_rfl) (by kernel_rfl) rfl rfl rfl (Stp.of_ext hs223 _) (fun w' hw' => op_move ha232 rfl rfl) ?_
       intro a233 ha233; clear ha232 a232
       obtain ⟨u234, hu235, hpp237, hr236⟩ := Own.partw ho213 pos_shStr (by simp; try omega) Try.underlying24 ti9 (some (.int .i64 (k : Nat))) none k (((ac2 ++ [([] : Str)])).length) (.inr ⟨.i64, rfl⟩) (.inl ⟨rfl, rfl⟩) (by first | omega | (simp; omega)) (by first | omega | (simp; omega))
       replace hr236 := hr236.cast (ys := ((ac2 ++ [([] : Str)])).drop k) (by first | rw [List.take_length] | simp)
       refine dr_val (i := 6) ha233 rfl (by kernel_rfl) (by kernel_rfl) (by kernel_rfl) rfl rfl rfl (Stp.of_ext hs223 _) (fun w' hw' => op_slice_f (by omega) ha233 rfl rfl rfl hu235) ?_
       intro a238 ha238; clear ha233 a233
       refine dr_one (i := 7) (by kernel_rfl) ?_
       replace hf64 := hf64.ext hs223
       replace ho206 := ho206.ext hs223
       replace ho213 := ho213.ext hs223
       replace hr229 := hr229.ext pos_shStr hs223
       replace hr236 := hr236.ext pos_shStr hs223
       refine po_eff ha238 rfl rfl rfl rfl (op_copyIn (s := shStr) ha238 rfl Try.underlying24 ti9 rfl rfl ho213 (by simp; try omega) hpp230 hpp237) ?_
       rintro _ w239 ⟨rfl, ho241, hst240, hz242⟩ a243 ha243; clear ha238 a238
       have hx244 := hx222.stp hst240 (by intro q hq; have hq0 := ho213.lt q hq; omega)
       have hzhx244 := hst240.size
       first | replace hf64 := hf64.stp hst240 (by intro q hq; have hq0 := ho213.lt q hq; omega) | replace hf64 := hf64.stp hst240 (by intro q hq e; subst e; exact ho213.ne_box hf64 rfl hq)
       first | replace ho206 := ho206.stp hst240 (by intro q hq; have hq0 := ho213.lt q hq; omega) | replace ho206 := ho206.stpF flat_shStr hst240 (fun q hq => hsp218 q hq)
       clear ho213
       have hs245 := (Stp.of_ext hs223 (Value.ownBlock v211)).trans' hst240
       refine ⟨hs245, ?_⟩
       refine dr_end (by kernel_rfl) ?_
       refine then_n ?_
       refine wp_region_lit ?_
       refine wl_val ha243 rfl rfl rfl (op_move ha243 rfl rfl) ?_
       intro a246 ha246; clear ha243 a243
       refine wl_val ha246 rfl rfl rfl (op_move ha246 rfl rfl) ?_
       intro a247 ha247; clear ha246 a246
       refine wl_val ha247 rfl rfl rfl (op_fieldAddr (sz := 0) ha247 rfl Try.underlying83 rfl rfl ti9 rfl) ?_
       intro a248 ha248; clear ha247 a247
       refine wl_val ha248 rfl rfl rfl (op_loadF (off := 0) ha248 rfl Try.underlying9 rfl rfl hf64.cells rfl) ?_
       intro a249 ha249; clear ha248 a248
       obtain ⟨x250, hx250⟩ := get_ex (xs := (((ac2 ++ [([] : Str)])).take ((k + 1)) ++ (((ac2 ++ [([] : Str)])).drop k).take (min (((ac2 ++ [([] : Str)])).length - (k + 1)) (((ac2 ++ [([] : Str)])).length - k)) ++ ((ac2 ++ [([] : Str)])).drop ((k + 1) + (min (((ac2 ++ [([] : Str)])).length - (k + 1)) (((ac2 ++ [([] : Str)])).length - k))))) (j := k) (by first | omega | (simp only [List.length_set, List.length_append, List.length_take, List.length_drop, List.length_singleton]; omega))
       obtain ⟨p251, c252, hi253, hc254, hr255, hs256⟩ := Rds.at_ (ho241.rds pos_shStr) hx250
       obtain ⟨rfl, b257⟩ := inv_shStr hr255
       obtain ⟨_, _⟩ : _ ∧ _ := hs256
       refine wl_val ha249 rfl rfl rfl (op_indexAddr ha249 rfl Try.underlying24 ti9 rfl rfl (by omega) hi253) ?_
       intro a258 ha258; clear ha249 a249
       refine wl_effS ha258 rfl rfl (op_setElem (s := shStr) (ds := [St x35.1]) (S' := fun _ => False) ha258 rfl ti9 rfl rfl rfl ho241 pos_shStr hi253 (by first | omega | (simp only [List.length_set, List.length_append, List.length_take, List.length_drop, List.length_singleton]; omega)) (mk_shStr x35.1 (by first | assumption | omega | (simp; done))) (fun _ h => h.elim)) ?_
       rintro w259 ⟨ho261, hst260, hz262⟩
       have hx263 := hx244.stp hst260 (by intro q hq; have hq0 := ho241.lt q hq; omega)
       have hzhx263 := hst260.size
       first | replace hf64 := hf64.stp hst260 (by intro q hq; have hq0 := ho241.lt q hq; omega) | replace hf64 := hf64.stp hst260 (by intro q hq e; subst e; exact ho241.ne_box hf64 rfl hq)
       first | replace ho206 := ho206.stp hst260 (by intro q hq; have hq0 := ho241.lt q hq; omega) | replace ho206 := ho206.stpF flat_shStr hst260 (fun q hq => hsp218 q hq)
       clear ho241
       have hlsho261 : ((((((ac2 ++ [([] : Str)])).take ((k + 1)) ++ (((ac2 ++ [([] : Str)])).drop k).take (min (((ac2 ++ [([] : Str)])).length - (k + 1)) (((ac2 ++ [([] : Str)])).length - k)) ++ ((ac2 ++ [([] : Str)])).drop ((k + 1) + (min (((ac2 ++ [([] : Str)])).length - (k + 1)) (((ac2 ++ [([] : Str)])).length - k))))).set k x35.1)).length = ((((ac2 ++ [([] : Str)])).take ((k + 1)) ++ (((ac2 ++ [([] : Str)])).drop k).take (min (((ac2 ++ [([] : Str)])).length - (k + 1)) (((ac2 ++ [([] : Str)])).length - k)) ++ ((ac2 ++ [([] : Str)])).drop ((k + 1) + (min (((ac2 ++ [([] : Str)])).length - (k + 1)) (((ac2 ++ [([] : Str)])).length - k))))).length := List.length_set
       refine wpList_nil ?_
       refine block_n ?_
       refine then_n ?_
       refine wp_region_lit ?_
       refine wl_val ha258 rfl rfl rfl ((op_add ha258 rfl rfl rfl).int (IntWalk.i64_in _ (by omega))) ?_
       intro a264 ha264; clear ha258 a258
       refine wl_val ha264 rfl rfl rfl (op_move ha264 rfl rfl) ?_
       intro a265 ha265; clear ha264 a264
       refine wpList_nil ?_
       have hins := insU_back (x := x35.1) hU2 hk2 (.inl (by omega))
       have hieq := ins_eq (acc := ac2) (k := k) (x := x35.1) (z := ([] : Str)) (by omega)
       have hils := insU_len x35.1 ac2
       rw [← hins] at hieq
       refine round_end (x := (j, v2, ac2)) ((j + 1), v211, (((((ac2 ++ [([] : Str)])).take ((k + 1)) ++ (((ac2 ++ [([] : Str)])).drop k).take (min (((ac2 ++ [([] : Str)])).length - (k + 1)) (((ac2 ++ [([] : Str)])).length - k)) ++ ((ac2 ++ [([] : Str)])).drop ((k + 1) + (min (((ac2 ++ [([] : Str)])).length - (k + 1)) (((ac2 ++ [([] : Str)])).length - k))))).set k x35.1)) ?_ ?_
       ·
        refine ⟨(Sl.cons_ ha265 rfl rfl (Sl.cons_ ha265 rfl rfl (Sl.cons_ ha265 rfl rfl (Sl.cons_ ha265 rfl rfl (Sl.cons_ ha265 rfl rfl (Sl.cons_ ha265 rfl rfl (Sl.cons_ ha265 rfl (int_eq (by omega)) (Sl.nil_ ha265)))))))), hx263, (ho261.fin (by omega) (by omega) (by omega)), (by omega), (by omega), (by rw [hieq]; omega), (by rw [hieq]; exact insU_up hU2), (by rw [drop_cons hx35, keG] at hF2; rw [hieq]; exact hF2)⟩
       ·show (x13.length - ((j + 1)) : Nat) < x13.length - j; omega
    ·
     rw [decide_eq_false c34] at ha33
     refine cond_f ha33 rfl ?_
     refine wp_exit ?_
     refine then_e ?_
     refine then_e ?_
     refine block_hit ?_
     refine block_n ?_
     refine then_n ?_
     refine wp_region_lit ?_
     refine wl_val ha33 rfl rfl rfl ((op_add ha33 rfl rfl rfl).int (IntWalk.i64_in _ (by omega))) ?_
     intro a266 ha266; clear ha33 a33
     refine wl_val ha266 rfl rfl rfl (op_move ha266 rfl rfl) ?_
     intro a267 ha267; clear ha266 a266
     refine wpList_nil ?_
     refine round_end (x := (i, v, acc)) ((i + 1), v2, ac2) ?_ ?_
     ·
      refine ⟨(Sl.cons_ ha267 rfl rfl (Sl.cons_ ha267 rfl rfl (Sl.cons_ ha267 rfl rfl (Sl.cons_ ha267 rfl (int_eq (by omega)) (Sl.nil_ ha267))))), hx29, (hf30.fin (by omega) (by omega) (by omega)), (by omega), (by omega), (by omega), (by exact hU2), (by rw [drop_nil (xs := x13) (by omega), keG] at hF2; exact hF2)⟩
     ·show (sheets.length - ((i + 1)) : Nat) < sheets.length - i; omega
  ·
   rw [decide_eq_false c12] at ha11
   refine cond_f ha11 rfl ?_
   refine wp_exit ?_
   refine then_e ?_
   refine then_e ?_
   refine block_hit ?_
   refine then_n ?_
   refine wp_seq ?_
   refine wp_region_lit ?_
   refine wl_val ha11 rfl rfl rfl (op_move ha11 rfl rfl) ?_
   intro a268 ha268; clear ha11 a11
   refine wl_val ha268 rfl rfl rfl (op_assign ha268 rfl rfl) ?_
   intro a269 ha269; clear ha268 a268
   refine wpList_nil ?_
   refine then_n ?_
   refine wp_ret ?_
   refine ret1 ha269 rfl rfl ?_
   clear ha269 a269
   refine ret_mk hx7 ?_
   refine (hf8.fin (by omega) (by omega) (by omega)).cast ?_
   rw [drop_nil (by omega), keS] at hF; exact hF

set_option maxHeartbeats 4000000 in
theorem c_spec_l29Keys (w0 : World) (v_sheets : Value) (sheets : List (List (Str × Int))) {S_sheets : Nat → Prop} (h_sheets : Rds shLns S_sheets w0 v_sheets sheets) (g0 : sheets.length ≤ 3) (g1 : ∀ q ∈ sheets, q.length ≤ 8) :
  Calls Try.prog 51 #[v_sheets] w0 (Ret w0 (fun v w1 => Own shStr 9 w0.heap.size w0.heap.size w1.heap.size w1 v (allK sheets))) := by
 refine enter (N := 71) Try.func51 rfl rfl rfl ?_
 intro a0 ha0
 have hx0 := Ext.rfl' w0
 have hl_sheets := h_sheets.length_le
 refine wp_seq ?_
 refine wp_region_lit ?_
 refine wl_val ha0 rfl rfl rfl (op_assign ha0 rfl rfl) ?_
 intro a1 ha1; clear ha0 a0
 refine wpList_nil ?_
 refine then_n ?_
 refine wp_seq ?_
 refine wp_region_lit ?_
 refine wl_eff ha1 rfl rfl rfl (op_buildSlice (s := shStr) (xs := ([] : List Str)) (cs := []) (vs := []) (S := fun _ => False) (le := w0.heap.size) ha1 rfl pos_shStr Try.underlying24 ti9 rfl rfl (by decide) (by kernel_rfl) rfl (fun _ h => h.elim)) ?_
 rintro v2 w3 ⟨ho4, he5, hob6⟩ a7 ha7; clear ha1 a1
 have hx8 := hx0.trans' he5
 have hzhx8 := he5.size
 refine wl_val ha7 rfl rfl rfl (op_assign ha7 rfl rfl) ?_
 intro a9 ha9; clear ha7 a7
 refine wpList_nil ?_
 refine then_n ?_
 refine wp_seq ?_
 refine wp_seq ?_
 refine wp_region_lit ?_
 refine wl_val ha9 rfl rfl rfl (op_assign ha9 rfl rfl) ?_
 intro a10 ha10; clear ha9 a9
 refine wpList_nil ?_
 refine then_n ?_
 refine wp_block ?_
 refine loop_inv (X := Nat × Value × (List Str)) (fun (⟨i, v, acc⟩ : Nat × Value × (List Str)) fr wl => Sl 71 fr [(0, v_sheets), (3, v), (4, .int .i64 ((i : Nat) : Int))] ∧ Ext w0 wl ∧ Own shStr 9 w0.heap.size w0.heap.size wl.heap.size wl v acc ∧ w3.heap.size ≤ wl.heap.size ∧ (i ≤ sheets.length) ∧ (acc.length ≤ 8 * i) ∧ (UpS acc) ∧ (keS (sheets.drop i) acc = allK sheets)) (fun (⟨i, v, acc⟩ : Nat × Value × (List Str)) => sheets.length - i) (0, v2, ([] : List Str)) ?_ ?_
 ·
  exact ⟨(Sl.cons_ ha10 rfl rfl (Sl.cons_ ha10 rfl rfl (Sl.cons_ ha10 rfl (int_eq (by omega)) (Sl.nil_ ha10)))), hx8, (ho4.fin (by omega) (by omega) (by omega)), (by omega), (by omega), (by exact Nat.zero_le _), (by exact List.Pairwise.nil), (by rfl)⟩
 ·
  clear ha10 a10
  rintro ⟨i, v, acc⟩ a14 w11 ⟨ha14, hx12, hf13, hzl15, hi, hl, hU, hF⟩
  have hzhx12 := hx12.size
  refine wp_seq ?_
  refine wp_seq ?_
  refine wp_region_lit ?_
  refine wl_val ha14 rfl rfl rfl (op_move ha14 rfl rfl) ?_
  intro a16 ha16; clear ha14 a14
  refine wl_val ha16 rfl rfl rfl (op_move ha16 rfl rfl) ?_
  intro a17 ha17; clear ha16 a16
  refine wl_val ha17 rfl rfl rfl (op_len_sl ha17 rfl Try.underlying72 rfl h_sheets) ?_
  intro a18 ha18; clear ha17 a17
  refine wl_val ha18 rfl rfl rfl (op_lss ha18 rfl rfl rfl) ?_
  intro a19 ha19; clear ha18 a18
  refine wpList_nil ?_
  refine then_n ?_
  by_cases c20 : ((i : Nat) : Int) < ((sheets.length : Nat) : Int)
  ·
   rw [decide_eq_true c20] at ha19
   refine cond_t ha19 rfl ?_
   refine wp_skip ?_
   refine then_n ?_
   refine wp_seq ?_
   refine wp_block ?_
   refine wp_seq ?_
   refine wp_region_lit ?_
   refine wl_val ha19 rfl rfl rfl (op_assign ha19 rfl rfl) ?_
   intro a21 ha21; clear ha19 a19
   refine wpList_nil ?_
   refine then_n ?_
   refine wp_block ?_
   obtain ⟨x22, hx22⟩ := get_ex (xs := sheets) (j := i) (by first | omega | (simp only [List.length_set, List.length_append, List.length_take, List.length_drop, List.length_singleton]; omega))
   obtain ⟨p23, c24, hi25, hc26, hr27, hs28⟩ := Rds.at_ h_sheets hx22
   obtain ⟨v29, rfl, b30⟩ := inv_shLns hr27
   have hlb30 := b30.length_le
   have hbx22 := g1 _ (List.mem_of_getElem? hx22)
   refine loop_inv (X := Nat × Value × (List Str)) (fun (⟨j, v2, ac2⟩ : Nat × Value × (List Str)) fr wl => Sl 71 fr [(0, v_sheets), (3, v2), (4, .int .i64 ((i : Nat) : Int)), (5, .int .i64 ((j : Nat) : Int))] ∧ Ext w0 wl ∧ Own shStr 9 w0.heap.size w0.heap.size wl.heap.size wl v2 ac2 ∧ w11.heap.size ≤ wl.heap.size ∧ (j ≤ x22.length) ∧ (ac2.length ≤ 8 * i + j) ∧ (UpS ac2) ∧ (keS (sheets.drop (i + 1)) (keG (x22.drop j) ac2) = allK sheets)) (fun (⟨j, v2, ac2⟩ : Nat × Value × (List Str)) => x22.length - j) (0, v, acc) ?_ ?_
   ·
    exact ⟨(Sl.cons_ ha21 rfl rfl (Sl.cons_ ha21 rfl rfl (Sl.cons_ ha21 rfl rfl (Sl.cons_ ha21 rfl (int_eq (by omega)) (Sl.nil_ ha21))))), hx12, (hf13.fin (by omega) (by omega) (by omega)), (by omega), (by omega), (by omega), (by exact hU), (by rw [drop_cons hx22, keS] at hF; exact hF)⟩
   ·
    clear ha21 a21
    rintro ⟨j, v2, ac2⟩ a34 w31 ⟨ha34, hx32, hf33, hzl35, hj, hl2, hU2, hF2⟩
    have hzhx32 := hx32.size
    refine wp_seq ?_
    refine wp_seq ?_
    refine wp_region_lit ?_
    refine wl_val ha34 rfl rfl rfl (op_move ha34 rfl rfl) ?_
    intro a36 ha36; clear ha34 a34
    refine wl_val ha36 rfl rfl rfl (op_move ha36 rfl rfl) ?_
    intro a37 ha37; clear ha36 a36
    refine wl_val ha37 rfl rfl rfl (op_move ha37 rfl rfl) ?_
    intro a38 ha38; clear ha37 a37
    refine wl_val ha38 rfl rfl rfl (op_indexAddr ha38 rfl Try.underlying72 ti34 rfl rfl (by omega) hi25) ?_
    intro a39 ha39; clear ha38 a38
    refine wl_val ha39 rfl rfl rfl (op_loadH ha39 rfl Try.underlying34 rfl rfl (hc26.ext hx32) rfl) ?_
    intro a40 ha40; clear ha39 a39
    refine wl_val ha40 rfl rfl rfl (op_len_sl ha40 rfl Try.underlying34 rfl b30) ?_
    intro a41 ha41; clear ha40 a40
    refine wl_val ha41 rfl rfl rfl (op_lss ha41 rfl rfl rfl) ?_
    intro a42 ha42; clear ha41 a41
    refine wpList_nil ?_
    refine then_n ?_
    by_cases c43 : ((j : Nat) : Int) < ((x22.length : Nat) : Int)
    ·
     rw [decide_eq_true c43] at ha42
     refine cond_t ha42 rfl ?_
     refine wp_skip ?_
     refine then_n ?_
     refine wp_seq ?_
     refine wp_block ?_
     refine wp_seq ?_
     refine wp_region_lit ?_
     refine wl_val ha42 rfl rfl rfl (op_move ha42 rfl rfl) ?_
     intro a44 ha44; clear ha42 a42
     refine wl_val ha44 rfl rfl rfl (op_move ha44 rfl rfl) ?_
     intro a45 ha45; clear ha44 a44
     refine wl_val ha45 rfl rfl rfl (op_indexAddr ha45 rfl Try.underlying72 ti34 rfl rfl (by omega) hi25) ?_
     intro a46 ha46; clear ha45 a45
     refine wl_val ha46 rfl rfl rfl (op_loadH ha46 rfl Try.underlying34 rfl rfl (hc26.ext hx32) rfl) ?_
     intro a47 ha47; clear ha46 a46
     refine wl_val ha47 rfl rfl rfl (op_move ha47 rfl rfl) ?_
     intro a48 ha48; clear ha47 a47
     obtain ⟨x49, hx49⟩ := get_ex (xs := x22) (j := j) (by first | omega | (simp only [List.length_set, List.length_append, List.length_take, List.length_drop, List.length_singleton]; omega))
     obtain ⟨p50, c51, hi52, hc53, hr54, hs55⟩ := Rds.at_ b30 hx49
     obtain ⟨rfl, b56, b57⟩ := inv_shLine hr54
     refine wl_val ha48 rfl rfl rfl (op_indexAddr ha48 rfl Try.underlying34 ti83 rfl rfl (by omega) hi52) ?_
     intro a58 ha58; clear ha48 a48
     refine wl_val ha58 rfl rfl rfl (op_fieldAddr (sz := 0) ha58 rfl Try.underlying83 rfl rfl ti9 rfl) ?_
     intro a59 ha59; clear ha58 a58
     refine wl_val ha59 rfl rfl rfl (op_loadF (off := 0) ha59 rfl Try.underlying9 rfl rfl (hc53.ext hx32) rfl) ?_
     intro a60 ha60; clear ha59 a59
     refine wl_val ha60 rfl rfl rfl (op_assign ha60 rfl rfl) ?_
     intro a61 ha61; clear ha60 a60
     refine wpList_nil ?_
     refine then_n ?_
     refine wp_seq ?_
     refine wp_region_lit ?_
     refine wl_val ha61 rfl rfl rfl (op_assign ha61 rfl rfl) ?_
     intro a62 ha62; clear ha61 a61
     refine wpList_nil ?_
     refine then_n ?_
     refine wp_seq ?_
     refine wp_block ?_
     refine loop_inv (X := Nat) (fun (k : Nat) fr wl => Sl 71 fr [(0, v_sheets), (3, v2), (4, .int .i64 ((i : Nat) : Int)), (5, .int .i64 ((j : Nat) : Int)), (6, St x49.1), (7, .int .i64 ((k : Nat) : Int))] ∧ Ext w0 wl ∧ Own shStr 9 w0.heap.size w0.heap.size w31.heap.size wl v2 ac2 ∧ w31.heap.size ≤ wl.heap.size ∧ (k ≤ ac2.length) ∧ (∀ (q : Nat) (y : Str), q < k → ac2[q]? = some y → y < x49.1)) (fun (k : Nat) => ac2.length - k) (0) ?_ ?_
     ·
      exact ⟨(Sl.cons_ ha62 rfl rfl (Sl.cons_ ha62 rfl rfl (Sl.cons_ ha62 rfl rfl (Sl.cons_ ha62 rfl rfl (Sl.cons_ ha62 rfl rfl (Sl.cons_ ha62 rfl (int_eq (by omega)) (Sl.nil_ ha62))))))), hx32, hf33, (by omega), (by omega), (by intro q y hq; omega)⟩
     ·
      clear ha62 a62
      rintro k a66 w63 ⟨ha66, hx64, hf65, hzl67, hk, hk2⟩
      have hzhx64 := hx64.size
      refine wp_seq ?_
      refine wp_seq ?_
      refine wp_region_lit ?_
      refine wl_val ha66 rfl rfl rfl (op_move ha66 rfl rfl) ?_
      intro a68 ha68; clear ha66 a66
      refine wl_val ha68 rfl rfl rfl (op_move ha68 rfl rfl) ?_
      intro a69 ha69; clear ha68 a68
      refine wl_val ha69 rfl rfl rfl (op_len_sl ha69 rfl Try.underlying24 rfl (hf65.rds pos_shStr)) ?_
      intro a70 ha70; clear ha69 a69
      refine wl_val ha70 rfl rfl rfl (op_lss ha70 rfl rfl rfl) ?_
      intro a71 ha71; clear ha70 a70
      refine wl_val ha71 rfl rfl rfl (op_move ha71 rfl rfl) ?_
      intro a72 ha72; clear ha71 a71
      by_cases c73 : ((k : Nat) : Int) < ((ac2.length : Nat) : Int)
      ·
       rw [decide_eq_true c73] at ha72
       refine wl_val ha72 rfl rfl rfl (op_move ha72 rfl rfl) ?_
       intro a74 ha74; clear ha72 a72
       refine wl_val ha74 rfl rfl rfl (op_move ha74 rfl rfl) ?_
       intro a75 ha75; clear ha74 a74
       obtain ⟨x76, hx76⟩ := get_ex (xs := ac2) (j := k) (by first | omega | (simp only [List.length_set, List.length_append, List.length_take, List.length_drop, List.length_singleton]; omega))
       obtain ⟨p77, c78, hi79, hc80, hr81, hs82⟩ := Rds.at_ (hf65.rds pos_shStr) hx76
       obtain ⟨rfl, b83⟩ := inv_shStr hr81
       obtain ⟨_, _⟩ : _ ∧ _ := hs82
       refine wl_val ha75 rfl rfl rfl (op_indexAddr ha75 rfl Try.underlying24 ti9 rfl rfl (by omega) hi79) ?_
       intro a84 ha84; clear ha75 a75
       refine wl_val ha84 rfl rfl rfl (op_loadH ha84 rfl Try.underlying9 rfl rfl hc80 rfl) ?_
       intro a85 ha85; clear ha84 a84
       refine wl_val ha85 rfl rfl rfl (op_move ha85 rfl rfl) ?_
       intro a86 ha86; clear ha85 a85
       refine wl_val ha86 rfl rfl rfl ((op_slss ha86 rfl rfl rfl).to (congrArg Value.bool (bytesLess_lt _ _))) ?_
       intro a87 ha87; clear ha86 a86
       refine wl_val ha87 rfl rfl rfl (op_pick_t ha87 rfl rfl rfl) ?_
       intro a88 ha88; clear ha87 a87
       refine wpList_nil ?_
       refine then_n ?_
       by_cases c89 : x76 < x49.1
       ·
        rw [decide_eq_true c89] at ha88
        refine cond_t ha88 rfl ?_
        refine wp_skip ?_
        refine then_n ?_
        refine wp_block ?_
        refine wp_region_lit ?_
        refine wl_val ha88 rfl rfl rfl (op_move ha88 rfl rfl) ?_
        intro a90 ha90; clear ha88 a88
        refine wl_val ha90 rfl rfl rfl ((op_add ha90 rfl rfl rfl).int (IntWalk.i64_in _ (by omega))) ?_
        intro a91 ha91; clear ha90 a90
        refine wl_val ha91 rfl rfl rfl (op_assign ha91 rfl rfl) ?_
        intro a92 ha92; clear ha91 a91
        refine wpList_nil ?_
        refine block_n ?_
        refine round_end (x := k) ((k + 1)) ?_ ?_
        ·
         refine ⟨(Sl.cons_ ha92 rfl rfl (Sl.cons_ ha92 rfl rfl (Sl.cons_ ha92 rfl rfl (Sl.cons_ ha92 rfl rfl (Sl.cons_ ha92 rfl rfl (Sl.cons_ ha92 rfl (int_eq (by omega)) (Sl.nil_ ha92))))))), hx64, hf65, (by omega), (by omega), (by intro q y hq hy; by_cases e : q = k; (subst e; rw [hx76] at hy; cases hy; exact c89); exact hk2 q y (by omega) hy)⟩
        ·show (ac2.length - ((k + 1)) : Nat) < ac2.length - k; omega
       ·
        rw [decide_eq_false c89] at ha88
        refine cond_f ha88 rfl ?_
        refine wp_exit ?_
        refine then_e ?_
        refine then_e ?_
        refine block_hit ?_
        refine then_n ?_
        refine wp_seq ?_
        refine wp_region_lit ?_
        refine wl_val ha88 rfl rfl rfl (op_move ha88 rfl rfl) ?_
        intro a93 ha93; clear ha88 a88
        refine wl_val ha93 rfl rfl rfl (op_move ha93 rfl rfl) ?_
        intro a94 ha94; clear ha93 a93
        refine wl_val ha94 rfl rfl rfl (op_len_sl ha94 rfl Try.underlying24 rfl (hf65.rds pos_shStr)) ?_
        intro a95 ha95; clear ha94 a94
        refine wl_val ha95 rfl rfl rfl (op_eql ha95 rfl rfl rfl) ?_
        intro a96 ha96; clear ha95 a95
        refine wl_val ha96 rfl rfl rfl (op_move ha96 rfl rfl) ?_
        intro a97 ha97; clear ha96 a96
        by_cases c98 : ((k : Nat) : Int) = ((ac2.length : Nat) : Int)
        ·
         rw [decide_eq_true c98] at ha97
         refine wl_skip ha97 rfl rfl rfl ?_
         intro a99 ha99; clear ha97 a97
         refine wl_skip ha99 rfl rfl rfl ?_
         intro a100 ha100; clear ha99 a99
         refine wl_skip ha100 rfl rfl rfl ?_
         intro a101 ha101; clear ha100 a100
         refine wl_skip ha101 rfl rfl rfl ?_
         intro a102 ha102; clear ha101 a101
         refine wl_skip ha102 rfl rfl rfl ?_
         intro a103 ha103; clear ha102 a102
         refine wl_skip ha103 rfl rfl rfl ?_
         intro a104 ha104; clear ha103 a103
         refine wl_val ha104 rfl rfl rfl (op_pick_t ha104 rfl rfl rfl) ?_
         intro a105 ha105; clear ha104 a104
         refine wpList_nil ?_
         refine then_n ?_
         refine cond_t ha105 rfl ?_
         refine dr_enter Ext follows_mixed ?_
         intro w106 he107
         have hx108 := hx64.trans' he107
         have hzhx108 := he107.size
         replace hf65 := hf65.ext he107
         replace hc80 := hc80.ext he107
         have hs109 : Ext w106 w106 := Ext.rfl' _
         refine dr_val (i := 1) ha105 rfl (by kernel_rfl) (by kernel_rfl) (by kernel_rfl) rfl rfl rfl hs109 (fun w' hw' => op_move ha105 rfl rfl) ?_
         intro a110 ha110; clear ha105 a105
         refine dr_val (i := 2) ha110 rfl (by kernel_rfl) (by kernel_rfl) (by kernel_rfl) rfl rfl rfl hs109 (fun w' hw' => op_move ha110 rfl rfl) ?_
         intro a111 ha111; clear ha110 a110
         obtain ⟨u112, hu113, hr114⟩ := Rds.part (hf65.rds pos_shStr) Try.underlying24 ti9 none (some (.int .i64 (k : Nat))) 0 k (.inl ⟨rfl, rfl⟩) (.inr ⟨.i64, rfl⟩) (by first | omega | (simp; omega)) (by first | omega | (simp; omega))
         replace hr114 := hr114.cast (ys := ac2.take k) (by first | rw [List.take_length] | simp)
         refine dr_val (i := 3) ha111 rfl (by kernel_rfl) (by kernel_rfl) (by kernel_rfl) rfl rfl rfl hs109 (fun w' hw' => op_slice_t (by omega) ha111 rfl rfl rfl hu113) ?_
         intro a115 ha115; clear ha111 a111
         refine dr_val (i := 5) ha115 rfl (by kernel_rfl) (by kernel_rfl) (by kernel_rfl) rfl rfl rfl hs109 (fun w' hw' => op_move ha115 rfl rfl) ?_
         intro a116 ha116; clear ha115 a115
         refine dr_val (i := 8) ha116 rfl (by kernel_rfl) (by kernel_rfl) (by kernel_rfl) rfl rfl rfl hs109 (fun w' hw' => op_move ha116 rfl rfl) ?_
         intro a117 ha117; clear ha116 a116
         refine dr_val (i := 9) ha117 rfl (by kernel_rfl) (by kernel_rfl) (by kernel_rfl) rfl rfl rfl hs109 (fun w' hw' => op_move ha117 rfl rfl) ?_
         intro a118 ha118; clear ha117 a117
         obtain ⟨u119, hu120, hr121⟩ := Rds.part (hf65.rds pos_shStr) Try.underlying24 ti9 (some (.int .i64 (k : Nat))) none k ac2.length (.inr ⟨.i64, rfl⟩) (.inl ⟨rfl, rfl⟩) (by first | omega | (simp; omega)) (by first | omega | (simp; omega))
         replace hr121 := hr121.cast (ys := ac2.drop k) (by first | rw [List.take_length] | simp)
         refine dr_val (i := 10) ha118 rfl (by kernel_rfl) (by kernel_rfl) (by kernel_rfl) rfl rfl rfl hs109 (fun w' hw' => op_slice_f (by omega) ha118 rfl rfl rfl hu120) ?_
         intro a122 ha122; clear ha118 a118
         refine dr_two (i := 0) (j := 6) (by kernel_rfl) ?_ ?_
         ·
          refine po_eff ha122 rfl rfl rfl rfl (op_buildSlice (s := shStr) (xs := ([] : List Str)) (cs := []) (vs := []) (S := fun _ => False) (le := w106.heap.size) ha122 rfl pos_shStr Try.underlying24 ti9 rfl rfl (by decide) (by kernel_rfl) rfl (fun _ h => h.elim)) ?_
          rintro v123 w124 ⟨ho125, he126, hob127⟩ a128 ha128; clear ha122 a122
          have hs129 := hs109.trans' he126
          have hx130 := hx108.trans' he126
          have hzhx130 := he126.size
          refine ⟨hs129, ?_⟩
          refine dr_two (i := 4) (j := 6) (by kernel_rfl) ?_ ?_
          ·
           refine po_eff ha128 rfl rfl rfl rfl (op_append (ts := #[]) (s := shStr) ha128 rfl Try.underlying24 ti9 rfl pos_shStr rfl rfl ho125 (hr114.ext pos_shStr hs129) (by omega) (by omega) (by first | omega | (simp; omega)) (by first | omega | (simp; omega)) (.inl flat_shStr)) ?_
           rintro v131 w132 ⟨ho133, hst134, hob135⟩ a136 ha136; clear ha128 a128
           replace ho133 := ho133.cast (List.nil_append _)
           have hs137 := hs129.stp hst134 (by intro q hq; have hq0 := ho125.lt q hq; omega)
           have hx138 := hx130.stp hst134 (by intro q hq; have hq0 := ho125.lt q hq; omega)
           have hzhx138 := hst134.size
           have hsp139 : ∀ q, Value.ownBlock v131 = some q → Value.ownBlock v2 ≠ some q := by intro q hq hb; have hq0 := hf65.lt q hb; rcases hob135 with h | h; (rw [h] at hq; first | (have hq1 := ho125.lt q hq; omega)); (rw [h] at hq; cases hq; omega)
           refine ⟨hs137, ?_⟩
           refine dr_one (i := 6) (by kernel_rfl) ?_
           refine po_eff ha136 rfl rfl rfl rfl (op_buildSlice (s := shStr) (xs := [x49.1]) (cs := [St x49.1]) (vs := [(0, St x49.1)]) (S := fun _ => False) (le := w132.heap.size) ha136 rfl pos_shStr Try.underlying24 ti9 rfl rfl (by decide) (by kernel_rfl) (Els.single (mk_shStr x49.1 (by first | assumption | omega | (simp; done)))) (fun _ h => h.elim)) ?_
           rintro v140 w141 ⟨ho142, he143, hob144⟩ a145 ha145; clear ha136 a136
           have hs146 := hs137.trans' he143
           have hx147 := hx138.trans' he143
           have hzhx147 := he143.size
           replace ho133 := ho133.ext he143
           refine ⟨hs146, ?_⟩
           refine dr_one (i := 7) (by kernel_rfl) ?_
           refine po_eff ha145 rfl rfl rfl rfl (op_append (ts := #[]) (s := shStr) ha145 rfl Try.underlying24 ti9 rfl pos_shStr rfl rfl ho133 (ho142.rds pos_shStr) (by omega) (by omega) (by first | omega | (simp; omega)) (by first | omega | (simp; omega)) (.inl flat_shStr)) ?_
           rintro v148 w149 ⟨ho150, hst151, hob152⟩ a153 ha153; clear ha145 a145
           have hs154 := hs146.stp hst151 (by intro q hq; have hq0 := ho133.lt q hq; omega)
           have hx155 := hx147.stp hst151 (by intro q hq; have hq0 := ho133.lt q hq; omega)
           have hzhx155 := hst151.size
           replace ho142 := ho142.stp hst151 (by intro q hq; have hq0 := ho133.lt q hq; omega)
           have hsp156 : ∀ q, Value.ownBlock v148 = some q → Value.ownBlock v2 ≠ some q := by intro q hq hb; have hq0 := hf65.lt q hb; rcases hob152 with h | h; (rw [h] at hq; first | (have hq1 := ho133.lt q hq; omega) | exact hsp139 q hq hb); (rw [h] at hq; cases hq; omega)
           have hsp157 : ∀ q, Value.ownBlock v148 = some q → Value.ownBlock v140 ≠ some q := by intro q hq hb; have hq0 := ho142.lt q hb; rcases hob152 with h | h; (rw [h] at hq; first | (have hq1 := ho133.lt q hq; omega)); (rw [h] at hq; cases hq; omega)
           refine ⟨hs154, ?_⟩
           refine dr_one (i := 11) (by kernel_rfl) ?_
           refine po_eff ha153 rfl rfl rfl rfl (op_append (ts := #[]) (s := shStr) ha153 rfl Try.underlying24 ti9 rfl pos_shStr rfl rfl ho150 (hr121.ext pos_shStr hs154) (by omega) (by omega) (by first | omega | (simp; omega)) (by first | omega | (simp; omega)) (.inl flat_shStr)) ?_
           rintro v158 w159 ⟨ho160, hst161, hob162⟩ a163 ha163; clear ha153 a153
           have hs164 := hs154.stp hst161 (by intro q hq; have hq0 := ho150.lt q hq; omega)
           have hx165 := hx155.stp hst161 (by intro q hq; have hq0 := ho150.lt q hq; omega)
           have hzhx165 := hst161.size
           first | replace ho142 := ho142.stp hst161 (by intro q hq; have hq0 := ho150.lt q hq; omega) | replace ho142 := ho142.stpF flat_shStr hst161 (fun q hq => hsp157 q hq)
           have hsp166 : ∀ q, Value.ownBlock v158 = some q → Value.ownBlock v2 ≠ some q := by intro q hq hb; have hq0 := hf65.lt q hb; rcases hob162 with h | h; (rw [h] at hq; first | (have hq1 := ho150.lt q hq; omega) | exact hsp156 q hq hb); (rw [h] at hq; cases hq; omega)
           have hsp167 : ∀ q, Value.ownBlock v158 = some q → Value.ownBlock v140 ≠ some q := by intro q hq hb; have hq0 := ho142.lt q hb; rcases hob162 with h | h; (rw [h] at hq; first | (have hq1 := ho150.lt q hq; omega) | exact hsp157 q hq hb); (rw [h] at hq; cases hq; omega)
           refine ⟨hs164, ?_⟩
           refine dr_val (i := 12) ha163 rfl (by kernel_rfl) (by kernel_rfl) (by kernel_rfl) rfl rfl rfl hs164 (fun w' hw' => op_assign ha163 rfl rfl) ?_
           intro a168 ha168; clear ha163 a163
           refine dr_end (by kernel_rfl) ?_
           replace hf65 := hf65.ext hs164
           replace hc80 := hc80.ext hs164
           replace hr114 := hr114.ext pos_shStr hs164
           replace hr121 := hr121.ext pos_shStr hs164
           refine block_n ?_
           refine then_n ?_
           refine wp_region_lit ?_
           refine wl_val ha168 rfl rfl rfl (op_move ha168 rfl rfl) ?_
           intro a169 ha169; clear ha168 a168
           refine wl_val ha169 rfl rfl rfl ((op_add ha169 rfl rfl rfl).int (IntWalk.i64_in _ (by omega))) ?_
           intro a170 ha170; clear ha169 a169
           refine wl_val ha170 rfl rfl rfl (op_assign ha170 rfl rfl) ?_
           intro a171 ha171; clear ha170 a170
           refine wpList_nil ?_
           have hins := insU_front (x := x49.1) hU2 hk2 (.inl (by omega))
           have hieq : ((ac2.take k ++ [x49.1]) ++ ac2.drop k) = insU x49.1 ac2 := by rw [hins]; simp
           have hils := insU_len x49.1 ac2
           refine round_end (x := (j, v2, ac2)) ((j + 1), v158, ((ac2.take k ++ [x49.1]) ++ ac2.drop k)) ?_ ?_
           ·
            refine ⟨(Sl.cons_ ha171 rfl rfl (Sl.cons_ ha171 rfl rfl (Sl.cons_ ha171 rfl rfl (Sl.cons_ ha171 rfl (int_eq (by omega)) (Sl.nil_ ha171))))), hx165, (ho160.fin (by omega) (by omega) (by omega)), (by omega), (by omega), (by rw [hieq]; omega), (by rw [hieq]; exact insU_up hU2), (by rw [drop_cons hx49, keG] at hF2; rw [hieq]; exact hF2)⟩
           ·show (x22.length - ((j + 1)) : Nat) < x22.length - j; omega
          ·
           refine po_eff ha128 rfl rfl rfl rfl (op_buildSlice (s := shStr) (xs := [x49.1]) (cs := [St x49.1]) (vs := [(0, St x49.1)]) (S := fun _ => False) (le := w124.heap.size) ha128 rfl pos_shStr Try.underlying24 ti9 rfl rfl (by decide) (by kernel_rfl) (Els.single (mk_shStr x49.1 (by first | assumption | omega | (simp; done)))) (fun _ h => h.elim)) ?_
           rintro v172 w173 ⟨ho174, he175, hob176⟩ a177 ha177; clear ha128 a128
           have hs178 := hs129.trans' he175
           have hx179 := hx130.trans' he175
           have hzhx179 := he175.size
           replace ho125 := ho125.ext he175
           refine ⟨hs178, ?_⟩
           refine dr_one (i := 4) (by kernel_rfl) ?_
           refine po_eff ha177 rfl rfl rfl rfl (op_append (ts := #[]) (s := shStr) ha177 rfl Try.underlying24 ti9 rfl pos_shStr rfl rfl ho125 (hr114.ext pos_shStr hs178) (by omega) (by omega) (by first | omega | (simp; omega)) (by first | omega | (simp; omega)) (.inl flat_shStr)) ?_
           rintro v180 w181 ⟨ho182, hst183, hob184⟩ a185 ha185; clear ha177 a177
           replace ho182 := ho182.cast (List.nil_append _)
           have hs186 := hs178.stp hst183 (by intro q hq; have hq0 := ho125.lt q hq; omega)
           have hx187 := hx179.stp hst183 (by intro q hq; have hq0 := ho125.lt q hq; omega)
           have hzhx187 := hst183.size
           replace ho174 := ho174.stp hst183 (by intro q hq; have hq0 := ho125.lt q hq; omega)
           have hsp188 : ∀ q, Value.ownBlock v180 = some q → Value.ownBlock v2 ≠ some q := by intro q hq hb; have hq0 := hf65.lt q hb; rcases hob184 with h | h; (rw [h] at hq; first | (have hq1 := ho125.lt q hq; omega)); (rw [h] at hq; cases hq; omega)
           have hsp189 : ∀ q, Value.ownBlock v180 = some q → Value.ownBlock v172 ≠ some q := by intro q hq hb; have hq0 := ho174.lt q hb; rcases hob184 with h | h; (rw [h] at hq; first | (have hq1 := ho125.lt q hq; omega)); (rw [h] at hq; cases hq; omega)
           refine ⟨hs186, ?_⟩
           refine dr_one (i := 7) (by kernel_rfl) ?_
           refine po_eff ha185 rfl rfl rfl rfl (op_append (ts := #[]) (s := shStr) ha185 rfl Try.underlying24 ti9 rfl pos_shStr rfl rfl ho182 (ho174.rds pos_shStr) (by omega) (by omega) (by first | omega | (simp; omega)) (by first | omega | (simp; omega)) (.inl flat_shStr)) ?_
           rintro v190 w191 ⟨ho192, hst193, hob194⟩ a195 ha195; clear ha185 a185
           have hs196 := hs186.stp hst193 (by intro q hq; have hq0 := ho182.lt q hq; omega)
           have hx197 := hx187.stp hst193 (by intro q hq; have hq0 := ho182.lt q hq; omega)
           have hzhx197 := hst193.size
           first | replace ho174 := ho174.stp hst193 (by intro q hq; have hq0 := ho182.lt q hq; omega) | replace ho174 := ho174.stpF flat_shStr hst193 (fun q hq => hsp189 q hq)
           have hsp198 : ∀ q, Value.ownBlock v190 = some q → Value.ownBlock v2 ≠ some q := by intro q hq hb; have hq0 := hf65.lt q hb; rcases hob194 with h | h; (rw [h] at hq; first | (have hq1 := ho182.lt q hq; omega) | exact hsp188 q hq hb); (rw [h] at hq; cases hq; omega)
           have hsp199 : ∀ q, Value.ownBlock v190 = some q → Value.ownBlock v172 ≠ some q := by intro q hq hb; have hq0 := ho174.lt q hb; rcases hob194 with h | h; (rw [h] at hq; first | (have hq1 := ho182.lt q hq; omega) | exact hsp189 q hq hb); (rw [h] at hq; cases hq; omega)
           refine ⟨hs196, ?_⟩
           refine dr_one (i := 11) (by kernel_rfl) ?_
           refine po_eff ha195 rfl rfl rfl rfl (op_append (ts := #[]) (s := shStr) ha195 rfl Try.underlying24 ti9 rfl pos_shStr rfl rfl ho192 (hr121.ext pos_shStr hs196) (by omega) (by omega) (by first | omega | (simp; omega)) (by first | omega | (simp; omega)) (.inl flat_shStr)) ?_
           rintro v200 w201 ⟨ho202, hst203, hob204⟩ a205 ha205; clear ha195 a195
           have hs206 := hs196.stp hst203 (by intro q hq; have hq0 := ho192.lt q hq; omega)
           have hx207 := hx197.stp hst203 (by intro q hq; have hq0 := ho192.lt q hq; omega)
           have hzhx207 := hst203.size
           first | replace ho174 := ho174.stp hst203 (by intro q hq; have hq0 := ho192.lt q hq; omega) | replace ho174 := ho174.stpF flat_shStr hst203 (fun q hq => hsp199 q hq)
           have hsp208 : ∀ q, Value.ownBlock v200 = some q → Value.ownBlock v2 ≠ some q := by intro q hq hb; have hq0 := hf65.lt q hb; rcases hob204 with h | h; (rw [h] at hq; first | (have hq1 := ho192.lt q hq; omega) | exact hsp198 q hq hb); (rw [h] at hq; cases hq; omega)
           have hsp209 : ∀ q, Value.ownBlock v200 = some q → Value.ownBlock v172 ≠ some q := by intro q hq hb; have hq0 := ho174.lt q hb; rcases hob204 with h | h; (rw [h] at hq; first | (have hq1 := ho192.lt q hq; omega) | exact hsp199 q hq hb); (rw [h] at hq; cases hq; omega)
           refine ⟨hs206, ?_⟩
           refine dr_val (i := 12) ha205 rfl (by kernel_rfl) (by kernel_rfl) (by kernel_rfl) rfl rfl rfl hs206 (fun w' hw' => op_assign ha205 rfl rfl) ?_
           intro a210 ha210; clear ha205 a205
           refine dr_end (by kernel_rfl) ?_
           replace hf65 := hf65.ext hs206
           replace hc80 := hc80.ext hs206
           replace hr114 := hr114.ext pos_shStr hs206
           replace hr121 := hr121.ext pos_shStr hs206
           refine block_n ?_
           refine then_n ?_
           refine wp_region_lit ?_
           refine wl_val ha210 rfl rfl rfl (op_move ha210 rfl rfl) ?_
           intro a211 ha211; clear ha210 a210
           refine wl_val ha211 rfl rfl rfl ((op_add ha211 rfl rfl rfl).int (IntWalk.i64_in _ (by omega))) ?_
           intro a212 ha212; clear ha211 a211
           refine wl_val ha212 rfl rfl rfl (op_assign ha212 rfl rfl) ?_
           intro a213 ha213; clear ha212 a212
           refine wpList_nil ?_
           have hins := insU_front (x := x49.1) hU2 hk2 (.inl (by omega))
           have hieq : ((ac2.take k ++ [x49.1]) ++ ac2.drop k) = insU x49.1 ac2 := by rw [hins]; simp
           have hils := insU_len x49.1 ac2
           refine round_end (x := (j, v2, ac2)) ((j + 1), v200, ((ac2.take k ++ [x49.1]) ++ ac2.drop k)) ?_ ?_
           ·
            refine ⟨(Sl.cons_ ha213 rfl rfl (Sl.cons_ ha213 rfl rfl (Sl.cons_ ha213 rfl rfl (Sl.cons_ ha213 rfl (int_eq (by omega)) (Sl.nil_ ha213))))), hx207, (ho202.fin (by omega) (by omega) (by omega)), (by omega), (by omega), (by rw [hieq]; omega), (by rw [hieq]; exact insU_up hU2), (by rw [drop_cons hx49, keG] at hF2; rw [hieq]; exact hF2)⟩
           ·show (x22.length - ((j + 1)) : Nat) < x22.length - j; omega
         ·
          refine po_eff ha122 rfl rfl rfl rfl (op_buildSlice (s := shStr) (xs := [x49.1]) (cs := [St x49.1]) (vs := [(0, St x49.1)]) (S := fun _ => False) (le := w106.heap.size) ha122 rfl pos_shStr Try.underlying24 ti9 rfl rfl (by decide) (by kernel_rfl) (Els.single (mk_shStr x49.1 (by first | assumption | omega | (simp; done)))) (fun _ h => h.elim)) ?_
          rintro v214 w215 ⟨ho216, he217, hob218⟩ a219 ha219; clear ha122 a122
          have hs220 := hs109.trans' he217
          have hx221 := hx108.trans' he217
          have hzhx221 := he217.size
          refine ⟨hs220, ?_⟩
          refine dr_one (i := 0) (by kernel_rfl) ?_
          refine po_eff ha219 rfl rfl rfl rfl (op_buildSlice (s := shStr) (xs := ([] : List Str)) (cs := []) (vs := []) (S := fun _ => False) (le := w215.heap.size) ha219 rfl pos_shStr Try.underlying24 ti9 rfl rfl (by decide) (by kernel_rfl) rfl (fun _ h => h.elim)) ?_
          rintro v222 w223 ⟨ho224, he225, hob226⟩ a227 ha227; clear ha219 a219
          have hs228 := hs220.trans' he225
          have hx229 := hx221.trans' he225
          have hzhx229 := he225.size
          replace ho216 := ho216.ext he225
          refine ⟨hs228, ?_⟩
          refine dr_one (i := 4) (by kernel_rfl) ?_
          refine po_eff ha227 rfl rfl rfl rfl (op_append (ts := #[]) (s := shStr) ha227 rfl Try.underlying24 ti9 rfl pos_shStr rfl rfl ho224 (hr114.ext pos_shStr hs228) (by omega) (by omega) (by first | omega | (simp; omega)) (by first | omega | (simp; omega)) (.inl flat_shStr)) ?_
          rintro v230 w231 ⟨ho232, hst233, hob234⟩ a235 ha235; clear ha227 a227
          replace ho232 := ho232.cast (List.nil_append _)
          have hs236 := hs228.stp hst233 (by intro q hq; have hq0 := ho224.lt q hq; omega)
          have hx237 := hx229.stp hst233 (by intro q hq; have hq0 := ho224.lt q hq; omega)
          have hzhx237 := hst233.size
          replace ho216 := ho216.stp hst233 (by intro q hq; have hq0 := ho224.lt q hq; omega)
          have hsp238 : ∀ q, Value.ownBlock v230 = some q → Value.ownBlock v2 ≠ some q := by intro q hq hb; have hq0 := hf65.lt q hb; rcases hob234 with h | h; (rw [h] at hq; first | (have hq1 := ho224.lt q hq; omega)); (rw [h] at hq; cases hq; omega)
          have hsp239 : ∀ q, Value.ownBlock v230 = some q → Value.ownBlock v214 ≠ some q := by intro q hq hb; have hq0 := ho216.lt q hb; rcases hob234 with h | h; (rw [h] at hq; first | (have hq1 := ho224.lt q hq; omega)); (rw [h] at hq; cases hq; omega)
          refine ⟨hs236, ?_⟩
          refine dr_one (i := 7) (by kernel_rfl) ?_
          refine po_eff ha235 rfl rfl rfl rfl (op_append (ts := #[]) (s := shStr) ha235 rfl Try.underlying24 ti9 rfl pos_shStr rfl rfl ho232 (ho216.rds pos_shStr) (by omega) (by omega) (by first | omega | (simp; omega)) (by first | omega | (simp; omega)) (.inl flat_shStr)) ?_
          rintro v240 w241 ⟨ho242, hst243, hob244⟩ a245 ha245; clear ha235 a235
          have hs246 := hs236.stp hst243 (by intro q hq; have hq0 := ho232.lt q hq; omega)
          have hx247 := hx237.stp hst243 (by intro q hq; have hq0 := ho232.lt q hq; omega)
          have hzhx247 := hst243.size
          replace ho216 := ho216.stp hst243 (by intro q hq; have hq0 := ho232.lt q hq; omega)
          have hsp248 : ∀ q, Value.ownBlock v240 = some q → Value.ownBlock v2 ≠ some q := by intro q hq hb; have hq0 := hf65.lt q hb; rcases hob244 with h | h; (rw [h] at hq; first | (have hq1 := ho232.lt q hq; omega) | exact hsp238 q hq hb); (rw [h] at hq; cases hq; omega)
          have hsp249 : ∀ q, Value.ownBlock v240 = some q → Value.ownBlock v214 ≠ some q := by intro q hq hb; have hq0 := ho216.lt q hb; rcases hob244 with h | h; (rw [h] at hq; first | (have hq1 := ho232.lt q hq; omega) | exact hsp239 q hq hb); (rw [h] at hq; cases hq; omega)
          refine ⟨hs246, ?_⟩
          refine dr_one (i := 11) (by kernel_rfl) ?_
          refine po_eff ha245 rfl rfl rfl rfl (op_append (ts := #[]) (s := shStr) ha245 rfl Try.underlying24 ti9 rfl pos_shStr rfl rfl ho242 (hr121.ext pos_shStr hs246) (by omega) (by omega) (by first | omega | (simp; omega)) (by first | omega | (simp; omega)) (.inl flat_shStr)) ?_
          rintro v250 w251 ⟨ho252, hst253, hob254⟩ a255 ha255; clear ha245 a245
          have hs256 := hs246.stp hst253 (by intro q hq; have hq0 := ho242.lt q hq; omega)
          have hx257 := hx247.stp hst253 (by intro q hq; have hq0 := ho242.lt q hq; omega)
          have hzhx257 := hst253.size
          replace ho216 := ho216.stp hst253 (by intro q hq; have hq0 := ho242.lt q hq; omega)
          have hsp258 : ∀ q, Value.ownBlock v250 = some q → Value.ownBlock v2 ≠ some q := by intro q hq hb; have hq0 := hf65.lt q hb; rcases hob254 with h | h; (rw [h] at hq; first | (have hq1 := ho242.lt q hq; omega) | exact hsp248 q hq hb); (rw [h] at hq; cases hq; omega)
          have hsp259 : ∀ q, Value.ownBlock v250 = some q → Value.ownBlock v214 ≠ some q := by intro q hq hb; have hq0 := ho216.lt q hb; rcases hob254 with h | h; (rw [h] at hq; first | (have hq1 := ho242.lt q hq; omega) | exact hsp249 q hq hb); (rw [h] at hq; cases hq; omega)
          refine ⟨hs256, ?_⟩
          refine dr_val (i := 12) ha255 rfl (by kernel_rfl) (by kernel_rfl) (by kernel_rfl) rfl rfl rfl hs256 (fun w' hw' => op_assign ha255 rfl rfl) ?_
          intro a260 ha260; clear ha255 a255
          refine dr_end (by kernel_rfl) ?_
          replace hf65 := hf65.ext hs256
          replace hc80 := hc80.ext hs256
          replace hr114 := hr114.ext pos_shStr hs256
          replace hr121 := hr121.ext pos_shStr hs256
          refine block_n ?_
          refine then_n ?_
          refine wp_region_lit ?_
          refine wl_val ha260 rfl rfl rfl (op_move ha260 rfl rfl) ?_
          intro a261 ha261; clear ha260 a260
          refine wl_val ha261 rfl rfl rfl ((op_add ha261 rfl rfl rfl).int (IntWalk.i64_in _ (by omega))) ?_
          intro a262 ha262; clear ha261 a261
          refine wl_val ha262 rfl rfl rfl (op_assign ha262 rfl rfl) ?_
          intro a263 ha263; clear ha262 a262
          refine wpList_nil ?_
          have hins := insU_front (x := x49.1) hU2 hk2 (.inl (by omega))
          have hieq : ((ac2.take k ++ [x49.1]) ++ ac2.drop k) = insU x49.1 ac2 := by rw [hins]; simp
          have hils := insU_len x49.1 ac2
          refine round_end (x := (j, v2, ac2)) ((j + 1), v250, ((ac2.take k ++ [x49.1]) ++ ac2.drop k)) ?_ ?_
          ·
           refine ⟨(Sl.cons_ ha263 rfl rfl (Sl.cons_ ha263 rfl rfl (Sl.cons_ ha263 rfl rfl (Sl.cons_ ha263 rfl (int_eq (by omega)) (Sl.nil_ ha263))))), hx257, (ho252.fin (by omega) (by omega) (by omega)), (by omega), (by omega), (by rw [hieq]; omega), (by rw [hieq]; exact insU_up hU2), (by rw [drop_cons hx49, keG] at hF2; rw [hieq]; exact hF2)⟩
          ·show (x22.length - ((j + 1)) : Nat) < x22.length - j; omega
        ·
         rw [decide_eq_false c98] at ha97
         refine wl_val ha97 rfl rfl rfl (op_move ha97 rfl rfl) ?_
         intro a264 ha264; clear ha97 a97
         refine wl_val ha264 rfl rfl rfl (op_move ha264 rfl rfl) ?_
         intro a265 ha265; clear ha264 a264
         refine wl_val ha265 rfl rfl rfl (op_indexAddr ha265 rfl Try.underlying24 ti9 rfl rfl (by omega) hi79) ?_
         intro a266 ha266; clear ha265 a265
         refine wl_val ha266 rfl rfl rfl (op_loadH ha266 rfl Try.underlying9 rfl rfl hc80 rfl) ?_
         intro a267 ha267; clear ha266 a266
         refine wl_val ha267 rfl rfl rfl (op_move ha267 rfl rfl) ?_
         intro a268 ha268; clear ha267 a267
         refine wl_val ha268 rfl rfl rfl ((op_sneq ha268 rfl rfl rfl).to (congrArg Value.bool decide_not)) ?_
         intro a269 ha269; clear ha268 a268
         refine wl_val ha269 rfl rfl rfl (op_pick_f ha269 rfl rfl rfl) ?_
         intro a270 ha270; clear ha269 a269
         refine wpList_nil ?_
         refine then_n ?_
         by_cases c271 : x76 = x49.1
         ·
          rw [decide_eq_true c271] at ha270
          refine cond_f ha270 rfl ?_
          refine wp_skip ?_
          refine block_n ?_
          refine then_n ?_
          refine wp_region_lit ?_
          refine wl_val ha270 rfl rfl rfl (op_move ha270 rfl rfl) ?_
          intro a272 ha272; clear ha270 a270
          refine wl_val ha272 rfl rfl rfl ((op_add ha272 rfl rfl rfl).int (IntWalk.i64_in _ (by omega))) ?_
          intro a273 ha273; clear ha272 a272
          refine wl_val ha273 rfl rfl rfl (op_assign ha273 rfl rfl) ?_
          intro a274 ha274; clear ha273 a273
          refine wpList_nil ?_
          
          refine round_end (x := (j, v2, ac2)) ((j + 1), v2, ac2) ?_ ?_
          ·
           refine ⟨(Sl.cons_ ha274 rfl rfl (Sl.cons_ ha274 rfl rfl (Sl.cons_ ha274 rfl rfl (Sl.cons_ ha274 rfl (int_eq (by omega)) (Sl.nil_ ha274))))), hx64, (hf65.fin (by omega) (by omega) (by omega)), (by omega), (by omega), (by omega), (by exact hU2), (by rw [drop_cons hx49, keG, insU_has hU2 (by have h5 := List.mem_of_getElem? hx76; rwa [c271] at h5)] at hF2; exact hF2)⟩
          ·show (x22.length - ((j + 1)) : Nat) < x22.length - j; omega
         ·
          rw [decide_eq_false c271] at ha270
          refine cond_t ha270 rfl ?_
          refine dr_enter Ext follows_mixed ?_
          intro w275 he276
          have hx277 := hx64.trans' he276
          have hzhx277 := he276.size
          replace hf65 := hf65.ext he276
          replace hc80 := hc80.ext he276
          have hs278 : Ext w275 w275 := Ext.rfl' _
          refine dr_val (i := 1) ha270 rfl (by kernel_rfl) (by kernel_rfl) (by kernel_rfl) rfl rfl rfl hs278 (fun w' hw' => op_move ha270 rfl rfl) ?_
          intro a279 ha279; clear ha270 a270
          refine dr_val (i := 2) ha279 rfl (by kernel_rfl) (by kernel_rfl) (by kernel_rfl) rfl rfl rfl hs278 (fun w' hw' => op_move ha279 rfl rfl) ?_
          intro a280 ha280; clear ha279 a279
          obtain ⟨u281, hu282, hr283⟩ := Rds.part (hf65.rds pos_shStr) Try.underlying24 ti9 none (some (.int .i64 (k : Nat))) 0 k (.inl ⟨rfl, rfl⟩) (.inr ⟨.i64, rfl⟩) (by first | omega | (simp; omega)) (by first | omega | (simp; omega))
          replace hr283 := hr283.cast (ys := ac2.take k) (by first | rw [List.take_length] | simp)
          refine dr_val (i := 3) ha280 rfl (by kernel_rfl) (by kernel_rfl) (by kernel_rfl) rfl rfl rfl hs278 (fun w' hw' => op_slice_t (by omega) ha280 rfl rfl rfl hu282) ?_
          intro a284 ha284; clear ha280 a280
          refine dr_val (i := 5) ha284 rfl (by kernel_rfl) (by kernel_rfl) (by kernel_rfl) rfl rfl rfl hs278 (fun w' hw' => op_move ha284 rfl rfl) ?_
          intro a285 ha285; clear ha284 a284
          refine dr_val (i := 8) ha285 rfl (by kernel_rfl) (by kernel_rfl) (by kernel_rfl) rfl rfl rfl hs278 (fun w' hw' => op_move ha285 rfl rfl) ?_
          intro a286 ha286; clear ha285 a285
          refine dr_val (i := 9) ha286 rfl (by kernel_rfl) (by kernel_rfl) (by kernel_rfl) rfl rfl rfl hs278 (fun w' hw' => op_move ha286 rfl rfl) ?_
          intro a287 ha287; clear ha286 a286
          obtain ⟨u288, hu289, hr290⟩ := Rds.part (hf65.rds pos_shStr) Try.underlying24 ti9 (some (.int .i64 (k : Nat))) none k ac2.length (.inr ⟨.i64, rfl⟩) (.inl ⟨rfl, rfl⟩) (by first | omega | (simp; omega)) (by first | omega | (simp; omega))
          replace hr290 := hr290.cast (ys := ac2.drop k) (by first | rw [List.take_length] | simp)
          refine dr_val (i := 10) ha287 rfl (by kernel_rfl) (by kernel_rfl) (by kernel_rfl) rfl rfl rfl hs278 (fun w' hw' => op_slice_f (by omega) ha287 rfl rfl rfl hu289) ?_
          intro a291 ha291; clear ha287 a287
          refine dr_two (i := 0) (j := 6) (by kernel_rfl) ?_ ?_
          ·
           refine po_eff ha291 rfl rfl rfl rfl (op_buildSlice (s := shStr) (xs := ([] : List Str)) (cs := []) (vs := []) (S := fun _ => False) (le := w275.heap.size) ha291 rfl pos_shStr Try.underlying24 ti9 rfl rfl (by decide) (by kernel_rfl) rfl (fun _ h => h.elim)) ?_
           rintro v292 w293 ⟨ho294, he295, hob296⟩ a297 ha297; clear ha291 a291
           have hs298 := hs278.trans' he295
           have hx299 := hx277.trans' he295
           have hzhx299 := he295.size
           refine ⟨hs298, ?_⟩
           refine dr_two (i := 4) (j := 6) (by kernel_rfl) ?_ ?_
           ·
            refine po_eff ha297 rfl rfl rfl rfl (op_append (ts := #[]) (s := shStr) ha297 rfl Try.underlying24 ti9 rfl pos_shStr rfl rfl ho294 (hr283.ext pos_shStr hs298) (by omega) (by omega) (by first | omega | (simp; omega)) (by first | omega | (simp; omega)) (.inl flat_shStr)) ?_
            rintro v300 w301 ⟨ho302, hst303, hob304⟩ a305 ha305; clear ha297 a297
            replace ho302 := ho302.cast (List.nil_append _)
            have hs306 := hs298.stp hst303 (by intro q hq; have hq0 := ho294.lt q hq; omega)
            have hx307 := hx299.stp hst303 (by intro q hq; have hq0 := ho294.lt q hq; omega)
            have hzhx307 := hst303.size
            have hsp308 : ∀ q, Value.ownBlock v300 = some q → Value.ownBlock v2 ≠ some q := by intro q hq hb; have hq0 := hf65.lt q hb; rcases hob304 with h | h; (rw [h] at hq; first | (have hq1 := ho294.lt q hq; omega)); (rw [h] at hq; cases hq; omega)
            refine ⟨hs306, ?_⟩
            refine dr_one (i := 6) (by kernel_rfl) ?_
            refine po_eff ha305 rfl rfl rfl rfl (op_buildSlice (s := shStr) (xs := [x49.1]) (cs := [St x49.1]) (vs := [(0, St x49.1)]) (S := fun _ => False) (le := w301.heap.size) ha305 rfl pos_shStr Try.underlying24 ti9 rfl rfl (by decide) (by kernel_rfl) (Els.single (mk_shStr x49.1 (by first | assumption | omega | (simp; done)))) (fun _ h => h.elim)) ?_
            rintro v309 w310 ⟨ho311, he312, hob313⟩ a314 ha314; clear ha305 a305
            have hs315 := hs306.trans' he312
            have hx316 := hx307.trans' he312
            have hzhx316 := he312.size
            replace ho302 := ho302.ext he312
            refine ⟨hs315, ?_⟩
            refine dr_one (i := 7) (by kernel_rfl) ?_
            refine po_eff ha314 rfl rfl rfl rfl (op_append (ts := #[]) (s := shStr) ha314 rfl Try.underlying24 ti9 rfl pos_shStr rfl rfl ho302 (ho311.rds pos_shStr) (by omega) (by omega) (by first | omega | (simp; omega)) (by first | omega | (simp; omega)) (.inl flat_shStr)) ?_
            rintro v317 w318 ⟨ho319, hst320, hob321⟩ a322 ha322; clear ha314 a314
            have hs323 := hs315.stp hst320 (by intro q hq; have hq0 := ho302.lt q hq; omega)
            have hx324 := hx316.stp hst320 (by intro q hq; have hq0 := ho302.lt q hq; omega)
            have hzhx324 := hst320.size
            replace ho311 := ho311.stp hst320 (by intro q hq; have hq0 := ho302.lt q hq; omega)
            have hsp325 : ∀ q, Value.ownBlock v317 = some q → Value.ownBlock v2 ≠ some q := by intro q hq hb; have hq0 := hf65.lt q hb; rcases hob321 with h | h; (rw [h] at hq; first | (have hq1 := ho302.lt q hq; omega) | exact hsp308 q hq hb); (rw [h] at hq; cases hq; omega)
            have hsp326 : ∀ q, Value.ownBlock v317 = some q → Value.ownBlock v309 ≠ some q := by intro q hq hb; have hq0 := ho311.lt q hb; rcases hob321 with h | h; (rw [h] at hq; first | (have hq1 := ho302.lt q hq; omega)); (rw [h] at hq; cases hq; omega)
            refine ⟨hs323, ?_⟩
            refine dr_one (i := 11) (by kernel_rfl) ?_
            refine po_eff ha322 rfl rfl rfl rfl (op_append (ts := #[]) (s := shStr) ha322 rfl Try.underlying24 ti9 rfl pos_shStr rfl rfl ho319 (hr290.ext pos_shStr hs323) (by omega) (by omega) (by first | omega | (simp; omega)) (by first | omega | (simp; omega)) (.inl flat_shStr)) ?_
            rintro v327 w328 ⟨ho329, hst330, hob331⟩ a332 ha332; clear ha322 a322
            have hs333 := hs323.stp hst330 (by intro q hq; have hq0 := ho319.lt q hq; omega)
            have hx334 := hx324.stp hst330 (by intro q hq; have hq0 := ho319.lt q hq; omega)
            have hzhx334 := hst330.size
            first | replace ho311 := ho311.stp hst330 (by intro q hq; have hq0 := ho319.lt q hq; omega) | replace ho311 := ho311.stpF flat_shStr hst330 (fun q hq => hsp326 q hq)
            have hsp335 : ∀ q, Value.ownBlock v327 = some q → Value.ownBlock v2 ≠ some q := by intro q hq hb; have hq0 := hf65.lt q hb; rcases hob331 with h | h; (rw [h] at hq; first | (have hq1 := ho319.lt q hq; omega) | exact hsp325 q hq hb); (rw [h] at hq; cases hq; omega)
            have hsp336 : ∀ q, Value.ownBlock v327 = some q → Value.ownBlock v309 ≠ some q := by intro q hq hb; have hq0 := ho311.lt q hb; rcases hob331 with h | h; (rw [h] at hq; first | (have hq1 := ho319.lt q hq; omega) | exact hsp326 q hq hb); (rw [h] at hq; cases hq; omega)
            refine ⟨hs333, ?_⟩
            refine dr_val (i := 12) ha332 rfl (by kernel_rfl) (by kernel_rfl) (by kernel_rfl) rfl rfl rfl hs333 (fun w' hw' => op_assign ha332 rfl rfl) ?_
            intro a337 ha337; clear ha332 a332
            refine dr_end (by kernel_rfl) ?_
            replace hf65 := hf65.ext hs333
            replace hc80 := hc80.ext hs333
            replace hr283 := hr283.ext pos_shStr hs333
            replace hr290 := hr290.ext pos_shStr hs333
            refine block_n ?_
            refine then_n ?_
            refine wp_region_lit ?_
            refine wl_val ha337 rfl rfl rfl (op_move ha337 rfl rfl) ?_
            intro a338 ha338; clear ha337 a337
            refine wl_val ha338 rfl rfl rfl ((op_add ha338 rfl rfl rfl).int (IntWalk.i64_in _ (by omega))) ?_
            intro a339 ha339; clear ha338 a338
            refine wl_val ha339 rfl rfl rfl (op_assign ha339 rfl rfl) ?_
            intro a340 ha340; clear ha339 a339
            refine wpList_nil ?_
            have hins := insU_front (x := x49.1) hU2 hk2 (.inr ⟨_, hx76, c89, c271⟩)
            have hieq : ((ac2.take k ++ [x49.1]) ++ ac2.drop k) = insU x49.1 ac2 := by rw [hins]; simp
            have hils := insU_len x49.1 ac2
            refine round_end (x := (j, v2, ac2)) ((j + 1), v327, ((ac2.take k ++ [x49.1]) ++ ac2.drop k)) ?_ ?_
            ·
             refine ⟨(Sl.cons_ ha340 rfl rfl (Sl.cons_ ha340 rfl rfl (Sl.cons_ ha340 rfl rfl (Sl.cons_ ha340 rfl (int_eq (by omega)) (Sl.nil_ ha340))))), hx334, (ho329.fin (by omega) (by omega) (by omega)), (by omega), (by omega), (by rw [hieq]; omega), (by rw [hieq]; exact insU_up hU2), (by rw [drop_cons hx49, keG] at hF2; rw [hieq]; exact hF2)⟩
            ·show (x22.length - ((j + 1)) : Nat) < x22.length - j; omega
           ·
            refine po_eff ha297 rfl rfl rfl rfl (op_buildSlice (s := shStr) (xs := [x49.1]) (cs := [St x49.1]) (vs := [(0, St x49.1)]) (S := fun _ => False) (le := w293.heap.size) ha297 rfl pos_shStr Try.underlying24 ti9 rfl rfl (by decide) (by kernel_rfl) (Els.single (mk_shStr x49.1 (by first | assumption | omega | (simp; done)))) (fun _ h => h.elim)) ?_
            rintro v341 w342 ⟨ho343, he344, hob345⟩ a346 ha346; clear ha297 a297
            have hs347 := hs298.trans' he344
            have hx348 := hx299.trans' he344
            have hzhx348 := he344.size
            replace ho294 := ho294.ext he344
            refine ⟨hs347, ?_⟩
            refine dr_one (i := 4) (by kernel_rfl) ?_
            refine po_eff ha346 rfl rfl rfl rfl (op_append (ts := #[]) (s := shStr) ha346 rfl Try.underlying24 ti9 rfl pos_shStr rfl rfl ho294 (hr283.ext pos_shStr hs347) (by omega) (by omega) (by first | omega | (simp; omega)) (by first | omega | (simp; omega)) (.inl flat_shStr)) ?_
            rintro v349 w350 ⟨ho351, hst352, hob353⟩ a354 ha354; clear ha346 a346
            replace ho351 := ho351.cast (List.nil_append _)
            have hs355 := hs347.stp hst352 (by intro q hq; have hq0 := ho294.lt q hq; omega)
            have hx356 := hx348.stp hst352 (by intro q hq; have hq0 := ho294.lt q hq; omega)
            have hzhx356 := hst352.size
            replace ho343 := ho343.stp hst352 (by intro q hq; have hq0 := ho294.lt q hq; omega)
            have hsp357 : ∀ q, Value.ownBlock v349 = some q → Value.ownBlock v2 ≠ some q := by intro q hq hb; have hq0 := hf65.lt q hb; rcases hob353 with h | h; (rw [h] at hq; first | (have hq1 := ho294.lt q hq; omega)); (rw [h] at hq; cases hq; omega)
            have hsp358 : ∀ q, Value.ownBlock v349 = some q → Value.ownBlock v341 ≠ some q := by intro q hq hb; have hq0 := ho343.lt q hb; rcases hob353 with h | h; (rw [h] at hq; first | (have hq1 := ho294.lt q hq; omega)); (rw [h] at hq; cases hq; omega)
            refine ⟨hs355, ?_⟩
            refine dr_one (i := 7) (by kernel_rfl) ?_
            refine po_eff ha354 rfl rfl rfl rfl (op_append (ts := #[]) (s := shStr) ha354 rfl Try.underlying24 ti9 rfl pos_shStr rfl rfl ho351 (ho343.rds pos_shStr) (by omega) (by omega) (by first | omega | (simp; omega)) (by first | omega | (simp; omega)) (.inl flat_shStr)) ?_
            rintro v359 w360 ⟨ho361, hst362, hob363⟩ a364 ha364; clear ha354 a354
            have hs365 := hs355.stp hst362 (by intro q hq; have hq0 := ho351.lt q hq; omega)
            have hx366 := hx356.stp hst362 (by intro q hq; have hq0 := ho351.lt q hq; omega)
            have hzhx366 := hst362.size
            first | replace ho343 := ho343.stp hst362 (by intro q hq; have hq0 := ho351.lt q hq; omega) | replace ho343 := ho343.stpF flat_shStr hst362 (fun q hq => hsp358 q hq)
            have hsp367 : ∀ q, Value.ownBlock v359 = some q → Value.ownBlock v2 ≠ some q := by intro q hq hb; have hq0 := hf65.lt q hb; rcases hob363 with h | h; (rw [h] at hq; first | (have hq1 := ho351.lt q hq; omega) | exact hsp357 q hq hb); (rw [h] at hq; cases hq; omega)
            have hsp368 : ∀ q, Value.ownBlock v359 = some q → Value.ownBlock v341 ≠ some q := by intro q hq hb; have hq0 := ho343.lt q hb; rcases hob363 with h | h; (rw [h] at hq; first | (have hq1 := ho351.lt q hq; omega) | exact hsp358 q hq hb); (rw [h] at hq; cases hq; omega)
            refine ⟨hs365, ?_⟩
            refine dr_one (i := 11) (by kernel_rfl) ?_
            refine po_eff ha364 rfl rfl rfl rfl (op_append (ts := #[]) (s := shStr) ha364 rfl Try.underlying24 ti9 rfl pos_shStr rfl rfl ho361 (hr290.ext pos_shStr hs365) (by omega) (by omega) (by first | omega | (simp; omega)) (by first | omega | (simp; omega)) (.inl flat_shStr)) ?_
            rintro v369 w370 ⟨ho371, hst372, hob373⟩ a374 ha374; clear ha364 a364
            have hs375 := hs365.stp hst372 (by intro q hq; have hq0 := ho361.lt q hq; omega)
            have hx376 := hx366.stp hst372 (by intro q hq; have hq0 := ho361.lt q hq; omega)
            have hzhx376 := hst372.size
            first | replace ho343 := ho343.stp hst372 (by intro q hq; have hq0 := ho361.lt q hq; omega) | replace ho343 := ho343.stpF flat_shStr hst372 (fun q hq => hsp368 q hq)
            have hsp377 : ∀ q, Value.ownBlock v369 = some q → Value.ownBlock v2 ≠ some q := by intro q hq hb; have hq0 := hf65.lt q hb; rcases hob373 with h | h; (rw [h] at hq; first | (have hq1 := ho361.lt q hq; omega) | exact hsp367 q hq hb); (rw [h] at hq; cases hq; omega)
            have hsp378 : ∀ q, Value.ownBlock v369 = some q → Value.ownBlock v341 ≠ some q := by intro q hq hb; have hq0 := ho343.lt q hb; rcases hob373 with h | h; (rw [h] at hq; first | (have hq1 := ho361.lt q hq; omega) | exact hsp368 q hq hb); (rw [h] at hq; cases hq; omega)
            refine ⟨hs375, ?_⟩
            refine dr_val (i := 12) ha374 rfl (by kernel_rfl) (by kernel_rfl) (by kernel_rfl) rfl rfl rfl hs375 (fun w' hw' => op_assign ha374 rfl rfl) ?_
            intro a379 ha379; clear ha374 a374
            refine dr_end (by kernel_rfl) ?_
            replace hf65 := hf65.ext hs375
            replace hc80 := hc80.ext hs375
            replace hr283 := hr283.ext pos_shStr hs375
            replace hr290 := hr290.ext pos_shStr hs375
            refine block_n ?_
            refine then_n ?_
            refine wp_region_lit ?_
            refine wl_val ha379 rfl rfl rfl (op_move ha379 rfl rfl) ?_
            intro a380 ha380; clear ha379 a379
            refine wl_val ha380 rfl rfl rfl ((op_add ha380 rfl rfl rfl).int (IntWalk.i64_in _ (by omega))) ?_
            intro a381 ha381; clear ha380 a380
            refine wl_val ha381 rfl rfl rfl (op_assign ha381 rfl rfl) ?_
            intro a382 ha382; clear ha381 a381
            refine wpList_nil ?_
            have hins := insU_front (x := x49.1) hU2 hk2 (.inr ⟨_, hx76, c89, c271⟩)
            have hieq : ((ac2.take k ++ [x49.1]) ++ ac2.drop k) = insU x49.1 ac2 := by rw [hins]; simp
            have hils := insU_len x49.1 ac2
            refine round_end (x := (j, v2, ac2)) ((j + 1), v369, ((ac2.take k ++ [x49.1]) ++ ac2.drop k)) ?_ ?_
            ·
             refine ⟨(Sl.cons_ ha382 rfl rfl (Sl.cons_ ha382 rfl rfl (Sl.cons_ ha382 rfl rfl (Sl.cons_ ha382 rfl (int_eq (by omega)) (Sl.nil_ ha382))))), hx376, (ho371.fin (by omega) (by omega) (by omega)), (by omega), (by omega), (by rw [hieq]; omega), (by rw [hieq]; exact insU_up hU2), (by rw [drop_cons hx49, keG] at hF2; rw [hieq]; exact hF2)⟩
            ·show (x22.length - ((j + 1)) : Nat) < x22.length - j; omega
          ·
           refine po_eff ha291 rfl rfl rfl rfl (op_buildSlice (s := shStr) (xs := [x49.1]) (cs := [St x49.1]) (vs := [(0, St x49.1)]) (S := fun _ => False) (le := w275.heap.size) ha291 rfl pos_shStr Try.underlying24 ti9 rfl rfl (by decide) (by kernel_rfl) (Els.single (mk_shStr x49.1 (by first | assumption | omega | (simp; done)))) (fun _ h => h.elim)) ?_
           rintro v383 w384 ⟨ho385, he386, hob387⟩ a388 ha388; clear ha291 a291
           have hs389 := hs278.trans' he386
           have hx390 := hx277.trans' he386
           have hzhx390 := he386.size
           refine ⟨hs389, ?_⟩
           refine dr_one (i := 0) (by kernel_rfl) ?_
           refine po_eff ha388 rfl rfl rfl rfl (op_buildSlice (s := shStr) (xs := ([] : List Str)) (cs := []) (vs := []) (S := fun _ => False) (le := w384.heap.size) ha388 rfl pos_shStr Try.underlying24 ti9 rfl rfl (by decide) (by kernel_rfl) rfl (fun _ h => h.elim)) ?_
           rintro v391 w392 ⟨ho393, he394, hob395⟩ a396 ha396; clear ha388 a388
           have hs397 := hs389.trans' he394
           have hx398 := hx390.trans' he394
           have hzhx398 := he394.size
           replace ho385 := ho385.ext he394
           refine ⟨hs397, ?_⟩
           refine dr_one (i := 4) (by kernel_rfl) ?_
           refine po_eff ha396 rfl rfl rfl rfl (op_append (ts := #[]) (s := shStr) ha396 rfl Try.underlying24 ti9 rfl pos_shStr rfl rfl ho393 (hr283.ext pos_shStr hs397) (by omega) (by omega) (by first | omega | (simp; omega)) (by first | omega | (simp; omega)) (.inl flat_shStr)) ?_
           rintro v399 w400 ⟨ho401, hst402, hob403⟩ a404 ha404; clear ha396 a396
           replace ho401 := ho401.cast (List.nil_append _)
           have hs405 := hs397.stp hst402 (by intro q hq; have hq0 := ho393.lt q hq; omega)
           have hx406 := hx398.stp hst402 (by intro q hq; have hq0 := ho393.lt q hq; omega)
           have hzhx406 := hst402.size
           replace ho385 := ho385.stp hst402 (by intro q hq; have hq0 := ho393.lt q hq; omega)
           have hsp407 : ∀ q, Value.ownBlock v399 = some q → Value.ownBlock v2 ≠ some q := by intro q hq hb; have hq0 := hf65.lt q hb; rcases hob403 with h | h; (rw [h] at hq; first | (have hq1 := ho393.lt q hq; omega)); (rw [h] at hq; cases hq; omega)
           have hsp408 : ∀ q, Value.ownBlock v399 = some q → Value.ownBlock v383 ≠ some q := by intro q hq hb; have hq0 := ho385.lt q hb; rcases hob403 with h | h; (rw [h] at hq; first | (have hq1 := ho393.lt q hq; omega)); (rw [h] at hq; cases hq; omega)
           refine ⟨hs405, ?_⟩
           refine dr_one (i := 7) (by kernel_rfl) ?_
           refine po_eff ha404 rfl rfl rfl rfl (op_append (ts := #[]) (s := shStr) ha404 rfl Try.underlying24 ti9 rfl pos_shStr rfl rfl ho401 (ho385.rds pos_shStr) (by omega) (by omega) (by first | omega | (simp; omega)) (by first | omega | (simp; omega)) (.inl flat_shStr)) ?_
           rintro v409 w410 ⟨ho411, hst412, hob413⟩ a414 ha414; clear ha404 a404
           have hs415 := hs405.stp hst412 (by intro q hq; have hq0 := ho401.lt q hq; omega)
           have hx416 := hx406.stp hst412 (by intro q hq; have hq0 := ho401.lt q hq; omega)
           have hzhx416 := hst412.size
           replace ho385 := ho385.stp hst412 (by intro q hq; have hq0 := ho401.lt q hq; omega)
           have hsp417 : ∀ q, Value.ownBlock v409 = some q → Value.ownBlock v2 ≠ some q := by intro q hq hb; have hq0 := hf65.lt q hb; rcases hob413 with h | h; (rw [h] at hq; first | (have hq1 := ho401.lt q hq; omega) | exact hsp407 q hq hb); (rw [h] at hq; cases hq; omega)
           have hsp418 : ∀ q, Value.ownBlock v409 = some q → Value.ownBlock v383 ≠ some q := by intro q hq hb; have hq0 := ho385.lt q hb; rcases hob413 with h | h; (rw [h] at hq; first | (have hq1 := ho401.lt q hq; omega) | exact hsp408 q hq hb); (rw [h] at hq; cases hq; omega)
           refine ⟨hs415, ?_⟩
           refine dr_one (i := 11) (by kernel_rfl) ?_
           refine po_eff ha414 rfl rfl rfl rfl (op_append (ts := #[]) (s := shStr) ha414 rfl Try.underlying24 ti9 rfl pos_shStr rfl rfl ho411 (hr290.ext pos_shStr hs415) (by omega) (by omega) (by first | omega | (simp; omega)) (by first | omega | (simp; omega)) (.inl flat_shStr)) ?_
           rintro v419 w420 ⟨ho421, hst422, hob423⟩ a424 ha424; clear ha414 a414
           have hs425 := hs415.stp hst422 (by intro q hq; have hq0 := ho411.lt q hq; omega)
           have hx426 := hx416.stp hst422 (by intro q hq; have hq0 := ho411.lt q hq; omega)
           have hzhx426 := hst422.size
           replace ho385 := ho385.stp hst422 (by intro q hq; have hq0 := ho411.lt q hq; omega)
           have hsp427 : ∀ q, Value.ownBlock v419 = some q → Value.ownBlock v2 ≠ some q := by intro q hq hb; have hq0 := hf65.lt q hb; rcases hob423 with h | h; (rw [h] at hq; first | (have hq1 := ho411.lt q hq; omega) | exact hsp417 q hq hb); (rw [h] at hq; cases hq; omega)
           have hsp428 : ∀ q, Value.ownBlock v419 = some q → Value.ownBlock v383 ≠ some q := by intro q hq hb; have hq0 := ho385.lt q hb; rcases hob423 with h | h; (rw [h] at hq; first | (have hq1 := ho411.lt q hq; omega) | exact hsp418 q hq hb); (rw [h] at hq; cases hq; omega)
           refine ⟨hs425, ?_⟩
           refine dr_val (i := 12) ha424 rfl (by kernel_rfl) (by kernel_rfl) (by kernel_rfl) rfl rfl rfl hs425 (fun w' hw' => op_assign ha424 rfl rfl) ?_
           intro a429 ha429; clear ha424 a424
           refine dr_end (by kernel_rfl) ?_
           replace hf65 := hf65.ext hs425
           replace hc80 := hc80.ext hs425
           replace hr283 := hr283.ext pos_shStr hs425
           replace hr290 := hr290.ext pos_shStr hs425
           refine block_n ?_
           refine then_n ?_
           refine wp_region_lit ?_
           refine wl_val ha429 rfl rfl rfl (op_move ha429 rfl rfl) ?_
           intro a430 ha430; clear ha429 a429
           refine wl_val ha430 rfl rfl rfl ((op_add ha430 rfl rfl rfl).int (IntWalk.i64_in _ (by omega))) ?_
           intro a431 ha431; clear ha430 a430
           refine wl_val ha431 rfl rfl rfl (op_assign ha431 rfl rfl) ?_
           intro a432 ha432; clear ha431 a431
           refine wpList_nil ?_
           have hins := insU_front (x := x49.1) hU2 hk2 (.inr ⟨_, hx76, c89, c271⟩)
           have hieq : ((ac2.take k ++ [x49.1]) ++ ac2.drop k) = insU x49.1 ac2 := by rw [hins]; simp
           have hils := insU_len x49.1 ac2
           refine round_end (x := (j, v2, ac2)) ((j + 1), v419, ((ac2.take k ++ [x49.1]) ++ ac2.drop k)) ?_ ?_
           ·
            refine ⟨(Sl.cons_ ha432 rfl rfl (Sl.cons_ ha432 rfl rfl (Sl.cons_ ha432 rfl rfl (Sl.cons_ ha432 rfl (int_eq (by omega)) (Sl.nil_ ha432))))), hx426, (ho421.fin (by omega) (by omega) (by omega)), (by omega), (by omega), (by rw [hieq]; omega), (by rw [hieq]; exact insU_up hU2), (by rw [drop_cons hx49, keG] at hF2; rw [hieq]; exact hF2)⟩
           ·show (x22.length - ((j + 1)) : Nat) < x22.length - j; omega
      ·
       rw [decide_eq_false c73] at ha72
       refine wl_skip ha72 rfl rfl rfl ?_
       intro a433 ha433; clear ha72 a72
       refine wl_skip ha433 rfl rfl rfl ?_
       intro a434 ha434; clear ha433 a433
       refine wl_skip ha434 rfl rfl rfl ?_
       intro a435 ha435; clear ha434 a434
       refine wl_skip ha435 rfl rfl rfl ?_
       intro a436 ha436; clear ha435 a435
       refine wl_skip ha436 rfl rfl rfl ?_
       intro a437 ha437; clear ha436 a436
       refine wl_skip ha437 rfl rfl rfl ?_
       intro a438 ha438; clear ha437 a437
       refine wl_val ha438 rfl rfl rfl (op_pick_f ha438 rfl rfl rfl) ?_
       intro a439 ha439; clear ha438 a438
       refine wpList_nil ?_
       refine then_n ?_
       refine cond_f ha439 rfl ?_
       refine wp_exit ?_
       refine then_e ?_
       refine then_e ?_
       refine block_hit ?_
       refine then_n ?_
       refine wp_seq ?_
       refine wp_region_lit ?_
       refine wl_val ha439 rfl rfl rfl (op_move ha439 rfl rfl) ?_
       intro a440 ha440; clear ha439 a439
       refine wl_val ha440 rfl rfl rfl (op_move ha440 rfl rfl) ?_
       intro a441 ha441; clear ha440 a440
       refine wl_val ha441 rfl rfl rfl (op_len_sl ha441 rfl Try.underlying24 rfl (hf65.rds pos_shStr)) ?_
       intro a442 ha442; clear ha441 a441
       refine wl_val ha442 rfl rfl rfl (op_eql ha442 rfl rfl rfl) ?_
       intro a443 ha443; clear ha442 a442
       refine wl_val ha443 rfl rfl rfl (op_move ha443 rfl rfl) ?_
       intro a444 ha444; clear ha443 a443
       by_cases c445 : ((k : Nat) : Int) = ((ac2.length : Nat) : Int)
       ·
        rw [decide_eq_true c445] at ha444
        refine wl_skip ha444 rfl rfl rfl ?_
        intro a446 ha446; clear ha444 a444
        refine wl_skip ha446 rfl rfl rfl ?_
        intro a447 ha447; clear ha446 a446
        refine wl_skip ha447 rfl rfl rfl ?_
        intro a448 ha448; clear ha447 a447
        refine wl_skip ha448 rfl rfl rfl ?_
        intro a449 ha449; clear ha448 a448
        refine wl_skip ha449 rfl rfl rfl ?_
        intro a450 ha450; clear ha449 a449
        refine wl_skip ha450 rfl rfl rfl ?_
        intro a451 ha451; clear ha450 a450
        refine wl_val ha451 rfl rfl rfl (op_pick_t ha451 rfl rfl rfl) ?_
        intro a452 ha452; clear ha451 a451
        refine wpList_nil ?_
        refine then_n ?_
        refine cond_t ha452 rfl ?_
        refine dr_enter Ext follows_mixed ?_
        intro w453 he454
        have hx455 := hx64.trans' he454
        have hzhx455 := he454.size
        replace hf65 := hf65.ext he454
        have hs456 : Ext w453 w453 := Ext.rfl' _
        refine dr_val (i := 1) ha452 rfl (by kernel_rfl) (by kernel_rfl) (by kernel_rfl) rfl rfl rfl hs456 (fun w' hw' => op_move ha452 rfl rfl) ?_
        intro a457 ha457; clear ha452 a452
        refine dr_val (i := 2) ha457 rfl (by kernel_rfl) (by kernel_rfl) (by kernel_rfl) rfl rfl rfl hs456 (fun w' hw' => op_move ha457 rfl rfl) ?_
        intro a458 ha458; clear ha457 a457
        obtain ⟨u459, hu460, hr461⟩ := Rds.part (hf65.rds pos_shStr) Try.underlying24 ti9 none (some (.int .i64 (k : Nat))) 0 k (.inl ⟨rfl, rfl⟩) (.inr ⟨.i64, rfl⟩) (by first | omega | (simp; omega)) (by first | omega | (simp; omega))
        replace hr461 := hr461.cast (ys := ac2.take k) (by first | rw [List.take_length] | simp)
        refine dr_val (i := 3) ha458 rfl (by kernel_rfl) (by kernel_rfl) (by kernel_rfl) rfl rfl rfl hs456 (fun w' hw' => op_slice_t (by omega) ha458 rfl rfl rfl hu460) ?_
        intro a462 ha462; clear ha458 a458
        refine dr_val (i := 5) ha462 rfl (by kernel_rfl) (by kernel_rfl) (by kernel_rfl) rfl rfl rfl hs456 (fun w' hw' => op_move ha462 rfl rfl) ?_
        intro a463 ha463; clear ha462 a462
        refine dr_val (i := 8) ha463 rfl (by kernel_rfl) (by kernel_rfl) (by kernel_rfl) rfl rfl rfl hs456 (fun w' hw' => op_move ha463 rfl rfl) ?_
        intro a464 ha464; clear ha463 a463
        refine dr_val (i := 9) ha464 rfl (by kernel_rfl) (by kernel_rfl) (by kernel_rfl) rfl rfl rfl hs456 (fun w' hw' => op_move ha464 rfl rfl) ?_
        intro a465 ha465; clear ha464 a464
        obtain ⟨u466, hu467, hr468⟩ := Rds.part (hf65.rds pos_shStr) Try.underlying24 ti9 (some (.int .i64 (k : Nat))) none k ac2.length (.inr ⟨.i64, rfl⟩) (.inl ⟨rfl, rfl⟩) (by first | omega | (simp; omega)) (by first | omega | (simp; omega))
        replace hr468 := hr468.cast (ys := ac2.drop k) (by first | rw [List.take_length] | simp)
        refine dr_val (i := 10) ha465 rfl (by kernel_rfl) (by kernel_rfl) (by kernel_rfl) rfl rfl rfl hs456 (fun w' hw' => op_slice_f (by omega) ha465 rfl rfl rfl hu467) ?_
        intro a469 ha469; clear ha465 a465
        refine dr_two (i := 0) (j := 6) (by kernel_rfl) ?_ ?_
        ·
         refine po_eff ha469 rfl rfl rfl rfl (op_buildSlice (s := shStr) (xs := ([] : List Str)) (cs := []) (vs := []) (S := fun _ => False) (le := w453.heap.size) ha469 rfl pos_shStr Try.underlying24 ti9 rfl rfl (by decide) (by kernel_rfl) rfl (fun _ h => h.elim)) ?_
         rintro v470 w471 ⟨ho472, he473, hob474⟩ a475 ha475; clear ha469 a469
         have hs476 := hs456.trans' he473
         have hx477 := hx455.trans' he473
         have hzhx477 := he473.size
         refine ⟨hs476, ?_⟩
         refine dr_two (i := 4) (j := 6) (by kernel_rfl) ?_ ?_
         ·
          refine po_eff ha475 rfl rfl rfl rfl (op_append (ts := #[]) (s := shStr) ha475 rfl Try.underlying24 ti9 rfl pos_shStr rfl rfl ho472 (hr461.ext pos_shStr hs476) (by omega) (by omega) (by first | omega | (simp; omega)) (by first | omega | (simp; omega)) (.inl flat_shStr)) ?_
          rintro v478 w479 ⟨ho480, hst481, hob482⟩ a483 ha483; clear ha475 a475
          replace ho480 := ho480.cast (List.nil_append _)
          have hs484 := hs476.stp hst481 (by intro q hq; have hq0 := ho472.lt q hq; omega)
          have hx485 := hx477.stp hst481 (by intro q hq; have hq0 := ho472.lt q hq; omega)
          have hzhx485 := hst481.size
          have hsp486 : ∀ q, Value.ownBlock v478 = some q → Value.ownBlock v2 ≠ some q := by intro q hq hb; have hq0 := hf65.lt q hb; rcases hob482 with h | h; (rw [h] at hq; first | (have hq1 := ho472.lt q hq; omega)); (rw [h] at hq; cases hq; omega)
          refine ⟨hs484, ?_⟩
          refine dr_one (i := 6) (by kernel_rfl) ?_
          refine po_eff ha483 rfl rfl rfl rfl (op_buildSlice (s := shStr) (xs := [x49.1]) (cs := [St x49.1]) (vs := [(0, St x49.1)]) (S := fun _ => False) (le := w479.heap.size) ha483 rfl pos_shStr Try.underlying24 ti9 rfl rfl (by decide) (by kernel_rfl) (Els.single (mk_shStr x49.1 (by first | assumption | omega | (simp; done)))) (fun _ h => h.elim)) ?_
          rintro v487 w488 ⟨ho489, he490, hob491⟩ a492 ha492; clear ha483 a483
          have hs493 := hs484.trans' he490
          have hx494 := hx485.trans' he490
          have hzhx494 := he490.size
          replace ho480 := ho480.ext he490
          refine ⟨hs493, ?_⟩
          refine dr_one (i := 7) (by kernel_rfl) ?_
          refine po_eff ha492 rfl rfl rfl rfl (op_append (ts := #[]) (s := shStr) ha492 rfl Try.underlying24 ti9 rfl pos_shStr rfl rfl ho480 (ho489.rds pos_shStr) (by omega) (by omega) (by first | omega | (simp; omega)) (by first | omega | (simp; omega)) (.inl flat_shStr)) ?_
          rintro v495 w496 ⟨ho497, hst498, hob499⟩ a500 ha500; clear ha492 a492
          have hs501 := hs493.stp hst498 (by intro q hq; have hq0 := ho480.lt q hq; omega)
          have hx502 := hx494.stp hst498 (by intro q hq; have hq0 := ho480.lt q hq; omega)
          have hzhx502 := hst498.size
          replace ho489 := ho489.stp hst498 (by intro q hq; have hq0 := ho480.lt q hq; omega)
          have hsp503 : ∀ q, Value.ownBlock v495 = some q → Value.ownBlock v2 ≠ some q := by intro q hq hb; have hq0 := hf65.lt q hb; rcases hob499 with h | h; (rw [h] at hq; first | (have hq1 := ho480.lt q hq; omega) | exact hsp486 q hq hb); (rw [h] at hq; cases hq; omega)
          have hsp504 : ∀ q, Value.ownBlock v495 = some q → Value.ownBlock v487 ≠ some q := by intro q hq hb; have hq0 := ho489.lt q hb; rcases hob499 with h | h; (rw [h] at hq; first | (have hq1 := ho480.lt q hq; omega)); (rw [h] at hq; cases hq; omega)
          refine ⟨hs501, ?_⟩
          refine dr_one (i := 11) (by kernel_rfl) ?_
          refine po_eff ha500 rfl rfl rfl rfl (op_append (ts := #[]) (s := shStr) ha500 rfl Try.underlying24 ti9 rfl pos_shStr rfl rfl ho497 (hr468.ext pos_shStr hs501) (by omega) (by omega) (by first | omega | (simp; omega)) (by first | omega | (simp; omega)) (.inl flat_shStr)) ?_
          rintro v505 w506 ⟨ho507, hst508, hob509⟩ a510 ha510; clear ha500 a500
          have hs511 := hs501.stp hst508 (by intro q hq; have hq0 := ho497.lt q hq; omega)
          have hx512 := hx502.stp hst508 (by intro q hq; have hq0 := ho497.lt q hq; omega)
          have hzhx512 := hst508.size
          first | replace ho489 := ho489.stp hst508 (by intro q hq; have hq0 := ho497.lt q hq; omega) | replace ho489 := ho489.stpF flat_shStr hst508 (fun q hq => hsp504 q hq)
          have hsp513 : ∀ q, Value.ownBlock v505 = some q → Value.ownBlock v2 ≠ some q := by intro q hq hb; have hq0 := hf65.lt q hb; rcases hob509 with h | h; (rw [h] at hq; first | (have hq1 := ho497.lt q hq; omega) | exact hsp503 q hq hb); (rw [h] at hq; cases hq; omega)
          have hsp514 : ∀ q, Value.ownBlock v505 = some q → Value.ownBlock v487 ≠ some q := by intro q hq hb; have hq0 := ho489.lt q hb; rcases hob509 with h | h; (rw [h] at hq; first | (have hq1 := ho497.lt q hq; omega) | exact hsp504 q hq hb); (rw [h] at hq; cases hq; omega)
          refine ⟨hs511, ?_⟩
          refine dr_val (i := 12) ha510 rfl (by kernel_rfl) (by kernel_rfl) (by kernel_rfl) rfl rfl rfl hs511 (fun w' hw' => op_assign ha510 rfl rfl) ?_
          intro a515 ha515; clear ha510 a510
          refine dr_end (by kernel_rfl) ?_
          replace hf65 := hf65.ext hs511
          replace hr461 := hr461.ext pos_shStr hs511
          replace hr468 := hr468.ext pos_shStr hs511
          refine block_n ?_
          refine then_n ?_
          refine wp_region_lit ?_
          refine wl_val ha515 rfl rfl rfl (op_move ha515 rfl rfl) ?_
          intro a516 ha516; clear ha515 a515
          refine wl_val ha516 rfl rfl rfl ((op_add ha516 rfl rfl rfl).int (IntWalk.i64_in _ (by omega))) ?_
          intro a517 ha517; clear ha516 a516
          refine wl_val ha517 rfl rfl rfl (op_assign ha517 rfl rfl) ?_
          intro a518 ha518; clear ha517 a517
          refine wpList_nil ?_
          have hins := insU_front (x := x49.1) hU2 hk2 (.inl (by omega))
          have hieq : ((ac2.take k ++ [x49.1]) ++ ac2.drop k) = insU x49.1 ac2 := by rw [hins]; simp
          have hils := insU_len x49.1 ac2
          refine round_end (x := (j, v2, ac2)) ((j + 1), v505, ((ac2.take k ++ [x49.1]) ++ ac2.drop k)) ?_ ?_
          ·
           refine ⟨(Sl.cons_ ha518 rfl rfl (Sl.cons_ ha518 rfl rfl (Sl.cons_ ha518 rfl rfl (Sl.cons_ ha518 rfl (int_eq (by omega)) (Sl.nil_ ha518))))), hx512, (ho507.fin (by omega) (by omega) (by omega)), (by omega), (by omega), (by rw [hieq]; omega), (by rw [hieq]; exact insU_up hU2), (by rw [drop_cons hx49, keG] at hF2; rw [hieq]; exact hF2)⟩
          ·show (x22.length - ((j + 1)) : Nat) < x22.length - j; omega
         ·
          refine po_eff ha475 rfl rfl rfl rfl (op_buildSlice (s := shStr) (xs := [x49.1]) (cs := [St x49.1]) (vs := [(0, St x49.1)]) (S := fun _ => False) (le := w471.heap.size) ha475 rfl pos_shStr Try.underlying24 ti9 rfl rfl (by decide) (by kernel_rfl) (Els.single (mk_shStr x49.1 (by first | assumption | omega | (simp; done)))) (fun _ h => h.elim)) ?_
          rintro v519 w520 ⟨ho521, he522, hob523⟩ a524 ha524; clear ha475 a475
          have hs525 := hs476.trans' he522
          have hx526 := hx477.trans' he522
          have hzhx526 := he522.size
          replace ho472 := ho472.ext he522
          refine ⟨hs525, ?_⟩
          refine dr_one (i := 4) (by kernel_rfl) ?_
          refine po_eff ha524 rfl rfl rfl rfl (op_append (ts := #[]) (s := shStr) ha524 rfl Try.underlying24 ti9 rfl pos_shStr rfl rfl ho472 (hr461.ext pos_shStr hs525) (by omega) (by omega) (by first | omega | (simp; omega)) (by first | omega | (simp; omega)) (.inl flat_shStr)) ?_
          rintro v527 w528 ⟨ho529, hst530, hob531⟩ a532 ha532; clear ha524 a524
          replace ho529 := ho529.cast (List.nil_append _)
          have hs533 := hs525.stp hst530 (by intro q hq; have hq0 := ho472.lt q hq; omega)
          have hx534 := hx526.stp hst530 (by intro q hq; have hq0 := ho472.lt q hq; omega)
          have hzhx534 := hst530.size
          replace ho521 := ho521.stp hst530 (by intro q hq; have hq0 := ho472.lt q hq; omega)
          have hsp535 : ∀ q, Value.ownBlock v527 = some q → Value.ownBlock v2 ≠ some q := by intro q hq hb; have hq0 := hf65.lt q hb; rcases hob531 with h | h; (rw [h] at hq; first | (have hq1 := ho472.lt q hq; omega)); (rw [h] at hq; cases hq; omega)
          have hsp536 : ∀ q, Value.ownBlock v527 = some q → Value.ownBlock v519 ≠ some q := by intro q hq hb; have hq0 := ho521.lt q hb; rcases hob531 with h | h; (rw [h] at hq; first | (have hq1 := ho472.lt q hq; omega)); (rw [h] at hq; cases hq; omega)
          refine ⟨hs533, ?_⟩
          refine dr_one (i := 7) (by kernel_rfl) ?_
          refine po_eff ha532 rfl rfl rfl rfl (op_append (ts := #[]) (s := shStr) ha532 rfl Try.underlying24 ti9 rfl pos_shStr rfl rfl ho529 (ho521.rds pos_shStr) (by omega) (by omega) (by first | omega | (simp; omega)) (by first | omega | (simp; omega)) (.inl flat_shStr)) ?_
          rintro v537 w538 ⟨ho539, hst540, hob541⟩ a542 ha542; clear ha532 a532
          have hs543 := hs533.stp hst540 (by intro q hq; have hq0 := ho529.lt q hq; omega)
          have hx544 := hx534.stp hst540 (by intro q hq; have hq0 := ho529.lt q hq; omega)
          have hzhx544 := hst540.size
          first | replace ho521 := ho521.stp hst540 (by intro q hq; have hq0 := ho529.lt q hq; omega) | replace ho521 := ho521.stpF flat_shStr hst540 (fun q hq => hsp536 q hq)
          have hsp545 : ∀ q, Value.ownBlock v537 = some q → Value.ownBlock v2 ≠ some q := by intro q hq hb; have hq0 := hf65.lt q hb; rcases hob541 with h | h; (rw [h] at hq; first | (have hq1 := ho529.lt q hq; omega) | exact hsp535 q hq hb); (rw [h] at hq; cases hq; omega)
          have hsp546 : ∀ q, Value.ownBlock v537 = some q → Value.ownBlock v519 ≠ some q := by intro q hq hb; have hq0 := ho521.lt q hb; rcases hob541 with h | h; (rw [h] at hq; first | (have hq1 := ho529.lt q hq; omega) | exact hsp536 q hq hb); (rw [h] at hq; cases hq; omega)
          refine ⟨hs543, ?_⟩
          refine dr_one (i := 11) (by kernel_rfl) ?_
          refine po_eff ha542 rfl rfl rfl rfl (op_append (ts := #[]) (s := shStr) ha542 rfl Try.underlying24 ti9 rfl pos_shStr rfl rfl ho539 (hr468.ext pos_shStr hs543) (by omega) (by omega) (by first | omega | (simp; omega)) (by first | omega | (simp; omega)) (.inl flat_shStr)) ?_
          rintro v547 w548 ⟨ho549, hst550, hob551⟩ a552 ha552; clear ha542 a542
          have hs553 := hs543.stp hst550 (by intro q hq; have hq0 := ho539.lt q hq; omega)
          have hx554 := hx544.stp hst550 (by intro q hq; have hq0 := ho539.lt q hq; omega)
          have hzhx554 := hst550.size
          first | replace ho521 := ho521.stp hst550 (by intro q hq; have hq0 := ho539.lt q hq; omega) | replace ho521 := ho521.stpF flat_shStr hst550 (fun q hq => hsp546 q hq)
          have hsp555 : ∀ q, Value.ownBlock v547 = some q → Value.ownBlock v2 ≠ some q := by intro q hq hb; have hq0 := hf65.lt q hb; rcases hob551 with h | h; (rw [h] at hq; first | (have hq1 := ho539.lt q hq; omega) | exact hsp545 q hq hb); (rw [h] at hq; cases hq; omega)
          have hsp556 : ∀ q, Value.ownBlock v547 = some q → Value.ownBlock v519 ≠ some q := by intro q hq hb; have hq0 := ho521.lt q hb; rcases hob551 with h | h; (rw [h] at hq; first | (have hq1 := ho539.lt q hq; omega) | exact hsp546 q hq hb); (rw [h] at hq; cases hq; omega)
          refine ⟨hs553, ?_⟩
          refine dr_val (i := 12) ha552 rfl (by kernel_rfl) (by kernel_rfl) (by kernel_rfl) rfl rfl rfl hs553 (fun w' hw' => op_assign ha552 rfl rfl) ?_
          intro a557 ha557; clear ha552 a552
          refine dr_end (by kernel_rfl) ?_
          replace hf65 := hf65.ext hs553
          replace hr461 := hr461.ext pos_shStr hs553
          replace hr468 := hr468.ext pos_shStr hs553
          refine block_n ?_
          refine then_n ?_
          refine wp_region_lit ?_
          refine wl_val ha557 rfl rfl rfl (op_move ha557 rfl rfl) ?_
          intro a558 ha558; clear ha557 a557
          refine wl_val ha558 rfl rfl rfl ((op_add ha558 rfl rfl rfl).int (IntWalk.i64_in _ (by omega))) ?_
          intro a559 ha559; clear ha558 a558
          refine wl_val ha559 rfl rfl rfl (op_assign ha559 rfl rfl) ?_
          intro a560 ha560; clear ha559 a559
          refine wpList_nil ?_
          have hins := insU_front (x := x49.1) hU2 hk2 (.inl (by omega))
          have hieq : ((ac2.take k ++ [x49.1]) ++ ac2.drop k) = insU x49.1 ac2 := by rw [hins]; simp
          have hils := insU_len x49.1 ac2
          refine round_end (x := (j, v2, ac2)) ((j + 1), v547, ((ac2.take k ++ [x49.1]) ++ ac2.drop k)) ?_ ?_
          ·
           refine ⟨(Sl.cons_ ha560 rfl rfl (Sl.cons_ ha560 rfl rfl (Sl.cons_ ha560 rfl rfl (Sl.cons_ ha560 rfl (int_eq (by omega)) (Sl.nil_ ha560))))), hx554, (ho549.fin (by omega) (by omega) (by omega)), (by omega), (by omega), (by rw [hieq]; omega), (by rw [hieq]; exact insU_up hU2), (by rw [drop_cons hx49, keG] at hF2; rw [hieq]; exact hF2)⟩
          ·show (x22.length - ((j + 1)) : Nat) < x22.length - j; omega
        ·
         refine po_eff ha469 rfl rfl rfl rfl (op_buildSlice (s := shStr) (xs := [x49.1]) (cs := [St x49.1]) (vs := [(0, St x49.1)]) (S := fun _ => False) (le := w453.heap.size) ha469 rfl pos_shStr Try.underlying24 ti9 rfl rfl (by decide) (by kernel_rfl) (Els.single (mk_shStr x49.1 (by first | assumption | omega | (simp; done)))) (fun _ h => h.elim)) ?_
         rintro v561 w562 ⟨ho563, he564, hob565⟩ a566 ha566; clear ha469 a469
         have hs567 := hs456.trans' he564
         have hx568 := hx455.trans' he564
         have hzhx568 := he564.size
         refine ⟨hs567, ?_⟩
         refine dr_one (i := 0) (by kernel_rfl) ?_
         refine po_eff ha566 rfl rfl rfl rfl (op_buildSlice (s := shStr) (xs := ([] : List Str)) (cs := []) (vs := []) (S := fun _ => False) (le := w562.heap.size) ha566 rfl pos_shStr Try.underlying24 ti9 rfl rfl (by decide) (by kernel_rfl) rfl (fun _ h => h.elim)) ?_
         rintro v569 w570 ⟨ho571, he572, hob573⟩ a574 ha574; clear ha566 a566
         have hs575 := hs567.trans' he572
         have hx576 := hx568.trans' he572
         have hzhx576 := he572.size
         replace ho563 := ho563.ext he572
         refine ⟨hs575, ?_⟩
         refine dr_one (i := 4) (by kernel_rfl) ?_
         refine po_eff ha574 rfl rfl rfl rfl (op_append (ts := #[]) (s := shStr) ha574 rfl Try.underlying24 ti9 rfl pos_shStr rfl rfl ho571 (hr461.ext pos_shStr hs575) (by omega) (by omega) (by first | omega | (simp; omega)) (by first | omega | (simp; omega)) (.inl flat_shStr)) ?_
         rintro v577 w578 ⟨ho579, hst580, hob581⟩ a582 ha582; clear ha574 a574
         replace ho579 := ho579.cast (List.nil_append _)
         have hs583 := hs575.stp hst580 (by intro q hq; have hq0 := ho571.lt q hq; omega)
         have hx584 := hx576.stp hst580 (by intro q hq; have hq0 := ho571.lt q hq; omega)
         have hzhx584 := hst580.size
         replace ho563 := ho563.stp hst580 (by intro q hq; have hq0 := ho571.lt q hq; omega)
         have hsp585 : ∀ q, Value.ownBlock v577 = some q → Value.ownBlock v2 ≠ some q := by intro q hq hb; have hq0 := hf65.lt q hb; rcases hob581 with h | h; (rw [h] at hq; first | (have hq1 := ho571.lt q hq; omega)); (rw [h] at hq; cases hq; omega)
         have hsp586 : ∀ q, Value.ownBlock v577 = some q → Value.ownBlock v561 ≠ some q := by intro q hq hb; have hq0 := ho563.lt q hb; rcases hob581 with h | h; (rw [h] at hq; first | (have hq1 := ho571.lt q hq; omega)); (rw [h] at hq; cases hq; omega)
         refine ⟨hs583, ?_⟩
         refine dr_one (i := 7) (by kernel_rfl) ?_
         refine po_eff ha582 rfl rfl rfl rfl (op_append (ts := #[]) (s := shStr) ha582 rfl Try.underlying24 ti9 rfl pos_shStr rfl rfl ho579 (ho563.rds pos_shStr) (by omega) (by omega) (by first | omega | (simp; omega)) (by first | omega | (simp; omega)) (.inl flat_shStr)) ?_
         rintro v587 w588 ⟨ho589, hst590, hob591⟩ a592 ha592; clear ha582 a582
         have hs593 := hs583.stp hst590 (by intro q hq; have hq0 := ho579.lt q hq; omega)
         have hx594 := hx584.stp hst590 (by intro q hq; have hq0 := ho579.lt q hq; omega)
         have hzhx594 := hst590.size
         replace ho563 := ho563.stp hst590 (by intro q hq; have hq0 := ho579.lt q hq; omega)
         have hsp595 : ∀ q, Value.ownBlock v587 = some q → Value.ownBlock v2 ≠ some q := by intro q hq hb; have hq0 := hf65.lt q hb; rcases hob591 with h | h; (rw [h] at hq; first | (have hq1 := ho579.lt q hq; omega) | exact hsp585 q hq hb); (rw [h] at hq; cases hq; omega)
         have hsp596 : ∀ q, Value.ownBlock v587 = some q → Value.ownBlock v561 ≠ some q := by intro q hq hb; have hq0 := ho563.lt q hb; rcases hob591 with h | h; (rw [h] at hq; first | (have hq1 := ho579.lt q hq; omega) | exact hsp586 q hq hb); (rw [h] at hq; cases hq; omega)
         refine ⟨hs593, ?_⟩
         refine dr_one (i := 11) (by kernel_rfl) ?_
         refine po_eff ha592 rfl rfl rfl rfl (op_append (ts := #[]) (s := shStr) ha592 rfl Try.underlying24 ti9 rfl pos_shStr rfl rfl ho589 (hr468.ext pos_shStr hs593) (by omega) (by omega) (by first | omega | (simp; omega)) (by first | omega | (simp; omega)) (.inl flat_shStr)) ?_
         rintro v597 w598 ⟨ho599, hst600, hob601⟩ a602 ha602; clear ha592 a592
         have hs603 := hs593.stp hst600 (by intro q hq; have hq0 := ho589.lt q hq; omega)
         have hx604 := hx594.stp hst600 (by intro q hq; have hq0 := ho589.lt q hq; omega)
         have hzhx604 := hst600.size
         replace ho563 := ho563.stp hst600 (by intro q hq; have hq0 := ho589.lt q hq; omega)
         have hsp605 : ∀ q, Value.ownBlock v597 = some q → Value.ownBlock v2 ≠ some q := by intro q hq hb; have hq0 := hf65.lt q hb; rcases hob601 with h | h; (rw [h] at hq; first | (have hq1 := ho589.lt q hq; omega) | exact hsp595 q hq hb); (rw [h] at hq; cases hq; omega)
         have hsp606 : ∀ q, Value.ownBlock v597 = some q → Value.ownBlock v561 ≠ some q := by intro q hq hb; have hq0 := ho563.lt q hb; rcases hob601 with h | h; (rw [h] at hq; first | (have hq1 := ho589.lt q hq; omega) | exact hsp596 q hq hb); (rw [h] at hq; cases hq; omega)
         refine ⟨hs603, ?_⟩
         refine dr_val (i := 12) ha602 rfl (by kernel_rfl) (by kernel_rfl) (by kernel_rfl) rfl rfl rfl hs603 (fun w' hw' => op_assign ha602 rfl rfl) ?_
         intro a607 ha607; clear ha602 a602
         refine dr_end (by kernel_rfl) ?_
         replace hf65 := hf65.ext hs603
         replace hr461 := hr461.ext pos_shStr hs603
         replace hr468 := hr468.ext pos_shStr hs603
         refine block_n ?_
         refine then_n ?_
         refine wp_region_lit ?_
         refine wl_val ha607 rfl rfl rfl (op_move ha607 rfl rfl) ?_
         intro a608 ha608; clear ha607 a607
         refine wl_val ha608 rfl rfl rfl ((op_add ha608 rfl rfl rfl).int (IntWalk.i64_in _ (by omega))) ?_
         intro a609 ha609; clear ha608 a608
         refine wl_val ha609 rfl rfl rfl (op_assign ha609 rfl rfl) ?_
         intro a610 ha610; clear ha609 a609
         refine wpList_nil ?_
         have hins := insU_front (x := x49.1) hU2 hk2 (.inl (by omega))
         have hieq : ((ac2.take k ++ [x49.1]) ++ ac2.drop k) = insU x49.1 ac2 := by rw [hins]; simp
         have hils := insU_len x49.1 ac2
         refine round_end (x := (j, v2, ac2)) ((j + 1), v597, ((ac2.take k ++ [x49.1]) ++ ac2.drop k)) ?_ ?_
         ·
          refine ⟨(Sl.cons_ ha610 rfl rfl (Sl.cons_ ha610 rfl rfl (Sl.cons_ ha610 rfl rfl (Sl.cons_ ha610 rfl (int_eq (by omega)) (Sl.nil_ ha610))))), hx604, (ho599.fin (by omega) (by omega) (by omega)), (by omega), (by omega), (by rw [hieq]; omega), (by rw [hieq]; exact insU_up hU2), (by rw [drop_cons hx49, keG] at hF2; rw [hieq]; exact hF2)⟩
         ·show (x22.length - ((j + 1)) : Nat) < x22.length - j; omega
       ·
        rw [decide_eq_false c445] at ha444
        refine wl_val ha444 rfl rfl rfl (op_move ha444 rfl rfl) ?_
        intro a611 ha611; clear ha444 a444
        refine wl_val ha611 rfl rfl rfl (op_move ha611 rfl rfl) ?_
        intro a612 ha612; clear ha611 a611
        obtain ⟨x613, hx613⟩ := get_ex (xs := ac2) (j := k) (by first | omega | (simp only [List.length_set, List.length_append, List.length_take, List.length_drop, List.length_singleton]; omega))
        obtain ⟨p614, c615, hi616, hc617, hr618, hs619⟩ := Rds.at_ (hf65.rds pos_shStr) hx613
        obtain ⟨rfl, b620⟩ := inv_shStr hr618
        obtain ⟨_, _⟩ : _ ∧ _ := hs619
        refine wl_val ha612 rfl rfl rfl (op_indexAddr ha612 rfl Try.underlying24 ti9 rfl rfl (by omega) hi616) ?_
        intro a621 ha621; clear ha612 a612
        refine wl_val ha621 rfl rfl rfl (op_loadH ha621 rfl Try.underlying9 rfl rfl hc617 rfl) ?_
        intro a622 ha622; clear ha621 a621
        refine wl_val ha622 rfl rfl rfl (op_move ha622 rfl rfl) ?_
        intro a623 ha623; clear ha622 a622
        refine wl_val ha623 rfl rfl rfl ((op_sneq ha623 rfl rfl rfl).to (congrArg Value.bool decide_not)) ?_
        intro a624 ha624; clear ha623 a623
        refine wl_val ha624 rfl rfl rfl (op_pick_f ha624 rfl rfl rfl) ?_
        intro a625 ha625; clear ha624 a624
        refine wpList_nil ?_
        refine then_n ?_
        by_cases c626 : x613 = x49.1
        ·
         rw [decide_eq_true c626] at ha625
         refine cond_f ha625 rfl ?_
         refine wp_skip ?_
         refine block_n ?_
         refine then_n ?_
         refine wp_region_lit ?_
         refine wl_val ha625 rfl rfl rfl (op_move ha625 rfl rfl) ?_
         intro a627 ha627; clear ha625 a625
         refine wl_val ha627 rfl rfl rfl ((op_add ha627 rfl rfl rfl).int (IntWalk.i64_in _ (by omega))) ?_
         intro a628 ha628; clear ha627 a627
         refine wl_val ha628 rfl rfl rfl (op_assign ha628 rfl rfl) ?_
         intro a629 ha629; clear ha628 a628
         refine wpList_nil ?_
         
         refine round_end (x := (j, v2, ac2)) ((j + 1), v2, ac2) ?_ ?_
         ·
          refine ⟨(Sl.cons_ ha629 rfl rfl (Sl.cons_ ha629 rfl rfl (Sl.cons_ ha629 rfl rfl (Sl.cons_ ha629 rfl (int_eq (by omega)) (Sl.nil_ ha629))))), hx64, (hf65.fin (by omega) (by omega) (by omega)), (by omega), (by omega), (by omega), (by exact hU2), (by rw [drop_cons hx49, keG, insU_has hU2 (by have h5 := List.mem_of_getElem? hx613; rwa [c626] at h5)] at hF2; exact hF2)⟩
         ·show (x22.length - ((j + 1)) : Nat) < x22.length - j; omega
        ·
         rw [decide_eq_false c626] at ha625
         refine cond_t ha625 rfl ?_
         refine dr_enter Ext follows_mixed ?_
         intro w630 he631
         have hx632 := hx64.trans' he631
         have hzhx632 := he631.size
         replace hf65 := hf65.ext he631
         replace hc617 := hc617.ext he631
         have hs633 : Ext w630 w630 := Ext.rfl' _
         refine dr_val (i := 1) ha625 rfl (by kernel_rfl) (by kernel_rfl) (by kernel_rfl) rfl rfl rfl hs633 (fun w' hw' => op_move ha625 rfl rfl) ?_
         intro a634 ha634; clear ha625 a625
         refine dr_val (i := 2) ha634 rfl (by kernel_rfl) (by kernel_rfl) (by kernel_rfl) rfl rfl rfl hs633 (fun w' hw' => op_move ha634 rfl rfl) ?_
         intro a635 ha635; clear ha634 a634
         obtain ⟨u636, hu637, hr638⟩ := Rds.part (hf65.rds pos_shStr) Try.underlying24 ti9 none (some (.int .i64 (k : Nat))) 0 k (.inl ⟨rfl, rfl⟩) (.inr ⟨.i64, rfl⟩) (by first | omega | (simp; omega)) (by first | omega | (simp; omega))
         replace hr638 := hr638.cast (ys := ac2.take k) (by first | rw [List.take_length] | simp)
         refine dr_val (i := 3) ha635 rfl (by kernel_rfl) (by kernel_rfl) (by kernel_rfl) rfl rfl rfl hs633 (fun w' hw' => op_slice_t (by omega) ha635 rfl rfl rfl hu637) ?_
         intro a639 ha639; clear ha635 a635
         refine dr_val (i := 5) ha639 rfl (by kernel_rfl) (by kernel_rfl) (by kernel_rfl) rfl rfl rfl hs633 (fun w' hw' => op_move ha639 rfl rfl) ?_
         intro a640 ha640; clear ha639 a639
         refine dr_val (i := 8) ha640 rfl (by kernel_rfl) (by kernel_rfl) (by kernel_rfl) rfl rfl rfl hs633 (fun w' hw' => op_move ha640 rfl rfl) ?_
         intro a641 ha641; clear ha640 a640
         refine dr_val (i := 9) ha641 rfl (by kernel_rfl) (by kernel_rfl) (by kernel_rfl) rfl rfl rfl hs633 (fun w' hw' => op_move ha641 rfl rfl) ?_
         intro a642 ha642; clear ha641 a641
         obtain ⟨u643, hu644, hr645⟩ := Rds.part (hf65.rds pos_shStr) Try.underlying24 ti9 (some (.int .i64 (k : Nat))) none k ac2.length (.inr ⟨.i64, rfl⟩) (.inl ⟨rfl, rfl⟩) (by first | omega | (simp; omega)) (by first | omega | (simp; omega))
         replace hr645 := hr645.cast (ys := ac2.drop k) (by first | rw [List.take_length] | simp)
         refine dr_val (i := 10) ha642 rfl (by kernel_rfl) (by kernel_rfl) (by kernel_rfl) rfl rfl rfl hs633 (fun w' hw' => op_slice_f (by omega) ha642 rfl rfl rfl hu644) ?_
         intro a646 ha646; clear ha642 a642
         refine dr_two (i := 0) (j := 6) (by kernel_rfl) ?_ ?_
         ·
          refine po_eff ha646 rfl rfl rfl rfl (op_buildSlice (s := shStr) (xs := ([] : List Str)) (cs := []) (vs := []) (S := fun _ => False) (le := w630.heap.size) ha646 rfl pos_shStr Try.underlying24 ti9 rfl rfl (by decide) (by kernel_rfl) rfl (fun _ h => h.elim)) ?_
          rintro v647 w648 ⟨ho649, he650, hob651⟩ a652 ha652; clear ha646 a646
          have hs653 := hs633.trans' he650
          have hx654 := hx632.trans' he650
          have hzhx654 := he650.size
          refine ⟨hs653, ?_⟩
          refine dr_two (i := 4) (j := 6) (by kernel_rfl) ?_ ?_
          ·
           refine po_eff ha652 rfl rfl rfl rfl (op_append (ts := #[]) (s := shStr) ha652 rfl Try.underlying24 ti9 rfl pos_shStr rfl rfl ho649 (hr638.ext pos_shStr hs653) (by omega) (by omega) (by first | omega | (simp; omega)) (by first | omega | (simp; omega)) (.inl flat_shStr)) ?_
           rintro v655 w656 ⟨ho657, hst658, hob659⟩ a660 ha660; clear ha652 a652
           replace ho657 := ho657.cast (List.nil_append _)
           have hs661 := hs653.stp hst658 (by intro q hq; have hq0 := ho649.lt q hq; omega)
           have hx662 := hx654.stp hst658 (by intro q hq; have hq0 := ho649.lt q hq; omega)
           have hzhx662 := hst658.size
           have hsp663 : ∀ q, Value.ownBlock v655 = some q → Value.ownBlock v2 ≠ some q := by intro q hq hb; have hq0 := hf65.lt q hb; rcases hob659 with h | h; (rw [h] at hq; first | (have hq1 := ho649.lt q hq; omega)); (rw [h] at hq; cases hq; omega)
           refine ⟨hs661, ?_⟩
           refine dr_one (i := 6) (by kernel_rfl) ?_
           refine po_eff ha660 rfl rfl rfl rfl (op_buildSlice (s := shStr) (xs := [x49.1]) (cs := [St x49.1]) (vs := [(0, St x49.1)]) (S := fun _ => False) (le := w656.heap.size) ha660 rfl pos_shStr Try.underlying24 ti9 rfl rfl (by decide) (by kernel_rfl) (Els.single (mk_shStr x49.1 (by first | assumption | omega | (simp; done)))) (fun _ h => h.elim)) ?_
           rintro v664 w665 ⟨ho666, he667, hob668⟩ a669 ha669; clear ha660 a660
           have hs670 := hs661.trans' he667
           have hx671 := hx662.trans' he667
           have hzhx671 := he667.size
           replace ho657 := ho657.ext he667
           refine ⟨hs670, ?_⟩
           refine dr_one (i := 7) (by kernel_rfl) ?_
           refine po_eff ha669 rfl rfl rfl rfl (op_append (ts := #[]) (s := shStr) ha669 rfl Try.underlying24 ti9 rfl pos_shStr rfl rfl ho657 (ho666.rds pos_shStr) (by omega) (by omega) (by first | omega | (simp; omega)) (by first | omega | (simp; omega)) (.inl flat_shStr)) ?_
           rintro v672 w673 ⟨ho674, hst675, hob676⟩ a677 ha677; clear ha669 a669
           have hs678 := hs670.stp hst675 (by intro q hq; have hq0 := ho657.lt q hq; omega)
           have hx679 := hx671.stp hst675 (by intro q hq; have hq0 := ho657.lt q hq; omega)
           have hzhx679 := hst675.size
           replace ho666 := ho666.stp hst675 (by intro q hq; have hq0 := ho657.lt q hq; omega)
           have hsp680 : ∀ q, Value.ownBlock v672 = some q → Value.ownBlock v2 ≠ some q := by intro q hq hb; have hq0 := hf65.lt q hb; rcases hob676 with h | h; (rw [h] at hq; first | (have hq1 := ho657.lt q hq; omega) | exact hsp663 q hq hb); (rw [h] at hq; cases hq; omega)
           have hsp681 : ∀ q, Value.ownBlock v672 = some q → Value.ownBlock v664 ≠ some q := by intro q hq hb; have hq0 := ho666.lt q hb; rcases hob676 with h | h; (rw [h] at hq; first | (have hq1 := ho657.lt q hq; omega)); (rw [h] at hq; cases hq; omega)
           refine ⟨hs678, ?_⟩
           refine dr_one (i := 11) (by kernel_rfl) ?_
           refine po_eff ha677 rfl rfl rfl rfl (op_append (ts := #[]) (s := shStr) ha677 rfl Try.underlying24 ti9 rfl pos_shStr rfl rfl ho674 (hr645.ext pos_shStr hs678) (by omega) (by omega) (by first | omega | (simp; omega)) (by first | omega | (simp; omega)) (.inl flat_shStr)) ?_
           rintro v682 w683 ⟨ho684, hst685, hob686⟩ a687 ha687; clear ha677 a677
           have hs688 := hs678.stp hst685 (by intro q hq; have hq0 := ho674.lt q hq; omega)
           have hx689 := hx679.stp hst685 (by intro q hq; have hq0 := ho674.lt q hq; omega)
           have hzhx689 := hst685.size
           first | replace ho666 := ho666.stp hst685 (by intro q hq; have hq0 := ho674.lt q hq; omega) | replace ho666 := ho666.stpF flat_shStr hst685 (fun q hq => hsp681 q hq)
           have hsp690 : ∀ q, Value.ownBlock v682 = some q → Value.ownBlock v2 ≠ some q := by intro q hq hb; have hq0 := hf65.lt q hb; rcases hob686 with h | h; (rw [h] at hq; first | (have hq1 := ho674.lt q hq; omega) | exact hsp680 q hq hb); (rw [h] at hq; cases hq; omega)
           have hsp691 : ∀ q, Value.ownBlock v682 = some q → Value.ownBlock v664 ≠ some q := by intro q hq hb; have hq0 := ho666.lt q hb; rcases hob686 with h | h; (rw [h] at hq; first | (have hq1 := ho674.lt q hq; omega) | exact hsp681 q hq hb); (rw [h] at hq; cases hq; omega)
           refine ⟨hs688, ?_⟩
           refine dr_val (i := 12) ha687 rfl (by kernel_rfl) (by kernel_rfl) (by kernel_rfl) rfl rfl rfl hs688 (fun w' hw' => op_assign ha687 rfl rfl) ?_
           intro a692 ha692; clear ha687 a687
           refine dr_end (by kernel_rfl) ?_
           replace hf65 := hf65.ext hs688
           replace hc617 := hc617.ext hs688
           replace hr638 := hr638.ext pos_shStr hs688
           replace hr645 := hr645.ext pos_shStr hs688
           refine block_n ?_
           refine then_n ?_
           refine wp_region_lit ?_
           refine wl_val ha692 rfl rfl rfl (op_move ha692 rfl rfl) ?_
           intro a693 ha693; clear ha692 a692
           refine wl_val ha693 rfl rfl rfl ((op_add ha693 rfl rfl rfl).int (IntWalk.i64_in _ (by omega))) ?_
           intro a694 ha694; clear ha693 a693
           refine wl_val ha694 rfl rfl rfl (op_assign ha694 rfl rfl) ?_
           intro a695 ha695; clear ha694 a694
           refine wpList_nil ?_
           have hins := insU_front (x := x49.1) hU2 hk2 (.inl (by omega))
           have hieq : ((ac2.take k ++ [x49.1]) ++ ac2.drop k) = insU x49.1 ac2 := by rw [hins]; simp
           have hils := insU_len x49.1 ac2
           refine round_end (x := (j, v2, ac2)) ((j + 1), v682, ((ac2.take k ++ [x49.1]) ++ ac2.drop k)) ?_ ?_
           ·
            refine ⟨(Sl.cons_ ha695 rfl rfl (Sl.cons_ ha695 rfl rfl (Sl.cons_ ha695 rfl rfl (Sl.cons_ ha695 rfl (int_eq (by omega)) (Sl.nil_ ha695))))), hx689, (ho684.fin (by omega) (by omega) (by omega)), (by omega), (by omega), (by rw [hieq]; omega), (by rw [hieq]; exact insU_up hU2), (by rw [drop_cons hx49, keG] at hF2; rw [hieq]; exact hF2)⟩
           ·show (x22.length - ((j + 1)) : Nat) < x22.length - j; omega
          ·
           refine po_eff ha652 rfl rfl rfl rfl (op_buildSlice (s := shStr) (xs := [x49.1]) (cs := [St x49.1]) (vs := [(0, St x49.1)]) (S := fun _ => False) (le := w648.heap.size) ha652 rfl pos_shStr Try.underlying24 ti9 rfl rfl (by decide) (by kernel_rfl) (Els.single (mk_shStr x49.1 (by first | assumption | omega | (simp; done)))) (fun _ h => h.elim)) ?_
           rintro v696 w697 ⟨ho698, he699, hob700⟩ a701 ha701; clear ha652 a652
           have hs702 := hs653.trans' he699
           have hx703 := hx654.trans' he699
           have hzhx703 := he699.size
           replace ho649 := ho649.ext he699
           refine ⟨hs702, ?_⟩
           refine dr_one (i := 4) (by kernel_rfl) ?_
           refine po_eff ha701 rfl rfl rfl rfl (op_append (ts := #[]) (s := shStr) ha701 rfl Try.underlying24 ti9 rfl pos_shStr rfl rfl ho649 (hr638.ext pos_shStr hs702) (by omega) (by omega) (by first | omega | (simp; omega)) (by first | omega | (simp; omega)) (.inl flat_shStr)) ?_
           rintro v704 w705 ⟨ho706, hst707, hob708⟩ a709 ha709; clear ha701 a701
           replace ho706 := ho706.cast (List.nil_append _)
           have hs710 := hs702.stp hst707 (by intro q hq; have hq0 := ho649.lt q hq; omega)
           have hx711 := hx703.stp hst707 (by intro q hq; have hq0 := ho649.lt q hq; omega)
           have hzhx711 := hst707.size
           replace ho698 := ho698.stp hst707 (by intro q hq; have hq0 := ho649.lt q hq; omega)
           have hsp712 : ∀ q, Value.ownBlock v704 = some q → Value.ownBlock v2 ≠ some q := by intro q hq hb; have hq0 := hf65.lt q hb; rcases hob708 with h | h; (rw [h] at hq; first | (have hq1 := ho649.lt q hq; omega)); (rw [h] at hq; cases hq; omega)
           have hsp713 : ∀ q, Value.ownBlock v704 = some q → Value.ownBlock v696 ≠ some q := by intro q hq hb; have hq0 := ho698.lt q hb; rcases hob708 with h | h; (rw [h] at hq; first | (have hq1 := ho649.lt q hq; omega)); (rw [h] at hq; cases hq; omega)
           refine ⟨hs710, ?_⟩
           refine dr_one (i := 7) (by kernel_rfl) ?_
           refine po_eff ha709 rfl rfl rfl rfl (op_append (ts := #[]) (s := shStr) ha709 rfl Try.underlying24 ti9 rfl pos_shStr rfl rfl ho706 (ho698.rds pos_shStr) (by omega) (by omega) (by first | omega | (simp; omega)) (by first | omega | (simp; omega)) (.inl flat_shStr)) ?_
           rintro v714 w715 ⟨ho716, hst717, hob718⟩ a719 ha719; clear ha709 a709
           have hs720 := hs710.stp hst717 (by intro q hq; have hq0 := ho706.lt q hq; omega)
           have hx721 := hx711.stp hst717 (by intro q hq; have hq0 := ho706.lt q hq; omega)
           have hzhx721 := hst717.size
           first | replace ho698 := ho698.stp hst717 (by intro q hq; have hq0 := ho706.lt q hq; omega) | replace ho698 := ho698.stpF flat_shStr hst717 (fun q hq => hsp713 q hq)
           have hsp722 : ∀ q, Value.ownBlock v714 = some q → Value.ownBlock v2 ≠ some q := by intro q hq hb; have hq0 := hf65.lt q hb; rcases hob718 with h | h; (rw [h] at hq; first | (have hq1 := ho706.lt q hq; omega) | exact hsp712 q hq hb); (rw [h] at hq; cases hq; omega)
           have hsp723 : ∀ q, Value.ownBlock v714 = some q → Value.ownBlock v696 ≠ some q := by intro q hq hb; have hq0 := ho698.lt q hb; rcases hob718 with h | h; (rw [h] at hq; first | (have hq1 := ho706.lt q hq; omega) | exact hsp713 q hq hb); (rw [h] at hq; cases hq; omega)
           refine ⟨hs720, ?_⟩
           refine dr_one (i := 11) (by kernel_rfl) ?_
           refine po_eff ha719 rfl rfl rfl rfl (op_append (ts := #[]) (s := shStr) ha719 rfl Try.underlying24 ti9 rfl pos_shStr rfl rfl ho716 (hr645.ext pos_shStr hs720) (by omega) (by omega) (by first | omega | (simp; omega)) (by first | omega | (simp; omega)) (.inl flat_shStr)) ?_
           rintro v724 w725 ⟨ho726, hst727, hob728⟩ a729 ha729; clear ha719 a719
           have hs730 := hs720.stp hst727 (by intro q hq; have hq0 := ho716.lt q hq; omega)
           have hx731 := hx721.stp hst727 (by intro q hq; have hq0 := ho716.lt q hq; omega)
           have hzhx731 := hst727.size
           first | replace ho698 := ho698.stp hst727 (by intro q hq; have hq0 := ho716.lt q hq; omega) | replace ho698 := ho698.stpF flat_shStr hst727 (fun q hq => hsp723 q hq)
           have hsp732 : ∀ q, Value.ownBlock v724 = some q → Value.ownBlock v2 ≠ some q := by intro q hq hb; have hq0 := hf65.lt q hb; rcases hob728 with h | h; (rw [h] at hq; first | (have hq1 := ho716.lt q hq; omega) | exact hsp722 q hq hb); (rw [h] at hq; cases hq; omega)
           have hsp733 : ∀ q, Value.ownBlock v724 = some q → Value.ownBlock v696 ≠ some q := by intro q hq hb; have hq0 := ho698.lt q hb; rcases hob728 with h | h; (rw [h] at hq; first | (have hq1 := ho716.lt q hq; omega) | exact hsp723 q hq hb); (rw [h] at hq; cases hq; omega)
           refine ⟨hs730, ?_⟩
           refine dr_val (i := 12) ha729 rfl (by kernel_rfl) (by kernel_rfl) (by kernel_rfl) rfl rfl rfl hs730 (fun w' hw' => op_assign ha729 rfl rfl) ?_
           intro a734 ha734; clear ha729 a729
           refine dr_end (by kernel_rfl) ?_
           replace hf65 := hf65.ext hs730
           replace hc617 := hc617.ext hs730
           replace hr638 := hr638.ext pos_shStr hs730
           replace hr645 := hr645.ext pos_shStr hs730
           refine block_n ?_
           refine then_n ?_
           refine wp_region_lit ?_
           refine wl_val ha734 rfl rfl rfl (op_move ha734 rfl rfl) ?_
           intro a735 ha735; clear ha734 a734
           refine wl_val ha735 rfl rfl rfl ((op_add ha735 rfl rfl rfl).int (IntWalk.i64_in _ (by omega))) ?_
           intro a736 ha736; clear ha735 a735
           refine wl_val ha736 rfl rfl rfl (op_assign ha736 rfl rfl) ?_
           intro a737 ha737; clear ha736 a736
           refine wpList_nil ?_
           have hins := insU_front (x := x49.1) hU2 hk2 (.inl (by omega))
           have hieq : ((ac2.take k ++ [x49.1]) ++ ac2.drop k) = insU x49.1 ac2 := by rw [hins]; simp
           have hils := insU_len x49.1 ac2
           refine round_end (x := (j, v2, ac2)) ((j + 1), v724, ((ac2.take k ++ [x49.1]) ++ ac2.drop k)) ?_ ?_
           ·
            refine ⟨(Sl.cons_ ha737 rfl rfl (Sl.cons_ ha737 rfl rfl (Sl.cons_ ha737 rfl rfl (Sl.cons_ ha737 rfl (int_eq (by omega)) (Sl.nil_ ha737))))), hx731, (ho726.fin (by omega) (by omega) (by omega)), (by omega), (by omega), (by rw [hieq]; omega), (by rw [hieq]; exact insU_up hU2), (by rw [drop_cons hx49, keG] at hF2; rw [hieq]; exact hF2)⟩
           ·show (x22.length - ((j + 1)) : Nat) < x22.length - j; omega
         ·
          refine po_eff ha646 rfl rfl rfl rfl (op_buildSlice (s := shStr) (xs := [x49.1]) (cs := [St x49.1]) (vs := [(0, St x49.1)]) (S := fun _ => False) (le := w630.heap.size) ha646 rfl pos_shStr Try.underlying24 ti9 rfl rfl (by decide) (by kernel_rfl) (Els.single (mk_shStr x49.1 (by first | assumption | omega | (simp; done)))) (fun _ h => h.elim)) ?_
          rintro v738 w739 ⟨ho740, he741, hob742⟩ a743 ha743; clear ha646 a646
          have hs744 := hs633.trans' he741
          have hx745 := hx632.trans' he741
          have hzhx745 := he741.size
          refine ⟨hs744, ?_⟩
          refine dr_one (i := 0) (by kernel_rfl) ?_
          refine po_eff ha743 rfl rfl rfl rfl (op_buildSlice (s := shStr) (xs := ([] : List Str)) (cs := []) (vs := []) (S := fun _ => False) (le := w739.heap.size) ha743 rfl pos_shStr Try.underlying24 ti9 rfl rfl (by decide) (by kernel_rfl) rfl (fun _ h => h.elim)) ?_
          rintro v746 w747 ⟨ho748, he749, hob750⟩ a751 ha751; clear ha743 a743
          have hs752 := hs744.trans' he749
          have hx753 := hx745.trans' he749
          have hzhx753 := he749.size
          replace ho740 := ho740.ext he749
          refine ⟨hs752, ?_⟩
          refine dr_one (i := 4) (by kernel_rfl) ?_
          refine po_eff ha751 rfl rfl rfl rfl (op_append (ts := #[]) (s := shStr) ha751 rfl Try.underlying24 ti9 rfl pos_shStr rfl rfl ho748 (hr638.ext pos_shStr hs752) (by omega) (by omega) (by first | omega | (simp; omega)) (by first | omega | (simp; omega)) (.inl flat_shStr)) ?_
          rintro v754 w755 ⟨ho756, hst757, hob758⟩ a759 ha759; clear ha751 a751
          replace ho756 := ho756.cast (List.nil_append _)
          have hs760 := hs752.stp hst757 (by intro q hq; have hq0 := ho748.lt q hq; omega)
          have hx761 := hx753.stp hst757 (by intro q hq; have hq0 := ho748.lt q hq; omega)
          have hzhx761 := hst757.size
          replace ho740 := ho740.stp hst757 (by intro q hq; have hq0 := ho748.lt q hq; omega)
          have hsp762 : ∀ q, Value.ownBlock v754 = some q → Value.ownBlock v2 ≠ some q := by intro q hq hb; have hq0 := hf65.lt q hb; rcases hob758 with h | h; (rw [h] at hq; first | (have hq1 := ho748.lt q hq; omega)); (rw [h] at hq; cases hq; omega)
          have hsp763 : ∀ q, Value.ownBlock v754 = some q → Value.ownBlock v738 ≠ some q := by intro q hq hb; have hq0 := ho740.lt q hb; rcases hob758 with h | h; (rw [h] at hq; first | (have hq1 := ho748.lt q hq; omega)); (rw [h] at hq; cases hq; omega)
          refine ⟨hs760, ?_⟩
          refine dr_one (i := 7) (by kernel_rfl) ?_
          refine po_eff ha759 rfl rfl rfl rfl (op_append (ts := #[]) (s := shStr) ha759 rfl Try.underlying24 ti9 rfl pos_shStr rfl rfl ho756 (ho740.rds pos_shStr) (by omega) (by omega) (by first | omega | (simp; omega)) (by first | omega | (simp; omega)) (.inl flat_shStr)) ?_
          rintro v764 w765 ⟨ho766, hst767, hob768⟩ a769 ha769; clear ha759 a759
          have hs770 := hs760.stp hst767 (by intro q hq; have hq0 := ho756.lt q hq; omega)
          have hx771 := hx761.stp hst767 (by intro q hq; have hq0 := ho756.lt q hq; omega)
          have hzhx771 := hst767.size
          replace ho740 := ho740.stp hst767 (by intro q hq; have hq0 := ho756.lt q hq; omega)
          have hsp772 : ∀ q, Value.ownBlock v764 = some q → Value.ownBlock v2 ≠ some q := by intro q hq hb; have hq0 := hf65.lt q hb; rcases hob768 with h | h; (rw [h] at hq; first | (have hq1 := ho756.lt q hq; omega) | exact hsp762 q hq hb); (rw [h] at hq; cases hq; omega)
          have hsp773 : ∀ q, Value.ownBlock v764 = some q → Value.ownBlock v738 ≠ some q := by intro q hq hb; have hq0 := ho740.lt q hb; rcases hob768 with h | h; (rw [h] at hq; first | (have hq1 := ho756.lt q hq; omega) | exact hsp763 q hq hb); (rw [h] at hq; cases hq; omega)
          refine ⟨hs770, ?_⟩
          refine dr_one (i := 11) (by kernel_rfl) ?_
          refine po_eff ha769 rfl rfl rfl rfl (op_append (ts := #[]) (s := shStr) ha769 rfl Try.underlying24 ti9 rfl pos_shStr rfl rfl ho766 (hr645.ext pos_shStr hs770) (by omega) (by omega) (by first | omega | (simp; omega)) (by first | omega | (simp; omega)) (.inl flat_shStr)) ?_
          rintro v774 w775 ⟨ho776, hst777, hob778⟩ a779 ha779; clear ha769 a769
          have hs780 := hs770.stp hst777 (by intro q hq; have hq0 := ho766.lt q hq; omega)
          have hx781 := hx771.stp hst777 (by intro q hq; have hq0 := ho766.lt q hq; omega)
          have hzhx781 := hst777.size
          replace ho740 := ho740.stp hst777 (by intro q hq; have hq0 := ho766.lt q hq; omega)
          have hsp782 : ∀ q, Value.ownBlock v774 = some q → Value.ownBlock v2 ≠ some q := by intro q hq hb; have hq0 := hf65.lt q hb; rcases hob778 with h | h; (rw [h] at hq; first | (have hq1 := ho766.lt q hq; omega) | exact hsp772 q hq hb); (rw [h] at hq; cases hq; omega)
          have hsp783 : ∀ q, Value.ownBlock v774 = some q → Value.ownBlock v738 ≠ some q := by intro q hq hb; have hq0 := ho740.lt q hb; rcases hob778 with h | h; (rw [h] at hq; first | (have hq1 := ho766.lt q hq; omega) | exact hsp773 q hq hb); (rw [h] at hq; cases hq; omega)
          refine ⟨hs780, ?_⟩
          refine dr_val (i := 12) ha779 rfl (by kernel_rfl) (by kernel_rfl) (by kernel_rfl) rfl rfl rfl hs780 (fun w' hw' => op_assign ha779 rfl rfl) ?_
          intro a784 ha784; clear ha779 a779
          refine dr_end (by kernel_rfl) ?_
          replace hf65 := hf65.ext hs780
          replace hc617 := hc617.ext hs780
          replace hr638 := hr638.ext pos_shStr hs780
          replace hr645 := hr645.ext pos_shStr hs780
          refine block_n ?_
          refine then_n ?_
          refine wp_region_lit ?_
          refine wl_val ha784 rfl rfl rfl (op_move ha784 rfl rfl) ?_
          intro a785 ha785; clear ha784 a784
          refine wl_val ha785 rfl rfl rfl ((op_add ha785 rfl rfl rfl).int (IntWalk.i64_in _ (by omega))) ?_
          intro a786 ha786; clear ha785 a785
          refine wl_val ha786 rfl rfl rfl (op_assign ha786 rfl rfl) ?_
          intro a787 ha787; clear ha786 a786
          refine wpList_nil ?_
          have hins := insU_front (x := x49.1) hU2 hk2 (.inl (by omega))
          have hieq : ((ac2.take k ++ [x49.1]) ++ ac2.drop k) = insU x49.1 ac2 := by rw [hins]; simp
          have hils := insU_len x49.1 ac2
          refine round_end (x := (j, v2, ac2)) ((j + 1), v774, ((ac2.take k ++ [x49.1]) ++ ac2.drop k)) ?_ ?_
          ·
           refine ⟨(Sl.cons_ ha787 rfl rfl (Sl.cons_ ha787 rfl rfl (Sl.cons_ ha787 rfl rfl (Sl.cons_ ha787 rfl (int_eq (by omega)) (Sl.nil_ ha787))))), hx781, (ho776.fin (by omega) (by omega) (by omega)), (by omega), (by omega), (by rw [hieq]; omega), (by rw [hieq]; exact insU_up hU2), (by rw [drop_cons hx49, keG] at hF2; rw [hieq]; exact hF2)⟩
          ·show (x22.length - ((j + 1)) : Nat) < x22.length - j; omega
    ·
     rw [decide_eq_false c43] at ha42
     refine cond_f ha42 rfl ?_
     refine wp_exit ?_
     refine then_e ?_
     refine then_e ?_
     refine block_hit ?_
     refine block_n ?_
     refine then_n ?_
     refine wp_region_lit ?_
     refine wl_val ha42 rfl rfl rfl (op_move ha42 rfl rfl) ?_
     intro a788 ha788; clear ha42 a42
     refine wl_val ha788 rfl rfl rfl ((op_add ha788 rfl rfl rfl).int (IntWalk.i64_in _ (by omega))) ?_
     intro a789 ha789; clear ha788 a788
     refine wl_val ha789 rfl rfl rfl (op_assign ha789 rfl rfl) ?_
     intro a790 ha790; clear ha789 a789
     refine wpList_nil ?_
     refine round_end (x := (i, v, acc)) ((i + 1), v2, ac2) ?_ ?_
     ·
      refine ⟨(Sl.cons_ ha790 rfl rfl (Sl.cons_ ha790 rfl rfl (Sl.cons_ ha790 rfl (int_eq (by omega)) (Sl.nil_ ha790)))), hx32, (hf33.fin (by omega) (by omega) (by omega)), (by omega), (by omega), (by omega), (by exact hU2), (by rw [drop_nil (xs := x22) (by omega), keG] at hF2; exact hF2)⟩
     ·show (sheets.length - ((i + 1)) : Nat) < sheets.length - i; omega
  ·
   rw [decide_eq_false c20] at ha19
   refine cond_f ha19 rfl ?_
   refine wp_exit ?_
   refine then_e ?_
   refine then_e ?_
   refine block_hit ?_
   refine then_n ?_
   refine wp_seq ?_
   refine wp_region_lit ?_
   refine wl_val ha19 rfl rfl rfl (op_move ha19 rfl rfl) ?_
   intro a791 ha791; clear ha19 a19
   refine wl_val ha791 rfl rfl rfl (op_assign ha791 rfl rfl) ?_
   intro a792 ha792; clear ha791 a791
   refine wpList_nil ?_
   refine then_n ?_
   refine wp_ret ?_
   refine ret1 ha792 rfl rfl ?_
   clear ha792 a792
   refine ret_mk hx12 ?_
   refine (hf13.fin (by omega) (by omega) (by omega)).cast ?_
   rw [drop_nil (by omega), keS] at hF; exact hF


end Go.Proofs.Ytllpdkidaldkiaa
