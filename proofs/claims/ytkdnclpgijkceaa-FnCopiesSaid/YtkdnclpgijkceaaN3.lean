/- Files drawn, often damaged ones. -/
import Derived.Test.YtkdnclpgijkceaaN2
namespace Go.Proofs.Ytkdnclpgijkceaa
open Go Go.RowKit

set_option maxHeartbeats 8000000 in
theorem c_spec_l32Damaged (w0 : World) (g_s b_s : Nat) (h_s : Src w0 g_s b_s 88) :
  Calls Try.prog 60 #[.pointer (some (⟨g_s, 0, none⟩ : Addr))] w0 (RetS w0 (some g_s) (fun v w1 => Src w1 g_s b_s 88 ∧ (fun v w1 => ∃ (d : Str), (d.length ≤ 5000) ∧ (fun v _ => v = St (d)) v w1) v w1)) := by
 refine enter (N := 50) Try.func60 rfl rfl rfl ?_
 intro a0 ha0
 have hx0 := Stp.rfl' w0 (some g_s)
 have hgl_s := h_s.lt
 refine wp_seq ?_
 refine wp_region_lit ?_
 refine wl_val ha0 rfl rfl rfl (op_assign ha0 rfl rfl) ?_
 intro a1 ha1; clear ha0 a0
 refine wpList_nil ?_
 refine then_n ?_
 refine wp_seq ?_
 refine wp_region_lit ?_
 refine wl_val ha1 rfl rfl rfl (op_move ha1 rfl rfl) ?_
 intro a2 ha2; clear ha1 a1
 refine wl_callS ha2 rfl rfl rfl (op_call ha2 rfl cb61 rfl) (c_spec_l32Good _ g_s b_s h_s) ?_
 rintro v3 w4 he5 ⟨hS6, ⟨q7, hq8, hq9, ho10⟩⟩ a11 ha11; clear ha2 a2
 have hx12 := hx0.trans' he5
 have hzhx12 := he5.size
 have hSlhS6 := hS6.lt
 have hfl := fileS_len hq9
 refine wl_val ha11 rfl rfl rfl (op_assign ha11 rfl rfl) ?_
 intro a13 ha13; clear ha11 a11
 refine wpList_nil ?_
 refine then_n ?_
 refine wp_seq ?_
 refine wp_region_lit ?_
 refine wl_val ha13 rfl rfl rfl (op_move ha13 rfl rfl) ?_
 intro a14 ha14; clear ha13 a13
 refine wl_callR ha14 rfl rfl rfl (op_call ha14 rfl cb51 rfl) (c_spec_l32File _ v3 ((q7)) (ho10.rds pos_shRec) (by first | omega | (dsimp only; omega) | assumption | (simp; done) | (simp; omega)) (by first | omega | (dsimp only; omega) | assumption | (simp; done) | (simp; omega))) ?_
 rintro v15 w16 he17 rfl a18 ha18; clear ha14 a14
 have hx19 := hx12.trans' (Stp.of_ext he17 _)
 have hzhx19 := he17.size
 replace hS6 := hS6.ext he17
 replace ho10 := ho10.ext he17
 refine wl_val ha18 rfl rfl rfl (op_assign ha18 rfl rfl) ?_
 intro a20 ha20; clear ha18 a18
 refine wpList_nil ?_
 refine then_n ?_
 refine wp_seq ?_
 refine wp_seq ?_
 refine wp_region_lit ?_
 refine wl_val ha20 rfl rfl rfl (op_move ha20 rfl rfl) ?_
 intro a21 ha21; clear ha20 a20
 refine wl_callS ha21 rfl rfl rfl (op_call ha21 rfl cb62 rfl) (c_spec_l01Next _ g_s b_s (5 : Int) hS6) ?_
 rintro v22 w23 he24 ⟨hS25, ⟨q26, hq27, hq28, hq29, rfl⟩⟩ a30 ha30; clear ha21 a21
 have hx31 := hx19.trans' he24
 have hzhx31 := he24.size
 first | replace ho10 := ho10.stp he24 (by intro q hq; cases hq; omega) | replace ho10 := ho10.stpF flat_shRec he24 (by intro q hq; cases hq; exact ho10.ne_box (by assumption) rfl)
 clear hS6
 have hSlhS25 := hS25.lt
 refine wpList_nil ?_
 refine then_n ?_
 refine wp_block ?_
 refine wp_seq ?_
 refine wp_region_lit ?_
 refine wl_val ha30 rfl rfl rfl (op_eql ha30 rfl rfl rfl) ?_
 intro a32 ha32; clear ha30 a30
 refine wl_val ha32 rfl rfl rfl (op_assign ha32 rfl rfl) ?_
 intro a33 ha33; clear ha32 a32
 refine wpList_nil ?_
 refine then_n ?_
 by_cases c34 : (q26 : Int) = (0 : Int)
 ·
  rw [decide_eq_true c34] at ha33
  refine cond_t ha33 rfl ?_
  refine wp_seq ?_
  refine wp_region_lit ?_
  refine wl_val ha33 rfl rfl rfl (op_move ha33 rfl rfl) ?_
  intro a35 ha35; clear ha33 a33
  refine wl_val ha35 rfl rfl rfl (op_move ha35 rfl rfl) ?_
  intro a36 ha36; clear ha35 a35
  refine wl_val ha36 rfl rfl rfl (op_move ha36 rfl rfl) ?_
  intro a37 ha37; clear ha36 a36
  refine wl_val ha37 rfl rfl rfl (op_len_str ha37 rfl Try.underlying9 rfl) ?_
  intro a38 ha38; clear ha37 a37
  refine wl_val ha38 rfl rfl rfl ((op_add ha38 rfl rfl rfl).int (IntWalk.i64_in _ (by omega))) ?_
  intro a39 ha39; clear ha38 a38
  refine wl_callS ha39 rfl rfl rfl (op_call ha39 rfl cb62 rfl) (c_spec_l01Next _ g_s b_s (((((fileS ((q7)))).length : Nat) : Int) + (1 : Int)) hS25) ?_
  rintro v40 w41 he42 ⟨hS43, ⟨q44, hq45, hq46, hq47, rfl⟩⟩ a48 ha48; clear ha39 a39
  have hx49 := hx31.trans' he42
  have hzhx49 := he42.size
  first | replace ho10 := ho10.stp he42 (by intro q hq; cases hq; omega) | replace ho10 := ho10.stpF flat_shRec he42 (by intro q hq; cases hq; exact ho10.ne_box (by assumption) rfl)
  clear hS25
  have hSlhS43 := hS43.lt
  refine wl_val ha48 rfl rfl rfl (op_slice_str_t (j := ((q44 : Int)).toNat) (by omega) ha48 rfl Try.underlying9 rfl rfl (by first | omega | (simp; omega))) ?_
  intro a50 ha50; clear ha48 a48
  refine wl_val ha50 rfl rfl rfl (op_assign ha50 rfl rfl) ?_
  intro a51 ha51; clear ha50 a50
  refine wpList_nil ?_
  refine then_n ?_
  refine wp_ret ?_
  refine block_r ?_
  refine then_r ?_
  refine ret1 ha51 rfl rfl ?_
  clear ha51 a51
  refine ret_mkS hx49 ⟨hS43, ?_⟩
  refine ⟨(((fileS ((q7)))).take (((q44 : Int)).toNat) : Str), (by first | omega | (simp; omega) | (simp only [List.length_append, List.length_take, List.length_drop]; omega)), ?_⟩
  exact (congrArg St (by rfl))
 ·
  rw [decide_eq_false c34] at ha33
  refine cond_f ha33 rfl ?_
  refine wp_seq ?_
  refine wp_region_lit ?_
  refine wl_val ha33 rfl rfl rfl (op_eql ha33 rfl rfl rfl) ?_
  intro a52 ha52; clear ha33 a33
  refine wl_val ha52 rfl rfl rfl (op_assign ha52 rfl rfl) ?_
  intro a53 ha53; clear ha52 a52
  refine wpList_nil ?_
  refine then_n ?_
  by_cases c54 : (q26 : Int) = (1 : Int)
  ·
   rw [decide_eq_true c54] at ha53
   refine cond_t ha53 rfl ?_
   refine wp_seq ?_
   refine wp_region_lit ?_
   refine wl_val ha53 rfl rfl rfl (op_move ha53 rfl rfl) ?_
   intro a55 ha55; clear ha53 a53
   refine wl_val ha55 rfl rfl rfl (op_move ha55 rfl rfl) ?_
   intro a56 ha56; clear ha55 a55
   refine wl_callS ha56 rfl rfl rfl (op_call ha56 rfl cb64 rfl) (c_spec_l01Damage _ g_s b_s ((fileS ((q7)))) hS25 (by first | omega | (dsimp only; omega) | assumption | (simp; done) | (simp; omega))) ?_
   rintro v57 w58 he59 ⟨hS60, ⟨q61, hq62, rfl⟩⟩ a63 ha63; clear ha56 a56
   have hx64 := hx31.trans' he59
   have hzhx64 := he59.size
   first | replace ho10 := ho10.stp he59 (by intro q hq; cases hq; omega) | replace ho10 := ho10.stpF flat_shRec he59 (by intro q hq; cases hq; exact ho10.ne_box (by assumption) rfl)
   clear hS25
   have hSlhS60 := hS60.lt
   refine wl_val ha63 rfl rfl rfl (op_assign ha63 rfl rfl) ?_
   intro a65 ha65; clear ha63 a63
   refine wpList_nil ?_
   refine then_n ?_
   refine wp_ret ?_
   refine block_r ?_
   refine then_r ?_
   refine ret1 ha65 rfl rfl ?_
   clear ha65 a65
   refine ret_mkS hx64 ⟨hS60, ?_⟩
   refine ⟨((q61) : Str), (by first | omega | (simp; omega) | (simp only [List.length_append, List.length_take, List.length_drop]; omega)), ?_⟩
   exact (congrArg St (by rfl))
  ·
   rw [decide_eq_false c54] at ha53
   refine cond_f ha53 rfl ?_
   refine wp_seq ?_
   refine wp_region_lit ?_
   refine wl_val ha53 rfl rfl rfl (op_eql ha53 rfl rfl rfl) ?_
   intro a66 ha66; clear ha53 a53
   refine wl_val ha66 rfl rfl rfl (op_assign ha66 rfl rfl) ?_
   intro a67 ha67; clear ha66 a66
   refine wpList_nil ?_
   refine then_n ?_
   by_cases c68 : (q26 : Int) = (2 : Int)
   ·
    rw [decide_eq_true c68] at ha67
    refine cond_t ha67 rfl ?_
    refine wp_seq ?_
    refine wp_region_lit ?_
    refine wl_val ha67 rfl rfl rfl (op_move ha67 rfl rfl) ?_
    intro a69 ha69; clear ha67 a67
    refine wl_eff ha69 rfl rfl rfl (op_buildSlice (s := shStr) (xs := [([120] : Str), ([10] : Str), ([48, 58, 35, 48, 10] : Str), ([57, 57, 57, 57, 58, 35, 57, 57, 57, 57, 10] : Str), ([57, 57, 57, 57, 58, 35, 51, 51, 10] : Str)]) (cs := [St (([120] : Str)), St (([10] : Str)), St (([48, 58, 35, 48, 10] : Str)), St (([57, 57, 57, 57, 58, 35, 57, 57, 57, 57, 10] : Str)), St (([57, 57, 57, 57, 58, 35, 51, 51, 10] : Str))]) (vs := [(0, St (([120] : Str))), (1, St (([10] : Str))), (2, St (([48, 58, 35, 48, 10] : Str))), (3, St (([57, 57, 57, 57, 58, 35, 57, 57, 57, 57, 10] : Str))), (4, St (([57, 57, 57, 57, 58, 35, 51, 51, 10] : Str)))]) (S := fun _ => False) (le := w23.heap.size) ha69 rfl pos_shStr Try.underlying82 ti9 rfl rfl (by decide) (by kernel_rfl) ⟨mk_shStr (([120] : Str)) (by first | omega | (simp only []; omega) | (simp; done)), mk_shStr (([10] : Str)) (by first | omega | (simp only []; omega) | (simp; done)), mk_shStr (([48, 58, 35, 48, 10] : Str)) (by first | omega | (simp only []; omega) | (simp; done)), mk_shStr (([57, 57, 57, 57, 58, 35, 57, 57, 57, 57, 10] : Str)) (by first | omega | (simp only []; omega) | (simp; done)), mk_shStr (([57, 57, 57, 57, 58, 35, 51, 51, 10] : Str)) (by first | omega | (simp only []; omega) | (simp; done)), rfl⟩ (fun _ h => h.elim)) ?_
    rintro v70 w71 ⟨ho72, he73, hob74⟩ a75 ha75; clear ha69 a69
    have hx76 := hx31.trans' (Stp.of_ext he73 _)
    have hzhx76 := he73.size
    replace ho10 := ho10.ext he73
    replace hS25 := hS25.ext he73
    refine wl_val ha75 rfl rfl rfl (op_move ha75 rfl rfl) ?_
    intro a77 ha77; clear ha75 a75
    refine wl_callS ha77 rfl rfl rfl (op_call ha77 rfl cb62 rfl) (c_spec_l01Next _ g_s b_s (5 : Int) hS25) ?_
    rintro v78 w79 he80 ⟨hS81, ⟨q82, hq83, hq84, hq85, rfl⟩⟩ a86 ha86; clear ha77 a77
    have hx87 := hx76.trans' he80
    have hzhx87 := he80.size
    first | replace ho10 := ho10.stp he80 (by intro q hq; cases hq; omega) | replace ho10 := ho10.stpF flat_shRec he80 (by intro q hq; cases hq; exact ho10.ne_box (by assumption) rfl)
    first | replace ho72 := ho72.stp he80 (by intro q hq; cases hq; omega) | replace ho72 := ho72.stpF flat_shStr he80 (by intro q hq; cases hq; exact ho72.ne_box (by assumption) rfl)
    clear hS25
    have hSlhS81 := hS81.lt
    obtain ⟨x88, hx88⟩ := get_ex (xs := [([120] : Str), ([10] : Str), ([48, 58, 35, 48, 10] : Str), ([57, 57, 57, 57, 58, 35, 57, 57, 57, 57, 10] : Str), ([57, 57, 57, 57, 58, 35, 51, 51, 10] : Str)]) (j := ((q82 : Int)).toNat) (by first | omega | (simp only [List.length_cons, List.length_nil]; omega))
    obtain ⟨p89, c90, hi91, hc92, hr93, hs94⟩ := Rds.at_ (ho72.rds pos_shStr) hx88
    obtain ⟨rfl, b95⟩ := inv_shStr hr93
    obtain ⟨_, _⟩ : _ ∧ _ := hs94
    have hdlx88 := el_len 21 (by rfl) hx88
    refine wl_val ha86 rfl rfl rfl (op_indexAddr ha86 rfl Try.underlying82 ti9 rfl rfl (by omega) hi91) ?_
    intro a96 ha96; clear ha86 a86
    refine wl_val ha96 rfl rfl rfl (op_loadH ha96 rfl Try.underlying9 rfl rfl hc92 rfl) ?_
    intro a97 ha97; clear ha96 a96
    refine wl_val ha97 rfl rfl rfl (op_sadd ha97 rfl rfl rfl (by first | omega | (simp; omega) | (have h9 := line_70 (n := 200 + (k : Int)) (t := []) (by omega) (by omega) rfl; omega) | (have h9 := line_70 (n := 50 + (k : Int)) (t := []) (by omega) (by omega) rfl; omega))) ?_
    intro a98 ha98; clear ha97 a97
    refine wl_val ha98 rfl rfl rfl (op_assign ha98 rfl rfl) ?_
    intro a99 ha99; clear ha98 a98
    refine wpList_nil ?_
    refine then_n ?_
    refine wp_ret ?_
    refine block_r ?_
    refine then_r ?_
    refine ret1 ha99 rfl rfl ?_
    clear ha99 a99
    refine ret_mkS hx87 ⟨hS81, ?_⟩
    refine ⟨(((fileS ((q7)))) ++ x88 : Str), (by first | omega | (simp; omega) | (simp only [List.length_append, List.length_take, List.length_drop]; omega)), ?_⟩
    exact (congrArg St (by rfl))
   ·
    rw [decide_eq_false c68] at ha67
    refine cond_f ha67 rfl ?_
    refine wp_seq ?_
    refine wp_region_lit ?_
    refine wl_val ha67 rfl rfl rfl (op_eql ha67 rfl rfl rfl) ?_
    intro a100 ha100; clear ha67 a67
    refine wl_val ha100 rfl rfl rfl (op_assign ha100 rfl rfl) ?_
    intro a101 ha101; clear ha100 a100
    refine wpList_nil ?_
    refine then_n ?_
    by_cases c102 : (q26 : Int) = (3 : Int)
    ·
     rw [decide_eq_true c102] at ha101
     refine cond_t ha101 rfl ?_
     refine wp_seq ?_
     refine wp_region_lit ?_
     refine wl_val ha101 rfl rfl rfl (op_move ha101 rfl rfl) ?_
     intro a103 ha103; clear ha101 a101
     refine wl_callS ha103 rfl rfl rfl (op_call ha103 rfl cb62 rfl) (c_spec_l01Next _ g_s b_s (4 : Int) hS25) ?_
     rintro v104 w105 he106 ⟨hS107, ⟨q108, hq109, hq110, hq111, rfl⟩⟩ a112 ha112; clear ha103 a103
     have hx113 := hx31.trans' he106
     have hzhx113 := he106.size
     first | replace ho10 := ho10.stp he106 (by intro q hq; cases hq; omega) | replace ho10 := ho10.stpF flat_shRec he106 (by intro q hq; cases hq; exact ho10.ne_box (by assumption) rfl)
     clear hS25
     have hSlhS107 := hS107.lt
     refine wl_val ha112 rfl rfl rfl (op_eql ha112 rfl rfl rfl) ?_
     intro a114 ha114; clear ha112 a112
     refine wpList_nil ?_
     refine then_n ?_
     by_cases c115 : (q108 : Int) = (0 : Int)
     ·
      rw [decide_eq_true c115] at ha114
      refine cond_t ha114 rfl ?_
      refine wp_seq ?_
      refine wp_region_lit ?_
      refine wl_val ha114 rfl rfl rfl (op_assign ha114 rfl rfl) ?_
      intro a116 ha116; clear ha114 a114
      refine wpList_nil ?_
      refine then_n ?_
      refine wp_block ?_
      refine loop_inv (X := Nat × Str) (fun (⟨k, t⟩ : Nat × Str) fr wl => Sl 50 fr [(0, .pointer (some (⟨g_s, 0, none⟩ : Addr))), (4, St t), (5, .int .i64 (200 + (k : Int)))] ∧ Stp w0 wl (some g_s) ∧ Src wl g_s b_s 88 ∧ w105.heap.size ≤ wl.heap.size ∧ (k ≤ 32) ∧ (t.length ≤ 1000 + 70 * k)) (fun (⟨k, t⟩ : Nat × Str) => 40 - k) (0, (fileS ((q7)))) ?_ ?_
      ·
       exact ⟨(Sl.cons_ ha116 rfl rfl (Sl.cons_ ha116 rfl rfl (Sl.cons_ ha116 rfl (int_eq (by omega)) (Sl.nil_ ha116)))), hx113, hS107, (by omega), (by omega), (by first | omega | (simp; done) | (simp; omega))⟩
      ·
       clear ha116 a116
       rintro ⟨k, t⟩ a120 w117 ⟨ha120, hx118, hf119, hzl121, hk, ht⟩
       have hzhx118 := hx118.size
       have hgl122 := hf119.lt
       refine wp_seq ?_
       refine wp_seq ?_
       refine wp_region_lit ?_
       refine wl_val ha120 rfl rfl rfl (op_move ha120 rfl rfl) ?_
       intro a123 ha123; clear ha120 a120
       refine wl_val ha123 rfl rfl rfl (op_lss ha123 rfl rfl rfl) ?_
       intro a124 ha124; clear ha123 a123
       refine wpList_nil ?_
       refine then_n ?_
       by_cases c125 : (200 + (k : Int)) < (232 : Int)
       ·
        rw [decide_eq_true c125] at ha124
        refine cond_t ha124 rfl ?_
        refine wp_skip ?_
        refine then_n ?_
        refine wp_seq ?_
        refine wp_block ?_
        refine wp_region_lit ?_
        refine wl_val ha124 rfl rfl rfl (op_move ha124 rfl rfl) ?_
        intro a126 ha126; clear ha124 a124
        refine wl_val ha126 rfl rfl rfl (op_move ha126 rfl rfl) ?_
        intro a127 ha127; clear ha126 a126
        refine wl_val ha127 rfl rfl rfl (op_build (vs := [(0, .int .i64 (200 + (k : Int)))]) (cs := #[.int .i64 (200 + (k : Int)), St (([] : Str))]) ha127 rfl Try.underlying36 ti36 bp36 rfl rfl) ?_
        intro a128 ha128; clear ha127 a127
        refine wl_callR ha128 rfl rfl rfl (op_call ha128 rfl cb63 rfl) (c_spec_l32Line _ (((200 + (k : Int)), ([] : Str))) (by first | omega | (dsimp only; omega) | assumption | (simp; done) | (simp; omega)) (by first | omega | (dsimp only; omega) | assumption | (simp; done) | (simp; omega)) (by first | omega | (dsimp only; omega) | assumption | (simp; done) | (simp; omega))) ?_
        rintro v129 w130 he131 rfl a132 ha132; clear ha128 a128
        have hx133 := hx118.trans' (Stp.of_ext he131 _)
        have hzhx133 := he131.size
        replace hf119 := hf119.ext he131
        refine wl_val ha132 rfl rfl rfl (op_sadd ha132 rfl rfl rfl (by first | omega | (simp; omega) | (have h9 := line_70 (n := 200 + (k : Int)) (t := []) (by omega) (by omega) rfl; omega) | (have h9 := line_70 (n := 50 + (k : Int)) (t := []) (by omega) (by omega) rfl; omega))) ?_
        intro a134 ha134; clear ha132 a132
        refine wl_val ha134 rfl rfl rfl (op_assign ha134 rfl rfl) ?_
        intro a135 ha135; clear ha134 a134
        refine wpList_nil ?_
        refine block_n ?_
        refine then_n ?_
        refine wp_region_lit ?_
        refine wl_val ha135 rfl rfl rfl (op_move ha135 rfl rfl) ?_
        intro a136 ha136; clear ha135 a135
        refine wl_val ha136 rfl rfl rfl ((op_add ha136 rfl rfl rfl).int (IntWalk.i64_in _ (by omega))) ?_
        intro a137 ha137; clear ha136 a136
        refine wl_val ha137 rfl rfl rfl (op_assign ha137 rfl rfl) ?_
        intro a138 ha138; clear ha137 a137
        refine wpList_nil ?_
        refine round_end (x := (k, t)) (k + 1, t ++ ((lineS (((200 + (k : Int)), ([] : Str)))))) ?_ ?_
        ·
         refine ⟨(Sl.cons_ ha138 rfl rfl (Sl.cons_ ha138 rfl rfl (Sl.cons_ ha138 rfl (int_eq (by omega)) (Sl.nil_ ha138)))), hx133, hf119, (by omega), (by omega), (by rw [List.length_append]; have h9 := line_70 (n := 200 + (k : Int)) (t := []) (by omega) (by omega) rfl; omega)⟩
        ·show (40 - (k + 1) : Nat) < 40 - k; omega
       ·
        rw [decide_eq_false c125] at ha124
        refine cond_f ha124 rfl ?_
        refine wp_exit ?_
        refine then_e ?_
        refine then_e ?_
        refine block_hit ?_
        refine block_n ?_
        refine then_n ?_
        refine wp_seq ?_
        refine wp_region_lit ?_
        refine wl_val ha124 rfl rfl rfl (op_move ha124 rfl rfl) ?_
        intro a139 ha139; clear ha124 a124
        refine wl_val ha139 rfl rfl rfl (op_assign ha139 rfl rfl) ?_
        intro a140 ha140; clear ha139 a139
        refine wpList_nil ?_
        refine then_n ?_
        refine wp_ret ?_
        refine ret1 ha140 rfl rfl ?_
        clear ha140 a140
        refine ret_mkS hx118 ⟨hf119, ?_⟩
        refine ⟨(t : Str), (by first | omega | (simp; omega) | (simp only [List.length_append, List.length_take, List.length_drop]; omega)), ?_⟩
        exact (congrArg St (by rfl))
     ·
      rw [decide_eq_false c115] at ha114
      refine cond_f ha114 rfl ?_
      refine wp_skip ?_
      refine block_n ?_
      refine then_n ?_
      refine wp_seq ?_
      refine wp_region_lit ?_
      refine wl_val ha114 rfl rfl rfl (op_move ha114 rfl rfl) ?_
      intro a141 ha141; clear ha114 a114
      refine wl_val ha141 rfl rfl rfl (op_assign ha141 rfl rfl) ?_
      intro a142 ha142; clear ha141 a141
      refine wpList_nil ?_
      refine then_n ?_
      refine wp_ret ?_
      refine ret1 ha142 rfl rfl ?_
      clear ha142 a142
      refine ret_mkS hx113 ⟨hS107, ?_⟩
      refine ⟨((fileS ((q7))) : Str), (by first | omega | (simp; omega) | (simp only [List.length_append, List.length_take, List.length_drop]; omega)), ?_⟩
      exact (congrArg St (by rfl))
    ·
     rw [decide_eq_false c102] at ha101
     refine cond_f ha101 rfl ?_
     refine wp_skip ?_
     refine block_n ?_
     refine then_n ?_
     refine wp_seq ?_
     refine wp_region_lit ?_
     refine wl_val ha101 rfl rfl rfl (op_move ha101 rfl rfl) ?_
     intro a143 ha143; clear ha101 a101
     refine wl_val ha143 rfl rfl rfl (op_assign ha143 rfl rfl) ?_
     intro a144 ha144; clear ha143 a143
     refine wpList_nil ?_
     refine then_n ?_
     refine wp_ret ?_
     refine ret1 ha144 rfl rfl ?_
     clear ha144 a144
     refine ret_mkS hx31 ⟨hS25, ?_⟩
     refine ⟨((fileS ((q7))) : Str), (by first | omega | (simp; omega) | (simp only [List.length_append, List.length_take, List.length_drop]; omega)), ?_⟩
     exact (congrArg St (by rfl))

set_option maxHeartbeats 8000000 in
theorem c_spec_DrawSalvageFile (w0 : World) (v_code : Value) (code : List UInt8) {S_code : Nat → Prop} (h_code : Rds shU8 S_code w0 v_code code) :
  Calls Try.prog 41 #[v_code] w0 (Ret w0 (fun v w1 => ∃ (d : Str), (d.length ≤ 5000) ∧ (fun v _ => v = St (d)) v w1)) := by
 refine enter (N := 6) Try.func41 rfl rfl rfl ?_
 intro a0 ha0
 have hx0 := Ext.rfl' w0
 have hl_code := h_code.length_le
 refine wp_seq ?_
 refine wp_region_lit ?_
 refine wl_val ha0 rfl rfl rfl (op_assign ha0 rfl rfl) ?_
 intro a1 ha1; clear ha0 a0
 refine wpList_nil ?_
 refine then_n ?_
 refine wp_seq ?_
 refine wp_region_lit ?_
 refine wl_val ha1 rfl rfl rfl (op_move ha1 rfl rfl) ?_
 intro a2 ha2; clear ha1 a1
 refine wl_callR ha2 rfl rfl rfl (op_call ha2 rfl cb59 rfl) (c_spec_l01From _ v_code code (h_code.low pos_shU8 hx0 (Nat.le_refl _)) (by omega)) ?_
 rintro v3 w4 he5 ⟨g6, rfl, hg7, hS8⟩ a9 ha9; clear ha2 a2
 have hx10 := hx0.trans' he5
 have hzhx10 := he5.size
 have hSlhS8 := hS8.lt
 refine wl_callS ha9 rfl rfl rfl (op_call ha9 rfl cb60 rfl) (c_spec_l32Damaged _ g6 w0.heap.size hS8) ?_
 rintro v11 w12 he13 ⟨hS14, ⟨q15, hq16, rfl⟩⟩ a17 ha17; clear ha9 a9
 have hx18 := hx10.stp he13 (by intro q hq; cases hq; exact (by omega))
 have hzhx18 := he13.size
 clear hS8
 have hSlhS14 := hS14.lt
 refine wl_val ha17 rfl rfl rfl (op_assign ha17 rfl rfl) ?_
 intro a19 ha19; clear ha17 a17
 refine wpList_nil ?_
 refine then_n ?_
 refine wp_ret ?_
 refine ret1 ha19 rfl rfl ?_
 clear ha19 a19
 refine ret_mk hx18 ?_
 refine ⟨((q15) : Str), (by omega), ?_⟩
 exact (congrArg St (by rfl))

set_option maxHeartbeats 8000000 in
theorem c_spec_DrawMergeCopies (w0 : World) (v_code : Value) (code : List UInt8) {S_code : Nat → Prop} (h_code : Rds shU8 S_code w0 v_code code) :
  Calls Try.prog 46 #[v_code] w0 (Ret w0 (fun v w1 => ∃ (a : Str) (b : Str), (a.length ≤ 5000) ∧ (b.length ≤ 5000) ∧ (fun v _ => v = .tuple #[St (a), St (b)]) v w1)) := by
 refine enter (N := 44) Try.func46 rfl rfl rfl ?_
 intro a0 ha0
 have hx0 := Ext.rfl' w0
 have hl_code := h_code.length_le
 refine wp_seq ?_
 refine wp_region_lit ?_
 refine wl_val ha0 rfl rfl rfl (op_assign ha0 rfl rfl) ?_
 intro a1 ha1; clear ha0 a0
 refine wl_val ha1 rfl rfl rfl (op_assign ha1 rfl rfl) ?_
 intro a2 ha2; clear ha1 a1
 refine wpList_nil ?_
 refine then_n ?_
 refine wp_seq ?_
 refine wp_region_lit ?_
 refine wl_val ha2 rfl rfl rfl (op_move ha2 rfl rfl) ?_
 intro a3 ha3; clear ha2 a2
 refine wl_callR ha3 rfl rfl rfl (op_call ha3 rfl cb59 rfl) (c_spec_l01From _ v_code code (h_code.low pos_shU8 hx0 (Nat.le_refl _)) (by omega)) ?_
 rintro v4 w5 he6 ⟨g7, rfl, hg8, hS9⟩ a10 ha10; clear ha3 a3
 have hx11 := hx0.trans' he6
 have hzhx11 := he6.size
 have hSlhS9 := hS9.lt
 refine wl_val ha10 rfl rfl rfl (op_assign ha10 rfl rfl) ?_
 intro a12 ha12; clear ha10 a10
 refine wpList_nil ?_
 refine then_n ?_
 refine wp_seq ?_
 refine wp_region_lit ?_
 refine wl_val ha12 rfl rfl rfl (op_move ha12 rfl rfl) ?_
 intro a13 ha13; clear ha12 a12
 refine wl_callS ha13 rfl rfl rfl (op_call ha13 rfl cb61 rfl) (c_spec_l32Good _ g7 w0.heap.size hS9) ?_
 rintro v14 w15 he16 ⟨hS17, ⟨q18, hq19, hq20, ho21⟩⟩ a22 ha22; clear ha13 a13
 have hx23 := hx11.stp he16 (by intro q hq; cases hq; exact (by omega))
 have hzhx23 := he16.size
 clear hS9
 have hSlhS17 := hS17.lt
 have hfl := fileS_len hq20
 refine wl_val ha22 rfl rfl rfl (op_assign ha22 rfl rfl) ?_
 intro a24 ha24; clear ha22 a22
 refine wpList_nil ?_
 refine then_n ?_
 refine wp_seq ?_
 refine wp_region_lit ?_
 refine wl_val ha24 rfl rfl rfl (op_move ha24 rfl rfl) ?_
 intro a25 ha25; clear ha24 a24
 refine wl_callR ha25 rfl rfl rfl (op_call ha25 rfl cb51 rfl) (c_spec_l32File _ v14 ((q18)) (ho21.rds pos_shRec) (by first | omega | (dsimp only; omega) | assumption | (simp; done) | (simp; omega)) (by first | omega | (dsimp only; omega) | assumption | (simp; done) | (simp; omega))) ?_
 rintro v26 w27 he28 rfl a29 ha29; clear ha25 a25
 have hx30 := hx23.trans' he28
 have hzhx30 := he28.size
 replace hS17 := hS17.ext he28
 replace ho21 := ho21.ext he28
 refine wl_val ha29 rfl rfl rfl (op_assign ha29 rfl rfl) ?_
 intro a31 ha31; clear ha29 a29
 refine wpList_nil ?_
 refine then_n ?_
 refine wp_seq ?_
 refine wp_seq ?_
 clear ho21
 refine wp_region_lit ?_
 refine wl_val ha31 rfl rfl rfl (op_move ha31 rfl rfl) ?_
 intro a32 ha32; clear ha31 a31
 refine wl_callS ha32 rfl rfl rfl (op_call ha32 rfl cb62 rfl) (c_spec_l01Next _ g7 w0.heap.size (5 : Int) hS17) ?_
 rintro v33 w34 he35 ⟨hS36, ⟨q37, hq38, hq39, hq40, rfl⟩⟩ a41 ha41; clear ha32 a32
 have hx42 := hx30.stp he35 (by intro q hq; cases hq; exact (by omega))
 have hzhx42 := he35.size
 clear hS17
 have hSlhS36 := hS36.lt
 refine wpList_nil ?_
 refine then_n ?_
 refine wp_block ?_
 refine wp_seq ?_
 refine wp_region_lit ?_
 refine wl_val ha41 rfl rfl rfl (op_eql ha41 rfl rfl rfl) ?_
 intro a43 ha43; clear ha41 a41
 refine wl_val ha43 rfl rfl rfl (op_assign ha43 rfl rfl) ?_
 intro a44 ha44; clear ha43 a43
 refine wpList_nil ?_
 refine then_n ?_
 by_cases c45 : (q37 : Int) = (0 : Int)
 ·
  rw [decide_eq_true c45] at ha44
  refine cond_t ha44 rfl ?_
  refine wp_seq ?_
  refine wp_region_lit ?_
  refine wl_val ha44 rfl rfl rfl (op_move ha44 rfl rfl) ?_
  intro a46 ha46; clear ha44 a44
  refine wl_val ha46 rfl rfl rfl (op_move ha46 rfl rfl) ?_
  intro a47 ha47; clear ha46 a46
  refine wl_callS ha47 rfl rfl rfl (op_call ha47 rfl cb60 rfl) (c_spec_l32Damaged _ g7 w0.heap.size hS36) ?_
  rintro v48 w49 he50 ⟨hS51, ⟨q52, hq53, rfl⟩⟩ a54 ha54; clear ha47 a47
  have hx55 := hx42.stp he50 (by intro q hq; cases hq; exact (by omega))
  have hzhx55 := he50.size
  clear hS36
  have hSlhS51 := hS51.lt
  refine wl_val ha54 rfl rfl rfl (op_assign ha54 rfl rfl) ?_
  intro a56 ha56; clear ha54 a54
  refine wl_val ha56 rfl rfl rfl (op_assign ha56 rfl rfl) ?_
  intro a57 ha57; clear ha56 a56
  refine wpList_nil ?_
  refine then_n ?_
  refine wp_ret ?_
  refine block_r ?_
  refine then_r ?_
  refine ret2 ha57 rfl rfl rfl ?_
  clear ha57 a57
  refine ret_mk hx55 ?_
  refine ⟨((fileS ((q18))) : Str), ((q52) : Str), (by first | omega | (simp; omega)), (by first | omega | (simp; omega)), ?_⟩
  exact (tup2_eq (congrArg St (by rfl)) (congrArg St (by rfl)))
 ·
  rw [decide_eq_false c45] at ha44
  refine cond_f ha44 rfl ?_
  refine wp_seq ?_
  refine wp_region_lit ?_
  refine wl_val ha44 rfl rfl rfl (op_eql ha44 rfl rfl rfl) ?_
  intro a58 ha58; clear ha44 a44
  refine wl_val ha58 rfl rfl rfl (op_assign ha58 rfl rfl) ?_
  intro a59 ha59; clear ha58 a58
  refine wpList_nil ?_
  refine then_n ?_
  by_cases c60 : (q37 : Int) = (1 : Int)
  ·
   rw [decide_eq_true c60] at ha59
   refine cond_t ha59 rfl ?_
   refine wp_seq ?_
   refine wp_region_lit ?_
   refine wl_val ha59 rfl rfl rfl (op_assign ha59 rfl rfl) ?_
   intro a61 ha61; clear ha59 a59
   refine wpList_nil ?_
   refine then_n ?_
   refine wp_seq ?_
   refine wp_seq ?_
   refine wp_region_lit ?_
   refine wl_val ha61 rfl rfl rfl (op_assign ha61 rfl rfl) ?_
   intro a62 ha62; clear ha61 a61
   refine wpList_nil ?_
   refine then_n ?_
   refine wp_block ?_
   refine loop_inv (X := Nat × Str) (fun (⟨k, t⟩ : Nat × Str) fr wl => Sl 44 fr [(4, .pointer (some (⟨g7, 0, none⟩ : Addr))), (6, St ((fileS ((q18))))), (7, St t), (8, .int .i64 (50 + (k : Int)))] ∧ Ext w0 wl ∧ Src wl g7 w0.heap.size 88 ∧ w34.heap.size ≤ wl.heap.size ∧ (k ≤ 30) ∧ (t.length ≤ 70 * k)) (fun (⟨k, t⟩ : Nat × Str) => 40 - k) (0, ([] : Str)) ?_ ?_
   ·
    exact ⟨(Sl.cons_ ha62 rfl rfl (Sl.cons_ ha62 rfl rfl (Sl.cons_ ha62 rfl rfl (Sl.cons_ ha62 rfl (int_eq (by omega)) (Sl.nil_ ha62))))), hx42, hS36, (by omega), (by omega), (by first | omega | (simp; done) | (simp; omega))⟩
   ·
    clear ha62 a62
    rintro ⟨k, t⟩ a66 w63 ⟨ha66, hx64, hf65, hzl67, hk, ht⟩
    have hzhx64 := hx64.size
    have hgl68 := hf65.lt
    refine wp_seq ?_
    refine wp_seq ?_
    refine wp_region_lit ?_
    refine wl_val ha66 rfl rfl rfl (op_move ha66 rfl rfl) ?_
    intro a69 ha69; clear ha66 a66
    refine wl_val ha69 rfl rfl rfl (op_move ha69 rfl rfl) ?_
    intro a70 ha70; clear ha69 a69
    refine wl_callS ha70 rfl rfl rfl (op_call ha70 rfl cb62 rfl) (c_spec_l01Next _ g7 w0.heap.size (3 : Int) hf65) ?_
    rintro v71 w72 he73 ⟨hS74, ⟨q75, hq76, hq77, hq78, rfl⟩⟩ a79 ha79; clear ha70 a70
    have hx80 := hx64.stp he73 (by intro q hq; cases hq; exact (by omega))
    have hzhx80 := he73.size
    clear hf65
    have hSlhS74 := hS74.lt
    refine wl_val ha79 rfl rfl rfl ((op_sub ha79 rfl rfl rfl).int (IntWalk.i64_in _ (by omega))) ?_
    intro a81 ha81; clear ha79 a79
    refine wl_val ha81 rfl rfl rfl (op_lss ha81 rfl rfl rfl) ?_
    intro a82 ha82; clear ha81 a81
    refine wpList_nil ?_
    refine then_n ?_
    by_cases c83 : (50 + (k : Int)) < ((80 : Int) - (q75 : Int))
    ·
     rw [decide_eq_true c83] at ha82
     refine cond_t ha82 rfl ?_
     refine wp_skip ?_
     refine then_n ?_
     refine wp_seq ?_
     refine wp_block ?_
     refine wp_region_lit ?_
     refine wl_val ha82 rfl rfl rfl (op_move ha82 rfl rfl) ?_
     intro a84 ha84; clear ha82 a82
     refine wl_val ha84 rfl rfl rfl (op_move ha84 rfl rfl) ?_
     intro a85 ha85; clear ha84 a84
     refine wl_val ha85 rfl rfl rfl (op_build (vs := [(0, .int .i64 (50 + (k : Int)))]) (cs := #[.int .i64 (50 + (k : Int)), St (([] : Str))]) ha85 rfl Try.underlying36 ti36 bp36 rfl rfl) ?_
     intro a86 ha86; clear ha85 a85
     refine wl_callR ha86 rfl rfl rfl (op_call ha86 rfl cb63 rfl) (c_spec_l32Line _ (((50 + (k : Int)), ([] : Str))) (by first | omega | (dsimp only; omega) | assumption | (simp; done) | (simp; omega)) (by first | omega | (dsimp only; omega) | assumption | (simp; done) | (simp; omega)) (by first | omega | (dsimp only; omega) | assumption | (simp; done) | (simp; omega))) ?_
     rintro v87 w88 he89 rfl a90 ha90; clear ha86 a86
     have hx91 := hx80.trans' he89
     have hzhx91 := he89.size
     replace hS74 := hS74.ext he89
     refine wl_val ha90 rfl rfl rfl (op_sadd ha90 rfl rfl rfl (by first | omega | (simp; omega) | (have h9 := line_70 (n := 200 + (k : Int)) (t := []) (by omega) (by omega) rfl; omega) | (have h9 := line_70 (n := 50 + (k : Int)) (t := []) (by omega) (by omega) rfl; omega))) ?_
     intro a92 ha92; clear ha90 a90
     refine wl_val ha92 rfl rfl rfl (op_assign ha92 rfl rfl) ?_
     intro a93 ha93; clear ha92 a92
     refine wpList_nil ?_
     refine block_n ?_
     refine then_n ?_
     refine wp_region_lit ?_
     refine wl_val ha93 rfl rfl rfl (op_move ha93 rfl rfl) ?_
     intro a94 ha94; clear ha93 a93
     refine wl_val ha94 rfl rfl rfl ((op_add ha94 rfl rfl rfl).int (IntWalk.i64_in _ (by omega))) ?_
     intro a95 ha95; clear ha94 a94
     refine wl_val ha95 rfl rfl rfl (op_assign ha95 rfl rfl) ?_
     intro a96 ha96; clear ha95 a95
     refine wpList_nil ?_
     refine round_end (x := (k, t)) (k + 1, t ++ ((lineS (((50 + (k : Int)), ([] : Str)))))) ?_ ?_
     ·
      refine ⟨(Sl.cons_ ha96 rfl rfl (Sl.cons_ ha96 rfl rfl (Sl.cons_ ha96 rfl rfl (Sl.cons_ ha96 rfl (int_eq (by omega)) (Sl.nil_ ha96))))), hx91, hS74, (by omega), (by omega), (by rw [List.length_append]; have h9 := line_70 (n := 50 + (k : Int)) (t := []) (by omega) (by omega) rfl; omega)⟩
     ·show (40 - (k + 1) : Nat) < 40 - k; omega
    ·
     rw [decide_eq_false c83] at ha82
     refine cond_f ha82 rfl ?_
     refine wp_exit ?_
     refine then_e ?_
     refine then_e ?_
     refine block_hit ?_
     refine then_n ?_
     refine wp_seq ?_
     clear hS74
     refine wp_region_lit ?_
     refine wl_val ha82 rfl rfl rfl (op_move ha82 rfl rfl) ?_
     intro a97 ha97; clear ha82 a82
     refine wl_val ha97 rfl rfl rfl (op_move ha97 rfl rfl) ?_
     intro a98 ha98; clear ha97 a97
     refine wl_val ha98 rfl rfl rfl (op_assign ha98 rfl rfl) ?_
     intro a99 ha99; clear ha98 a98
     refine wl_val ha99 rfl rfl rfl (op_assign ha99 rfl rfl) ?_
     intro a100 ha100; clear ha99 a99
     refine wpList_nil ?_
     refine then_n ?_
     refine wp_ret ?_
     refine block_r ?_
     refine then_r ?_
     refine ret2 ha100 rfl rfl rfl ?_
     clear ha100 a100
     refine ret_mk hx80 ?_
     refine ⟨((fileS ((q18))) : Str), (t : Str), (by first | omega | (simp; omega)), (by first | omega | (simp; omega)), ?_⟩
     exact (tup2_eq (congrArg St (by rfl)) (congrArg St (by rfl)))
  ·
   rw [decide_eq_false c60] at ha59
   refine cond_f ha59 rfl ?_
   refine wp_skip ?_
   refine block_n ?_
   refine then_n ?_
   refine wp_seq ?_
   refine wp_region_lit ?_
   refine wl_val ha59 rfl rfl rfl (op_move ha59 rfl rfl) ?_
   intro a101 ha101; clear ha59 a59
   refine wl_val ha101 rfl rfl rfl (op_move ha101 rfl rfl) ?_
   intro a102 ha102; clear ha101 a101
   refine wl_callS ha102 rfl rfl rfl (op_call ha102 rfl cb64 rfl) (c_spec_l01Damage _ g7 w0.heap.size ((fileS ((q18)))) hS36 (by first | omega | (dsimp only; omega) | assumption | (simp; done) | (simp; omega))) ?_
   rintro v103 w104 he105 ⟨hS106, ⟨q107, hq108, rfl⟩⟩ a109 ha109; clear ha102 a102
   have hx110 := hx42.stp he105 (by intro q hq; cases hq; exact (by omega))
   have hzhx110 := he105.size
   clear hS36
   have hSlhS106 := hS106.lt
   refine wl_val ha109 rfl rfl rfl (op_move ha109 rfl rfl) ?_
   intro a111 ha111; clear ha109 a109
   refine wl_val ha111 rfl rfl rfl (op_move ha111 rfl rfl) ?_
   intro a112 ha112; clear ha111 a111
   refine wl_callS ha112 rfl rfl rfl (op_call ha112 rfl cb64 rfl) (c_spec_l01Damage _ g7 w0.heap.size ((fileS ((q18)))) hS106 (by first | omega | (dsimp only; omega) | assumption | (simp; done) | (simp; omega))) ?_
   rintro v113 w114 he115 ⟨hS116, ⟨q117, hq118, rfl⟩⟩ a119 ha119; clear ha112 a112
   have hx120 := hx110.stp he115 (by intro q hq; cases hq; exact (by omega))
   have hzhx120 := he115.size
   clear hS106
   have hSlhS116 := hS116.lt
   refine wl_val ha119 rfl rfl rfl (op_assign ha119 rfl rfl) ?_
   intro a121 ha121; clear ha119 a119
   refine wl_val ha121 rfl rfl rfl (op_assign ha121 rfl rfl) ?_
   intro a122 ha122; clear ha121 a121
   refine wpList_nil ?_
   refine then_n ?_
   refine wp_ret ?_
   refine ret2 ha122 rfl rfl rfl ?_
   clear ha122 a122
   refine ret_mk hx120 ?_
   refine ⟨((q107) : Str), ((q117) : Str), (by first | omega | (simp; omega)), (by first | omega | (simp; omega)), ?_⟩
   exact (tup2_eq (congrArg St (by rfl)) (congrArg St (by rfl)))


end Go.Proofs.Ytkdnclpgijkceaa
