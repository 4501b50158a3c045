/- Two customers made one. -/
import Derived.Test.YthbkedflhmeohaaW7
namespace Go.Proofs.Ythbkedflhmeohaa
open Go Go.RowKit

theorem c_impl_MergeCustomers (w0 : World) (v_list : Value) (list : List (Str × Int × List Str)) {S_list : Nat → Prop} (keepn : Str) (dropn : Str) (h_list : Rds shCust S_list w0 v_list list) (g0 : list.length ≤ 1048576) (g1 : keepn.length ≤ 9223372036854775807) (g2 : dropn.length ≤ 9223372036854775807) :
  Calls Try.prog 35 #[v_list, St keepn, St dropn] w0 (Ret w0 (fun v w1 => ∃ r0 z0, v = .tuple #[r0, .int .i64 (mcC list keepn dropn)] ∧ Own shCustN 55 w0.heap.size w0.heap.size w1.heap.size w1 r0 z0 ∧ Nst shStr 9 (fun x : Str × Int × List Str => x.2.2) w0.heap.size w1.heap.size w1 z0 ∧ z0.map (·.1) = (mcL list keepn dropn))) := by
 refine enter (N := 102) Try.func35 rfl rfl rfl ?_
 intro a0 ha0
 have hx0 := Ext.rfl' w0
 have hl_list := h_list.length_le
 have hf_keepn : -1 ≤ fnI list keepn ∧ fnI list keepn < list.length := fdF_bd (namB keepn) list
 have hf_dropn : -1 ≤ fnI list dropn ∧ fnI list dropn < list.length := fdF_bd (namB dropn) list
 refine wp_seq ?_
 refine wp_region_lit ?_
 refine wl_val ha0 rfl rfl rfl (op_assign ha0 rfl rfl) ?_
 intro a1 ha1; clear ha0 a0
 refine wl_val ha1 rfl rfl rfl (op_assign ha1 rfl rfl) ?_
 intro a2 ha2; clear ha1 a1
 refine wpList_nil ?_
 refine then_n ?_
 refine wp_seq ?_
 refine wp_seq ?_
 refine wp_region_lit ?_
 refine wl_val ha2 rfl rfl rfl (op_move ha2 rfl rfl) ?_
 intro a3 ha3; clear ha2 a2
 refine wl_callR ha3 rfl rfl rfl (op_call ha3 rfl cb17 rfl) (c_impl_AreCustomers _ v_list list (h_list.ext pos_shCust hx0) (by first | assumption | omega | (simp; omega) | (intro c hc; have := cuOk_bd (cuB_el (by assumption) c hc); omega))) ?_
 rintro v4 w5 he6 rfl a7 ha7; clear ha3 a3
 have hx8 := hx0.trans' he6
 have hzhx8 := he6.size
 refine wl_val ha7 rfl rfl rfl (op_not ha7 rfl rfl) ?_
 intro a9 ha9; clear ha7 a7
 refine wl_val ha9 rfl rfl rfl (op_move ha9 rfl rfl) ?_
 intro a10 ha10; clear ha9 a9
 rcases Bool.eq_false_or_eq_true (cuB list) with c11 | c11
 ·
  rw [c11] at ha10
  have hlenc11 := cuB_len c11
  have hcuc11 := cuB_el c11
  refine wl_val ha10 rfl rfl rfl (op_move ha10 rfl rfl) ?_
  intro a12 ha12; clear ha10 a10
  refine wl_callR ha12 rfl rfl rfl (op_call ha12 rfl cb56 rfl) (c_impl_IsWord _ keepn (by first | assumption | omega | (simp; omega) | (intro c hc; have := cuOk_bd (cuB_el (by assumption) c hc); omega))) ?_
  rintro v13 w14 he15 rfl a16 ha16; clear ha12 a12
  have hx17 := hx8.trans' he15
  have hzhx17 := he15.size
  refine wl_val ha16 rfl rfl rfl (op_not ha16 rfl rfl) ?_
  intro a18 ha18; clear ha16 a16
  refine wl_val ha18 rfl rfl rfl (op_pick_f ha18 rfl rfl rfl) ?_
  intro a19 ha19; clear ha18 a18
  refine wl_val ha19 rfl rfl rfl (op_move ha19 rfl rfl) ?_
  intro a20 ha20; clear ha19 a19
  rcases Bool.eq_false_or_eq_true (wordB keepn) with c21 | c21
  ·
   rw [c21] at ha20
   refine wl_val ha20 rfl rfl rfl (op_move ha20 rfl rfl) ?_
   intro a22 ha22; clear ha20 a20
   refine wl_callR ha22 rfl rfl rfl (op_call ha22 rfl cb56 rfl) (c_impl_IsWord _ dropn (by first | assumption | omega | (simp; omega) | (intro c hc; have := cuOk_bd (cuB_el (by assumption) c hc); omega))) ?_
   rintro v23 w24 he25 rfl a26 ha26; clear ha22 a22
   have hx27 := hx17.trans' he25
   have hzhx27 := he25.size
   refine wl_val ha26 rfl rfl rfl (op_not ha26 rfl rfl) ?_
   intro a28 ha28; clear ha26 a26
   refine wl_val ha28 rfl rfl rfl (op_pick_f ha28 rfl rfl rfl) ?_
   intro a29 ha29; clear ha28 a28
   refine wpList_nil ?_
   refine then_n ?_
   rcases Bool.eq_false_or_eq_true (wordB dropn) with c30 | c30
   ·
    rw [c30] at ha29
    refine cond_f ha29 rfl ?_
    refine wp_skip ?_
    refine then_n ?_
    refine wp_seq ?_
    refine wp_region_lit ?_
    refine wl_val ha29 rfl rfl rfl (op_move ha29 rfl rfl) ?_
    intro a31 ha31; clear ha29 a29
    refine wl_val ha31 rfl rfl rfl (op_move ha31 rfl rfl) ?_
    intro a32 ha32; clear ha31 a31
    refine wl_callR ha32 rfl rfl rfl (op_call ha32 rfl cb66 rfl) (c_impl_findCustomer _ v_list list keepn (h_list.ext pos_shCust hx27)) ?_
    rintro v33 w34 he35 rfl a36 ha36; clear ha32 a32
    have hx37 := hx27.trans' he35
    have hzhx37 := he35.size
    refine wl_val ha36 rfl rfl rfl (op_move ha36 rfl rfl) ?_
    intro a38 ha38; clear ha36 a36
    refine wl_val ha38 rfl rfl rfl (op_move ha38 rfl rfl) ?_
    intro a39 ha39; clear ha38 a38
    refine wl_callR ha39 rfl rfl rfl (op_call ha39 rfl cb66 rfl) (c_impl_findCustomer _ v_list list dropn (h_list.ext pos_shCust hx37)) ?_
    rintro v40 w41 he42 rfl a43 ha43; clear ha39 a39
    have hx44 := hx37.trans' he42
    have hzhx44 := he42.size
    refine wl_val ha43 rfl rfl rfl (op_assign ha43 rfl rfl) ?_
    intro a45 ha45; clear ha43 a43
    refine wl_val ha45 rfl rfl rfl (op_assign ha45 rfl rfl) ?_
    intro a46 ha46; clear ha45 a45
    refine wpList_nil ?_
    refine then_n ?_
    refine wp_seq ?_
    refine wp_seq ?_
    refine wp_region_lit ?_
    refine wl_val ha46 rfl rfl rfl (op_move ha46 rfl rfl) ?_
    intro a47 ha47; clear ha46 a46
    refine wl_val ha47 rfl rfl rfl (op_lss ha47 rfl rfl rfl) ?_
    intro a48 ha48; clear ha47 a47
    refine wl_val ha48 rfl rfl rfl (op_move ha48 rfl rfl) ?_
    intro a49 ha49; clear ha48 a48
    by_cases c50 : (fnI list keepn : Int) < (0 : Int)
    ·
     rw [decide_eq_true c50] at ha49
     refine wl_skip ha49 rfl rfl rfl ?_
     intro a51 ha51; clear ha49 a49
     refine wl_skip ha51 rfl rfl rfl ?_
     intro a52 ha52; clear ha51 a51
     refine wl_val ha52 rfl rfl rfl (op_pick_t ha52 rfl rfl rfl) ?_
     intro a53 ha53; clear ha52 a52
     refine wpList_nil ?_
     refine then_n ?_
     refine cond_t ha53 rfl ?_
     refine wp_seq ?_
     refine wp_region_lit ?_
     refine wl_val ha53 rfl rfl rfl (op_assign ha53 rfl rfl) ?_
     intro a54 ha54; clear ha53 a53
     refine wl_val ha54 rfl rfl rfl (op_assign ha54 rfl rfl) ?_
     intro a55 ha55; clear ha54 a54
     refine wpList_nil ?_
     refine then_n ?_
     refine wp_ret ?_
     refine then_r ?_
     refine ret2 ha55 rfl rfl rfl ?_
     clear ha55 a55
     have hr := mcC_4 c11 c21 c30 (.inl c50)
     have hr2 := mcL_bad (by rw [hr]; decide)
     refine ret_mk hx44 ⟨(.slice none 0 0), [], (tup2_eq rfl (int_eq (by exact hr.symm))), Own.nil _ _ _ _ _ _, Nst.nil _ _ _ _ _ _, ?_⟩
     ·
      rw [hr2]; rfl
    ·
     rw [decide_eq_false c50] at ha49
     refine wl_val ha49 rfl rfl rfl (op_move ha49 rfl rfl) ?_
     intro a56 ha56; clear ha49 a49
     refine wl_val ha56 rfl rfl rfl (op_lss ha56 rfl rfl rfl) ?_
     intro a57 ha57; clear ha56 a56
     refine wl_val ha57 rfl rfl rfl (op_pick_f ha57 rfl rfl rfl) ?_
     intro a58 ha58; clear ha57 a57
     refine wpList_nil ?_
     refine then_n ?_
     by_cases c59 : (fnI list dropn : Int) < (0 : Int)
     ·
      rw [decide_eq_true c59] at ha58
      refine cond_t ha58 rfl ?_
      refine wp_seq ?_
      refine wp_region_lit ?_
      refine wl_val ha58 rfl rfl rfl (op_assign ha58 rfl rfl) ?_
      intro a60 ha60; clear ha58 a58
      refine wl_val ha60 rfl rfl rfl (op_assign ha60 rfl rfl) ?_
      intro a61 ha61; clear ha60 a60
      refine wpList_nil ?_
      refine then_n ?_
      refine wp_ret ?_
      refine then_r ?_
      refine ret2 ha61 rfl rfl rfl ?_
      clear ha61 a61
      have hr := mcC_4 c11 c21 c30 (.inr c59)
      have hr2 := mcL_bad (by rw [hr]; decide)
      refine ret_mk hx44 ⟨(.slice none 0 0), [], (tup2_eq rfl (int_eq (by exact hr.symm))), Own.nil _ _ _ _ _ _, Nst.nil _ _ _ _ _ _, ?_⟩
      ·
       rw [hr2]; rfl
     ·
      rw [decide_eq_false c59] at ha58
      refine cond_f ha58 rfl ?_
      refine wp_skip ?_
      refine then_n ?_
      refine wp_seq ?_
      refine wp_seq ?_
      refine wp_region_lit ?_
      refine wl_val ha58 rfl rfl rfl (op_move ha58 rfl rfl) ?_
      intro a62 ha62; clear ha58 a58
      refine wl_val ha62 rfl rfl rfl (op_move ha62 rfl rfl) ?_
      intro a63 ha63; clear ha62 a62
      refine wl_val ha63 rfl rfl rfl (op_eql ha63 rfl rfl rfl) ?_
      intro a64 ha64; clear ha63 a63
      refine wpList_nil ?_
      refine then_n ?_
      by_cases c65 : (fnI list keepn : Int) = (fnI list dropn : Int)
      ·
       rw [decide_eq_true c65] at ha64
       refine cond_t ha64 rfl ?_
       refine wp_seq ?_
       refine wp_region_lit ?_
       refine wl_val ha64 rfl rfl rfl (op_assign ha64 rfl rfl) ?_
       intro a66 ha66; clear ha64 a64
       refine wl_val ha66 rfl rfl rfl (op_assign ha66 rfl rfl) ?_
       intro a67 ha67; clear ha66 a66
       refine wpList_nil ?_
       refine then_n ?_
       refine wp_ret ?_
       refine then_r ?_
       refine ret2 ha67 rfl rfl rfl ?_
       clear ha67 a67
       have hr := mcC_5 c11 c21 c30 c50 c59 c65
       have hr2 := mcL_bad (by rw [hr]; decide)
       refine ret_mk hx44 ⟨(.slice none 0 0), [], (tup2_eq rfl (int_eq (by exact hr.symm))), Own.nil _ _ _ _ _ _, Nst.nil _ _ _ _ _ _, ?_⟩
       ·
        rw [hr2]; rfl
      ·
       rw [decide_eq_false c65] at ha64
       refine cond_f ha64 rfl ?_
       refine wp_skip ?_
       refine then_n ?_
       refine wp_seq ?_
       refine wp_seq ?_
       refine dr_enter Ext follows_mixed ?_
       intro w68 he69
       have hx70 := hx44.trans' he69
       have hzhx70 := he69.size
       have hs71 : Ext w68 w68 := Ext.rfl' _
       refine dr_val (i := 0) ha64 rfl (by kernel_rfl) (by kernel_rfl) (by kernel_rfl) rfl rfl rfl hs71 (fun w' hw' => op_move ha64 rfl rfl) ?_
       intro a72 ha72; clear ha64 a64
       refine dr_val (i := 1) ha72 rfl (by kernel_rfl) (by kernel_rfl) (by kernel_rfl) rfl rfl rfl hs71 (fun w' hw' => op_move ha72 rfl rfl) ?_
       intro a73 ha73; clear ha72 a72
       obtain ⟨x74, hx74⟩ := get_ex (xs := list) (j := ((fnI list keepn : Int)).toNat) (by first | omega | (simp only [List.length_set]; omega))
       obtain ⟨p75, c76, hi77, hc78, hr79, hs80⟩ := Rds.at_ h_list hx74
       obtain ⟨v81, rfl, b82, b83, b84⟩ := inv_shCust hr79
       have hlb84 := b84.length_le
       have hbx74 := cuOk_bd (hcuc11 _ (List.mem_of_getElem? hx74))
       refine dr_val (i := 2) ha73 rfl (by kernel_rfl) (by kernel_rfl) (by kernel_rfl) rfl rfl rfl hs71 (fun w' hw' => op_indexAddr ha73 rfl Try.underlying25 ti55 rfl rfl (by omega) hi77) ?_
       intro a85 ha85; clear ha73 a73
       refine dr_val (i := 3) ha85 rfl (by kernel_rfl) (by kernel_rfl) (by kernel_rfl) rfl rfl rfl hs71 (fun w' hw' => op_fieldAddr (sz := 0) ha85 rfl Try.underlying55 rfl rfl ti34 rfl) ?_
       intro a86 ha86; clear ha85 a85
       refine dr_val (i := 4) ha86 rfl (by kernel_rfl) (by kernel_rfl) (by kernel_rfl) rfl rfl rfl hs71 (fun w' hw' => op_loadF (off := 2) ha86 rfl Try.underlying34 rfl rfl (hc78.ext (hx70.trans' hw')) rfl) ?_
       intro a87 ha87; clear ha86 a86
       refine dr_val (i := 5) ha87 rfl (by kernel_rfl) (by kernel_rfl) (by kernel_rfl) rfl rfl rfl hs71 (fun w' hw' => op_len_sl ha87 rfl Try.underlying34 rfl b84) ?_
       intro a88 ha88; clear ha87 a87
       refine dr_val (i := 6) ha88 rfl (by kernel_rfl) (by kernel_rfl) (by kernel_rfl) rfl rfl rfl hs71 (fun w' hw' => op_move ha88 rfl rfl) ?_
       intro a89 ha89; clear ha88 a88
       refine dr_val (i := 7) ha89 rfl (by kernel_rfl) (by kernel_rfl) (by kernel_rfl) rfl rfl rfl hs71 (fun w' hw' => op_move ha89 rfl rfl) ?_
       intro a90 ha90; clear ha89 a89
       obtain ⟨x91, hx91⟩ := get_ex (xs := list) (j := ((fnI list dropn : Int)).toNat) (by first | omega | (simp only [List.length_set]; omega))
       obtain ⟨p92, c93, hi94, hc95, hr96, hs97⟩ := Rds.at_ h_list hx91
       obtain ⟨v98, rfl, b99, b100, b101⟩ := inv_shCust hr96
       have hlb101 := b101.length_le
       have hbx91 := cuOk_bd (hcuc11 _ (List.mem_of_getElem? hx91))
       refine dr_val (i := 8) ha90 rfl (by kernel_rfl) (by kernel_rfl) (by kernel_rfl) rfl rfl rfl hs71 (fun w' hw' => op_indexAddr ha90 rfl Try.underlying25 ti55 rfl rfl (by omega) hi94) ?_
       intro a102 ha102; clear ha90 a90
       refine dr_val (i := 9) ha102 rfl (by kernel_rfl) (by kernel_rfl) (by kernel_rfl) rfl rfl rfl hs71 (fun w' hw' => op_fieldAddr (sz := 0) ha102 rfl Try.underlying55 rfl rfl ti34 rfl) ?_
       intro a103 ha103; clear ha102 a102
       refine dr_val (i := 10) ha103 rfl (by kernel_rfl) (by kernel_rfl) (by kernel_rfl) rfl rfl rfl hs71 (fun w' hw' => op_loadF (off := 2) ha103 rfl Try.underlying34 rfl rfl (hc95.ext (hx70.trans' hw')) rfl) ?_
       intro a104 ha104; clear ha103 a103
       refine dr_val (i := 11) ha104 rfl (by kernel_rfl) (by kernel_rfl) (by kernel_rfl) rfl rfl rfl hs71 (fun w' hw' => op_len_sl ha104 rfl Try.underlying34 rfl b101) ?_
       intro a105 ha105; clear ha104 a104
       refine dr_val (i := 12) ha105 rfl (by kernel_rfl) (by kernel_rfl) (by kernel_rfl) rfl rfl rfl hs71 (fun w' hw' => (op_add ha105 rfl rfl rfl).int (IntWalk.i64_in _ (by omega))) ?_
       intro a106 ha106; clear ha105 a105
       refine dr_val (i := 13) ha106 rfl (by kernel_rfl) (by kernel_rfl) (by kernel_rfl) rfl rfl rfl hs71 (fun w' hw' => op_gtr ha106 rfl rfl rfl) ?_
       intro a107 ha107; clear ha106 a106
       refine dr_end (by kernel_rfl) ?_
       refine then_n ?_
       by_cases c108 : (5 : Int) < (((x74.2.2.length : Nat) : Int) + ((x91.2.2.length : Nat) : Int))
       ·
        rw [decide_eq_true c108] at ha107
        refine cond_t ha107 rfl ?_
        refine wp_seq ?_
        refine wp_region_lit ?_
        refine wl_val ha107 rfl rfl rfl (op_assign ha107 rfl rfl) ?_
        intro a109 ha109; clear ha107 a107
        refine wl_val ha109 rfl rfl rfl (op_assign ha109 rfl rfl) ?_
        intro a110 ha110; clear ha109 a109
        refine wpList_nil ?_
        refine then_n ?_
        refine wp_ret ?_
        refine then_r ?_
        refine ret2 ha110 rfl rfl rfl ?_
        clear ha110 a110
        have hr := mcC_3 c11 c21 c30 c50 c59 c65 hx74 hx91 (by omega)
        have hr2 := mcL_bad (by rw [hr]; decide)
        refine ret_mk hx70 ⟨(.slice none 0 0), [], (tup2_eq rfl (int_eq (by exact hr.symm))), Own.nil _ _ _ _ _ _, Nst.nil _ _ _ _ _ _, ?_⟩
        ·
         rw [hr2]; rfl
       ·
        rw [decide_eq_false c108] at ha107
        refine cond_f ha107 rfl ?_
        refine wp_skip ?_
        refine then_n ?_
        refine wp_seq ?_
        refine wp_region_lit ?_
        refine wl_val ha107 rfl rfl rfl (op_move ha107 rfl rfl) ?_
        intro a111 ha111; clear ha107 a107
        refine wl_callR ha111 rfl rfl rfl (op_call ha111 rfl cb67 rfl) (c_impl_copyCustomers _ v_list list (h_list.ext pos_shCust hx70) (by first | assumption | omega | (simp; omega) | (intro c hc; have := cuOk_bd (cuB_el (by assumption) c hc); omega)) (by first | assumption | omega | (simp; omega) | (intro c hc; have := cuOk_bd (cuB_el (by assumption) c hc); omega))) ?_
        rintro v112 w113 he114 ⟨z116, ho115, hN117, hE118⟩ a119 ha119; clear ha111 a111
        have hx120 := hx70.trans' he114
        have hzhx120 := he114.size
        have hlhE118 := absLen hE118
        refine wl_val ha119 rfl rfl rfl (op_assign ha119 rfl rfl) ?_
        intro a121 ha121; clear ha119 a119
        refine wpList_nil ?_
        refine then_n ?_
        refine wp_seq ?_
        refine wp_seq ?_
        refine wp_region_lit ?_
        refine wl_val ha121 rfl rfl rfl (op_move ha121 rfl rfl) ?_
        intro a122 ha122; clear ha121 a121
        refine wl_val ha122 rfl rfl rfl (op_move ha122 rfl rfl) ?_
        intro a123 ha123; clear ha122 a122
        refine wl_val ha123 rfl rfl rfl (op_indexAddr ha123 rfl Try.underlying25 ti55 rfl rfl (by omega) hi94) ?_
        intro a124 ha124; clear ha123 a123
        refine wl_val ha124 rfl rfl rfl (op_fieldAddr (sz := 0) ha124 rfl Try.underlying55 rfl rfl ti34 rfl) ?_
        intro a125 ha125; clear ha124 a124
        refine wl_val ha125 rfl rfl rfl (op_loadF (off := 2) ha125 rfl Try.underlying34 rfl rfl (hc95.ext hx120) rfl) ?_
        intro a126 ha126; clear ha125 a125
        refine wl_val ha126 rfl rfl rfl (op_len_sl ha126 rfl Try.underlying34 rfl b101) ?_
        intro a127 ha127; clear ha126 a126
        refine wl_val ha127 rfl rfl rfl (op_move ha127 rfl rfl) ?_
        intro a128 ha128; clear ha127 a127
        refine wpList_nil ?_
        refine then_n ?_
        refine wp_block ?_
        refine loop_inv (X := Nat × (List ((Str × Int × List Str) × Value))) (fun (⟨j, zs⟩ : Nat × (List ((Str × Int × List Str) × Value))) fr wl => Sl 102 fr [(8, .int .i64 (fnI list keepn : Int)), (9, .int .i64 (fnI list dropn : Int)), (10, v112), (61, v98), (62, .int .i64 ((x91.2.2.length : Nat) : Int)), (63, .int .i64 ((j : Nat) : Int))] ∧ Ext w0 wl ∧ Own shCustN 55 w68.heap.size w68.heap.size wl.heap.size wl v112 zs ∧ Nst shStr 9 (fun x : Str × Int × List Str => x.2.2) w68.heap.size wl.heap.size wl zs ∧ w113.heap.size ≤ wl.heap.size ∧ (j ≤ x91.2.2.length) ∧ (zs.length = list.length) ∧ (zs.map (·.1) = list.set ((fnI list keepn : Int)).toNat (x74.1, x74.2.1, insL (x91.2.2.take j) x74.2.2))) (fun (⟨j, zs⟩ : Nat × (List ((Str × Int × List Str) × Value))) => x91.2.2.length - j) (0, z116) ?_ ?_
        ·
         exact ⟨(Sl.cons_ ha128 rfl rfl (Sl.cons_ ha128 rfl rfl (Sl.cons_ ha128 rfl rfl (Sl.cons_ ha128 rfl rfl (Sl.cons_ ha128 rfl rfl (Sl.cons_ ha128 rfl (int_eq (by omega)) (Sl.nil_ ha128))))))), hx120, (ho115.fin (by omega) (by omega) (by omega)), (hN117.fin (by omega) (by omega)), (by omega), (by omega), (by first | omega | (simp only [List.length_set]; omega)), (by rw [List.take_zero]; rw [hE118]; exact (set_self hx74).symm)⟩
        ·
         clear ha128 a128
         rintro ⟨j, zs⟩ a133 w129 ⟨ha133, hx130, hf131, hf132, hzl134, hj, hl, hF⟩
         have hzhx130 := hx130.size
         refine wp_seq ?_
         refine wp_region_lit ?_
         refine wl_val ha133 rfl rfl rfl (op_lss ha133 rfl rfl rfl) ?_
         intro a135 ha135; clear ha133 a133
         refine wpList_nil ?_
         refine then_n ?_
         refine wp_seq ?_
         by_cases c136 : ((j : Nat) : Int) < ((x91.2.2.length : Nat) : Int)
         ·
          rw [decide_eq_true c136] at ha135
          refine cond_t ha135 rfl ?_
          refine wp_skip ?_
          refine then_n ?_
          refine wp_seq ?_
          refine wp_block ?_
          refine wp_seq ?_
          refine wp_region_lit ?_
          obtain ⟨x137, hx137⟩ := get_ex (xs := x91.2.2) (j := j) (by first | omega | (simp only [List.length_set]; omega))
          obtain ⟨p138, c139, hi140, hc141, hr142, hs143⟩ := Rds.at_ b101 hx137
          obtain ⟨rfl, b144⟩ := inv_shStr hr142
          refine wl_val ha135 rfl rfl rfl (op_indexAddr ha135 rfl Try.underlying34 ti9 rfl rfl (by omega) hi140) ?_
          intro a145 ha145; clear ha135 a135
          refine wl_val ha145 rfl rfl rfl (op_loadH ha145 rfl Try.underlying9 rfl rfl (hc141.ext hx130) rfl) ?_
          intro a146 ha146; clear ha145 a145
          refine wl_val ha146 rfl rfl rfl (op_assign ha146 rfl rfl) ?_
          intro a147 ha147; clear ha146 a146
          refine wpList_nil ?_
          refine then_n ?_
          refine wp_region_lit ?_
          refine wl_val ha147 rfl rfl rfl (op_move ha147 rfl rfl) ?_
          intro a148 ha148; clear ha147 a147
          refine wl_val ha148 rfl rfl rfl (op_move ha148 rfl rfl) ?_
          intro a149 ha149; clear ha148 a148
          refine wl_val ha149 rfl rfl rfl (op_move ha149 rfl rfl) ?_
          intro a150 ha150; clear ha149 a149
          refine wl_val ha150 rfl rfl rfl (op_move ha150 rfl rfl) ?_
          intro a151 ha151; clear ha150 a150
          obtain ⟨x152, hx152⟩ := get_ex (xs := zs) (j := ((fnI list keepn : Int)).toNat) (by first | omega | (simp only [List.length_set]; omega))
          obtain ⟨p153, c154, hi155, hc156, hr157, hs158⟩ := Rds.at_ (hf131.rds pos_shCustN) hx152
          obtain ⟨rfl, b159, b160, b161⟩ := inv_shCustN hr157
          have hn162 : Own shStr 9 w68.heap.size w68.heap.size w129.heap.size w129 x152.2 x152.1.2.2 := hf132.get hx152
          obtain ⟨_, _⟩ : _ ∧ _ := hs158
          have hqax152 : (x74.1, x74.2.1, insL (x91.2.2.take j) x74.2.2) = x152.1 := Option.some.inj (by have h5 := abs_get hF hx152; rw [List.getElem?_set_self (by omega)] at h5; exact h5)
          have hqbx152 : x152.1.2.2.length = (x91.2.2.take j).length + x74.2.2.length := by rw [← hqax152]; show (insL _ _).length = _; rw [insL_len]; omega
          rw [List.length_take] at hqbx152
          refine wl_val ha151 rfl rfl rfl (op_indexAddr ha151 rfl Try.underlying25 ti55 rfl rfl (by omega) hi155) ?_
          intro a163 ha163; clear ha151 a151
          refine wl_val ha163 rfl rfl rfl (op_fieldAddr (sz := 0) ha163 rfl Try.underlying55 rfl rfl ti34 rfl) ?_
          intro a164 ha164; clear ha163 a163
          refine wl_val ha164 rfl rfl rfl (op_loadF (off := 2) ha164 rfl Try.underlying34 rfl rfl hc156 rfl) ?_
          intro a165 ha165; clear ha164 a164
          refine wl_val ha165 rfl rfl rfl (op_move ha165 rfl rfl) ?_
          intro a166 ha166; clear ha165 a165
          refine wl_callR ha166 rfl rfl rfl (op_call ha166 rfl cb69 rfl) (c_impl_withBike _ x152.2 x152.1.2.2 x137 (hn162.rds pos_shStr) (by first | assumption | omega | (simp; omega) | (intro c hc; have := cuOk_bd (cuB_el (by assumption) c hc); omega)) (by first | assumption | omega | (simp; omega) | (intro c hc; have := cuOk_bd (cuB_el (by assumption) c hc); omega))) ?_
          rintro v167 w168 he169 ho170 a171 ha171; clear ha166 a166
          have hx172 := hx130.trans' he169
          have hzhx172 := he169.size
          replace hf131 := hf131.ext he169
          replace hf132 := hf132.ext he169
          replace hn162 := hn162.ext he169
          replace hc156 := hc156.ext he169
          refine wl_val ha171 rfl rfl rfl (op_indexAddr ha171 rfl Try.underlying25 ti55 rfl rfl (by omega) hi155) ?_
          intro a173 ha173; clear ha171 a171
          refine wl_val ha173 rfl rfl rfl (op_fieldAddr (sz := 0) ha173 rfl Try.underlying55 rfl rfl ti34 rfl) ?_
          intro a174 ha174; clear ha173 a173
          refine wl_effS ha174 rfl rfl (op_setCells (s := shCustN) (off := 2) (ds := [v167]) (S' := fun _ => False) ha174 rfl ti34 rfl rfl ho170.cells1 rfl (by intro u hu; have hu : u ∈ ([v167] : List Value) := hu; simp only [List.mem_cons, List.mem_nil_iff, or_false] at hu; rcases hu with rfl <;> first | rfl | exact ho170.one) hf131 hi155 (by first | omega | (simp only [List.length_set]; omega)) (Nat.le_of_ble_eq_true rfl) hc156 rfl (mk_shCustN ((((x152.1.1, x152.1.2.1, (wbGo x137 x152.1.2.2 false)) : Str × Int × List Str), (v167 : Value))) (by first | assumption | omega | (simp; done) | (dsimp only; omega) | (dsimp only; assumption) | exact ⟨by omega, by omega⟩) (by first | assumption | omega | (simp; done) | (dsimp only; omega) | (dsimp only; assumption) | exact ⟨by omega, by omega⟩) ho170.one) (fun _ h => h.elim)) ?_
          rintro w175 ⟨ho177, hst176, hz178⟩
          have hx179 := hx172.stp hst176 (by intro q hq; have hq0 := hf131.lt q hq; omega)
          have hzhx179 := hst176.size
          first | replace hf132 := hf132.stpF flat_shStr hst176 hf131 rfl | replace hf132 := hf132.stp hst176 (by intro q hq; have hq0 := hf131.lt q hq; omega)
          first | replace hn162 := hn162.stp hst176 (by intro q hq; have hq0 := hf131.lt q hq; omega) | replace hn162 := hn162.stpF flat_shStr hst176 (hn162.ne hf131 rfl)
          replace ho170 := ho170.stp hst176 (by intro q hq; have hq0 := hf131.lt q hq; omega)
          clear hf131
          have hlsho177 : ((zs.set (((fnI list keepn : Int)).toNat) ((((x152.1.1, x152.1.2.1, (wbGo x137 x152.1.2.2 false)) : Str × Int × List Str), (v167 : Value))))).length = zs.length := List.length_set
          have hN180 : Nst shStr 9 (fun x : Str × Int × List Str => x.2.2) w68.heap.size w168.heap.size w175 ((zs.set (((fnI list keepn : Int)).toNat) ((((x152.1.1, x152.1.2.1, (wbGo x137 x152.1.2.2 false)) : Str × Int × List Str), (v167 : Value))))) := hf132.set ho170 (by omega) (by omega) (by omega)
          refine wpList_nil ?_
          refine block_n ?_
          refine then_n ?_
          refine wp_region_lit ?_
          refine wl_val ha174 rfl rfl rfl ((op_add ha174 rfl rfl rfl).int (IntWalk.i64_in _ (by omega))) ?_
          intro a181 ha181; clear ha174 a174
          refine wl_val ha181 rfl rfl rfl (op_move ha181 rfl rfl) ?_
          intro a182 ha182; clear ha181 a181
          refine wpList_nil ?_
          refine round_end (x := (j, zs)) ((j + 1), (zs.set (((fnI list keepn : Int)).toNat) ((((x152.1.1, x152.1.2.1, (wbGo x137 x152.1.2.2 false)) : Str × Int × List Str), (v167 : Value))))) ?_ ?_
          ·
           refine ⟨(Sl.cons_ ha182 rfl rfl (Sl.cons_ ha182 rfl rfl (Sl.cons_ ha182 rfl rfl (Sl.cons_ ha182 rfl rfl (Sl.cons_ ha182 rfl rfl (Sl.cons_ ha182 rfl (int_eq (by omega)) (Sl.nil_ ha182))))))), hx179, (ho177.fin (by omega) (by omega) (by omega)), (hN180.fin (by omega) (by omega)), (by omega), (by omega), (by simp only [List.length_set]; exact hl), (by rw [List.map_set, hF, List.set_set]; have hqv := hqax152; rw [take_snoc hx137, insL_snoc]; simp only [← hqv]; rw [wb_li (mc_new (by assumption) hx74 hx91 (by omega) hx137)])⟩
          ·show (x91.2.2.length - ((j + 1)) : Nat) < x91.2.2.length - j; omega
         ·
          rw [decide_eq_false c136] at ha135
          refine cond_f ha135 rfl ?_
          refine wp_exit ?_
          refine then_e ?_
          refine then_e ?_
          refine block_hit ?_
          refine then_n ?_
          refine wp_seq ?_
          refine dr_enter (fun wa_ wb_ => Stp wa_ wb_ (Value.ownBlock v112)) follows_mixed ?_
          intro w183 he184
          have hx185 := hx130.trans' he184
          have hzhx185 := he184.size
          replace hf131 := hf131.ext he184
          replace hf132 := hf132.ext he184
          have hs186 : Ext w183 w183 := Ext.rfl' _
          refine dr_val (i := 0) ha135 rfl (by kernel_rfl) (by kernel_rfl) (by kernel_rfl) rfl rfl rfl (Stp.of_ext hs186 _) (fun w' hw' => op_move ha135 rfl rfl) ?_
          intro a187 ha187; clear ha135 a135
          refine dr_val (i := 1) ha187 rfl (by kernel_rfl) (by kernel_rfl) (by kernel_rfl) rfl rfl rfl (Stp.of_ext hs186 _) (fun w' hw' => op_move ha187 rfl rfl) ?_
          intro a188 ha188; clear ha187 a187
          refine dr_val (i := 2) ha188 rfl (by kernel_rfl) (by kernel_rfl) (by kernel_rfl) rfl rfl rfl (Stp.of_ext hs186 _) (fun w' hw' => op_move ha188 rfl rfl) ?_
          intro a189 ha189; clear ha188 a188
          refine dr_val (i := 3) ha189 rfl (by kernel_rfl) (by kernel_rfl) (by kernel_rfl) rfl rfl rfl (Stp.of_ext hs186 _) (fun w' hw' => op_move ha189 rfl rfl) ?_
          intro a190 ha190; clear ha189 a189
          obtain ⟨x191, hx191⟩ := get_ex (xs := zs) (j := ((fnI list keepn : Int)).toNat) (by first | omega | (simp only [List.length_set]; omega))
          obtain ⟨p192, c193, hi194, hc195, hr196, hs197⟩ := Rds.at_ (hf131.rds pos_shCustN) hx191
          obtain ⟨rfl, b198, b199, b200⟩ := inv_shCustN hr196
          have hn201 : Own shStr 9 w68.heap.size w68.heap.size w129.heap.size w183 x191.2 x191.1.2.2 := hf132.get hx191
          obtain ⟨_, _⟩ : _ ∧ _ := hs197
          have hqax191 : (x74.1, x74.2.1, insL (x91.2.2.take j) x74.2.2) = x191.1 := Option.some.inj (by have h5 := abs_get hF hx191; rw [List.getElem?_set_self (by omega)] at h5; exact h5)
          have hqbx191 : x191.1.2.2.length = (x91.2.2.take j).length + x74.2.2.length := by rw [← hqax191]; show (insL _ _).length = _; rw [insL_len]; omega
          rw [List.length_take] at hqbx191
          refine dr_val (i := 4) ha190 rfl (by kernel_rfl) (by kernel_rfl) (by kernel_rfl) rfl rfl rfl (Stp.of_ext hs186 _) (fun w' hw' => op_indexAddr ha190 rfl Try.underlying25 ti55 rfl rfl (by omega) hi194) ?_
          intro a202 ha202; clear ha190 a190
          refine dr_val (i := 5) ha202 rfl (by kernel_rfl) (by kernel_rfl) (by kernel_rfl) rfl rfl rfl (Stp.of_ext hs186 _) (fun w' hw' => op_fieldAddr (sz := 0) ha202 rfl Try.underlying55 rfl rfl ti2 rfl) ?_
          intro a203 ha203; clear ha202 a202
          refine dr_val (i := 7) ha203 rfl (by kernel_rfl) (by kernel_rfl) (by kernel_rfl) rfl rfl rfl (Stp.of_ext hs186 _) (fun w' hw' => op_move ha203 rfl rfl) ?_
          intro a204 ha204; clear ha203 a203
          refine dr_val (i := 8) ha204 rfl (by kernel_rfl) (by kernel_rfl) (by kernel_rfl) rfl rfl rfl (Stp.of_ext hs186 _) (fun w' hw' => op_move ha204 rfl rfl) ?_
          intro a205 ha205; clear ha204 a204
          obtain ⟨x206, hx206⟩ := get_ex (xs := zs) (j := ((fnI list dropn : Int)).toNat) (by first | omega | (simp only [List.length_set]; omega))
          obtain ⟨p207, c208, hi209, hc210, hr211, hs212⟩ := Rds.at_ (hf131.rds pos_shCustN) hx206
          obtain ⟨rfl, b213, b214, b215⟩ := inv_shCustN hr211
          have hn216 : Own shStr 9 w68.heap.size w68.heap.size w129.heap.size w183 x206.2 x206.1.2.2 := hf132.get hx206
          obtain ⟨_, _⟩ : _ ∧ _ := hs212
          have hqax206 : x91 = x206.1 := Option.some.inj (by have h5 := abs_get hF hx206; rw [List.getElem?_set_ne (by omega), hx91] at h5; exact h5)
          refine dr_val (i := 9) ha205 rfl (by kernel_rfl) (by kernel_rfl) (by kernel_rfl) rfl rfl rfl (Stp.of_ext hs186 _) (fun w' hw' => op_indexAddr ha205 rfl Try.underlying25 ti55 rfl rfl (by omega) hi209) ?_
          intro a217 ha217; clear ha205 a205
          refine dr_val (i := 10) ha217 rfl (by kernel_rfl) (by kernel_rfl) (by kernel_rfl) rfl rfl rfl (Stp.of_ext hs186 _) (fun w' hw' => op_fieldAddr (sz := 0) ha217 rfl Try.underlying55 rfl rfl ti2 rfl) ?_
          intro a218 ha218; clear ha217 a217
          refine dr_two (i := 6) (j := 11) (by kernel_rfl) ?_ ?_
          ·
           refine po_to ha218 rfl rfl rfl rfl (op_loadF (off := 1) ha218 rfl Try.underlying2 rfl rfl (hc195.ext hs186) rfl) ?_
           intro a219 ha219; clear ha218 a218
           refine ⟨(Stp.of_ext hs186 _), ?_⟩
           refine dr_one (i := 11) (by kernel_rfl) ?_
           refine po_to ha219 rfl rfl rfl rfl (op_loadF (off := 1) ha219 rfl Try.underlying2 rfl rfl (hc210.ext hs186) rfl) ?_
           intro a220 ha220; clear ha219 a219
           refine ⟨(Stp.of_ext hs186 _), ?_⟩
           refine dr_val (i := 12) ha220 rfl (by kernel_rfl) (by kernel_rfl) (by kernel_rfl) rfl rfl rfl (Stp.of_ext hs186 _) (fun w' hw' => op_min ha220 rfl rfl rfl) ?_
           intro a221 ha221; clear ha220 a220
           refine dr_val (i := 13) ha221 rfl (by kernel_rfl) (by kernel_rfl) (by kernel_rfl) rfl rfl rfl (Stp.of_ext hs186 _) (fun w' hw' => op_indexAddr ha221 rfl Try.underlying25 ti55 rfl rfl (by omega) hi194) ?_
           intro a222 ha222; clear ha221 a221
           refine dr_val (i := 14) ha222 rfl (by kernel_rfl) (by kernel_rfl) (by kernel_rfl) rfl rfl rfl (Stp.of_ext hs186 _) (fun w' hw' => op_fieldAddr (sz := 0) ha222 rfl Try.underlying55 rfl rfl ti2 rfl) ?_
           intro a223 ha223; clear ha222 a222
           refine dr_one (i := 15) (by kernel_rfl) ?_
           replace hf131 := hf131.ext hs186
           replace hf132 := hf132.ext hs186
           replace hn201 := hn201.ext hs186
           replace hc195 := hc195.ext hs186
           replace hn216 := hn216.ext hs186
           replace hc210 := hc210.ext hs186
           refine po_effS ha223 rfl rfl rfl (op_setCells (s := shCustN) (off := 1) (ds := [.int .i64 (min x191.1.2.1 x206.1.2.1)]) (S' := fun _ => False) ha223 rfl ti2 rfl rfl rfl rfl (by simp [Value.oneCell']) hf131 hi194 (by first | omega | (simp only [List.length_set]; omega)) (Nat.le_of_ble_eq_true rfl) hc195 rfl (mk_shCustN ((((x191.1.1, (min x191.1.2.1 x206.1.2.1), x191.1.2.2) : Str × Int × List Str), (x191.2 : Value))) (by first | assumption | omega | (simp; done) | (dsimp only; omega) | (dsimp only; assumption) | exact ⟨by omega, by omega⟩) (by first | assumption | omega | (simp; done) | (dsimp only; omega) | (dsimp only; assumption) | exact ⟨by omega, by omega⟩) hn201.one) (fun _ h => h.elim)) ?_
           rintro w224 ⟨ho226, hst225, hz227⟩
           have hx228 := hx185.stp hst225 (by intro q hq; have hq0 := hf131.lt q hq; omega)
           have hzhx228 := hst225.size
           first | replace hf132 := hf132.stpF flat_shStr hst225 hf131 rfl | replace hf132 := hf132.stp hst225 (by intro q hq; have hq0 := hf131.lt q hq; omega)
           first | replace hn201 := hn201.stp hst225 (by intro q hq; have hq0 := hf131.lt q hq; omega) | replace hn201 := hn201.stpF flat_shStr hst225 (hn201.ne hf131 rfl)
           first | replace hn216 := hn216.stp hst225 (by intro q hq; have hq0 := hf131.lt q hq; omega) | replace hn216 := hn216.stpF flat_shStr hst225 (hn216.ne hf131 rfl)
           clear hf131
           have hlsho226 : ((zs.set (((fnI list keepn : Int)).toNat) ((((x191.1.1, (min x191.1.2.1 x206.1.2.1), x191.1.2.2) : Str × Int × List Str), (x191.2 : Value))))).length = zs.length := List.length_set
           have hN229 : Nst shStr 9 (fun x : Str × Int × List Str => x.2.2) w68.heap.size w129.heap.size w224 ((zs.set (((fnI list keepn : Int)).toNat) ((((x191.1.1, (min x191.1.2.1 x206.1.2.1), x191.1.2.2) : Str × Int × List Str), (x191.2 : Value))))) := hf132.stay hx191 rfl
           have hs230 := (Stp.of_ext hs186 (Value.ownBlock v112)).trans' hst225
           refine ⟨hs230, ?_⟩
           refine dr_end (by kernel_rfl) ?_
           refine then_n ?_
           refine wp_seq ?_
           refine dr_enter (fun wa_ wb_ => Stp wa_ wb_ (Value.ownBlock v112)) follows_mixed ?_
           intro w231 he232
           have hx233 := hx228.trans' he232
           have hzhx233 := he232.size
           replace hn201 := hn201.ext he232
           replace hn216 := hn216.ext he232
           replace ho226 := ho226.ext he232
           replace hN229 := hN229.ext he232
           have hs234 : Ext w231 w231 := Ext.rfl' _
           refine dr_val (i := 0) ha223 rfl (by kernel_rfl) (by kernel_rfl) (by kernel_rfl) rfl rfl rfl (Stp.of_ext hs234 _) (fun w' hw' => op_move ha223 rfl rfl) ?_
           intro a235 ha235; clear ha223 a223
           refine dr_val (i := 1) ha235 rfl (by kernel_rfl) (by kernel_rfl) (by kernel_rfl) rfl rfl rfl (Stp.of_ext hs234 _) (fun w' hw' => op_move ha235 rfl rfl) ?_
           intro a236 ha236; clear ha235 a235
           obtain ⟨u237, hu238, hpp240, hr239⟩ := Own.partw ho226 pos_shCustN (by first | omega | (simp only [List.length_set]; omega)) Try.underlying25 ti55 none (some (.int .i64 (((fnI list dropn : Int)).toNat : Nat))) 0 (((fnI list dropn : Int)).toNat) (.inl ⟨rfl, rfl⟩) (.inr ⟨.i64, rfl⟩) (by first | omega | (simp only [List.length_set]; omega)) (by first | omega | (simp only [List.length_set]; omega))
           replace hr239 := hr239.cast (ys := ((zs.set (((fnI list keepn : Int)).toNat) ((((x191.1.1, (min x191.1.2.1 x206.1.2.1), x191.1.2.2) : Str × Int × List Str), (x191.2 : Value))))).take (((fnI list dropn : Int)).toNat)) (by first | rw [List.take_length] | simp)
           refine dr_val (i := 2) ha236 rfl (by kernel_rfl) (by kernel_rfl) (by kernel_rfl) rfl rfl rfl (Stp.of_ext hs234 _) (fun w' hw' => op_slice_t (by omega) ha236 rfl rfl rfl hu238) ?_
           intro a241 ha241; clear ha236 a236
           refine dr_val (i := 3) ha241 rfl (by kernel_rfl) (by kernel_rfl) (by kernel_rfl) rfl rfl rfl (Stp.of_ext hs234 _) (fun w' hw' => op_move ha241 rfl rfl) ?_
           intro a242 ha242; clear ha241 a241
           refine dr_val (i := 4) ha242 rfl (by kernel_rfl) (by kernel_rfl) (by kernel_rfl) rfl rfl rfl (Stp.of_ext hs234 _) (fun w' hw' => op_move ha242 rfl rfl) ?_
           intro a243 ha243; clear ha242 a242
           refine dr_val (i := 5) ha243 rfl (by kernel_rfl) (by kernel_rfl) (by kernel_rfl) rfl rfl rfl (Stp.of_ext hs234 _) (fun w' hw' => (op_add ha243 rfl rfl rfl).int (IntWalk.i64_in _ (by omega))) ?_
           intro a244 ha244; clear ha243 a243
           obtain ⟨u245, hu246, hpp248, hr247⟩ := Own.partw ho226 pos_shCustN (by first | omega | (simp only [List.length_set]; omega)) Try.underlying25 ti55 (some (.int .i64 ((((fnI list dropn : Int)).toNat + 1) : Nat))) none ((((fnI list dropn : Int)).toNat + 1)) (((zs.set (((fnI list keepn : Int)).toNat) ((((x191.1.1, (min x191.1.2.1 x206.1.2.1), x191.1.2.2) : Str × Int × List Str), (x191.2 : Value))))).length) (.inr ⟨.i64, rfl⟩) (.inl ⟨rfl, rfl⟩) (by first | omega | (simp only [List.length_set]; omega)) (by first | omega | (simp only [List.length_set]; omega))
           replace hr247 := hr247.cast (ys := ((zs.set (((fnI list keepn : Int)).toNat) ((((x191.1.1, (min x191.1.2.1 x206.1.2.1), x191.1.2.2) : Str × Int × List Str), (x191.2 : Value))))).drop ((((fnI list dropn : Int)).toNat + 1))) (by first | rw [List.take_length] | simp)
           refine dr_val (i := 6) ha244 rfl (by kernel_rfl) (by kernel_rfl) (by kernel_rfl) rfl rfl rfl (Stp.of_ext hs234 _) (fun w' hw' => op_slice_f (by omega) ha244 rfl rfl rfl hu246) ?_
           intro a249 ha249; clear ha244 a244
           refine dr_one (i := 7) (by kernel_rfl) ?_
           replace hn201 := hn201.ext hs234
           replace hn216 := hn216.ext hs234
           replace ho226 := ho226.ext hs234
           replace hN229 := hN229.ext hs234
           replace hr239 := hr239.ext pos_shCustN hs234
           replace hr247 := hr247.ext pos_shCustN hs234
           refine po_eff ha249 rfl rfl rfl rfl (op_del (s := shCustN) (ts := #[]) ha249 rfl Try.underlying25 ti55 rfl rfl ho226 (by first | omega | (simp only [List.length_set]; omega)) hpp240 hpp248 (by first | omega | (simp only [List.length_set]; omega))) ?_
           rintro v250 w251 ⟨ho252, hst253, hob254, hz255⟩ a256 ha256; clear ha249 a249
           have hs257 := (Stp.of_ext hs234 (Value.ownBlock v112)).trans' hst253
           have hx258 := hx233.stp hst253 (by intro q hq; have hq0 := ho226.lt q hq; omega)
           have hzhx258 := hst253.size
           first | replace hn201 := hn201.stp hst253 (by intro q hq; have hq0 := ho226.lt q hq; omega) | replace hn201 := hn201.stpF flat_shStr hst253 (hn201.ne ho226 rfl)
           first | replace hn216 := hn216.stp hst253 (by intro q hq; have hq0 := ho226.lt q hq; omega) | replace hn216 := hn216.stpF flat_shStr hst253 (hn216.ne ho226 rfl)
           first | replace hN229 := hN229.stpF flat_shStr hst253 ho226 rfl | replace hN229 := hN229.stp hst253 (by intro q hq; have hq0 := ho226.lt q hq; omega)
           clear ho226
           have hN259 : Nst shStr 9 (fun x : Str × Int × List Str => x.2.2) w68.heap.size w129.heap.size w251 ((((zs.set (((fnI list keepn : Int)).toNat) ((((x191.1.1, (min x191.1.2.1 x206.1.2.1), x191.1.2.2) : Str × Int × List Str), (x191.2 : Value))))).take (((fnI list dropn : Int)).toNat - 0) ++ (((zs.set (((fnI list keepn : Int)).toNat) ((((x191.1.1, (min x191.1.2.1 x206.1.2.1), x191.1.2.2) : Str × Int × List Str), (x191.2 : Value))))).drop ((((fnI list dropn : Int)).toNat + 1))).take (((zs.set (((fnI list keepn : Int)).toNat) ((((x191.1.1, (min x191.1.2.1 x206.1.2.1), x191.1.2.2) : Str × Int × List Str), (x191.2 : Value))))).length - (((fnI list dropn : Int)).toNat + 1)))) := hN229.sub (del_sub (by omega))
           refine ⟨hs257, ?_⟩
           refine dr_val (i := 8) ha256 rfl (by kernel_rfl) (by kernel_rfl) (by kernel_rfl) rfl rfl rfl hs257 (fun w' hw' => op_assign ha256 rfl rfl) ?_
           intro a260 ha260; clear ha256 a256
           refine dr_val (i := 9) ha260 rfl (by kernel_rfl) (by kernel_rfl) (by kernel_rfl) rfl rfl rfl hs257 (fun w' hw' => op_assign ha260 rfl rfl) ?_
           intro a261 ha261; clear ha260 a260
           refine dr_end (by kernel_rfl) ?_
           refine then_n ?_
           refine wp_ret ?_
           refine ret2 ha261 rfl rfl rfl ?_
           clear ha261 a261
           obtain ⟨hr, hr2⟩ := mcC_0 c11 c21 c30 c50 c59 c65 hx74 hx91 (by omega)
           refine ret_mk hx258 ⟨v250, (((zs.set (((fnI list keepn : Int)).toNat) ((((x191.1.1, (min x191.1.2.1 x206.1.2.1), x191.1.2.2) : Str × Int × List Str), (x191.2 : Value))))).take (((fnI list dropn : Int)).toNat - 0) ++ (((zs.set (((fnI list keepn : Int)).toNat) ((((x191.1.1, (min x191.1.2.1 x206.1.2.1), x191.1.2.2) : Str × Int × List Str), (x191.2 : Value))))).drop ((((fnI list dropn : Int)).toNat + 1))).take (((zs.set (((fnI list keepn : Int)).toNat) ((((x191.1.1, (min x191.1.2.1 x206.1.2.1), x191.1.2.2) : Str × Int × List Str), (x191.2 : Value))))).length - (((fnI list dropn : Int)).toNat + 1))), (tup2_eq rfl (int_eq (by exact hr.symm))), ho252.fin (by omega) (by omega) (by omega), hN259.fin (by omega) (by omega), ?_⟩
           ·
            rw [List.take_of_length_le (by omega)] at hF
            rw [hr2, List.map_append, List.map_take, List.map_take, List.map_drop, List.map_set, hF, List.set_set]
            rw [List.take_of_length_le (by omega)] at hqax191
            simp only [← hqax191, ← hqax206]
            unfold mcO
            rw [Nat.sub_zero]
            congr 1
            exact List.take_of_length_le (by simp only [List.length_drop, List.length_set]; omega)
          ·
           refine po_to ha218 rfl rfl rfl rfl (op_loadF (off := 1) ha218 rfl Try.underlying2 rfl rfl (hc210.ext hs186) rfl) ?_
           intro a262 ha262; clear ha218 a218
           refine ⟨(Stp.of_ext hs186 _), ?_⟩
           refine dr_one (i := 6) (by kernel_rfl) ?_
           refine po_to ha262 rfl rfl rfl rfl (op_loadF (off := 1) ha262 rfl Try.underlying2 rfl rfl (hc195.ext hs186) rfl) ?_
           intro a263 ha263; clear ha262 a262
           refine ⟨(Stp.of_ext hs186 _), ?_⟩
           refine dr_val (i := 12) ha263 rfl (by kernel_rfl) (by kernel_rfl) (by kernel_rfl) rfl rfl rfl (Stp.of_ext hs186 _) (fun w' hw' => op_min ha263 rfl rfl rfl) ?_
           intro a264 ha264; clear ha263 a263
           refine dr_val (i := 13) ha264 rfl (by kernel_rfl) (by kernel_rfl) (by kernel_rfl) rfl rfl rfl (Stp.of_ext hs186 _) (fun w' hw' => op_indexAddr ha264 rfl Try.underlying25 ti55 rfl rfl (by omega) hi194) ?_
           intro a265 ha265; clear ha264 a264
           refine dr_val (i := 14) ha265 rfl (by kernel_rfl) (by kernel_rfl) (by kernel_rfl) rfl rfl rfl (Stp.of_ext hs186 _) (fun w' hw' => op_fieldAddr (sz := 0) ha265 rfl Try.underlying55 rfl rfl ti2 rfl) ?_
           intro a266 ha266; clear ha265 a265
           refine dr_one (i := 15) (by kernel_rfl) ?_
           replace hf131 := hf131.ext hs186
           replace hf132 := hf132.ext hs186
           replace hn201 := hn201.ext hs186
           replace hc195 := hc195.ext hs186
           replace hn216 := hn216.ext hs186
           replace hc210 := hc210.ext hs186
           refine po_effS ha266 rfl rfl rfl (op_setCells (s := shCustN) (off := 1) (ds := [.int .i64 (min x191.1.2.1 x206.1.2.1)]) (S' := fun _ => False) ha266 rfl ti2 rfl rfl rfl rfl (by simp [Value.oneCell']) hf131 hi194 (by first | omega | (simp only [List.length_set]; omega)) (Nat.le_of_ble_eq_true rfl) hc195 rfl (mk_shCustN ((((x191.1.1, (min x191.1.2.1 x206.1.2.1), x191.1.2.2) : Str × Int × List Str), (x191.2 : Value))) (by first | assumption | omega | (simp; done) | (dsimp only; omega) | (dsimp only; assumption) | exact ⟨by omega, by omega⟩) (by first | assumption | omega | (simp; done) | (dsimp only; omega) | (dsimp only; assumption) | exact ⟨by omega, by omega⟩) hn201.one) (fun _ h => h.elim)) ?_
           rintro w267 ⟨ho269, hst268, hz270⟩
           have hx271 := hx185.stp hst268 (by intro q hq; have hq0 := hf131.lt q hq; omega)
           have hzhx271 := hst268.size
           first | replace hf132 := hf132.stpF flat_shStr hst268 hf131 rfl | replace hf132 := hf132.stp hst268 (by intro q hq; have hq0 := hf131.lt q hq; omega)
           first | replace hn201 := hn201.stp hst268 (by intro q hq; have hq0 := hf131.lt q hq; omega) | replace hn201 := hn201.stpF flat_shStr hst268 (hn201.ne hf131 rfl)
           first | replace hn216 := hn216.stp hst268 (by intro q hq; have hq0 := hf131.lt q hq; omega) | replace hn216 := hn216.stpF flat_shStr hst268 (hn216.ne hf131 rfl)
           clear hf131
           have hlsho269 : ((zs.set (((fnI list keepn : Int)).toNat) ((((x191.1.1, (min x191.1.2.1 x206.1.2.1), x191.1.2.2) : Str × Int × List Str), (x191.2 : Value))))).length = zs.length := List.length_set
           have hN272 : Nst shStr 9 (fun x : Str × Int × List Str => x.2.2) w68.heap.size w129.heap.size w267 ((zs.set (((fnI list keepn : Int)).toNat) ((((x191.1.1, (min x191.1.2.1 x206.1.2.1), x191.1.2.2) : Str × Int × List Str), (x191.2 : Value))))) := hf132.stay hx191 rfl
           have hs273 := (Stp.of_ext hs186 (Value.ownBlock v112)).trans' hst268
           refine ⟨hs273, ?_⟩
           refine dr_end (by kernel_rfl) ?_
           refine then_n ?_
           refine wp_seq ?_
           refine dr_enter (fun wa_ wb_ => Stp wa_ wb_ (Value.ownBlock v112)) follows_mixed ?_
           intro w274 he275
           have hx276 := hx271.trans' he275
           have hzhx276 := he275.size
           replace hn201 := hn201.ext he275
           replace hn216 := hn216.ext he275
           replace ho269 := ho269.ext he275
           replace hN272 := hN272.ext he275
           have hs277 : Ext w274 w274 := Ext.rfl' _
           refine dr_val (i := 0) ha266 rfl (by kernel_rfl) (by kernel_rfl) (by kernel_rfl) rfl rfl rfl (Stp.of_ext hs277 _) (fun w' hw' => op_move ha266 rfl rfl) ?_
           intro a278 ha278; clear ha266 a266
           refine dr_val (i := 1) ha278 rfl (by kernel_rfl) (by kernel_rfl) (by kernel_rfl) rfl rfl rfl (Stp.of_ext hs277 _) (fun w' hw' => op_move ha278 rfl rfl) ?_
           intro a279 ha279; clear ha278 a278
           obtain ⟨u280, hu281, hpp283, hr282⟩ := Own.partw ho269 pos_shCustN (by first | omega | (simp only [List.length_set]; omega)) Try.underlying25 ti55 none (some (.int .i64 (((fnI list dropn : Int)).toNat : Nat))) 0 (((fnI list dropn : Int)).toNat) (.inl ⟨rfl, rfl⟩) (.inr ⟨.i64, rfl⟩) (by first | omega | (simp only [List.length_set]; omega)) (by first | omega | (simp only [List.length_set]; omega))
           replace hr282 := hr282.cast (ys := ((zs.set (((fnI list keepn : Int)).toNat) ((((x191.1.1, (min x191.1.2.1 x206.1.2.1), x191.1.2.2) : Str × Int × List Str), (x191.2 : Value))))).take (((fnI list dropn : Int)).toNat)) (by first | rw [List.take_length] | simp)
           refine dr_val (i := 2) ha279 rfl (by kernel_rfl) (by kernel_rfl) (by kernel_rfl) rfl rfl rfl (Stp.of_ext hs277 _) (fun w' hw' => op_slice_t (by omega) ha279 rfl rfl rfl hu281) ?_
           intro a284 ha284; clear ha279 a279
           refine dr_val (i := 3) ha284 rfl (by kernel_rfl) (by kernel_rfl) (by kernel_rfl) rfl rfl rfl (Stp.of_ext hs277 _) (fun w' hw' => op_move ha284 rfl rfl) ?_
           intro a285 ha285; clear ha284 a284
           refine dr_val (i := 4) ha285 rfl (by kernel_rfl) (by kernel_rfl) (by kernel_rfl) rfl rfl rfl (Stp.of_ext hs277 _) (fun w' hw' => op_move ha285 rfl rfl) ?_
           intro a286 ha286; clear ha285 a285
           refine dr_val (i := 5) ha286 rfl (by kernel_rfl) (by kernel_rfl) (by kernel_rfl) rfl rfl rfl (Stp.of_ext hs277 _) (fun w' hw' => (op_add ha286 rfl rfl rfl).int (IntWalk.i64_in _ (by omega))) ?_
           intro a287 ha287; clear ha286 a286
           obtain ⟨u288, hu289, hpp291, hr290⟩ := Own.partw ho269 pos_shCustN (by first | omega | (simp only [List.length_set]; omega)) Try.underlying25 ti55 (some (.int .i64 ((((fnI list dropn : Int)).toNat + 1) : Nat))) none ((((fnI list dropn : Int)).toNat + 1)) (((zs.set (((fnI list keepn : Int)).toNat) ((((x191.1.1, (min x191.1.2.1 x206.1.2.1), x191.1.2.2) : Str × Int × List Str), (x191.2 : Value))))).length) (.inr ⟨.i64, rfl⟩) (.inl ⟨rfl, rfl⟩) (by first | omega | (simp only [List.length_set]; omega)) (by first | omega | (simp only [List.length_set]; omega))
           replace hr290 := hr290.cast (ys := ((zs.set (((fnI list keepn : Int)).toNat) ((((x191.1.1, (min x191.1.2.1 x206.1.2.1), x191.1.2.2) : Str × Int × List Str), (x191.2 : Value))))).drop ((((fnI list dropn : Int)).toNat + 1))) (by first | rw [List.take_length] | simp)
           refine dr_val (i := 6) ha287 rfl (by kernel_rfl) (by kernel_rfl) (by kernel_rfl) rfl rfl rfl (Stp.of_ext hs277 _) (fun w' hw' => op_slice_f (by omega) ha287 rfl rfl rfl hu289) ?_
           intro a292 ha292; clear ha287 a287
           refine dr_one (i := 7) (by kernel_rfl) ?_
           replace hn201 := hn201.ext hs277
           replace hn216 := hn216.ext hs277
           replace ho269 := ho269.ext hs277
           replace hN272 := hN272.ext hs277
           replace hr282 := hr282.ext pos_shCustN hs277
           replace hr290 := hr290.ext pos_shCustN hs277
           refine po_eff ha292 rfl rfl rfl rfl (op_del (s := shCustN) (ts := #[]) ha292 rfl Try.underlying25 ti55 rfl rfl ho269 (by first | omega | (simp only [List.length_set]; omega)) hpp283 hpp291 (by first | omega | (simp only [List.length_set]; omega))) ?_
           rintro v293 w294 ⟨ho295, hst296, hob297, hz298⟩ a299 ha299; clear ha292 a292
           have hs300 := (Stp.of_ext hs277 (Value.ownBlock v112)).trans' hst296
           have hx301 := hx276.stp hst296 (by intro q hq; have hq0 := ho269.lt q hq; omega)
           have hzhx301 := hst296.size
           first | replace hn201 := hn201.stp hst296 (by intro q hq; have hq0 := ho269.lt q hq; omega) | replace hn201 := hn201.stpF flat_shStr hst296 (hn201.ne ho269 rfl)
           first | replace hn216 := hn216.stp hst296 (by intro q hq; have hq0 := ho269.lt q hq; omega) | replace hn216 := hn216.stpF flat_shStr hst296 (hn216.ne ho269 rfl)
           first | replace hN272 := hN272.stpF flat_shStr hst296 ho269 rfl | replace hN272 := hN272.stp hst296 (by intro q hq; have hq0 := ho269.lt q hq; omega)
           clear ho269
           have hN302 : Nst shStr 9 (fun x : Str × Int × List Str => x.2.2) w68.heap.size w129.heap.size w294 ((((zs.set (((fnI list keepn : Int)).toNat) ((((x191.1.1, (min x191.1.2.1 x206.1.2.1), x191.1.2.2) : Str × Int × List Str), (x191.2 : Value))))).take (((fnI list dropn : Int)).toNat - 0) ++ (((zs.set (((fnI list keepn : Int)).toNat) ((((x191.1.1, (min x191.1.2.1 x206.1.2.1), x191.1.2.2) : Str × Int × List Str), (x191.2 : Value))))).drop ((((fnI list dropn : Int)).toNat + 1))).take (((zs.set (((fnI list keepn : Int)).toNat) ((((x191.1.1, (min x191.1.2.1 x206.1.2.1), x191.1.2.2) : Str × Int × List Str), (x191.2 : Value))))).length - (((fnI list dropn : Int)).toNat + 1)))) := hN272.sub (del_sub (by omega))
           refine ⟨hs300, ?_⟩
           refine dr_val (i := 8) ha299 rfl (by kernel_rfl) (by kernel_rfl) (by kernel_rfl) rfl rfl rfl hs300 (fun w' hw' => op_assign ha299 rfl rfl) ?_
           intro a303 ha303; clear ha299 a299
           refine dr_val (i := 9) ha303 rfl (by kernel_rfl) (by kernel_rfl) (by kernel_rfl) rfl rfl rfl hs300 (fun w' hw' => op_assign ha303 rfl rfl) ?_
           intro a304 ha304; clear ha303 a303
           refine dr_end (by kernel_rfl) ?_
           refine then_n ?_
           refine wp_ret ?_
           refine ret2 ha304 rfl rfl rfl ?_
           clear ha304 a304
           obtain ⟨hr, hr2⟩ := mcC_0 c11 c21 c30 c50 c59 c65 hx74 hx91 (by omega)
           refine ret_mk hx301 ⟨v293, (((zs.set (((fnI list keepn : Int)).toNat) ((((x191.1.1, (min x191.1.2.1 x206.1.2.1), x191.1.2.2) : Str × Int × List Str), (x191.2 : Value))))).take (((fnI list dropn : Int)).toNat - 0) ++ (((zs.set (((fnI list keepn : Int)).toNat) ((((x191.1.1, (min x191.1.2.1 x206.1.2.1), x191.1.2.2) : Str × Int × List Str), (x191.2 : Value))))).drop ((((fnI list dropn : Int)).toNat + 1))).take (((zs.set (((fnI list keepn : Int)).toNat) ((((x191.1.1, (min x191.1.2.1 x206.1.2.1), x191.1.2.2) : Str × Int × List Str), (x191.2 : Value))))).length - (((fnI list dropn : Int)).toNat + 1))), (tup2_eq rfl (int_eq (by exact hr.symm))), ho295.fin (by omega) (by omega) (by omega), hN302.fin (by omega) (by omega), ?_⟩
           ·
            rw [List.take_of_length_le (by omega)] at hF
            rw [hr2, List.map_append, List.map_take, List.map_take, List.map_drop, List.map_set, hF, List.set_set]
            rw [List.take_of_length_le (by omega)] at hqax191
            simp only [← hqax191, ← hqax206]
            unfold mcO
            rw [Nat.sub_zero]
            congr 1
            exact List.take_of_length_le (by simp only [List.length_drop, List.length_set]; omega)
   ·
    rw [c30] at ha29
    refine cond_t ha29 rfl ?_
    refine wp_seq ?_
    refine wp_region_lit ?_
    refine wl_val ha29 rfl rfl rfl (op_assign ha29 rfl rfl) ?_
    intro a305 ha305; clear ha29 a29
    refine wl_val ha305 rfl rfl rfl (op_assign ha305 rfl rfl) ?_
    intro a306 ha306; clear ha305 a305
    refine wpList_nil ?_
    refine then_n ?_
    refine wp_ret ?_
    refine then_r ?_
    refine ret2 ha306 rfl rfl rfl ?_
    clear ha306 a306
    have hr := mcC_1 (xs := list) (p := keepn) (q := dropn) (.inr (.inr c30))
    have hr2 := mcL_bad (by rw [hr]; decide)
    refine ret_mk hx27 ⟨(.slice none 0 0), [], (tup2_eq rfl (int_eq (by exact hr.symm))), Own.nil _ _ _ _ _ _, Nst.nil _ _ _ _ _ _, ?_⟩
    ·
     rw [hr2]; rfl
  ·
   rw [c21] at ha20
   refine wl_skip ha20 rfl rfl rfl ?_
   intro a307 ha307; clear ha20 a20
   refine wl_skip ha307 rfl rfl rfl ?_
   intro a308 ha308; clear ha307 a307
   refine wl_skip ha308 rfl rfl rfl ?_
   intro a309 ha309; clear ha308 a308
   refine wl_val ha309 rfl rfl rfl (op_pick_t ha309 rfl rfl rfl) ?_
   intro a310 ha310; clear ha309 a309
   refine wpList_nil ?_
   refine then_n ?_
   refine cond_t ha310 rfl ?_
   refine wp_seq ?_
   refine wp_region_lit ?_
   refine wl_val ha310 rfl rfl rfl (op_assign ha310 rfl rfl) ?_
   intro a311 ha311; clear ha310 a310
   refine wl_val ha311 rfl rfl rfl (op_assign ha311 rfl rfl) ?_
   intro a312 ha312; clear ha311 a311
   refine wpList_nil ?_
   refine then_n ?_
   refine wp_ret ?_
   refine then_r ?_
   refine ret2 ha312 rfl rfl rfl ?_
   clear ha312 a312
   have hr := mcC_1 (xs := list) (p := keepn) (q := dropn) (.inr (.inl c21))
   have hr2 := mcL_bad (by rw [hr]; decide)
   refine ret_mk hx17 ⟨(.slice none 0 0), [], (tup2_eq rfl (int_eq (by exact hr.symm))), Own.nil _ _ _ _ _ _, Nst.nil _ _ _ _ _ _, ?_⟩
   ·
    rw [hr2]; rfl
 ·
  rw [c11] at ha10
  refine wl_skip ha10 rfl rfl rfl ?_
  intro a313 ha313; clear ha10 a10
  refine wl_skip ha313 rfl rfl rfl ?_
  intro a314 ha314; clear ha313 a313
  refine wl_skip ha314 rfl rfl rfl ?_
  intro a315 ha315; clear ha314 a314
  refine wl_val ha315 rfl rfl rfl (op_pick_t ha315 rfl rfl rfl) ?_
  intro a316 ha316; clear ha315 a315
  refine wl_val ha316 rfl rfl rfl (op_move ha316 rfl rfl) ?_
  intro a317 ha317; clear ha316 a316
  refine wl_skip ha317 rfl rfl rfl ?_
  intro a318 ha318; clear ha317 a317
  refine wl_skip ha318 rfl rfl rfl ?_
  intro a319 ha319; clear ha318 a318
  refine wl_skip ha319 rfl rfl rfl ?_
  intro a320 ha320; clear ha319 a319
  refine wl_val ha320 rfl rfl rfl (op_pick_t ha320 rfl rfl rfl) ?_
  intro a321 ha321; clear ha320 a320
  refine wpList_nil ?_
  refine then_n ?_
  refine cond_t ha321 rfl ?_
  refine wp_seq ?_
  refine wp_region_lit ?_
  refine wl_val ha321 rfl rfl rfl (op_assign ha321 rfl rfl) ?_
  intro a322 ha322; clear ha321 a321
  refine wl_val ha322 rfl rfl rfl (op_assign ha322 rfl rfl) ?_
  intro a323 ha323; clear ha322 a322
  refine wpList_nil ?_
  refine then_n ?_
  refine wp_ret ?_
  refine then_r ?_
  refine ret2 ha323 rfl rfl rfl ?_
  clear ha323 a323
  have hr := mcC_1 (xs := list) (p := keepn) (q := dropn) (.inl c11)
  have hr2 := mcL_bad (by rw [hr]; decide)
  refine ret_mk hx8 ⟨(.slice none 0 0), [], (tup2_eq rfl (int_eq (by exact hr.symm))), Own.nil _ _ _ _ _ _, Nst.nil _ _ _ _ _ _, ?_⟩
  ·
   rw [hr2]; rfl

theorem c_spec_MergeCustomers (w0 : World) (v_list : Value) (list : List (Str × Int × List Str)) {S_list : Nat → Prop} (keepn : Str) (dropn : Str) (h_list : Rds shCust S_list w0 v_list list) (g0 : list.length ≤ 1048576) (g1 : keepn.length ≤ 9223372036854775807) (g2 : dropn.length ≤ 9223372036854775807) :
  Calls Try.prog 34 #[v_list, St keepn, St dropn] w0 (Ret w0 (fun v w1 => ∃ r0 z0, v = .tuple #[r0, .int .i64 (mcC list keepn dropn)] ∧ Own shCustN 55 w0.heap.size w0.heap.size w1.heap.size w1 r0 z0 ∧ Nst shStr 9 (fun x : Str × Int × List Str => x.2.2) w0.heap.size w1.heap.size w1 z0 ∧ z0.map (·.1) = (mcL list keepn dropn))) := by
 refine enter (N := 110) Try.func34 rfl rfl rfl ?_
 intro a0 ha0
 have hx0 := Ext.rfl' w0
 have hl_list := h_list.length_le
 have hf_keepn : -1 ≤ fnI list keepn ∧ fnI list keepn < list.length := fdF_bd (namB keepn) list
 have hf_dropn : -1 ≤ fnI list dropn ∧ fnI list dropn < list.length := fdF_bd (namB dropn) list
 refine wp_seq ?_
 refine wp_region_lit ?_
 refine wl_val ha0 rfl rfl rfl (op_assign ha0 rfl rfl) ?_
 intro a1 ha1; clear ha0 a0
 refine wl_val ha1 rfl rfl rfl (op_assign ha1 rfl rfl) ?_
 intro a2 ha2; clear ha1 a1
 refine wpList_nil ?_
 refine then_n ?_
 refine wp_seq ?_
 refine wp_seq ?_
 refine wp_region_lit ?_
 refine wl_val ha2 rfl rfl rfl (op_move ha2 rfl rfl) ?_
 intro a3 ha3; clear ha2 a2
 refine wl_callR ha3 rfl rfl rfl (op_call ha3 rfl cb15 rfl) (c_spec_AreCustomers _ v_list list (h_list.ext pos_shCust hx0) (by first | assumption | omega | (simp; omega) | (intro c hc; have := cuOk_bd (cuB_el (by assumption) c hc); omega))) ?_
 rintro v4 w5 he6 rfl a7 ha7; clear ha3 a3
 have hx8 := hx0.trans' he6
 have hzhx8 := he6.size
 refine wl_val ha7 rfl rfl rfl (op_not ha7 rfl rfl) ?_
 intro a9 ha9; clear ha7 a7
 refine wl_val ha9 rfl rfl rfl (op_move ha9 rfl rfl) ?_
 intro a10 ha10; clear ha9 a9
 rcases Bool.eq_false_or_eq_true (cuB list) with c11 | c11
 ·
  rw [c11] at ha10
  have hlenc11 := cuB_len c11
  have hcuc11 := cuB_el c11
  refine wl_val ha10 rfl rfl rfl (op_move ha10 rfl rfl) ?_
  intro a12 ha12; clear ha10 a10
  refine wl_callR ha12 rfl rfl rfl (op_call ha12 rfl cb52 rfl) (c_spec_IsWord _ keepn (by first | assumption | omega | (simp; omega) | (intro c hc; have := cuOk_bd (cuB_el (by assumption) c hc); omega))) ?_
  rintro v13 w14 he15 rfl a16 ha16; clear ha12 a12
  have hx17 := hx8.trans' he15
  have hzhx17 := he15.size
  refine wl_val ha16 rfl rfl rfl (op_not ha16 rfl rfl) ?_
  intro a18 ha18; clear ha16 a16
  refine wl_val ha18 rfl rfl rfl (op_pick_f ha18 rfl rfl rfl) ?_
  intro a19 ha19; clear ha18 a18
  refine wl_val ha19 rfl rfl rfl (op_move ha19 rfl rfl) ?_
  intro a20 ha20; clear ha19 a19
  rcases Bool.eq_false_or_eq_true (wordB keepn) with c21 | c21
  ·
   rw [c21] at ha20
   refine wl_val ha20 rfl rfl rfl (op_move ha20 rfl rfl) ?_
   intro a22 ha22; clear ha20 a20
   refine wl_callR ha22 rfl rfl rfl (op_call ha22 rfl cb52 rfl) (c_spec_IsWord _ dropn (by first | assumption | omega | (simp; omega) | (intro c hc; have := cuOk_bd (cuB_el (by assumption) c hc); omega))) ?_
   rintro v23 w24 he25 rfl a26 ha26; clear ha22 a22
   have hx27 := hx17.trans' he25
   have hzhx27 := he25.size
   refine wl_val ha26 rfl rfl rfl (op_not ha26 rfl rfl) ?_
   intro a28 ha28; clear ha26 a26
   refine wl_val ha28 rfl rfl rfl (op_pick_f ha28 rfl rfl rfl) ?_
   intro a29 ha29; clear ha28 a28
   refine wpList_nil ?_
   refine then_n ?_
   rcases Bool.eq_false_or_eq_true (wordB dropn) with c30 | c30
   ·
    rw [c30] at ha29
    refine cond_f ha29 rfl ?_
    refine wp_skip ?_
    refine then_n ?_
    refine wp_seq ?_
    refine wp_region_lit ?_
    refine wl_val ha29 rfl rfl rfl (op_move ha29 rfl rfl) ?_
    intro a31 ha31; clear ha29 a29
    refine wl_val ha31 rfl rfl rfl (op_move ha31 rfl rfl) ?_
    intro a32 ha32; clear ha31 a31
    refine wl_callR ha32 rfl rfl rfl (op_call ha32 rfl cb64 rfl) (c_spec_l30Find _ v_list list keepn (h_list.ext pos_shCust hx27)) ?_
    rintro v33 w34 he35 rfl a36 ha36; clear ha32 a32
    have hx37 := hx27.trans' he35
    have hzhx37 := he35.size
    refine wl_val ha36 rfl rfl rfl (op_move ha36 rfl rfl) ?_
    intro a38 ha38; clear ha36 a36
    refine wl_val ha38 rfl rfl rfl (op_move ha38 rfl rfl) ?_
    intro a39 ha39; clear ha38 a38
    refine wl_callR ha39 rfl rfl rfl (op_call ha39 rfl cb64 rfl) (c_spec_l30Find _ v_list list dropn (h_list.ext pos_shCust hx37)) ?_
    rintro v40 w41 he42 rfl a43 ha43; clear ha39 a39
    have hx44 := hx37.trans' he42
    have hzhx44 := he42.size
    refine wl_val ha43 rfl rfl rfl (op_assign ha43 rfl rfl) ?_
    intro a45 ha45; clear ha43 a43
    refine wl_val ha45 rfl rfl rfl (op_assign ha45 rfl rfl) ?_
    intro a46 ha46; clear ha45 a45
    refine wpList_nil ?_
    refine then_n ?_
    refine wp_seq ?_
    refine wp_block ?_
    refine wp_seq ?_
    refine wp_region_lit ?_
    refine wl_val ha46 rfl rfl rfl (op_move ha46 rfl rfl) ?_
    intro a47 ha47; clear ha46 a46
    refine wl_val ha47 rfl rfl rfl (op_lss ha47 rfl rfl rfl) ?_
    intro a48 ha48; clear ha47 a47
    refine wl_val ha48 rfl rfl rfl (op_move ha48 rfl rfl) ?_
    intro a49 ha49; clear ha48 a48
    by_cases c50 : (fnI list keepn : Int) < (0 : Int)
    ·
     rw [decide_eq_true c50] at ha49
     refine wl_skip ha49 rfl rfl rfl ?_
     intro a51 ha51; clear ha49 a49
     refine wl_skip ha51 rfl rfl rfl ?_
     intro a52 ha52; clear ha51 a51
     refine wl_val ha52 rfl rfl rfl (op_pick_t ha52 rfl rfl rfl) ?_
     intro a53 ha53; clear ha52 a52
     refine wl_val ha53 rfl rfl rfl (op_assign ha53 rfl rfl) ?_
     intro a54 ha54; clear ha53 a53
     refine wpList_nil ?_
     refine then_n ?_
     refine cond_t ha54 rfl ?_
     refine wp_seq ?_
     refine wp_region_lit ?_
     refine wl_val ha54 rfl rfl rfl (op_assign ha54 rfl rfl) ?_
     intro a55 ha55; clear ha54 a54
     refine wl_val ha55 rfl rfl rfl (op_assign ha55 rfl rfl) ?_
     intro a56 ha56; clear ha55 a55
     refine wpList_nil ?_
     refine then_n ?_
     refine wp_ret ?_
     refine block_r ?_
     refine then_r ?_
     refine ret2 ha56 rfl rfl rfl ?_
     clear ha56 a56
     have hr := mcC_4 c11 c21 c30 (.inl c50)
     have hr2 := mcL_bad (by rw [hr]; decide)
     refine ret_mk hx44 ⟨(.slice none 0 0), [], (tup2_eq rfl (int_eq (by exact hr.symm))), Own.nil _ _ _ _ _ _, Nst.nil _ _ _ _ _ _, ?_⟩
     ·
      rw [hr2]; rfl
    ·
     rw [decide_eq_false c50] at ha49
     refine wl_val ha49 rfl rfl rfl (op_move ha49 rfl rfl) ?_
     intro a57 ha57; clear ha49 a49
     refine wl_val ha57 rfl rfl rfl (op_lss ha57 rfl rfl rfl) ?_
     intro a58 ha58; clear ha57 a57
     refine wl_val ha58 rfl rfl rfl (op_pick_f ha58 rfl rfl rfl) ?_
     intro a59 ha59; clear ha58 a58
     refine wl_val ha59 rfl rfl rfl (op_assign ha59 rfl rfl) ?_
     intro a60 ha60; clear ha59 a59
     refine wpList_nil ?_
     refine then_n ?_
     by_cases c61 : (fnI list dropn : Int) < (0 : Int)
     ·
      rw [decide_eq_true c61] at ha60
      refine cond_t ha60 rfl ?_
      refine wp_seq ?_
      refine wp_region_lit ?_
      refine wl_val ha60 rfl rfl rfl (op_assign ha60 rfl rfl) ?_
      intro a62 ha62; clear ha60 a60
      refine wl_val ha62 rfl rfl rfl (op_assign ha62 rfl rfl) ?_
      intro a63 ha63; clear ha62 a62
      refine wpList_nil ?_
      refine then_n ?_
      refine wp_ret ?_
      refine block_r ?_
      refine then_r ?_
      refine ret2 ha63 rfl rfl rfl ?_
      clear ha63 a63
      have hr := mcC_4 c11 c21 c30 (.inr c61)
      have hr2 := mcL_bad (by rw [hr]; decide)
      refine ret_mk hx44 ⟨(.slice none 0 0), [], (tup2_eq rfl (int_eq (by exact hr.symm))), Own.nil _ _ _ _ _ _, Nst.nil _ _ _ _ _ _, ?_⟩
      ·
       rw [hr2]; rfl
     ·
      rw [decide_eq_false c61] at ha60
      refine cond_f ha60 rfl ?_
      refine wp_seq ?_
      refine wp_region_lit ?_
      refine wl_val ha60 rfl rfl rfl (op_move ha60 rfl rfl) ?_
      intro a64 ha64; clear ha60 a60
      refine wl_val ha64 rfl rfl rfl (op_move ha64 rfl rfl) ?_
      intro a65 ha65; clear ha64 a64
      refine wl_val ha65 rfl rfl rfl (op_eql ha65 rfl rfl rfl) ?_
      intro a66 ha66; clear ha65 a65
      refine wl_val ha66 rfl rfl rfl (op_assign ha66 rfl rfl) ?_
      intro a67 ha67; clear ha66 a66
      refine wpList_nil ?_
      refine then_n ?_
      by_cases c68 : (fnI list keepn : Int) = (fnI list dropn : Int)
      ·
       rw [decide_eq_true c68] at ha67
       refine cond_t ha67 rfl ?_
       refine wp_seq ?_
       refine wp_region_lit ?_
       refine wl_val ha67 rfl rfl rfl (op_assign ha67 rfl rfl) ?_
       intro a69 ha69; clear ha67 a67
       refine wl_val ha69 rfl rfl rfl (op_assign ha69 rfl rfl) ?_
       intro a70 ha70; clear ha69 a69
       refine wpList_nil ?_
       refine then_n ?_
       refine wp_ret ?_
       refine block_r ?_
       refine then_r ?_
       refine ret2 ha70 rfl rfl rfl ?_
       clear ha70 a70
       have hr := mcC_5 c11 c21 c30 c50 c61 c68
       have hr2 := mcL_bad (by rw [hr]; decide)
       refine ret_mk hx44 ⟨(.slice none 0 0), [], (tup2_eq rfl (int_eq (by exact hr.symm))), Own.nil _ _ _ _ _ _, Nst.nil _ _ _ _ _ _, ?_⟩
       ·
        rw [hr2]; rfl
      ·
       rw [decide_eq_false c68] at ha67
       refine cond_f ha67 rfl ?_
       refine wp_seq ?_
       refine dr_enter Ext follows_mixed ?_
       intro w71 he72
       have hx73 := hx44.trans' he72
       have hzhx73 := he72.size
       have hs74 : Ext w71 w71 := Ext.rfl' _
       refine dr_val (i := 0) ha67 rfl (by kernel_rfl) (by kernel_rfl) (by kernel_rfl) rfl rfl rfl hs74 (fun w' hw' => op_move ha67 rfl rfl) ?_
       intro a75 ha75; clear ha67 a67
       refine dr_val (i := 1) ha75 rfl (by kernel_rfl) (by kernel_rfl) (by kernel_rfl) rfl rfl rfl hs74 (fun w' hw' => op_move ha75 rfl rfl) ?_
       intro a76 ha76; clear ha75 a75
       obtain ⟨x77, hx77⟩ := get_ex (xs := list) (j := ((fnI list keepn : Int)).toNat) (by first | omega | (simp only [List.length_set]; omega))
       obtain ⟨p78, c79, hi80, hc81, hr82, hs83⟩ := Rds.at_ h_list hx77
       obtain ⟨v84, rfl, b85, b86, b87⟩ := inv_shCust hr82
       have hlb87 := b87.length_le
       have hbx77 := cuOk_bd (hcuc11 _ (List.mem_of_getElem? hx77))
       refine dr_val (i := 2) ha76 rfl (by kernel_rfl) (by kernel_rfl) (by kernel_rfl) rfl rfl rfl hs74 (fun w' hw' => op_indexAddr ha76 rfl Try.underlying25 ti55 rfl rfl (by omega) hi80) ?_
       intro a88 ha88; clear ha76 a76
       refine dr_val (i := 3) ha88 rfl (by kernel_rfl) (by kernel_rfl) (by kernel_rfl) rfl rfl rfl hs74 (fun w' hw' => op_fieldAddr (sz := 0) ha88 rfl Try.underlying55 rfl rfl ti34 rfl) ?_
       intro a89 ha89; clear ha88 a88
       refine dr_val (i := 4) ha89 rfl (by kernel_rfl) (by kernel_rfl) (by kernel_rfl) rfl rfl rfl hs74 (fun w' hw' => op_loadF (off := 2) ha89 rfl Try.underlying34 rfl rfl (hc81.ext (hx73.trans' hw')) rfl) ?_
       intro a90 ha90; clear ha89 a89
       refine dr_val (i := 5) ha90 rfl (by kernel_rfl) (by kernel_rfl) (by kernel_rfl) rfl rfl rfl hs74 (fun w' hw' => op_len_sl ha90 rfl Try.underlying34 rfl b87) ?_
       intro a91 ha91; clear ha90 a90
       refine dr_val (i := 6) ha91 rfl (by kernel_rfl) (by kernel_rfl) (by kernel_rfl) rfl rfl rfl hs74 (fun w' hw' => op_move ha91 rfl rfl) ?_
       intro a92 ha92; clear ha91 a91
       refine dr_val (i := 7) ha92 rfl (by kernel_rfl) (by kernel_rfl) (by kernel_rfl) rfl rfl rfl hs74 (fun w' hw' => op_move ha92 rfl rfl) ?_
       intro a93 ha93; clear ha92 a92
       obtain ⟨x94, hx94⟩ := get_ex (xs := list) (j := ((fnI list dropn : Int)).toNat) (by first | omega | (simp only [List.length_set]; omega))
       obtain ⟨p95, c96, hi97, hc98, hr99, hs100⟩ := Rds.at_ h_list hx94
       obtain ⟨v101, rfl, b102, b103, b104⟩ := inv_shCust hr99
       have hlb104 := b104.length_le
       have hbx94 := cuOk_bd (hcuc11 _ (List.mem_of_getElem? hx94))
       refine dr_val (i := 8) ha93 rfl (by kernel_rfl) (by kernel_rfl) (by kernel_rfl) rfl rfl rfl hs74 (fun w' hw' => op_indexAddr ha93 rfl Try.underlying25 ti55 rfl rfl (by omega) hi97) ?_
       intro a105 ha105; clear ha93 a93
       refine dr_val (i := 9) ha105 rfl (by kernel_rfl) (by kernel_rfl) (by kernel_rfl) rfl rfl rfl hs74 (fun w' hw' => op_fieldAddr (sz := 0) ha105 rfl Try.underlying55 rfl rfl ti34 rfl) ?_
       intro a106 ha106; clear ha105 a105
       refine dr_val (i := 10) ha106 rfl (by kernel_rfl) (by kernel_rfl) (by kernel_rfl) rfl rfl rfl hs74 (fun w' hw' => op_loadF (off := 2) ha106 rfl Try.underlying34 rfl rfl (hc98.ext (hx73.trans' hw')) rfl) ?_
       intro a107 ha107; clear ha106 a106
       refine dr_val (i := 11) ha107 rfl (by kernel_rfl) (by kernel_rfl) (by kernel_rfl) rfl rfl rfl hs74 (fun w' hw' => op_len_sl ha107 rfl Try.underlying34 rfl b104) ?_
       intro a108 ha108; clear ha107 a107
       refine dr_val (i := 12) ha108 rfl (by kernel_rfl) (by kernel_rfl) (by kernel_rfl) rfl rfl rfl hs74 (fun w' hw' => (op_add ha108 rfl rfl rfl).int (IntWalk.i64_in _ (by omega))) ?_
       intro a109 ha109; clear ha108 a108
       refine dr_val (i := 13) ha109 rfl (by kernel_rfl) (by kernel_rfl) (by kernel_rfl) rfl rfl rfl hs74 (fun w' hw' => op_gtr ha109 rfl rfl rfl) ?_
       intro a110 ha110; clear ha109 a109
       refine dr_val (i := 14) ha110 rfl (by kernel_rfl) (by kernel_rfl) (by kernel_rfl) rfl rfl rfl hs74 (fun w' hw' => op_assign ha110 rfl rfl) ?_
       intro a111 ha111; clear ha110 a110
       refine dr_end (by kernel_rfl) ?_
       refine then_n ?_
       by_cases c112 : (5 : Int) < (((x77.2.2.length : Nat) : Int) + ((x94.2.2.length : Nat) : Int))
       ·
        rw [decide_eq_true c112] at ha111
        refine cond_t ha111 rfl ?_
        refine wp_seq ?_
        refine wp_region_lit ?_
        refine wl_val ha111 rfl rfl rfl (op_assign ha111 rfl rfl) ?_
        intro a113 ha113; clear ha111 a111
        refine wl_val ha113 rfl rfl rfl (op_assign ha113 rfl rfl) ?_
        intro a114 ha114; clear ha113 a113
        refine wpList_nil ?_
        refine then_n ?_
        refine wp_ret ?_
        refine block_r ?_
        refine then_r ?_
        refine ret2 ha114 rfl rfl rfl ?_
        clear ha114 a114
        have hr := mcC_3 c11 c21 c30 c50 c61 c68 hx77 hx94 (by omega)
        have hr2 := mcL_bad (by rw [hr]; decide)
        refine ret_mk hx73 ⟨(.slice none 0 0), [], (tup2_eq rfl (int_eq (by exact hr.symm))), Own.nil _ _ _ _ _ _, Nst.nil _ _ _ _ _ _, ?_⟩
        ·
         rw [hr2]; rfl
       ·
        rw [decide_eq_false c112] at ha111
        refine cond_f ha111 rfl ?_
        refine wp_skip ?_
        refine block_n ?_
        refine then_n ?_
        refine wp_seq ?_
        refine wp_region_lit ?_
        refine wl_val ha111 rfl rfl rfl (op_move ha111 rfl rfl) ?_
        intro a115 ha115; clear ha111 a111
        refine wl_callR ha115 rfl rfl rfl (op_call ha115 rfl cb65 rfl) (c_spec_l30Copy _ v_list list (h_list.ext pos_shCust hx73) (by first | assumption | omega | (simp; omega) | (intro c hc; have := cuOk_bd (cuB_el (by assumption) c hc); omega)) (by first | assumption | omega | (simp; omega) | (intro c hc; have := cuOk_bd (cuB_el (by assumption) c hc); omega))) ?_
        rintro v116 w117 he118 ⟨z120, ho119, hN121, hE122⟩ a123 ha123; clear ha115 a115
        have hx124 := hx73.trans' he118
        have hzhx124 := he118.size
        have hlhE122 := absLen hE122
        refine wl_val ha123 rfl rfl rfl (op_assign ha123 rfl rfl) ?_
        intro a125 ha125; clear ha123 a123
        refine wpList_nil ?_
        refine then_n ?_
        refine wp_seq ?_
        refine dr_enter (fun wa_ wb_ => Stp wa_ wb_ (Value.ownBlock v116)) follows_mixed ?_
        intro w126 he127
        have hx128 := hx124.trans' he127
        have hzhx128 := he127.size
        replace ho119 := ho119.ext he127
        replace hN121 := hN121.ext he127
        have hs129 : Ext w126 w126 := Ext.rfl' _
        refine dr_val (i := 0) ha125 rfl (by kernel_rfl) (by kernel_rfl) (by kernel_rfl) rfl rfl rfl (Stp.of_ext hs129 _) (fun w' hw' => op_move ha125 rfl rfl) ?_
        intro a130 ha130; clear ha125 a125
        refine dr_val (i := 1) ha130 rfl (by kernel_rfl) (by kernel_rfl) (by kernel_rfl) rfl rfl rfl (Stp.of_ext hs129 _) (fun w' hw' => op_move ha130 rfl rfl) ?_
        intro a131 ha131; clear ha130 a130
        refine dr_val (i := 2) ha131 rfl (by kernel_rfl) (by kernel_rfl) (by kernel_rfl) rfl rfl rfl (Stp.of_ext hs129 _) (fun w' hw' => op_move ha131 rfl rfl) ?_
        intro a132 ha132; clear ha131 a131
        refine dr_val (i := 3) ha132 rfl (by kernel_rfl) (by kernel_rfl) (by kernel_rfl) rfl rfl rfl (Stp.of_ext hs129 _) (fun w' hw' => op_move ha132 rfl rfl) ?_
        intro a133 ha133; clear ha132 a132
        refine dr_val (i := 4) ha133 rfl (by kernel_rfl) (by kernel_rfl) (by kernel_rfl) rfl rfl rfl (Stp.of_ext hs129 _) (fun w' hw' => op_indexAddr ha133 rfl Try.underlying25 ti55 rfl rfl (by omega) hi80) ?_
        intro a134 ha134; clear ha133 a133
        refine dr_val (i := 5) ha134 rfl (by kernel_rfl) (by kernel_rfl) (by kernel_rfl) rfl rfl rfl (Stp.of_ext hs129 _) (fun w' hw' => op_fieldAddr (sz := 0) ha134 rfl Try.underlying55 rfl rfl ti2 rfl) ?_
        intro a135 ha135; clear ha134 a134
        refine dr_val (i := 6) ha135 rfl (by kernel_rfl) (by kernel_rfl) (by kernel_rfl) rfl rfl rfl (Stp.of_ext hs129 _) (fun w' hw' => op_loadF (off := 1) ha135 rfl Try.underlying2 rfl rfl (hc81.ext (hx128.stp hw' (by intro q hq; have hq0 := ho119.lt q hq; omega))) rfl) ?_
        intro a136 ha136; clear ha135 a135
        refine dr_val (i := 7) ha136 rfl (by kernel_rfl) (by kernel_rfl) (by kernel_rfl) rfl rfl rfl (Stp.of_ext hs129 _) (fun w' hw' => op_move ha136 rfl rfl) ?_
        intro a137 ha137; clear ha136 a136
        refine dr_val (i := 8) ha137 rfl (by kernel_rfl) (by kernel_rfl) (by kernel_rfl) rfl rfl rfl (Stp.of_ext hs129 _) (fun w' hw' => op_move ha137 rfl rfl) ?_
        intro a138 ha138; clear ha137 a137
        refine dr_val (i := 9) ha138 rfl (by kernel_rfl) (by kernel_rfl) (by kernel_rfl) rfl rfl rfl (Stp.of_ext hs129 _) (fun w' hw' => op_indexAddr ha138 rfl Try.underlying25 ti55 rfl rfl (by omega) hi97) ?_
        intro a139 ha139; clear ha138 a138
        refine dr_val (i := 10) ha139 rfl (by kernel_rfl) (by kernel_rfl) (by kernel_rfl) rfl rfl rfl (Stp.of_ext hs129 _) (fun w' hw' => op_fieldAddr (sz := 0) ha139 rfl Try.underlying55 rfl rfl ti2 rfl) ?_
        intro a140 ha140; clear ha139 a139
        refine dr_val (i := 11) ha140 rfl (by kernel_rfl) (by kernel_rfl) (by kernel_rfl) rfl rfl rfl (Stp.of_ext hs129 _) (fun w' hw' => op_loadF (off := 1) ha140 rfl Try.underlying2 rfl rfl (hc98.ext (hx128.stp hw' (by intro q hq; have hq0 := ho119.lt q hq; omega))) rfl) ?_
        intro a141 ha141; clear ha140 a140
        refine dr_val (i := 12) ha141 rfl (by kernel_rfl) (by kernel_rfl) (by kernel_rfl) rfl rfl rfl (Stp.of_ext hs129 _) (fun w' hw' => op_min ha141 rfl rfl rfl) ?_
        intro a142 ha142; clear ha141 a141
        obtain ⟨x143, hx143⟩ := get_ex (xs := z120) (j := ((fnI list keepn : Int)).toNat) (by first | omega | (simp only [List.length_set]; omega))
        obtain ⟨p144, c145, hi146, hc147, hr148, hs149⟩ := Rds.at_ (ho119.rds pos_shCustN) hx143
        obtain ⟨rfl, b150, b151, b152⟩ := inv_shCustN hr148
        have hn153 : Own shStr 9 w71.heap.size w71.heap.size w117.heap.size w126 x143.2 x143.1.2.2 := hN121.get hx143
        obtain ⟨_, _⟩ : _ ∧ _ := hs149
        have hbzx143 := cuOk_bd (hcuc11 _ (List.mem_of_getElem? (abs_get hE122 hx143)))
        refine dr_val (i := 13) ha142 rfl (by kernel_rfl) (by kernel_rfl) (by kernel_rfl) rfl rfl rfl (Stp.of_ext hs129 _) (fun w' hw' => op_indexAddr ha142 rfl Try.underlying25 ti55 rfl rfl (by omega) hi146) ?_
        intro a154 ha154; clear ha142 a142
        refine dr_val (i := 14) ha154 rfl (by kernel_rfl) (by kernel_rfl) (by kernel_rfl) rfl rfl rfl (Stp.of_ext hs129 _) (fun w' hw' => op_fieldAddr (sz := 0) ha154 rfl Try.underlying55 rfl rfl ti2 rfl) ?_
        intro a155 ha155; clear ha154 a154
        refine dr_one (i := 15) (by kernel_rfl) ?_
        replace ho119 := ho119.ext hs129
        replace hN121 := hN121.ext hs129
        replace hn153 := hn153.ext hs129
        replace hc147 := hc147.ext hs129
        refine po_effS ha155 rfl rfl rfl (op_setCells (s := shCustN) (off := 1) (ds := [.int .i64 (min x77.2.1 x94.2.1)]) (S' := fun _ => False) ha155 rfl ti2 rfl rfl rfl rfl (by simp [Value.oneCell']) ho119 hi146 (by first | omega | (simp only [List.length_set]; omega)) (Nat.le_of_ble_eq_true rfl) hc147 rfl (mk_shCustN ((((x143.1.1, (min x77.2.1 x94.2.1), x143.1.2.2) : Str × Int × List Str), (x143.2 : Value))) (by first | assumption | omega | (simp; done) | (dsimp only; omega) | (dsimp only; assumption) | exact ⟨by omega, by omega⟩) (by first | assumption | omega | (simp; done) | (dsimp only; omega) | (dsimp only; assumption) | exact ⟨by omega, by omega⟩) hn153.one) (fun _ h => h.elim)) ?_
        rintro w156 ⟨ho158, hst157, hz159⟩
        have hx160 := hx128.stp hst157 (by intro q hq; have hq0 := ho119.lt q hq; omega)
        have hzhx160 := hst157.size
        first | replace hN121 := hN121.stpF flat_shStr hst157 ho119 rfl | replace hN121 := hN121.stp hst157 (by intro q hq; have hq0 := ho119.lt q hq; omega)
        first | replace hn153 := hn153.stp hst157 (by intro q hq; have hq0 := ho119.lt q hq; omega) | replace hn153 := hn153.stpF flat_shStr hst157 (hn153.ne ho119 rfl)
        clear ho119
        have hlsho158 : ((z120.set (((fnI list keepn : Int)).toNat) ((((x143.1.1, (min x77.2.1 x94.2.1), x143.1.2.2) : Str × Int × List Str), (x143.2 : Value))))).length = z120.length := List.length_set
        have hN161 : Nst shStr 9 (fun x : Str × Int × List Str => x.2.2) w71.heap.size w117.heap.size w156 ((z120.set (((fnI list keepn : Int)).toNat) ((((x143.1.1, (min x77.2.1 x94.2.1), x143.1.2.2) : Str × Int × List Str), (x143.2 : Value))))) := hN121.stay hx143 rfl
        have hs162 := (Stp.of_ext hs129 (Value.ownBlock v116)).trans' hst157
        refine ⟨hs162, ?_⟩
        refine dr_end (by kernel_rfl) ?_
        refine then_n ?_
        refine wp_seq ?_
        refine wp_seq ?_
        refine wp_region_lit ?_
        refine wl_val ha155 rfl rfl rfl (op_assign ha155 rfl rfl) ?_
        intro a163 ha163; clear ha155 a155
        refine wpList_nil ?_
        refine then_n ?_
        refine wp_block ?_
        refine loop_inv (X := Nat × (List ((Str × Int × List Str) × Value))) (fun (⟨j, zs⟩ : Nat × (List ((Str × Int × List Str) × Value))) fr wl => Sl 110 fr [(0, v_list), (8, .int .i64 (fnI list keepn : Int)), (9, .int .i64 (fnI list dropn : Int)), (10, v116), (11, .int .i64 ((j : Nat) : Int))] ∧ Ext w0 wl ∧ Own shCustN 55 w71.heap.size w71.heap.size wl.heap.size wl v116 zs ∧ Nst shStr 9 (fun x : Str × Int × List Str => x.2.2) w71.heap.size wl.heap.size wl zs ∧ w156.heap.size ≤ wl.heap.size ∧ (j ≤ x94.2.2.length) ∧ (zs.length = list.length) ∧ (zs.map (·.1) = list.set ((fnI list keepn : Int)).toNat (x77.1, min x77.2.1 x94.2.1, insL (x94.2.2.take j) x77.2.2))) (fun (⟨j, zs⟩ : Nat × (List ((Str × Int × List Str) × Value))) => x94.2.2.length - j) (0, (z120.set (((fnI list keepn : Int)).toNat) ((((x143.1.1, (min x77.2.1 x94.2.1), x143.1.2.2) : Str × Int × List Str), (x143.2 : Value))))) ?_ ?_
        ·
         exact ⟨(Sl.cons_ ha163 rfl rfl (Sl.cons_ ha163 rfl rfl (Sl.cons_ ha163 rfl rfl (Sl.cons_ ha163 rfl rfl (Sl.cons_ ha163 rfl (int_eq (by omega)) (Sl.nil_ ha163)))))), hx160, (ho158.fin (by omega) (by omega) (by omega)), (hN161.fin (by omega) (by omega)), (by omega), (by omega), (by first | omega | (simp only [List.length_set]; omega)), (by rw [List.take_zero, List.map_set, hE122]; have h6 := some_eq hx77 (abs_get hE122 hx143); simp only [h6]; rfl)⟩
        ·
         clear ha163 a163
         rintro ⟨j, zs⟩ a168 w164 ⟨ha168, hx165, hf166, hf167, hzl169, hj, hl, hF⟩
         have hzhx165 := hx165.size
         refine wp_seq ?_
         refine wp_seq ?_
         refine wp_region_lit ?_
         refine wl_val ha168 rfl rfl rfl (op_move ha168 rfl rfl) ?_
         intro a170 ha170; clear ha168 a168
         refine wl_val ha170 rfl rfl rfl (op_move ha170 rfl rfl) ?_
         intro a171 ha171; clear ha170 a170
         refine wl_val ha171 rfl rfl rfl (op_move ha171 rfl rfl) ?_
         intro a172 ha172; clear ha171 a171
         refine wl_val ha172 rfl rfl rfl (op_indexAddr ha172 rfl Try.underlying25 ti55 rfl rfl (by omega) hi97) ?_
         intro a173 ha173; clear ha172 a172
         refine wl_val ha173 rfl rfl rfl (op_fieldAddr (sz := 0) ha173 rfl Try.underlying55 rfl rfl ti34 rfl) ?_
         intro a174 ha174; clear ha173 a173
         refine wl_val ha174 rfl rfl rfl (op_loadF (off := 2) ha174 rfl Try.underlying34 rfl rfl (hc98.ext hx165) rfl) ?_
         intro a175 ha175; clear ha174 a174
         refine wl_val ha175 rfl rfl rfl (op_len_sl ha175 rfl Try.underlying34 rfl b104) ?_
         intro a176 ha176; clear ha175 a175
         refine wl_val ha176 rfl rfl rfl (op_lss ha176 rfl rfl rfl) ?_
         intro a177 ha177; clear ha176 a176
         refine wpList_nil ?_
         refine then_n ?_
         by_cases c178 : ((j : Nat) : Int) < ((x94.2.2.length : Nat) : Int)
         ·
          rw [decide_eq_true c178] at ha177
          refine cond_t ha177 rfl ?_
          refine wp_skip ?_
          refine then_n ?_
          refine wp_seq ?_
          refine wp_block ?_
          refine dr_enter (fun wa_ wb_ => Stp wa_ wb_ (Value.ownBlock v116)) follows_mixed ?_
          intro w179 he180
          have hx181 := hx165.trans' he180
          have hzhx181 := he180.size
          replace hf166 := hf166.ext he180
          replace hf167 := hf167.ext he180
          have hs182 : Ext w179 w179 := Ext.rfl' _
          refine dr_val (i := 0) ha177 rfl (by kernel_rfl) (by kernel_rfl) (by kernel_rfl) rfl rfl rfl (Stp.of_ext hs182 _) (fun w' hw' => op_move ha177 rfl rfl) ?_
          intro a183 ha183; clear ha177 a177
          refine dr_val (i := 1) ha183 rfl (by kernel_rfl) (by kernel_rfl) (by kernel_rfl) rfl rfl rfl (Stp.of_ext hs182 _) (fun w' hw' => op_move ha183 rfl rfl) ?_
          intro a184 ha184; clear ha183 a183
          refine dr_val (i := 2) ha184 rfl (by kernel_rfl) (by kernel_rfl) (by kernel_rfl) rfl rfl rfl (Stp.of_ext hs182 _) (fun w' hw' => op_move ha184 rfl rfl) ?_
          intro a185 ha185; clear ha184 a184
          refine dr_val (i := 3) ha185 rfl (by kernel_rfl) (by kernel_rfl) (by kernel_rfl) rfl rfl rfl (Stp.of_ext hs182 _) (fun w' hw' => op_move ha185 rfl rfl) ?_
          intro a186 ha186; clear ha185 a185
          obtain ⟨x187, hx187⟩ := get_ex (xs := zs) (j := ((fnI list keepn : Int)).toNat) (by first | omega | (simp only [List.length_set]; omega))
          obtain ⟨p188, c189, hi190, hc191, hr192, hs193⟩ := Rds.at_ (hf166.rds pos_shCustN) hx187
          obtain ⟨rfl, b194, b195, b196⟩ := inv_shCustN hr192
          have hn197 : Own shStr 9 w71.heap.size w71.heap.size w164.heap.size w179 x187.2 x187.1.2.2 := hf167.get hx187
          obtain ⟨_, _⟩ : _ ∧ _ := hs193
          have hqax187 : (x77.1, min x77.2.1 x94.2.1, insL (x94.2.2.take j) x77.2.2) = x187.1 := Option.some.inj (by have h5 := abs_get hF hx187; rw [List.getElem?_set_self (by omega)] at h5; exact h5)
          have hqbx187 : x187.1.2.2.length = (x94.2.2.take j).length + x77.2.2.length := by rw [← hqax187]; show (insL _ _).length = _; rw [insL_len]; omega
          rw [List.length_take] at hqbx187
          refine dr_val (i := 4) ha186 rfl (by kernel_rfl) (by kernel_rfl) (by kernel_rfl) rfl rfl rfl (Stp.of_ext hs182 _) (fun w' hw' => op_indexAddr ha186 rfl Try.underlying25 ti55 rfl rfl (by omega) hi190) ?_
          intro a198 ha198; clear ha186 a186
          refine dr_val (i := 5) ha198 rfl (by kernel_rfl) (by kernel_rfl) (by kernel_rfl) rfl rfl rfl (Stp.of_ext hs182 _) (fun w' hw' => op_fieldAddr (sz := 0) ha198 rfl Try.underlying55 rfl rfl ti34 rfl) ?_
          intro a199 ha199; clear ha198 a198
          refine dr_val (i := 7) ha199 rfl (by kernel_rfl) (by kernel_rfl) (by kernel_rfl) rfl rfl rfl (Stp.of_ext hs182 _) (fun w' hw' => op_move ha199 rfl rfl) ?_
          intro a200 ha200; clear ha199 a199
          refine dr_val (i := 8) ha200 rfl (by kernel_rfl) (by kernel_rfl) (by kernel_rfl) rfl rfl rfl (Stp.of_ext hs182 _) (fun w' hw' => op_move ha200 rfl rfl) ?_
          intro a201 ha201; clear ha200 a200
          refine dr_val (i := 9) ha201 rfl (by kernel_rfl) (by kernel_rfl) (by kernel_rfl) rfl rfl rfl (Stp.of_ext hs182 _) (fun w' hw' => op_indexAddr ha201 rfl Try.underlying25 ti55 rfl rfl (by omega) hi97) ?_
          intro a202 ha202; clear ha201 a201
          refine dr_val (i := 10) ha202 rfl (by kernel_rfl) (by kernel_rfl) (by kernel_rfl) rfl rfl rfl (Stp.of_ext hs182 _) (fun w' hw' => op_fieldAddr (sz := 0) ha202 rfl Try.underlying55 rfl rfl ti34 rfl) ?_
          intro a203 ha203; clear ha202 a202
          refine dr_val (i := 11) ha203 rfl (by kernel_rfl) (by kernel_rfl) (by kernel_rfl) rfl rfl rfl (Stp.of_ext hs182 _) (fun w' hw' => op_loadF (off := 2) ha203 rfl Try.underlying34 rfl rfl (hc98.ext (hx181.stp hw' (by intro q hq; have hq0 := hf166.lt q hq; omega))) rfl) ?_
          intro a204 ha204; clear ha203 a203
          refine dr_val (i := 12) ha204 rfl (by kernel_rfl) (by kernel_rfl) (by kernel_rfl) rfl rfl rfl (Stp.of_ext hs182 _) (fun w' hw' => op_move ha204 rfl rfl) ?_
          intro a205 ha205; clear ha204 a204
          obtain ⟨x206, hx206⟩ := get_ex (xs := x94.2.2) (j := j) (by first | omega | (simp only [List.length_set]; omega))
          obtain ⟨p207, c208, hi209, hc210, hr211, hs212⟩ := Rds.at_ b104 hx206
          obtain ⟨rfl, b213⟩ := inv_shStr hr211
          refine dr_val (i := 13) ha205 rfl (by kernel_rfl) (by kernel_rfl) (by kernel_rfl) rfl rfl rfl (Stp.of_ext hs182 _) (fun w' hw' => op_indexAddr ha205 rfl Try.underlying34 ti9 rfl rfl (by omega) hi209) ?_
          intro a214 ha214; clear ha205 a205
          refine dr_val (i := 14) ha214 rfl (by kernel_rfl) (by kernel_rfl) (by kernel_rfl) rfl rfl rfl (Stp.of_ext hs182 _) (fun w' hw' => op_loadH ha214 rfl Try.underlying9 rfl rfl (hc210.ext (hx181.stp hw' (by intro q hq; have hq0 := hf166.lt q hq; omega))) rfl) ?_
          intro a215 ha215; clear ha214 a214
          refine dr_one (i := 6) (by kernel_rfl) ?_
          refine po_to ha215 rfl rfl rfl rfl (op_loadF (off := 2) ha215 rfl Try.underlying34 rfl rfl (hc191.ext hs182) rfl) ?_
          intro a216 ha216; clear ha215 a215
          refine ⟨(Stp.of_ext hs182 _), ?_⟩
          refine dr_one (i := 15) (by kernel_rfl) ?_
          refine po_callR ha216 rfl rfl rfl rfl (op_call ha216 rfl cb68 rfl) (c_spec_l30Insert _ x187.2 x187.1.2.2 x206 ((hn197.rds pos_shStr).ext pos_shStr hs182) (by first | assumption | omega | (simp; omega) | (intro c hc; have := cuOk_bd (cuB_el (by assumption) c hc); omega)) (by first | assumption | omega | (simp; omega) | (intro c hc; have := cuOk_bd (cuB_el (by assumption) c hc); omega))) ?_
          rintro v217 w218 he219 ho220 a221 ha221; clear ha216 a216
          have hs222 := hs182.trans' he219
          have hx223 := hx181.trans' he219
          have hzhx223 := he219.size
          refine ⟨(Stp.of_ext hs222 _), ?_⟩
          refine dr_val (i := 16) ha221 rfl (by kernel_rfl) (by kernel_rfl) (by kernel_rfl) rfl rfl rfl (Stp.of_ext hs222 _) (fun w' hw' => op_indexAddr ha221 rfl Try.underlying25 ti55 rfl rfl (by omega) hi190) ?_
          intro a224 ha224; clear ha221 a221
          refine dr_val (i := 17) ha224 rfl (by kernel_rfl) (by kernel_rfl) (by kernel_rfl) rfl rfl rfl (Stp.of_ext hs222 _) (fun w' hw' => op_fieldAddr (sz := 0) ha224 rfl Try.underlying55 rfl rfl ti34 rfl) ?_
          intro a225 ha225; clear ha224 a224
          refine dr_one (i := 18) (by kernel_rfl) ?_
          replace hf166 := hf166.ext hs222
          replace hf167 := hf167.ext hs222
          replace hn197 := hn197.ext hs222
          replace hc191 := hc191.ext hs222
          refine po_effS ha225 rfl rfl rfl (op_setCells (s := shCustN) (off := 2) (ds := [v217]) (S' := fun _ => False) ha225 rfl ti34 rfl rfl ho220.cells1 rfl (by intro u hu; have hu : u ∈ ([v217] : List Value) := hu; simp only [List.mem_cons, List.mem_nil_iff, or_false] at hu; rcases hu with rfl <;> first | rfl | exact ho220.one) hf166 hi190 (by first | omega | (simp only [List.length_set]; omega)) (Nat.le_of_ble_eq_true rfl) hc191 rfl (mk_shCustN ((((x187.1.1, x187.1.2.1, (liL x206 x187.1.2.2)) : Str × Int × List Str), (v217 : Value))) (by first | assumption | omega | (simp; done) | (dsimp only; omega) | (dsimp only; assumption) | exact ⟨by omega, by omega⟩) (by first | assumption | omega | (simp; done) | (dsimp only; omega) | (dsimp only; assumption) | exact ⟨by omega, by omega⟩) ho220.one) (fun _ h => h.elim)) ?_
          rintro w226 ⟨ho228, hst227, hz229⟩
          have hx230 := hx223.stp hst227 (by intro q hq; have hq0 := hf166.lt q hq; omega)
          have hzhx230 := hst227.size
          first | replace hf167 := hf167.stpF flat_shStr hst227 hf166 rfl | replace hf167 := hf167.stp hst227 (by intro q hq; have hq0 := hf166.lt q hq; omega)
          first | replace hn197 := hn197.stp hst227 (by intro q hq; have hq0 := hf166.lt q hq; omega) | replace hn197 := hn197.stpF flat_shStr hst227 (hn197.ne hf166 rfl)
          replace ho220 := ho220.stp hst227 (by intro q hq; have hq0 := hf166.lt q hq; omega)
          clear hf166
          have hlsho228 : ((zs.set (((fnI list keepn : Int)).toNat) ((((x187.1.1, x187.1.2.1, (liL x206 x187.1.2.2)) : Str × Int × List Str), (v217 : Value))))).length = zs.length := List.length_set
          have hN231 : Nst shStr 9 (fun x : Str × Int × List Str => x.2.2) w71.heap.size w218.heap.size w226 ((zs.set (((fnI list keepn : Int)).toNat) ((((x187.1.1, x187.1.2.1, (liL x206 x187.1.2.2)) : Str × Int × List Str), (v217 : Value))))) := hf167.set ho220 (by omega) (by omega) (by omega)
          have hs232 := (Stp.of_ext hs222 (Value.ownBlock v116)).trans' hst227
          refine ⟨hs232, ?_⟩
          refine dr_end (by kernel_rfl) ?_
          refine block_n ?_
          refine then_n ?_
          refine wp_region_lit ?_
          refine wl_val ha225 rfl rfl rfl (op_move ha225 rfl rfl) ?_
          intro a233 ha233; clear ha225 a225
          refine wl_val ha233 rfl rfl rfl ((op_add ha233 rfl rfl rfl).int (IntWalk.i64_in _ (by omega))) ?_
          intro a234 ha234; clear ha233 a233
          refine wl_val ha234 rfl rfl rfl (op_assign ha234 rfl rfl) ?_
          intro a235 ha235; clear ha234 a234
          refine wpList_nil ?_
          refine round_end (x := (j, zs)) ((j + 1), (zs.set (((fnI list keepn : Int)).toNat) ((((x187.1.1, x187.1.2.1, (liL x206 x187.1.2.2)) : Str × Int × List Str), (v217 : Value))))) ?_ ?_
          ·
           refine ⟨(Sl.cons_ ha235 rfl rfl (Sl.cons_ ha235 rfl rfl (Sl.cons_ ha235 rfl rfl (Sl.cons_ ha235 rfl rfl (Sl.cons_ ha235 rfl (int_eq (by omega)) (Sl.nil_ ha235)))))), hx230, (ho228.fin (by omega) (by omega) (by omega)), (hN231.fin (by omega) (by omega)), (by omega), (by omega), (by simp only [List.length_set]; exact hl), (by rw [List.map_set, hF, List.set_set]; have hqv := hqax187; rw [take_snoc hx206, insL_snoc]; simp only [← hqv])⟩
          ·show (x94.2.2.length - ((j + 1)) : Nat) < x94.2.2.length - j; omega
         ·
          rw [decide_eq_false c178] at ha177
          refine cond_f ha177 rfl ?_
          refine wp_exit ?_
          refine then_e ?_
          refine then_e ?_
          refine block_hit ?_
          refine then_n ?_
          refine wp_seq ?_
          refine dr_enter (fun wa_ wb_ => Stp wa_ wb_ (Value.ownBlock v116)) follows_mixed ?_
          intro w236 he237
          have hx238 := hx165.trans' he237
          have hzhx238 := he237.size
          replace hf166 := hf166.ext he237
          replace hf167 := hf167.ext he237
          have hs239 : Ext w236 w236 := Ext.rfl' _
          refine dr_val (i := 0) ha177 rfl (by kernel_rfl) (by kernel_rfl) (by kernel_rfl) rfl rfl rfl (Stp.of_ext hs239 _) (fun w' hw' => op_move ha177 rfl rfl) ?_
          intro a240 ha240; clear ha177 a177
          refine dr_val (i := 1) ha240 rfl (by kernel_rfl) (by kernel_rfl) (by kernel_rfl) rfl rfl rfl (Stp.of_ext hs239 _) (fun w' hw' => op_move ha240 rfl rfl) ?_
          intro a241 ha241; clear ha240 a240
          obtain ⟨u242, hu243, hpp245, hr244⟩ := Own.partw hf166 pos_shCustN (by first | omega | (simp only [List.length_set]; omega)) Try.underlying25 ti55 none (some (.int .i64 (((fnI list dropn : Int)).toNat : Nat))) 0 (((fnI list dropn : Int)).toNat) (.inl ⟨rfl, rfl⟩) (.inr ⟨.i64, rfl⟩) (by first | omega | (simp only [List.length_set]; omega)) (by first | omega | (simp only [List.length_set]; omega))
          replace hr244 := hr244.cast (ys := zs.take (((fnI list dropn : Int)).toNat)) (by first | rw [List.take_length] | simp)
          refine dr_val (i := 2) ha241 rfl (by kernel_rfl) (by kernel_rfl) (by kernel_rfl) rfl rfl rfl (Stp.of_ext hs239 _) (fun w' hw' => op_slice_t (by omega) ha241 rfl rfl rfl hu243) ?_
          intro a246 ha246; clear ha241 a241
          refine dr_val (i := 3) ha246 rfl (by kernel_rfl) (by kernel_rfl) (by kernel_rfl) rfl rfl rfl (Stp.of_ext hs239 _) (fun w' hw' => op_move ha246 rfl rfl) ?_
          intro a247 ha247; clear ha246 a246
          refine dr_val (i := 4) ha247 rfl (by kernel_rfl) (by kernel_rfl) (by kernel_rfl) rfl rfl rfl (Stp.of_ext hs239 _) (fun w' hw' => op_move ha247 rfl rfl) ?_
          intro a248 ha248; clear ha247 a247
          refine dr_val (i := 5) ha248 rfl (by kernel_rfl) (by kernel_rfl) (by kernel_rfl) rfl rfl rfl (Stp.of_ext hs239 _) (fun w' hw' => (op_add ha248 rfl rfl rfl).int (IntWalk.i64_in _ (by omega))) ?_
          intro a249 ha249; clear ha248 a248
          obtain ⟨u250, hu251, hpp253, hr252⟩ := Own.partw hf166 pos_shCustN (by first | omega | (simp only [List.length_set]; omega)) Try.underlying25 ti55 (some (.int .i64 ((((fnI list dropn : Int)).toNat + 1) : Nat))) none ((((fnI list dropn : Int)).toNat + 1)) zs.length (.inr ⟨.i64, rfl⟩) (.inl ⟨rfl, rfl⟩) (by first | omega | (simp only [List.length_set]; omega)) (by first | omega | (simp only [List.length_set]; omega))
          replace hr252 := hr252.cast (ys := zs.drop ((((fnI list dropn : Int)).toNat + 1))) (by first | rw [List.take_length] | simp)
          refine dr_val (i := 6) ha249 rfl (by kernel_rfl) (by kernel_rfl) (by kernel_rfl) rfl rfl rfl (Stp.of_ext hs239 _) (fun w' hw' => op_slice_f (by omega) ha249 rfl rfl rfl hu251) ?_
          intro a254 ha254; clear ha249 a249
          refine dr_one (i := 7) (by kernel_rfl) ?_
          replace hf166 := hf166.ext hs239
          replace hf167 := hf167.ext hs239
          replace hr244 := hr244.ext pos_shCustN hs239
          replace hr252 := hr252.ext pos_shCustN hs239
          refine po_eff ha254 rfl rfl rfl rfl (op_del (s := shCustN) (ts := #[]) ha254 rfl Try.underlying25 ti55 rfl rfl hf166 (by first | omega | (simp only [List.length_set]; omega)) hpp245 hpp253 (by first | omega | (simp only [List.length_set]; omega))) ?_
          rintro v255 w256 ⟨ho257, hst258, hob259, hz260⟩ a261 ha261; clear ha254 a254
          have hs262 := (Stp.of_ext hs239 (Value.ownBlock v116)).trans' hst258
          have hx263 := hx238.stp hst258 (by intro q hq; have hq0 := hf166.lt q hq; omega)
          have hzhx263 := hst258.size
          first | replace hf167 := hf167.stpF flat_shStr hst258 hf166 rfl | replace hf167 := hf167.stp hst258 (by intro q hq; have hq0 := hf166.lt q hq; omega)
          clear hf166
          have hN264 : Nst shStr 9 (fun x : Str × Int × List Str => x.2.2) w71.heap.size w164.heap.size w256 ((zs.take (((fnI list dropn : Int)).toNat - 0) ++ (zs.drop ((((fnI list dropn : Int)).toNat + 1))).take (zs.length - (((fnI list dropn : Int)).toNat + 1)))) := hf167.sub (del_sub (by omega))
          refine ⟨hs262, ?_⟩
          refine dr_val (i := 8) ha261 rfl (by kernel_rfl) (by kernel_rfl) (by kernel_rfl) rfl rfl rfl hs262 (fun w' hw' => op_assign ha261 rfl rfl) ?_
          intro a265 ha265; clear ha261 a261
          refine dr_val (i := 9) ha265 rfl (by kernel_rfl) (by kernel_rfl) (by kernel_rfl) rfl rfl rfl hs262 (fun w' hw' => op_assign ha265 rfl rfl) ?_
          intro a266 ha266; clear ha265 a265
          refine dr_end (by kernel_rfl) ?_
          refine then_n ?_
          refine wp_ret ?_
          refine ret2 ha266 rfl rfl rfl ?_
          clear ha266 a266
          obtain ⟨hr, hr2⟩ := mcC_0 c11 c21 c30 c50 c61 c68 hx77 hx94 (by omega)
          refine ret_mk hx263 ⟨v255, (zs.take (((fnI list dropn : Int)).toNat - 0) ++ (zs.drop ((((fnI list dropn : Int)).toNat + 1))).take (zs.length - (((fnI list dropn : Int)).toNat + 1))), (tup2_eq rfl (int_eq (by exact hr.symm))), ho257.fin (by omega) (by omega) (by omega), hN264.fin (by omega) (by omega), ?_⟩
          ·
           rw [List.take_of_length_le (by omega)] at hF
           rw [hr2, List.map_append, List.map_take, List.map_take, List.map_drop, hF]
           unfold mcO
           rw [Nat.sub_zero]
           congr 1
           exact List.take_of_length_le (by simp only [List.length_drop, List.length_set]; omega)
   ·
    rw [c30] at ha29
    refine cond_t ha29 rfl ?_
    refine wp_seq ?_
    refine wp_region_lit ?_
    refine wl_val ha29 rfl rfl rfl (op_assign ha29 rfl rfl) ?_
    intro a267 ha267; clear ha29 a29
    refine wl_val ha267 rfl rfl rfl (op_assign ha267 rfl rfl) ?_
    intro a268 ha268; clear ha267 a267
    refine wpList_nil ?_
    refine then_n ?_
    refine wp_ret ?_
    refine then_r ?_
    refine ret2 ha268 rfl rfl rfl ?_
    clear ha268 a268
    have hr := mcC_1 (xs := list) (p := keepn) (q := dropn) (.inr (.inr c30))
    have hr2 := mcL_bad (by rw [hr]; decide)
    refine ret_mk hx27 ⟨(.slice none 0 0), [], (tup2_eq rfl (int_eq (by exact hr.symm))), Own.nil _ _ _ _ _ _, Nst.nil _ _ _ _ _ _, ?_⟩
    ·
     rw [hr2]; rfl
  ·
   rw [c21] at ha20
   refine wl_skip ha20 rfl rfl rfl ?_
   intro a269 ha269; clear ha20 a20
   refine wl_skip ha269 rfl rfl rfl ?_
   intro a270 ha270; clear ha269 a269
   refine wl_skip ha270 rfl rfl rfl ?_
   intro a271 ha271; clear ha270 a270
   refine wl_val ha271 rfl rfl rfl (op_pick_t ha271 rfl rfl rfl) ?_
   intro a272 ha272; clear ha271 a271
   refine wpList_nil ?_
   refine then_n ?_
   refine cond_t ha272 rfl ?_
   refine wp_seq ?_
   refine wp_region_lit ?_
   refine wl_val ha272 rfl rfl rfl (op_assign ha272 rfl rfl) ?_
   intro a273 ha273; clear ha272 a272
   refine wl_val ha273 rfl rfl rfl (op_assign ha273 rfl rfl) ?_
   intro a274 ha274; clear ha273 a273
   refine wpList_nil ?_
   refine then_n ?_
   refine wp_ret ?_
   refine then_r ?_
   refine ret2 ha274 rfl rfl rfl ?_
   clear ha274 a274
   have hr := mcC_1 (xs := list) (p := keepn) (q := dropn) (.inr (.inl c21))
   have hr2 := mcL_bad (by rw [hr]; decide)
   refine ret_mk hx17 ⟨(.slice none 0 0), [], (tup2_eq rfl (int_eq (by exact hr.symm))), Own.nil _ _ _ _ _ _, Nst.nil _ _ _ _ _ _, ?_⟩
   ·
    rw [hr2]; rfl
 ·
  rw [c11] at ha10
  refine wl_skip ha10 rfl rfl rfl ?_
  intro a275 ha275; clear ha10 a10
  refine wl_skip ha275 rfl rfl rfl ?_
  intro a276 ha276; clear ha275 a275
  refine wl_skip ha276 rfl rfl rfl ?_
  intro a277 ha277; clear ha276 a276
  refine wl_val ha277 rfl rfl rfl (op_pick_t ha277 rfl rfl rfl) ?_
  intro a278 ha278; clear ha277 a277
  refine wl_val ha278 rfl rfl rfl (op_move ha278 rfl rfl) ?_
  intro a279 ha279; clear ha278 a278
  refine wl_skip ha279 rfl rfl rfl ?_
  intro a280 ha280; clear ha279 a279
  refine wl_skip ha280 rfl rfl rfl ?_
  intro a281 ha281; clear ha280 a280
  refine wl_skip ha281 rfl rfl rfl ?_
  intro a282 ha282; clear ha281 a281
  refine wl_val ha282 rfl rfl rfl (op_pick_t ha282 rfl rfl rfl) ?_
  intro a283 ha283; clear ha282 a282
  refine wpList_nil ?_
  refine then_n ?_
  refine cond_t ha283 rfl ?_
  refine wp_seq ?_
  refine wp_region_lit ?_
  refine wl_val ha283 rfl rfl rfl (op_assign ha283 rfl rfl) ?_
  intro a284 ha284; clear ha283 a283
  refine wl_val ha284 rfl rfl rfl (op_assign ha284 rfl rfl) ?_
  intro a285 ha285; clear ha284 a284
  refine wpList_nil ?_
  refine then_n ?_
  refine wp_ret ?_
  refine then_r ?_
  refine ret2 ha285 rfl rfl rfl ?_
  clear ha285 a285
  have hr := mcC_1 (xs := list) (p := keepn) (q := dropn) (.inl c11)
  have hr2 := mcL_bad (by rw [hr]; decide)
  refine ret_mk hx8 ⟨(.slice none 0 0), [], (tup2_eq rfl (int_eq (by exact hr.symm))), Own.nil _ _ _ _ _ _, Nst.nil _ _ _ _ _ _, ?_⟩
  ·
   rw [hr2]; rfl


end Go.Proofs.Ythbkedflhmeohaa
