/- A bike sold. -/
import Derived.Test.YthbkedflhmeohaaW6
namespace Go.Proofs.Ythbkedflhmeohaa
open Go Go.RowKit

theorem del_sub {α : Type} {xs : List α} {m j r : Nat} (h : m ≤ j) : (xs.take m ++ (xs.drop j).take r).Sublist xs := by
  conv => rhs; rw [← List.take_append_drop m xs]
  refine List.Sublist.append (List.Sublist.refl _) ((List.take_sublist _ _).trans ?_)
  have e : j = m + (j - m) := by omega
  rw [e, ← List.drop_drop]; exact List.drop_sublist _ _

theorem c_impl_SellBike (w0 : World) (v_list : Value) (list : List (Str × Int × List Str)) {S_list : Nat → Prop} (bike : Str) (to : Str) (h_list : Rds shCust S_list w0 v_list list) (g0 : list.length ≤ 1048576) (g1 : bike.length ≤ 9223372036854775807) (g2 : to.length ≤ 9223372036854775807) :
  Calls Try.prog 39 #[v_list, St bike, St to] w0 (Ret w0 (fun v w1 => ∃ r0 z0, v = .tuple #[r0, .int .i64 (seC list bike to)] ∧ Own shCustN 55 w0.heap.size w0.heap.size w1.heap.size w1 r0 z0 ∧ Nst shStr 9 (fun x : Str × Int × List Str => x.2.2) w0.heap.size w1.heap.size w1 z0 ∧ z0.map (·.1) = (seL list bike to))) := by
 refine enter (N := 71) Try.func39 rfl rfl rfl ?_
 intro a0 ha0
 have hx0 := Ext.rfl' w0
 have hl_list := h_list.length_le
 have hf_to : -1 ≤ fnI list to ∧ fnI list to < list.length := fdF_bd (namB to) list
 have hob : -1 ≤ owI list bike ∧ owI list bike < list.length := fdF_bd (hasB bike) list
 refine wp_seq ?_
 refine wp_region_lit ?_
 refine wl_val ha0 rfl rfl rfl (op_assign ha0 rfl rfl) ?_
 intro a1 ha1; clear ha0 a0
 refine wl_val ha1 rfl rfl rfl (op_assign ha1 rfl rfl) ?_
 intro a2 ha2; clear ha1 a1
 refine wpList_nil ?_
 refine then_n ?_
 refine wp_seq ?_
 refine wp_seq ?_
 refine wp_region_lit ?_
 refine wl_val ha2 rfl rfl rfl (op_move ha2 rfl rfl) ?_
 intro a3 ha3; clear ha2 a2
 refine wl_callR ha3 rfl rfl rfl (op_call ha3 rfl cb17 rfl) (c_impl_AreCustomers _ v_list list (h_list.ext pos_shCust hx0) (by first | assumption | omega | (simp; omega) | (intro c hc; have := cuOk_bd (cuB_el (by assumption) c hc); omega))) ?_
 rintro v4 w5 he6 rfl a7 ha7; clear ha3 a3
 have hx8 := hx0.trans' he6
 have hzhx8 := he6.size
 refine wl_val ha7 rfl rfl rfl (op_not ha7 rfl rfl) ?_
 intro a9 ha9; clear ha7 a7
 refine wl_val ha9 rfl rfl rfl (op_move ha9 rfl rfl) ?_
 intro a10 ha10; clear ha9 a9
 rcases Bool.eq_false_or_eq_true (cuB list) with c11 | c11
 ·
  rw [c11] at ha10
  have hlenc11 := cuB_len c11
  have hcuc11 := cuB_el c11
  refine wl_val ha10 rfl rfl rfl (op_move ha10 rfl rfl) ?_
  intro a12 ha12; clear ha10 a10
  refine wl_callR ha12 rfl rfl rfl (op_call ha12 rfl cb56 rfl) (c_impl_IsWord _ bike (by first | assumption | omega | (simp; omega) | (intro c hc; have := cuOk_bd (cuB_el (by assumption) c hc); omega))) ?_
  rintro v13 w14 he15 rfl a16 ha16; clear ha12 a12
  have hx17 := hx8.trans' he15
  have hzhx17 := he15.size
  refine wl_val ha16 rfl rfl rfl (op_not ha16 rfl rfl) ?_
  intro a18 ha18; clear ha16 a16
  refine wl_val ha18 rfl rfl rfl (op_pick_f ha18 rfl rfl rfl) ?_
  intro a19 ha19; clear ha18 a18
  refine wl_val ha19 rfl rfl rfl (op_move ha19 rfl rfl) ?_
  intro a20 ha20; clear ha19 a19
  rcases Bool.eq_false_or_eq_true (wordB bike) with c21 | c21
  ·
   rw [c21] at ha20
   refine wl_val ha20 rfl rfl rfl (op_move ha20 rfl rfl) ?_
   intro a22 ha22; clear ha20 a20
   refine wl_callR ha22 rfl rfl rfl (op_call ha22 rfl cb56 rfl) (c_impl_IsWord _ to (by first | assumption | omega | (simp; omega) | (intro c hc; have := cuOk_bd (cuB_el (by assumption) c hc); omega))) ?_
   rintro v23 w24 he25 rfl a26 ha26; clear ha22 a22
   have hx27 := hx17.trans' he25
   have hzhx27 := he25.size
   refine wl_val ha26 rfl rfl rfl (op_not ha26 rfl rfl) ?_
   intro a28 ha28; clear ha26 a26
   refine wl_val ha28 rfl rfl rfl (op_pick_f ha28 rfl rfl rfl) ?_
   intro a29 ha29; clear ha28 a28
   refine wpList_nil ?_
   refine then_n ?_
   rcases Bool.eq_false_or_eq_true (wordB to) with c30 | c30
   ·
    rw [c30] at ha29
    refine cond_f ha29 rfl ?_
    refine wp_skip ?_
    refine then_n ?_
    refine wp_seq ?_
    refine wp_region_lit ?_
    refine wl_val ha29 rfl rfl rfl (op_move ha29 rfl rfl) ?_
    intro a31 ha31; clear ha29 a29
    refine wl_val ha31 rfl rfl rfl (op_move ha31 rfl rfl) ?_
    intro a32 ha32; clear ha31 a31
    refine wl_callR ha32 rfl rfl rfl (op_call ha32 rfl cb59 rfl) (c_impl_ownerOf _ v_list list bike (h_list.ext pos_shCust hx27)) ?_
    rintro v33 w34 he35 rfl a36 ha36; clear ha32 a32
    have hx37 := hx27.trans' he35
    have hzhx37 := he35.size
    refine wl_val ha36 rfl rfl rfl (op_move ha36 rfl rfl) ?_
    intro a38 ha38; clear ha36 a36
    refine wl_val ha38 rfl rfl rfl (op_move ha38 rfl rfl) ?_
    intro a39 ha39; clear ha38 a38
    refine wl_callR ha39 rfl rfl rfl (op_call ha39 rfl cb66 rfl) (c_impl_findCustomer _ v_list list to (h_list.ext pos_shCust hx37)) ?_
    rintro v40 w41 he42 rfl a43 ha43; clear ha39 a39
    have hx44 := hx37.trans' he42
    have hzhx44 := he42.size
    refine wl_val ha43 rfl rfl rfl (op_assign ha43 rfl rfl) ?_
    intro a45 ha45; clear ha43 a43
    refine wl_val ha45 rfl rfl rfl (op_assign ha45 rfl rfl) ?_
    intro a46 ha46; clear ha45 a45
    refine wpList_nil ?_
    refine then_n ?_
    refine wp_seq ?_
    refine wp_seq ?_
    refine wp_region_lit ?_
    refine wl_val ha46 rfl rfl rfl (op_move ha46 rfl rfl) ?_
    intro a47 ha47; clear ha46 a46
    refine wl_val ha47 rfl rfl rfl (op_lss ha47 rfl rfl rfl) ?_
    intro a48 ha48; clear ha47 a47
    refine wl_val ha48 rfl rfl rfl (op_move ha48 rfl rfl) ?_
    intro a49 ha49; clear ha48 a48
    by_cases c50 : (owI list bike : Int) < (0 : Int)
    ·
     rw [decide_eq_true c50] at ha49
     refine wl_skip ha49 rfl rfl rfl ?_
     intro a51 ha51; clear ha49 a49
     refine wl_skip ha51 rfl rfl rfl ?_
     intro a52 ha52; clear ha51 a51
     refine wl_val ha52 rfl rfl rfl (op_pick_t ha52 rfl rfl rfl) ?_
     intro a53 ha53; clear ha52 a52
     refine wpList_nil ?_
     refine then_n ?_
     refine cond_t ha53 rfl ?_
     refine wp_seq ?_
     refine wp_region_lit ?_
     refine wl_val ha53 rfl rfl rfl (op_assign ha53 rfl rfl) ?_
     intro a54 ha54; clear ha53 a53
     refine wl_val ha54 rfl rfl rfl (op_assign ha54 rfl rfl) ?_
     intro a55 ha55; clear ha54 a54
     refine wpList_nil ?_
     refine then_n ?_
     refine wp_ret ?_
     refine then_r ?_
     refine ret2 ha55 rfl rfl rfl ?_
     clear ha55 a55
     have hr := seC_4 c11 c30 c21 (.inl c50)
     have hr2 := seL_bad (by rw [hr]; decide)
     refine ret_mk hx44 ⟨(.slice none 0 0), [], (tup2_eq rfl (int_eq (by exact hr.symm))), Own.nil _ _ _ _ _ _, Nst.nil _ _ _ _ _ _, ?_⟩
     ·
      rw [hr2]; rfl
    ·
     rw [decide_eq_false c50] at ha49
     refine wl_val ha49 rfl rfl rfl (op_move ha49 rfl rfl) ?_
     intro a56 ha56; clear ha49 a49
     refine wl_val ha56 rfl rfl rfl (op_lss ha56 rfl rfl rfl) ?_
     intro a57 ha57; clear ha56 a56
     refine wl_val ha57 rfl rfl rfl (op_pick_f ha57 rfl rfl rfl) ?_
     intro a58 ha58; clear ha57 a57
     refine wpList_nil ?_
     refine then_n ?_
     by_cases c59 : (fnI list to : Int) < (0 : Int)
     ·
      rw [decide_eq_true c59] at ha58
      refine cond_t ha58 rfl ?_
      refine wp_seq ?_
      refine wp_region_lit ?_
      refine wl_val ha58 rfl rfl rfl (op_assign ha58 rfl rfl) ?_
      intro a60 ha60; clear ha58 a58
      refine wl_val ha60 rfl rfl rfl (op_assign ha60 rfl rfl) ?_
      intro a61 ha61; clear ha60 a60
      refine wpList_nil ?_
      refine then_n ?_
      refine wp_ret ?_
      refine then_r ?_
      refine ret2 ha61 rfl rfl rfl ?_
      clear ha61 a61
      have hr := seC_4 c11 c30 c21 (.inr c59)
      have hr2 := seL_bad (by rw [hr]; decide)
      refine ret_mk hx44 ⟨(.slice none 0 0), [], (tup2_eq rfl (int_eq (by exact hr.symm))), Own.nil _ _ _ _ _ _, Nst.nil _ _ _ _ _ _, ?_⟩
      ·
       rw [hr2]; rfl
     ·
      rw [decide_eq_false c59] at ha58
      refine cond_f ha58 rfl ?_
      refine wp_skip ?_
      refine then_n ?_
      refine wp_seq ?_
      refine wp_seq ?_
      refine wp_region_lit ?_
      refine wl_val ha58 rfl rfl rfl (op_move ha58 rfl rfl) ?_
      intro a62 ha62; clear ha58 a58
      refine wl_val ha62 rfl rfl rfl (op_move ha62 rfl rfl) ?_
      intro a63 ha63; clear ha62 a62
      refine wl_val ha63 rfl rfl rfl (op_eql ha63 rfl rfl rfl) ?_
      intro a64 ha64; clear ha63 a63
      refine wpList_nil ?_
      refine then_n ?_
      by_cases c65 : (owI list bike : Int) = (fnI list to : Int)
      ·
       rw [decide_eq_true c65] at ha64
       refine cond_t ha64 rfl ?_
       refine wp_seq ?_
       refine wp_region_lit ?_
       refine wl_val ha64 rfl rfl rfl (op_assign ha64 rfl rfl) ?_
       intro a66 ha66; clear ha64 a64
       refine wl_val ha66 rfl rfl rfl (op_assign ha66 rfl rfl) ?_
       intro a67 ha67; clear ha66 a66
       refine wpList_nil ?_
       refine then_n ?_
       refine wp_ret ?_
       refine then_r ?_
       refine ret2 ha67 rfl rfl rfl ?_
       clear ha67 a67
       have hr := seC_5 (cd3_0 c11 c30 c21 c59) c50 c65
       have hr2 := seL_bad (by rw [hr]; decide)
       refine ret_mk hx44 ⟨(.slice none 0 0), [], (tup2_eq rfl (int_eq (by exact hr.symm))), Own.nil _ _ _ _ _ _, Nst.nil _ _ _ _ _ _, ?_⟩
       ·
        rw [hr2]; rfl
      ·
       rw [decide_eq_false c65] at ha64
       refine cond_f ha64 rfl ?_
       refine wp_skip ?_
       refine then_n ?_
       refine wp_seq ?_
       refine wp_seq ?_
       refine wp_region_lit ?_
       refine wl_val ha64 rfl rfl rfl (op_move ha64 rfl rfl) ?_
       intro a68 ha68; clear ha64 a64
       refine wl_val ha68 rfl rfl rfl (op_move ha68 rfl rfl) ?_
       intro a69 ha69; clear ha68 a68
       obtain ⟨x70, hx70⟩ := get_ex (xs := list) (j := ((fnI list to : Int)).toNat) (by first | omega | (simp only [List.length_set]; omega))
       obtain ⟨p71, c72, hi73, hc74, hr75, hs76⟩ := Rds.at_ h_list hx70
       obtain ⟨v77, rfl, b78, b79, b80⟩ := inv_shCust hr75
       have hlb80 := b80.length_le
       have hbx70 := cuOk_bd (hcuc11 _ (List.mem_of_getElem? hx70))
       refine wl_val ha69 rfl rfl rfl (op_indexAddr ha69 rfl Try.underlying25 ti55 rfl rfl (by omega) hi73) ?_
       intro a81 ha81; clear ha69 a69
       refine wl_val ha81 rfl rfl rfl (op_fieldAddr (sz := 0) ha81 rfl Try.underlying55 rfl rfl ti34 rfl) ?_
       intro a82 ha82; clear ha81 a81
       refine wl_val ha82 rfl rfl rfl (op_loadF (off := 2) ha82 rfl Try.underlying34 rfl rfl (hc74.ext hx44) rfl) ?_
       intro a83 ha83; clear ha82 a82
       refine wl_val ha83 rfl rfl rfl (op_len_sl ha83 rfl Try.underlying34 rfl b80) ?_
       intro a84 ha84; clear ha83 a83
       refine wl_val ha84 rfl rfl rfl (op_eql ha84 rfl rfl rfl) ?_
       intro a85 ha85; clear ha84 a84
       refine wpList_nil ?_
       refine then_n ?_
       by_cases c86 : ((x70.2.2.length : Nat) : Int) = (5 : Int)
       ·
        rw [decide_eq_true c86] at ha85
        have hnc86 : x70.2.2.length = 5 := by omega
        refine cond_t ha85 rfl ?_
        refine wp_seq ?_
        refine wp_region_lit ?_
        refine wl_val ha85 rfl rfl rfl (op_assign ha85 rfl rfl) ?_
        intro a87 ha87; clear ha85 a85
        refine wl_val ha87 rfl rfl rfl (op_assign ha87 rfl rfl) ?_
        intro a88 ha88; clear ha87 a87
        refine wpList_nil ?_
        refine then_n ?_
        refine wp_ret ?_
        refine then_r ?_
        refine ret2 ha88 rfl rfl rfl ?_
        clear ha88 a88
        have hr := seC_3 (cd3_0 c11 c30 c21 c59) c50 c65 hx70 (by omega)
        have hr2 := seL_bad (by rw [hr]; decide)
        refine ret_mk hx44 ⟨(.slice none 0 0), [], (tup2_eq rfl (int_eq (by exact hr.symm))), Own.nil _ _ _ _ _ _, Nst.nil _ _ _ _ _ _, ?_⟩
        ·
         rw [hr2]; rfl
       ·
        rw [decide_eq_false c86] at ha85
        have hnc86 : ¬ x70.2.2.length = 5 := by omega
        refine cond_f ha85 rfl ?_
        refine wp_skip ?_
        refine then_n ?_
        refine wp_seq ?_
        refine wp_region_lit ?_
        refine wl_val ha85 rfl rfl rfl (op_move ha85 rfl rfl) ?_
        intro a89 ha89; clear ha85 a85
        refine wl_callR ha89 rfl rfl rfl (op_call ha89 rfl cb67 rfl) (c_impl_copyCustomers _ v_list list (h_list.ext pos_shCust hx44) (by first | assumption | omega | (simp; omega) | (intro c hc; have := cuOk_bd (cuB_el (by assumption) c hc); omega)) (by first | assumption | omega | (simp; omega) | (intro c hc; have := cuOk_bd (cuB_el (by assumption) c hc); omega))) ?_
        rintro v90 w91 he92 ⟨z94, ho93, hN95, hE96⟩ a97 ha97; clear ha89 a89
        have hx98 := hx44.trans' he92
        have hzhx98 := he92.size
        have hlhE96 := absLen hE96
        refine wl_val ha97 rfl rfl rfl (op_assign ha97 rfl rfl) ?_
        intro a99 ha99; clear ha97 a97
        refine wpList_nil ?_
        refine then_n ?_
        refine wp_seq ?_
        refine wp_region_lit ?_
        refine wl_val ha99 rfl rfl rfl (op_move ha99 rfl rfl) ?_
        intro a100 ha100; clear ha99 a99
        refine wl_val ha100 rfl rfl rfl (op_move ha100 rfl rfl) ?_
        intro a101 ha101; clear ha100 a100
        refine wl_val ha101 rfl rfl rfl (op_move ha101 rfl rfl) ?_
        intro a102 ha102; clear ha101 a101
        refine wl_val ha102 rfl rfl rfl (op_move ha102 rfl rfl) ?_
        intro a103 ha103; clear ha102 a102
        obtain ⟨x104, hx104⟩ := get_ex (xs := z94) (j := ((owI list bike : Int)).toNat) (by first | omega | (simp only [List.length_set]; omega))
        obtain ⟨p105, c106, hi107, hc108, hr109, hs110⟩ := Rds.at_ (ho93.rds pos_shCustN) hx104
        obtain ⟨rfl, b111, b112, b113⟩ := inv_shCustN hr109
        have hn114 : Own shStr 9 w41.heap.size w41.heap.size w91.heap.size w91 x104.2 x104.1.2.2 := hN95.get hx104
        obtain ⟨_, _⟩ : _ ∧ _ := hs110
        have hbzx104 := cuOk_bd (hcuc11 _ (List.mem_of_getElem? (abs_get hE96 hx104)))
        refine wl_val ha103 rfl rfl rfl (op_indexAddr ha103 rfl Try.underlying25 ti55 rfl rfl (by omega) hi107) ?_
        intro a115 ha115; clear ha103 a103
        refine wl_val ha115 rfl rfl rfl (op_fieldAddr (sz := 0) ha115 rfl Try.underlying55 rfl rfl ti34 rfl) ?_
        intro a116 ha116; clear ha115 a115
        refine wl_val ha116 rfl rfl rfl (op_loadF (off := 2) ha116 rfl Try.underlying34 rfl rfl hc108 rfl) ?_
        intro a117 ha117; clear ha116 a116
        refine wl_val ha117 rfl rfl rfl (op_move ha117 rfl rfl) ?_
        intro a118 ha118; clear ha117 a117
        refine wl_callR ha118 rfl rfl rfl (op_call ha118 rfl cb71 rfl) (c_impl_withoutBike _ x104.2 x104.1.2.2 bike (hn114.rds pos_shStr) (by first | assumption | omega | (simp; omega) | (intro c hc; have := cuOk_bd (cuB_el (by assumption) c hc); omega)) (by first | assumption | omega | (simp; omega) | (intro c hc; have := cuOk_bd (cuB_el (by assumption) c hc); omega))) ?_
        rintro v119 w120 he121 ho122 a123 ha123; clear ha118 a118
        have hx124 := hx98.trans' he121
        have hzhx124 := he121.size
        replace ho93 := ho93.ext he121
        replace hN95 := hN95.ext he121
        replace hn114 := hn114.ext he121
        replace hc108 := hc108.ext he121
        refine wl_val ha123 rfl rfl rfl (op_indexAddr ha123 rfl Try.underlying25 ti55 rfl rfl (by omega) hi107) ?_
        intro a125 ha125; clear ha123 a123
        refine wl_val ha125 rfl rfl rfl (op_fieldAddr (sz := 0) ha125 rfl Try.underlying55 rfl rfl ti34 rfl) ?_
        intro a126 ha126; clear ha125 a125
        refine wl_effS ha126 rfl rfl (op_setCells (s := shCustN) (off := 2) (ds := [v119]) (S' := fun _ => False) ha126 rfl ti34 rfl rfl ho122.cells1 rfl (by intro u hu; have hu : u ∈ ([v119] : List Value) := hu; simp only [List.mem_cons, List.mem_nil_iff, or_false] at hu; rcases hu with rfl <;> first | rfl | exact ho122.one) ho93 hi107 (by first | omega | (simp only [List.length_set]; omega)) (Nat.le_of_ble_eq_true rfl) hc108 rfl (mk_shCustN ((((x104.1.1, x104.1.2.1, (woL bike x104.1.2.2)) : Str × Int × List Str), (v119 : Value))) (by first | assumption | omega | (simp; done) | (dsimp only; omega) | (dsimp only; assumption) | exact ⟨by omega, by omega⟩) (by first | assumption | omega | (simp; done) | (dsimp only; omega) | (dsimp only; assumption) | exact ⟨by omega, by omega⟩) ho122.one) (fun _ h => h.elim)) ?_
        rintro w127 ⟨ho129, hst128, hz130⟩
        have hx131 := hx124.stp hst128 (by intro q hq; have hq0 := ho93.lt q hq; omega)
        have hzhx131 := hst128.size
        first | replace hN95 := hN95.stpF flat_shStr hst128 ho93 rfl | replace hN95 := hN95.stp hst128 (by intro q hq; have hq0 := ho93.lt q hq; omega)
        first | replace hn114 := hn114.stp hst128 (by intro q hq; have hq0 := ho93.lt q hq; omega) | replace hn114 := hn114.stpF flat_shStr hst128 (hn114.ne ho93 rfl)
        replace ho122 := ho122.stp hst128 (by intro q hq; have hq0 := ho93.lt q hq; omega)
        clear ho93
        have hlsho129 : ((z94.set (((owI list bike : Int)).toNat) ((((x104.1.1, x104.1.2.1, (woL bike x104.1.2.2)) : Str × Int × List Str), (v119 : Value))))).length = z94.length := List.length_set
        have hN132 : Nst shStr 9 (fun x : Str × Int × List Str => x.2.2) w41.heap.size w120.heap.size w127 ((z94.set (((owI list bike : Int)).toNat) ((((x104.1.1, x104.1.2.1, (woL bike x104.1.2.2)) : Str × Int × List Str), (v119 : Value))))) := hN95.set ho122 (by omega) (by omega) (by omega)
        refine wpList_nil ?_
        refine then_n ?_
        refine wp_seq ?_
        refine wp_region_lit ?_
        refine wl_val ha126 rfl rfl rfl (op_move ha126 rfl rfl) ?_
        intro a133 ha133; clear ha126 a126
        refine wl_val ha133 rfl rfl rfl (op_move ha133 rfl rfl) ?_
        intro a134 ha134; clear ha133 a133
        refine wl_val ha134 rfl rfl rfl (op_move ha134 rfl rfl) ?_
        intro a135 ha135; clear ha134 a134
        refine wl_val ha135 rfl rfl rfl (op_move ha135 rfl rfl) ?_
        intro a136 ha136; clear ha135 a135
        obtain ⟨x137, hx137⟩ := get_ex (xs := (z94.set (((owI list bike : Int)).toNat) ((((x104.1.1, x104.1.2.1, (woL bike x104.1.2.2)) : Str × Int × List Str), (v119 : Value))))) (j := ((fnI list to : Int)).toNat) (by first | omega | (simp only [List.length_set]; omega))
        obtain ⟨p138, c139, hi140, hc141, hr142, hs143⟩ := Rds.at_ (ho129.rds pos_shCustN) hx137
        obtain ⟨rfl, b144, b145, b146⟩ := inv_shCustN hr142
        have hn147 : Own shStr 9 w41.heap.size w41.heap.size w120.heap.size w127 x137.2 x137.1.2.2 := hN132.get hx137
        obtain ⟨_, _⟩ : _ ∧ _ := hs143
        have hb5x137 := hx137
        rw [List.getElem?_set_ne (by omega)] at hb5x137
        have hbzx137 := cuOk_bd (hcuc11 _ (List.mem_of_getElem? (abs_get hE96 hb5x137)))
        refine wl_val ha136 rfl rfl rfl (op_indexAddr ha136 rfl Try.underlying25 ti55 rfl rfl (by omega) hi140) ?_
        intro a148 ha148; clear ha136 a136
        refine wl_val ha148 rfl rfl rfl (op_fieldAddr (sz := 0) ha148 rfl Try.underlying55 rfl rfl ti34 rfl) ?_
        intro a149 ha149; clear ha148 a148
        refine wl_val ha149 rfl rfl rfl (op_loadF (off := 2) ha149 rfl Try.underlying34 rfl rfl hc141 rfl) ?_
        intro a150 ha150; clear ha149 a149
        refine wl_val ha150 rfl rfl rfl (op_move ha150 rfl rfl) ?_
        intro a151 ha151; clear ha150 a150
        refine wl_callR ha151 rfl rfl rfl (op_call ha151 rfl cb69 rfl) (c_impl_withBike _ x137.2 x137.1.2.2 bike (hn147.rds pos_shStr) (by first | assumption | omega | (simp; omega) | (intro c hc; have := cuOk_bd (cuB_el (by assumption) c hc); omega)) (by first | assumption | omega | (simp; omega) | (intro c hc; have := cuOk_bd (cuB_el (by assumption) c hc); omega))) ?_
        rintro v152 w153 he154 ho155 a156 ha156; clear ha151 a151
        have hx157 := hx131.trans' he154
        have hzhx157 := he154.size
        replace hn114 := hn114.ext he154
        replace ho122 := ho122.ext he154
        replace ho129 := ho129.ext he154
        replace hN132 := hN132.ext he154
        replace hn147 := hn147.ext he154
        replace hc141 := hc141.ext he154
        refine wl_val ha156 rfl rfl rfl (op_indexAddr ha156 rfl Try.underlying25 ti55 rfl rfl (by omega) hi140) ?_
        intro a158 ha158; clear ha156 a156
        refine wl_val ha158 rfl rfl rfl (op_fieldAddr (sz := 0) ha158 rfl Try.underlying55 rfl rfl ti34 rfl) ?_
        intro a159 ha159; clear ha158 a158
        refine wl_effS ha159 rfl rfl (op_setCells (s := shCustN) (off := 2) (ds := [v152]) (S' := fun _ => False) ha159 rfl ti34 rfl rfl ho155.cells1 rfl (by intro u hu; have hu : u ∈ ([v152] : List Value) := hu; simp only [List.mem_cons, List.mem_nil_iff, or_false] at hu; rcases hu with rfl <;> first | rfl | exact ho155.one) ho129 hi140 (by first | omega | (simp only [List.length_set]; omega)) (Nat.le_of_ble_eq_true rfl) hc141 rfl (mk_shCustN ((((x137.1.1, x137.1.2.1, (wbGo bike x137.1.2.2 false)) : Str × Int × List Str), (v152 : Value))) (by first | assumption | omega | (simp; done) | (dsimp only; omega) | (dsimp only; assumption) | exact ⟨by omega, by omega⟩) (by first | assumption | omega | (simp; done) | (dsimp only; omega) | (dsimp only; assumption) | exact ⟨by omega, by omega⟩) ho155.one) (fun _ h => h.elim)) ?_
        rintro w160 ⟨ho162, hst161, hz163⟩
        have hx164 := hx157.stp hst161 (by intro q hq; have hq0 := ho129.lt q hq; omega)
        have hzhx164 := hst161.size
        first | replace hn114 := hn114.stp hst161 (by intro q hq; have hq0 := ho129.lt q hq; omega) | replace hn114 := hn114.stpF flat_shStr hst161 (hn114.ne ho129 rfl)
        replace ho122 := ho122.stp hst161 (by intro q hq; have hq0 := ho129.lt q hq; omega)
        first | replace hN132 := hN132.stpF flat_shStr hst161 ho129 rfl | replace hN132 := hN132.stp hst161 (by intro q hq; have hq0 := ho129.lt q hq; omega)
        first | replace hn147 := hn147.stp hst161 (by intro q hq; have hq0 := ho129.lt q hq; omega) | replace hn147 := hn147.stpF flat_shStr hst161 (hn147.ne ho129 rfl)
        replace ho155 := ho155.stp hst161 (by intro q hq; have hq0 := ho129.lt q hq; omega)
        clear ho129
        have hlsho162 : ((((z94.set (((owI list bike : Int)).toNat) ((((x104.1.1, x104.1.2.1, (woL bike x104.1.2.2)) : Str × Int × List Str), (v119 : Value))))).set (((fnI list to : Int)).toNat) ((((x137.1.1, x137.1.2.1, (wbGo bike x137.1.2.2 false)) : Str × Int × List Str), (v152 : Value))))).length = ((z94.set (((owI list bike : Int)).toNat) ((((x104.1.1, x104.1.2.1, (woL bike x104.1.2.2)) : Str × Int × List Str), (v119 : Value))))).length := List.length_set
        have hN165 : Nst shStr 9 (fun x : Str × Int × List Str => x.2.2) w41.heap.size w153.heap.size w160 ((((z94.set (((owI list bike : Int)).toNat) ((((x104.1.1, x104.1.2.1, (woL bike x104.1.2.2)) : Str × Int × List Str), (v119 : Value))))).set (((fnI list to : Int)).toNat) ((((x137.1.1, x137.1.2.1, (wbGo bike x137.1.2.2 false)) : Str × Int × List Str), (v152 : Value))))) := hN132.set ho155 (by omega) (by omega) (by omega)
        refine wpList_nil ?_
        refine then_n ?_
        refine wp_seq ?_
        refine wp_region_lit ?_
        refine wl_val ha159 rfl rfl rfl (op_move ha159 rfl rfl) ?_
        intro a166 ha166; clear ha159 a159
        refine wl_val ha166 rfl rfl rfl (op_assign ha166 rfl rfl) ?_
        intro a167 ha167; clear ha166 a166
        refine wl_val ha167 rfl rfl rfl (op_assign ha167 rfl rfl) ?_
        intro a168 ha168; clear ha167 a167
        refine wpList_nil ?_
        refine then_n ?_
        refine wp_ret ?_
        refine ret2 ha168 rfl rfl rfl ?_
        clear ha168 a168
        have hqa := abs_get hE96 hx104
        obtain ⟨hr, hr2, hnb⟩ := seC_0 (cd3_0 c11 c30 c21 c59) c50 c65 hx70 (by omega) hqa
        refine ret_mk hx164 ⟨v90, (((z94.set (((owI list bike : Int)).toNat) ((((x104.1.1, x104.1.2.1, (woL bike x104.1.2.2)) : Str × Int × List Str), (v119 : Value))))).set (((fnI list to : Int)).toNat) ((((x137.1.1, x137.1.2.1, (wbGo bike x137.1.2.2 false)) : Str × Int × List Str), (v152 : Value)))), (tup2_eq rfl (int_eq (by exact hr.symm))), ho162.fin (by omega) (by omega) (by omega), hN165.fin (by omega) (by omega), ?_⟩
        ·
         have h5 := hx137
         rw [List.getElem?_set_ne (by omega)] at h5
         have h6 := some_eq hx70 (abs_get hE96 h5)
         rw [hr2, List.map_set, List.map_set, hE96]
         simp only [h6, wb_li hnb]
   ·
    rw [c30] at ha29
    refine cond_t ha29 rfl ?_
    refine wp_seq ?_
    refine wp_region_lit ?_
    refine wl_val ha29 rfl rfl rfl (op_assign ha29 rfl rfl) ?_
    intro a169 ha169; clear ha29 a29
    refine wl_val ha169 rfl rfl rfl (op_assign ha169 rfl rfl) ?_
    intro a170 ha170; clear ha169 a169
    refine wpList_nil ?_
    refine then_n ?_
    refine wp_ret ?_
    refine then_r ?_
    refine ret2 ha170 rfl rfl rfl ?_
    clear ha170 a170
    have hr := seC_c (cd3_1 (xs := list) (n := to) (b := bike) (.inr (.inl c30))) (by decide)
    have hr2 := seL_bad (by rw [hr]; decide)
    refine ret_mk hx27 ⟨(.slice none 0 0), [], (tup2_eq rfl (int_eq (by exact hr.symm))), Own.nil _ _ _ _ _ _, Nst.nil _ _ _ _ _ _, ?_⟩
    ·
     rw [hr2]; rfl
  ·
   rw [c21] at ha20
   refine wl_skip ha20 rfl rfl rfl ?_
   intro a171 ha171; clear ha20 a20
   refine wl_skip ha171 rfl rfl rfl ?_
   intro a172 ha172; clear ha171 a171
   refine wl_skip ha172 rfl rfl rfl ?_
   intro a173 ha173; clear ha172 a172
   refine wl_val ha173 rfl rfl rfl (op_pick_t ha173 rfl rfl rfl) ?_
   intro a174 ha174; clear ha173 a173
   refine wpList_nil ?_
   refine then_n ?_
   refine cond_t ha174 rfl ?_
   refine wp_seq ?_
   refine wp_region_lit ?_
   refine wl_val ha174 rfl rfl rfl (op_assign ha174 rfl rfl) ?_
   intro a175 ha175; clear ha174 a174
   refine wl_val ha175 rfl rfl rfl (op_assign ha175 rfl rfl) ?_
   intro a176 ha176; clear ha175 a175
   refine wpList_nil ?_
   refine then_n ?_
   refine wp_ret ?_
   refine then_r ?_
   refine ret2 ha176 rfl rfl rfl ?_
   clear ha176 a176
   have hr := seC_c (cd3_1 (xs := list) (n := to) (b := bike) (.inr (.inr c21))) (by decide)
   have hr2 := seL_bad (by rw [hr]; decide)
   refine ret_mk hx17 ⟨(.slice none 0 0), [], (tup2_eq rfl (int_eq (by exact hr.symm))), Own.nil _ _ _ _ _ _, Nst.nil _ _ _ _ _ _, ?_⟩
   ·
    rw [hr2]; rfl
 ·
  rw [c11] at ha10
  refine wl_skip ha10 rfl rfl rfl ?_
  intro a177 ha177; clear ha10 a10
  refine wl_skip ha177 rfl rfl rfl ?_
  intro a178 ha178; clear ha177 a177
  refine wl_skip ha178 rfl rfl rfl ?_
  intro a179 ha179; clear ha178 a178
  refine wl_val ha179 rfl rfl rfl (op_pick_t ha179 rfl rfl rfl) ?_
  intro a180 ha180; clear ha179 a179
  refine wl_val ha180 rfl rfl rfl (op_move ha180 rfl rfl) ?_
  intro a181 ha181; clear ha180 a180
  refine wl_skip ha181 rfl rfl rfl ?_
  intro a182 ha182; clear ha181 a181
  refine wl_skip ha182 rfl rfl rfl ?_
  intro a183 ha183; clear ha182 a182
  refine wl_skip ha183 rfl rfl rfl ?_
  intro a184 ha184; clear ha183 a183
  refine wl_val ha184 rfl rfl rfl (op_pick_t ha184 rfl rfl rfl) ?_
  intro a185 ha185; clear ha184 a184
  refine wpList_nil ?_
  refine then_n ?_
  refine cond_t ha185 rfl ?_
  refine wp_seq ?_
  refine wp_region_lit ?_
  refine wl_val ha185 rfl rfl rfl (op_assign ha185 rfl rfl) ?_
  intro a186 ha186; clear ha185 a185
  refine wl_val ha186 rfl rfl rfl (op_assign ha186 rfl rfl) ?_
  intro a187 ha187; clear ha186 a186
  refine wpList_nil ?_
  refine then_n ?_
  refine wp_ret ?_
  refine then_r ?_
  refine ret2 ha187 rfl rfl rfl ?_
  clear ha187 a187
  have hr := seC_c (cd3_1 (xs := list) (n := to) (b := bike) (.inl c11)) (by decide)
  have hr2 := seL_bad (by rw [hr]; decide)
  refine ret_mk hx8 ⟨(.slice none 0 0), [], (tup2_eq rfl (int_eq (by exact hr.symm))), Own.nil _ _ _ _ _ _, Nst.nil _ _ _ _ _ _, ?_⟩
  ·
   rw [hr2]; rfl

theorem c_spec_SellBike (w0 : World) (v_list : Value) (list : List (Str × Int × List Str)) {S_list : Nat → Prop} (bike : Str) (to : Str) (h_list : Rds shCust S_list w0 v_list list) (g0 : list.length ≤ 1048576) (g1 : bike.length ≤ 9223372036854775807) (g2 : to.length ≤ 9223372036854775807) :
  Calls Try.prog 38 #[v_list, St bike, St to] w0 (Ret w0 (fun v w1 => ∃ r0 z0, v = .tuple #[r0, .int .i64 (seC list bike to)] ∧ Own shCustN 55 w0.heap.size w0.heap.size w1.heap.size w1 r0 z0 ∧ Nst shStr 9 (fun x : Str × Int × List Str => x.2.2) w0.heap.size w1.heap.size w1 z0 ∧ z0.map (·.1) = (seL list bike to))) := by
 refine enter (N := 93) Try.func38 rfl rfl rfl ?_
 intro a0 ha0
 have hx0 := Ext.rfl' w0
 have hl_list := h_list.length_le
 have hf_to : -1 ≤ fnI list to ∧ fnI list to < list.length := fdF_bd (namB to) list
 have hob : -1 ≤ owI list bike ∧ owI list bike < list.length := fdF_bd (hasB bike) list
 refine wp_seq ?_
 refine wp_region_lit ?_
 refine wl_val ha0 rfl rfl rfl (op_assign ha0 rfl rfl) ?_
 intro a1 ha1; clear ha0 a0
 refine wl_val ha1 rfl rfl rfl (op_assign ha1 rfl rfl) ?_
 intro a2 ha2; clear ha1 a1
 refine wpList_nil ?_
 refine then_n ?_
 refine wp_seq ?_
 refine wp_region_lit ?_
 refine wl_val ha2 rfl rfl rfl (op_move ha2 rfl rfl) ?_
 intro a3 ha3; clear ha2 a2
 refine wl_val ha3 rfl rfl rfl (op_move ha3 rfl rfl) ?_
 intro a4 ha4; clear ha3 a3
 refine wl_val ha4 rfl rfl rfl (op_move ha4 rfl rfl) ?_
 intro a5 ha5; clear ha4 a4
 refine wl_callR ha5 rfl rfl rfl (op_call ha5 rfl cb70 rfl) (c_spec_l30Code _ v_list list to bike (h_list.ext pos_shCust hx0) (by first | assumption | omega | (simp; omega) | (intro c hc; have := cuOk_bd (cuB_el (by assumption) c hc); omega)) (by first | assumption | omega | (simp; omega) | (intro c hc; have := cuOk_bd (cuB_el (by assumption) c hc); omega)) (by first | assumption | omega | (simp; omega) | (intro c hc; have := cuOk_bd (cuB_el (by assumption) c hc); omega))) ?_
 rintro v6 w7 he8 rfl a9 ha9; clear ha5 a5
 have hx10 := hx0.trans' he8
 have hzhx10 := he8.size
 refine wl_val ha9 rfl rfl rfl (op_assign ha9 rfl rfl) ?_
 intro a11 ha11; clear ha9 a9
 refine wpList_nil ?_
 refine then_n ?_
 refine wp_seq ?_
 refine wp_seq ?_
 refine wp_region_lit ?_
 refine wl_val ha11 rfl rfl rfl (op_move ha11 rfl rfl) ?_
 intro a12 ha12; clear ha11 a11
 refine wl_val ha12 rfl rfl rfl ((op_neq ha12 rfl rfl rfl).to (congrArg Value.bool decide_not)) ?_
 intro a13 ha13; clear ha12 a12
 refine wpList_nil ?_
 refine then_n ?_
 by_cases c14 : (cd3 list to bike : Int) = (0 : Int)
 ·
  rw [decide_eq_true c14] at ha13
  obtain ⟨hk1c14, hk2c14, hk3c14, hk4c14⟩ := cd3_ok c14
  have hlenc14 := cuB_len hk1c14
  have hcuc14 := cuB_el hk1c14
  refine cond_f ha13 rfl ?_
  refine wp_skip ?_
  refine then_n ?_
  refine wp_seq ?_
  refine wp_region_lit ?_
  refine wl_val ha13 rfl rfl rfl (op_move ha13 rfl rfl) ?_
  intro a15 ha15; clear ha13 a13
  refine wl_val ha15 rfl rfl rfl (op_move ha15 rfl rfl) ?_
  intro a16 ha16; clear ha15 a15
  refine wl_callR ha16 rfl rfl rfl (op_call ha16 rfl cb54 rfl) (c_spec_l30Owner _ v_list list bike (h_list.ext pos_shCust hx10)) ?_
  rintro v17 w18 he19 rfl a20 ha20; clear ha16 a16
  have hx21 := hx10.trans' he19
  have hzhx21 := he19.size
  refine wl_val ha20 rfl rfl rfl (op_move ha20 rfl rfl) ?_
  intro a22 ha22; clear ha20 a20
  refine wl_val ha22 rfl rfl rfl (op_move ha22 rfl rfl) ?_
  intro a23 ha23; clear ha22 a22
  refine wl_callR ha23 rfl rfl rfl (op_call ha23 rfl cb64 rfl) (c_spec_l30Find _ v_list list to (h_list.ext pos_shCust hx21)) ?_
  rintro v24 w25 he26 rfl a27 ha27; clear ha23 a23
  have hx28 := hx21.trans' he26
  have hzhx28 := he26.size
  refine wl_val ha27 rfl rfl rfl (op_assign ha27 rfl rfl) ?_
  intro a29 ha29; clear ha27 a27
  refine wl_val ha29 rfl rfl rfl (op_assign ha29 rfl rfl) ?_
  intro a30 ha30; clear ha29 a29
  refine wpList_nil ?_
  refine then_n ?_
  refine wp_seq ?_
  refine wp_block ?_
  refine wp_seq ?_
  refine wp_region_lit ?_
  refine wl_val ha30 rfl rfl rfl (op_move ha30 rfl rfl) ?_
  intro a31 ha31; clear ha30 a30
  refine wl_val ha31 rfl rfl rfl (op_lss ha31 rfl rfl rfl) ?_
  intro a32 ha32; clear ha31 a31
  refine wl_val ha32 rfl rfl rfl (op_assign ha32 rfl rfl) ?_
  intro a33 ha33; clear ha32 a32
  refine wpList_nil ?_
  refine then_n ?_
  by_cases c34 : (owI list bike : Int) < (0 : Int)
  ·
   rw [decide_eq_true c34] at ha33
   refine cond_t ha33 rfl ?_
   refine wp_seq ?_
   refine wp_region_lit ?_
   refine wl_val ha33 rfl rfl rfl (op_assign ha33 rfl rfl) ?_
   intro a35 ha35; clear ha33 a33
   refine wl_val ha35 rfl rfl rfl (op_assign ha35 rfl rfl) ?_
   intro a36 ha36; clear ha35 a35
   refine wpList_nil ?_
   refine then_n ?_
   refine wp_ret ?_
   refine block_r ?_
   refine then_r ?_
   refine ret2 ha36 rfl rfl rfl ?_
   clear ha36 a36
   have hr := seC_4 hk1c14 hk2c14 hk3c14 (.inl c34)
   have hr2 := seL_bad (by rw [hr]; decide)
   refine ret_mk hx28 ⟨(.slice none 0 0), [], (tup2_eq rfl (int_eq (by exact hr.symm))), Own.nil _ _ _ _ _ _, Nst.nil _ _ _ _ _ _, ?_⟩
   ·
    rw [hr2]; rfl
  ·
   rw [decide_eq_false c34] at ha33
   refine cond_f ha33 rfl ?_
   refine wp_seq ?_
   refine wp_region_lit ?_
   refine wl_val ha33 rfl rfl rfl (op_move ha33 rfl rfl) ?_
   intro a37 ha37; clear ha33 a33
   refine wl_val ha37 rfl rfl rfl (op_move ha37 rfl rfl) ?_
   intro a38 ha38; clear ha37 a37
   refine wl_val ha38 rfl rfl rfl (op_eql ha38 rfl rfl rfl) ?_
   intro a39 ha39; clear ha38 a38
   refine wl_val ha39 rfl rfl rfl (op_assign ha39 rfl rfl) ?_
   intro a40 ha40; clear ha39 a39
   refine wpList_nil ?_
   refine then_n ?_
   by_cases c41 : (owI list bike : Int) = (fnI list to : Int)
   ·
    rw [decide_eq_true c41] at ha40
    refine cond_t ha40 rfl ?_
    refine wp_seq ?_
    refine wp_region_lit ?_
    refine wl_val ha40 rfl rfl rfl (op_assign ha40 rfl rfl) ?_
    intro a42 ha42; clear ha40 a40
    refine wl_val ha42 rfl rfl rfl (op_assign ha42 rfl rfl) ?_
    intro a43 ha43; clear ha42 a42
    refine wpList_nil ?_
    refine then_n ?_
    refine wp_ret ?_
    refine block_r ?_
    refine then_r ?_
    refine ret2 ha43 rfl rfl rfl ?_
    clear ha43 a43
    have hr := seC_5 c14 c34 c41
    have hr2 := seL_bad (by rw [hr]; decide)
    refine ret_mk hx28 ⟨(.slice none 0 0), [], (tup2_eq rfl (int_eq (by exact hr.symm))), Own.nil _ _ _ _ _ _, Nst.nil _ _ _ _ _ _, ?_⟩
    ·
     rw [hr2]; rfl
   ·
    rw [decide_eq_false c41] at ha40
    refine cond_f ha40 rfl ?_
    refine wp_seq ?_
    refine wp_region_lit ?_
    refine wl_val ha40 rfl rfl rfl (op_move ha40 rfl rfl) ?_
    intro a44 ha44; clear ha40 a40
    refine wl_val ha44 rfl rfl rfl (op_move ha44 rfl rfl) ?_
    intro a45 ha45; clear ha44 a44
    obtain ⟨x46, hx46⟩ := get_ex (xs := list) (j := ((fnI list to : Int)).toNat) (by first | omega | (simp only [List.length_set]; omega))
    obtain ⟨p47, c48, hi49, hc50, hr51, hs52⟩ := Rds.at_ h_list hx46
    obtain ⟨v53, rfl, b54, b55, b56⟩ := inv_shCust hr51
    have hlb56 := b56.length_le
    have hbx46 := cuOk_bd (hcuc14 _ (List.mem_of_getElem? hx46))
    refine wl_val ha45 rfl rfl rfl (op_indexAddr ha45 rfl Try.underlying25 ti55 rfl rfl (by omega) hi49) ?_
    intro a57 ha57; clear ha45 a45
    refine wl_val ha57 rfl rfl rfl (op_fieldAddr (sz := 0) ha57 rfl Try.underlying55 rfl rfl ti34 rfl) ?_
    intro a58 ha58; clear ha57 a57
    refine wl_val ha58 rfl rfl rfl (op_loadF (off := 2) ha58 rfl Try.underlying34 rfl rfl (hc50.ext hx28) rfl) ?_
    intro a59 ha59; clear ha58 a58
    refine wl_val ha59 rfl rfl rfl (op_len_sl ha59 rfl Try.underlying34 rfl b56) ?_
    intro a60 ha60; clear ha59 a59
    refine wl_val ha60 rfl rfl rfl (op_eql ha60 rfl rfl rfl) ?_
    intro a61 ha61; clear ha60 a60
    refine wl_val ha61 rfl rfl rfl (op_assign ha61 rfl rfl) ?_
    intro a62 ha62; clear ha61 a61
    refine wpList_nil ?_
    refine then_n ?_
    by_cases c63 : ((x46.2.2.length : Nat) : Int) = (5 : Int)
    ·
     rw [decide_eq_true c63] at ha62
     have hnc63 : x46.2.2.length = 5 := by omega
     refine cond_t ha62 rfl ?_
     refine wp_seq ?_
     refine wp_region_lit ?_
     refine wl_val ha62 rfl rfl rfl (op_assign ha62 rfl rfl) ?_
     intro a64 ha64; clear ha62 a62
     refine wl_val ha64 rfl rfl rfl (op_assign ha64 rfl rfl) ?_
     intro a65 ha65; clear ha64 a64
     refine wpList_nil ?_
     refine then_n ?_
     refine wp_ret ?_
     refine block_r ?_
     refine then_r ?_
     refine ret2 ha65 rfl rfl rfl ?_
     clear ha65 a65
     have hr := seC_3 c14 c34 c41 hx46 (by omega)
     have hr2 := seL_bad (by rw [hr]; decide)
     refine ret_mk hx28 ⟨(.slice none 0 0), [], (tup2_eq rfl (int_eq (by exact hr.symm))), Own.nil _ _ _ _ _ _, Nst.nil _ _ _ _ _ _, ?_⟩
     ·
      rw [hr2]; rfl
    ·
     rw [decide_eq_false c63] at ha62
     have hnc63 : ¬ x46.2.2.length = 5 := by omega
     refine cond_f ha62 rfl ?_
     refine wp_skip ?_
     refine block_n ?_
     refine then_n ?_
     refine wp_seq ?_
     refine wp_region_lit ?_
     refine wl_val ha62 rfl rfl rfl (op_move ha62 rfl rfl) ?_
     intro a66 ha66; clear ha62 a62
     refine wl_callR ha66 rfl rfl rfl (op_call ha66 rfl cb65 rfl) (c_spec_l30Copy _ v_list list (h_list.ext pos_shCust hx28) (by first | assumption | omega | (simp; omega) | (intro c hc; have := cuOk_bd (cuB_el (by assumption) c hc); omega)) (by first | assumption | omega | (simp; omega) | (intro c hc; have := cuOk_bd (cuB_el (by assumption) c hc); omega))) ?_
     rintro v67 w68 he69 ⟨z71, ho70, hN72, hE73⟩ a74 ha74; clear ha66 a66
     have hx75 := hx28.trans' he69
     have hzhx75 := he69.size
     have hlhE73 := absLen hE73
     refine wl_val ha74 rfl rfl rfl (op_assign ha74 rfl rfl) ?_
     intro a76 ha76; clear ha74 a74
     refine wpList_nil ?_
     refine then_n ?_
     refine wp_seq ?_
     refine wp_region_lit ?_
     refine wl_eff ha76 rfl rfl rfl (op_buildSlice (s := shStr) (xs := ([] : List Str)) (cs := []) (vs := []) (S := fun _ => False) (le := w68.heap.size) ha76 rfl pos_shStr Try.underlying34 ti9 rfl rfl (by decide) (by kernel_rfl) rfl (fun _ h => h.elim)) ?_
     rintro v77 w78 ⟨ho79, he80, hob81⟩ a82 ha82; clear ha76 a76
     have hx83 := hx75.trans' he80
     have hzhx83 := he80.size
     replace ho70 := ho70.ext he80
     replace hN72 := hN72.ext he80
     refine wl_val ha82 rfl rfl rfl (op_assign ha82 rfl rfl) ?_
     intro a84 ha84; clear ha82 a82
     refine wpList_nil ?_
     refine then_n ?_
     refine wp_seq ?_
     refine wp_seq ?_
     refine wp_region_lit ?_
     refine wl_val ha84 rfl rfl rfl (op_assign ha84 rfl rfl) ?_
     intro a85 ha85; clear ha84 a84
     refine wpList_nil ?_
     refine then_n ?_
     refine wp_block ?_
     obtain ⟨x86, hx86⟩ := get_ex (xs := list) (j := ((owI list bike : Int)).toNat) (by first | omega | (simp only [List.length_set]; omega))
     obtain ⟨p87, c88, hi89, hc90, hr91, hs92⟩ := Rds.at_ h_list hx86
     obtain ⟨v93, rfl, b94, b95, b96⟩ := inv_shCust hr91
     have hlb96 := b96.length_le
     have hbx86 := cuOk_bd (hcuc14 _ (List.mem_of_getElem? hx86))
     refine loop_inv (X := Nat × Value × (List Str)) (fun (⟨j, v, acc⟩ : Nat × Value × (List Str)) fr wl => Sl 93 fr [(0, v_list), (1, St bike), (9, .int .i64 (owI list bike : Int)), (10, .int .i64 (fnI list to : Int)), (11, v67), (12, v), (13, .int .i64 ((j : Nat) : Int))] ∧ Ext w0 wl ∧ Own shCustN 55 w25.heap.size w25.heap.size w68.heap.size wl v67 z71 ∧ Nst shStr 9 (fun x : Str × Int × List Str => x.2.2) w25.heap.size w68.heap.size wl z71 ∧ Own shStr 9 w68.heap.size w68.heap.size wl.heap.size wl v acc ∧ w78.heap.size ≤ wl.heap.size ∧ (j ≤ x86.2.2.length) ∧ (acc.length ≤ j) ∧ (acc ++ woL bike (x86.2.2.drop j) = woL bike x86.2.2)) (fun (⟨j, v, acc⟩ : Nat × Value × (List Str)) => x86.2.2.length - j) (0, v77, ([] : List Str)) ?_ ?_
     ·
      exact ⟨(Sl.cons_ ha85 rfl rfl (Sl.cons_ ha85 rfl rfl (Sl.cons_ ha85 rfl rfl (Sl.cons_ ha85 rfl rfl (Sl.cons_ ha85 rfl rfl (Sl.cons_ ha85 rfl rfl (Sl.cons_ ha85 rfl (int_eq (by omega)) (Sl.nil_ ha85)))))))), hx83, ho70, hN72, (ho79.fin (by omega) (by omega) (by omega)), (by omega), (by omega), (by simp), (by rfl)⟩
     ·
      clear ha85 a85
      rintro ⟨j, v, acc⟩ a102 w97 ⟨ha102, hx98, hf99, hf100, hf101, hzl103, hj, hl, hG⟩
      have hzhx98 := hx98.size
      refine wp_seq ?_
      refine wp_seq ?_
      refine wp_region_lit ?_
      refine wl_val ha102 rfl rfl rfl (op_move ha102 rfl rfl) ?_
      intro a104 ha104; clear ha102 a102
      refine wl_val ha104 rfl rfl rfl (op_move ha104 rfl rfl) ?_
      intro a105 ha105; clear ha104 a104
      refine wl_val ha105 rfl rfl rfl (op_move ha105 rfl rfl) ?_
      intro a106 ha106; clear ha105 a105
      refine wl_val ha106 rfl rfl rfl (op_indexAddr ha106 rfl Try.underlying25 ti55 rfl rfl (by omega) hi89) ?_
      intro a107 ha107; clear ha106 a106
      refine wl_val ha107 rfl rfl rfl (op_fieldAddr (sz := 0) ha107 rfl Try.underlying55 rfl rfl ti34 rfl) ?_
      intro a108 ha108; clear ha107 a107
      refine wl_val ha108 rfl rfl rfl (op_loadF (off := 2) ha108 rfl Try.underlying34 rfl rfl (hc90.ext hx98) rfl) ?_
      intro a109 ha109; clear ha108 a108
      refine wl_val ha109 rfl rfl rfl (op_len_sl ha109 rfl Try.underlying34 rfl b96) ?_
      intro a110 ha110; clear ha109 a109
      refine wl_val ha110 rfl rfl rfl (op_lss ha110 rfl rfl rfl) ?_
      intro a111 ha111; clear ha110 a110
      refine wpList_nil ?_
      refine then_n ?_
      by_cases c112 : ((j : Nat) : Int) < ((x86.2.2.length : Nat) : Int)
      ·
       rw [decide_eq_true c112] at ha111
       refine cond_t ha111 rfl ?_
       refine wp_skip ?_
       refine then_n ?_
       refine wp_seq ?_
       refine wp_block ?_
       refine wp_seq ?_
       refine wp_region_lit ?_
       refine wl_val ha111 rfl rfl rfl (op_move ha111 rfl rfl) ?_
       intro a113 ha113; clear ha111 a111
       refine wl_val ha113 rfl rfl rfl (op_move ha113 rfl rfl) ?_
       intro a114 ha114; clear ha113 a113
       refine wl_val ha114 rfl rfl rfl (op_indexAddr ha114 rfl Try.underlying25 ti55 rfl rfl (by omega) hi89) ?_
       intro a115 ha115; clear ha114 a114
       refine wl_val ha115 rfl rfl rfl (op_fieldAddr (sz := 0) ha115 rfl Try.underlying55 rfl rfl ti34 rfl) ?_
       intro a116 ha116; clear ha115 a115
       refine wl_val ha116 rfl rfl rfl (op_loadF (off := 2) ha116 rfl Try.underlying34 rfl rfl (hc90.ext hx98) rfl) ?_
       intro a117 ha117; clear ha116 a116
       refine wl_val ha117 rfl rfl rfl (op_move ha117 rfl rfl) ?_
       intro a118 ha118; clear ha117 a117
       obtain ⟨x119, hx119⟩ := get_ex (xs := x86.2.2) (j := j) (by first | omega | (simp only [List.length_set]; omega))
       obtain ⟨p120, c121, hi122, hc123, hr124, hs125⟩ := Rds.at_ b96 hx119
       obtain ⟨rfl, b126⟩ := inv_shStr hr124
       refine wl_val ha118 rfl rfl rfl (op_indexAddr ha118 rfl Try.underlying34 ti9 rfl rfl (by omega) hi122) ?_
       intro a127 ha127; clear ha118 a118
       refine wl_val ha127 rfl rfl rfl (op_loadH ha127 rfl Try.underlying9 rfl rfl (hc123.ext hx98) rfl) ?_
       intro a128 ha128; clear ha127 a127
       refine wl_val ha128 rfl rfl rfl (op_move ha128 rfl rfl) ?_
       intro a129 ha129; clear ha128 a128
       refine wl_val ha129 rfl rfl rfl ((op_sneq ha129 rfl rfl rfl).to (congrArg Value.bool decide_not)) ?_
       intro a130 ha130; clear ha129 a129
       refine wpList_nil ?_
       refine then_n ?_
       by_cases c131 : x119 = bike
       ·
        rw [decide_eq_true c131] at ha130
        refine cond_f ha130 rfl ?_
        refine wp_skip ?_
        refine block_n ?_
        refine then_n ?_
        refine wp_region_lit ?_
        refine wl_val ha130 rfl rfl rfl (op_move ha130 rfl rfl) ?_
        intro a132 ha132; clear ha130 a130
        refine wl_val ha132 rfl rfl rfl ((op_add ha132 rfl rfl rfl).int (IntWalk.i64_in _ (by omega))) ?_
        intro a133 ha133; clear ha132 a132
        refine wl_val ha133 rfl rfl rfl (op_assign ha133 rfl rfl) ?_
        intro a134 ha134; clear ha133 a133
        refine wpList_nil ?_
        refine round_end (x := (j, v, acc)) ((j + 1), v, acc) ?_ ?_
        ·
         refine ⟨(Sl.cons_ ha134 rfl rfl (Sl.cons_ ha134 rfl rfl (Sl.cons_ ha134 rfl rfl (Sl.cons_ ha134 rfl rfl (Sl.cons_ ha134 rfl rfl (Sl.cons_ ha134 rfl rfl (Sl.cons_ ha134 rfl (int_eq (by omega)) (Sl.nil_ ha134)))))))), hx98, hf99, hf100, (hf101.fin (by omega) (by omega) (by omega)), (by omega), (by omega), (by first | omega | (simp; omega)), (by rw [drop_cons hx119, wo_step, if_pos (by assumption)] at hG; exact hG)⟩
        ·show (x86.2.2.length - ((j + 1)) : Nat) < x86.2.2.length - j; omega
       ·
        rw [decide_eq_false c131] at ha130
        refine cond_t ha130 rfl ?_
        refine wp_region_lit ?_
        refine wl_val ha130 rfl rfl rfl (op_move ha130 rfl rfl) ?_
        intro a135 ha135; clear ha130 a130
        refine wl_val ha135 rfl rfl rfl (op_move ha135 rfl rfl) ?_
        intro a136 ha136; clear ha135 a135
        refine wl_val ha136 rfl rfl rfl (op_move ha136 rfl rfl) ?_
        intro a137 ha137; clear ha136 a136
        refine wl_val ha137 rfl rfl rfl (op_indexAddr ha137 rfl Try.underlying25 ti55 rfl rfl (by omega) hi89) ?_
        intro a138 ha138; clear ha137 a137
        refine wl_val ha138 rfl rfl rfl (op_fieldAddr (sz := 0) ha138 rfl Try.underlying55 rfl rfl ti34 rfl) ?_
        intro a139 ha139; clear ha138 a138
        refine wl_val ha139 rfl rfl rfl (op_loadF (off := 2) ha139 rfl Try.underlying34 rfl rfl (hc90.ext hx98) rfl) ?_
        intro a140 ha140; clear ha139 a139
        refine wl_val ha140 rfl rfl rfl (op_move ha140 rfl rfl) ?_
        intro a141 ha141; clear ha140 a140
        refine wl_val ha141 rfl rfl rfl (op_indexAddr ha141 rfl Try.underlying34 ti9 rfl rfl (by omega) hi122) ?_
        intro a142 ha142; clear ha141 a141
        refine wl_val ha142 rfl rfl rfl (op_loadH ha142 rfl Try.underlying9 rfl rfl (hc123.ext hx98) rfl) ?_
        intro a143 ha143; clear ha142 a142
        refine wl_eff ha143 rfl rfl rfl (op_buildSlice (s := shStr) (xs := [x119]) (cs := [St x119]) (vs := [(0, St x119)]) (S := fun _ => False) (le := w97.heap.size) ha143 rfl pos_shStr Try.underlying34 ti9 rfl rfl (by decide) (by kernel_rfl) (Els.single (mk_shStr x119 (by first | assumption | omega | (simp; done) | (dsimp only; omega) | (dsimp only; assumption) | exact ⟨by omega, by omega⟩))) (fun _ h => h.elim)) ?_
        rintro v144 w145 ⟨ho146, he147, hob148⟩ a149 ha149; clear ha143 a143
        have hx150 := hx98.trans' he147
        have hzhx150 := he147.size
        replace hf99 := hf99.ext he147
        replace hf100 := hf100.ext he147
        replace hf101 := hf101.ext he147
        refine wl_eff ha149 rfl rfl rfl (op_append (ts := #[]) (s := shStr) ha149 rfl Try.underlying34 ti9 rfl pos_shStr rfl rfl hf101 (ho146.rds pos_shStr) (by omega) (by omega) (by first | omega | (simp; omega) | (simp only [List.length_append, List.length_take, List.length_drop, List.length_singleton] at *; omega)) (by first | omega | (simp; omega) | (simp only [List.length_append, List.length_take, List.length_drop, List.length_singleton] at *; omega)) (.inl flat_shStr)) ?_
        rintro v151 w152 ⟨ho153, hst154, hob155⟩ a156 ha156; clear ha149 a149
        have hx157 := hx150.stp hst154 (by intro q hq; have hq0 := hf101.lt q hq; omega)
        have hzhx157 := hst154.size
        replace hf99 := hf99.stp hst154 (by intro q hq; have hq0 := hf101.lt q hq; omega)
        replace hf100 := hf100.stp hst154 (by intro q hq; have hq0 := hf101.lt q hq; omega)
        replace ho146 := ho146.stp hst154 (by intro q hq; have hq0 := hf101.lt q hq; omega)
        have hsp158 : ∀ q, Value.ownBlock v151 = some q → Value.ownBlock v144 ≠ some q := by intro q hq hb; have hq0 := ho146.lt q hb; rcases hob155 with h | h; (rw [h] at hq; first | (have hq1 := hf101.lt q hq; omega)); (rw [h] at hq; cases hq; omega)
        have hlaq159 : ((acc ++ [x119])).length = acc.length + 1 := by simp
        refine wl_val ha156 rfl rfl rfl (op_assign ha156 rfl rfl) ?_
        intro a160 ha160; clear ha156 a156
        refine wpList_nil ?_
        refine block_n ?_
        refine then_n ?_
        refine wp_region_lit ?_
        refine wl_val ha160 rfl rfl rfl (op_move ha160 rfl rfl) ?_
        intro a161 ha161; clear ha160 a160
        refine wl_val ha161 rfl rfl rfl ((op_add ha161 rfl rfl rfl).int (IntWalk.i64_in _ (by omega))) ?_
        intro a162 ha162; clear ha161 a161
        refine wl_val ha162 rfl rfl rfl (op_assign ha162 rfl rfl) ?_
        intro a163 ha163; clear ha162 a162
        refine wpList_nil ?_
        refine round_end (x := (j, v, acc)) ((j + 1), v151, (acc ++ [x119])) ?_ ?_
        ·
         refine ⟨(Sl.cons_ ha163 rfl rfl (Sl.cons_ ha163 rfl rfl (Sl.cons_ ha163 rfl rfl (Sl.cons_ ha163 rfl rfl (Sl.cons_ ha163 rfl rfl (Sl.cons_ ha163 rfl rfl (Sl.cons_ ha163 rfl (int_eq (by omega)) (Sl.nil_ ha163)))))))), hx157, hf99, hf100, (ho153.fin (by omega) (by omega) (by omega)), (by omega), (by omega), (by first | omega | (simp; omega)), (by rw [drop_cons hx119, wo_step, if_neg (by assumption)] at hG; rw [← hG]; simp)⟩
        ·show (x86.2.2.length - ((j + 1)) : Nat) < x86.2.2.length - j; omega
      ·
       rw [decide_eq_false c112] at ha111
       refine cond_f ha111 rfl ?_
       refine wp_exit ?_
       refine then_e ?_
       refine then_e ?_
       refine block_hit ?_
       refine then_n ?_
       refine wp_seq ?_
       refine wp_region_lit ?_
       refine wl_val ha111 rfl rfl rfl (op_move ha111 rfl rfl) ?_
       intro a164 ha164; clear ha111 a111
       refine wl_val ha164 rfl rfl rfl (op_move ha164 rfl rfl) ?_
       intro a165 ha165; clear ha164 a164
       refine wl_val ha165 rfl rfl rfl (op_move ha165 rfl rfl) ?_
       intro a166 ha166; clear ha165 a165
       obtain ⟨x167, hx167⟩ := get_ex (xs := z71) (j := ((owI list bike : Int)).toNat) (by first | omega | (simp only [List.length_set]; omega))
       obtain ⟨p168, c169, hi170, hc171, hr172, hs173⟩ := Rds.at_ (hf99.rds pos_shCustN) hx167
       obtain ⟨rfl, b174, b175, b176⟩ := inv_shCustN hr172
       have hn177 : Own shStr 9 w25.heap.size w25.heap.size w68.heap.size w97 x167.2 x167.1.2.2 := hf100.get hx167
       obtain ⟨_, _⟩ : _ ∧ _ := hs173
       have hbzx167 := cuOk_bd (hcuc14 _ (List.mem_of_getElem? (abs_get hE73 hx167)))
       refine wl_val ha166 rfl rfl rfl (op_indexAddr ha166 rfl Try.underlying25 ti55 rfl rfl (by omega) hi170) ?_
       intro a178 ha178; clear ha166 a166
       refine wl_val ha178 rfl rfl rfl (op_fieldAddr (sz := 0) ha178 rfl Try.underlying55 rfl rfl ti34 rfl) ?_
       intro a179 ha179; clear ha178 a178
       refine wl_effS ha179 rfl rfl (op_setCells (s := shCustN) (off := 2) (ds := [v]) (S' := fun _ => False) ha179 rfl ti34 rfl rfl hf101.cells1 rfl (by intro u hu; have hu : u ∈ ([v] : List Value) := hu; simp only [List.mem_cons, List.mem_nil_iff, or_false] at hu; rcases hu with rfl <;> first | rfl | exact hf101.one) hf99 hi170 (by first | omega | (simp only [List.length_set]; omega)) (Nat.le_of_ble_eq_true rfl) hc171 rfl (mk_shCustN ((((x167.1.1, x167.1.2.1, acc) : Str × Int × List Str), (v : Value))) (by first | assumption | omega | (simp; done) | (dsimp only; omega) | (dsimp only; assumption) | exact ⟨by omega, by omega⟩) (by first | assumption | omega | (simp; done) | (dsimp only; omega) | (dsimp only; assumption) | exact ⟨by omega, by omega⟩) hf101.one) (fun _ h => h.elim)) ?_
       rintro w180 ⟨ho182, hst181, hz183⟩
       have hx184 := hx98.stp hst181 (by intro q hq; have hq0 := hf99.lt q hq; omega)
       have hzhx184 := hst181.size
       first | replace hf100 := hf100.stpF flat_shStr hst181 hf99 rfl | replace hf100 := hf100.stp hst181 (by intro q hq; have hq0 := hf99.lt q hq; omega)
       replace hf101 := hf101.stp hst181 (by intro q hq; have hq0 := hf99.lt q hq; omega)
       first | replace hn177 := hn177.stp hst181 (by intro q hq; have hq0 := hf99.lt q hq; omega) | replace hn177 := hn177.stpF flat_shStr hst181 (hn177.ne hf99 rfl)
       clear hf99
       have hlsho182 : ((z71.set (((owI list bike : Int)).toNat) ((((x167.1.1, x167.1.2.1, acc) : Str × Int × List Str), (v : Value))))).length = z71.length := List.length_set
       have hN185 : Nst shStr 9 (fun x : Str × Int × List Str => x.2.2) w25.heap.size w97.heap.size w180 ((z71.set (((owI list bike : Int)).toNat) ((((x167.1.1, x167.1.2.1, acc) : Str × Int × List Str), (v : Value))))) := hf100.set hf101 (by omega) (by omega) (by omega)
       refine wpList_nil ?_
       refine then_n ?_
       refine wp_seq ?_
       refine wp_region_lit ?_
       refine wl_val ha179 rfl rfl rfl (op_move ha179 rfl rfl) ?_
       intro a186 ha186; clear ha179 a179
       refine wl_val ha186 rfl rfl rfl (op_move ha186 rfl rfl) ?_
       intro a187 ha187; clear ha186 a186
       refine wl_val ha187 rfl rfl rfl (op_move ha187 rfl rfl) ?_
       intro a188 ha188; clear ha187 a187
       refine wl_val ha188 rfl rfl rfl (op_move ha188 rfl rfl) ?_
       intro a189 ha189; clear ha188 a188
       refine wl_val ha189 rfl rfl rfl (op_indexAddr ha189 rfl Try.underlying25 ti55 rfl rfl (by omega) hi49) ?_
       intro a190 ha190; clear ha189 a189
       refine wl_val ha190 rfl rfl rfl (op_fieldAddr (sz := 0) ha190 rfl Try.underlying55 rfl rfl ti34 rfl) ?_
       intro a191 ha191; clear ha190 a190
       refine wl_val ha191 rfl rfl rfl (op_loadF (off := 2) ha191 rfl Try.underlying34 rfl rfl (hc50.ext hx184) rfl) ?_
       intro a192 ha192; clear ha191 a191
       refine wl_val ha192 rfl rfl rfl (op_move ha192 rfl rfl) ?_
       intro a193 ha193; clear ha192 a192
       refine wl_callR ha193 rfl rfl rfl (op_call ha193 rfl cb68 rfl) (c_spec_l30Insert _ v53 x46.2.2 bike (b56.ext pos_shStr hx184) (by first | assumption | omega | (simp; omega) | (intro c hc; have := cuOk_bd (cuB_el (by assumption) c hc); omega)) (by first | assumption | omega | (simp; omega) | (intro c hc; have := cuOk_bd (cuB_el (by assumption) c hc); omega))) ?_
       rintro v194 w195 he196 ho197 a198 ha198; clear ha193 a193
       have hx199 := hx184.trans' he196
       have hzhx199 := he196.size
       replace hf101 := hf101.ext he196
       replace hn177 := hn177.ext he196
       replace ho182 := ho182.ext he196
       replace hN185 := hN185.ext he196
       obtain ⟨x200, hx200⟩ := get_ex (xs := (z71.set (((owI list bike : Int)).toNat) ((((x167.1.1, x167.1.2.1, acc) : Str × Int × List Str), (v : Value))))) (j := ((fnI list to : Int)).toNat) (by first | omega | (simp only [List.length_set]; omega))
       obtain ⟨p201, c202, hi203, hc204, hr205, hs206⟩ := Rds.at_ (ho182.rds pos_shCustN) hx200
       obtain ⟨rfl, b207, b208, b209⟩ := inv_shCustN hr205
       have hn210 : Own shStr 9 w25.heap.size w25.heap.size w97.heap.size w195 x200.2 x200.1.2.2 := hN185.get hx200
       obtain ⟨_, _⟩ : _ ∧ _ := hs206
       have hb5x200 := hx200
       rw [List.getElem?_set_ne (by omega)] at hb5x200
       have hbzx200 := cuOk_bd (hcuc14 _ (List.mem_of_getElem? (abs_get hE73 hb5x200)))
       refine wl_val ha198 rfl rfl rfl (op_indexAddr ha198 rfl Try.underlying25 ti55 rfl rfl (by omega) hi203) ?_
       intro a211 ha211; clear ha198 a198
       refine wl_val ha211 rfl rfl rfl (op_fieldAddr (sz := 0) ha211 rfl Try.underlying55 rfl rfl ti34 rfl) ?_
       intro a212 ha212; clear ha211 a211
       refine wl_effS ha212 rfl rfl (op_setCells (s := shCustN) (off := 2) (ds := [v194]) (S' := fun _ => False) ha212 rfl ti34 rfl rfl ho197.cells1 rfl (by intro u hu; have hu : u ∈ ([v194] : List Value) := hu; simp only [List.mem_cons, List.mem_nil_iff, or_false] at hu; rcases hu with rfl <;> first | rfl | exact ho197.one) ho182 hi203 (by first | omega | (simp only [List.length_set]; omega)) (Nat.le_of_ble_eq_true rfl) hc204 rfl (mk_shCustN ((((x200.1.1, x200.1.2.1, (liL bike x46.2.2)) : Str × Int × List Str), (v194 : Value))) (by first | assumption | omega | (simp; done) | (dsimp only; omega) | (dsimp only; assumption) | exact ⟨by omega, by omega⟩) (by first | assumption | omega | (simp; done) | (dsimp only; omega) | (dsimp only; assumption) | exact ⟨by omega, by omega⟩) ho197.one) (fun _ h => h.elim)) ?_
       rintro w213 ⟨ho215, hst214, hz216⟩
       have hx217 := hx199.stp hst214 (by intro q hq; have hq0 := ho182.lt q hq; omega)
       have hzhx217 := hst214.size
       replace hf101 := hf101.stp hst214 (by intro q hq; have hq0 := ho182.lt q hq; omega)
       first | replace hn177 := hn177.stp hst214 (by intro q hq; have hq0 := ho182.lt q hq; omega) | replace hn177 := hn177.stpF flat_shStr hst214 (hn177.ne ho182 rfl)
       first | replace hN185 := hN185.stpF flat_shStr hst214 ho182 rfl | replace hN185 := hN185.stp hst214 (by intro q hq; have hq0 := ho182.lt q hq; omega)
       replace ho197 := ho197.stp hst214 (by intro q hq; have hq0 := ho182.lt q hq; omega)
       first | replace hn210 := hn210.stp hst214 (by intro q hq; have hq0 := ho182.lt q hq; omega) | replace hn210 := hn210.stpF flat_shStr hst214 (hn210.ne ho182 rfl)
       clear ho182
       have hlsho215 : ((((z71.set (((owI list bike : Int)).toNat) ((((x167.1.1, x167.1.2.1, acc) : Str × Int × List Str), (v : Value))))).set (((fnI list to : Int)).toNat) ((((x200.1.1, x200.1.2.1, (liL bike x46.2.2)) : Str × Int × List Str), (v194 : Value))))).length = ((z71.set (((owI list bike : Int)).toNat) ((((x167.1.1, x167.1.2.1, acc) : Str × Int × List Str), (v : Value))))).length := List.length_set
       have hN218 : Nst shStr 9 (fun x : Str × Int × List Str => x.2.2) w25.heap.size w195.heap.size w213 ((((z71.set (((owI list bike : Int)).toNat) ((((x167.1.1, x167.1.2.1, acc) : Str × Int × List Str), (v : Value))))).set (((fnI list to : Int)).toNat) ((((x200.1.1, x200.1.2.1, (liL bike x46.2.2)) : Str × Int × List Str), (v194 : Value))))) := hN185.set ho197 (by omega) (by omega) (by omega)
       refine wpList_nil ?_
       refine then_n ?_
       refine wp_seq ?_
       refine wp_region_lit ?_
       refine wl_val ha212 rfl rfl rfl (op_move ha212 rfl rfl) ?_
       intro a219 ha219; clear ha212 a212
       refine wl_val ha219 rfl rfl rfl (op_assign ha219 rfl rfl) ?_
       intro a220 ha220; clear ha219 a219
       refine wl_val ha220 rfl rfl rfl (op_assign ha220 rfl rfl) ?_
       intro a221 ha221; clear ha220 a220
       refine wpList_nil ?_
       refine then_n ?_
       refine wp_ret ?_
       refine ret2 ha221 rfl rfl rfl ?_
       clear ha221 a221
       have hqa := abs_get hE73 hx167
       obtain ⟨hr, hr2, hnb⟩ := seC_0 c14 c34 c41 hx46 (by omega) hqa
       refine ret_mk hx217 ⟨v67, (((z71.set (((owI list bike : Int)).toNat) ((((x167.1.1, x167.1.2.1, acc) : Str × Int × List Str), (v : Value))))).set (((fnI list to : Int)).toNat) ((((x200.1.1, x200.1.2.1, (liL bike x46.2.2)) : Str × Int × List Str), (v194 : Value)))), (tup2_eq rfl (int_eq (by exact hr.symm))), ho215.fin (by omega) (by omega) (by omega), hN218.fin (by omega) (by omega), ?_⟩
       ·
        have h5 := hx200
        rw [List.getElem?_set_ne (by omega)] at h5
        have h6 := some_eq hx46 (abs_get hE73 h5)
        rw [hr2, List.map_set, List.map_set, hE73]
        have h7 := some_eq hqa hx86
        rw [drop_nil (by omega), h7] at hG
        simp only [h6]
        rw [show acc = woL bike x167.1.2.2 by simpa [woL] using hG]
 ·
  rw [decide_eq_false c14] at ha13
  refine cond_t ha13 rfl ?_
  refine wp_seq ?_
  refine wp_region_lit ?_
  refine wl_val ha13 rfl rfl rfl (op_move ha13 rfl rfl) ?_
  intro a222 ha222; clear ha13 a13
  refine wl_val ha222 rfl rfl rfl (op_assign ha222 rfl rfl) ?_
  intro a223 ha223; clear ha222 a222
  refine wl_val ha223 rfl rfl rfl (op_assign ha223 rfl rfl) ?_
  intro a224 ha224; clear ha223 a223
  refine wpList_nil ?_
  refine then_n ?_
  refine wp_ret ?_
  refine then_r ?_
  refine ret2 ha224 rfl rfl rfl ?_
  clear ha224 a224
  have hr := seC_c (n := to) (b := bike) (k := cd3 list to bike) rfl c14
  have hr2 := seL_bad (by rw [hr]; exact c14)
  refine ret_mk hx10 ⟨(.slice none 0 0), [], (tup2_eq rfl (int_eq (by exact hr.symm))), Own.nil _ _ _ _ _ _, Nst.nil _ _ _ _ _ _, ?_⟩
  ·
   rw [hr2]; rfl


end Go.Proofs.Ythbkedflhmeohaa
