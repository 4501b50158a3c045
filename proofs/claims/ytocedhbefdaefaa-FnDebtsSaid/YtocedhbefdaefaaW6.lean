/- Debtors, and all debts paid. -/
import Derived.Test.YtocedhbefdaefaaW5
namespace Go.Proofs.Ytocedhbefdaefaa
open Go Go.RowKit

theorem c_impl_Debtors (w0 : World) (v_list : Value) (list : List (Int × Int × Str × Int)) {S_list : Nat → Prop} (h_list : Rds shEnt S_list w0 v_list list) (g0 : list.length ≤ 1048576) :
  Calls Try.prog 44 #[v_list] w0 (Ret w0 (fun v w1 => ∃ r0 r1, v = .tuple #[r0, r1, .int .i64 (if dbB list then 0 else 1)] ∧ Own shStr 9 w0.heap.size w0.heap.size w1.heap.size w1 r0 (if dbB list then dbtN list else []) ∧ Own shI64 2 w0.heap.size w0.heap.size w1.heap.size w1 r1 (if dbB list then dbtC list else []))) := by
 refine enter (N := 17) Try.func44 rfl rfl rfl ?_
 intro a0 ha0
 have hx0 := Ext.rfl' w0
 have hl_list := h_list.length_le
 refine wp_seq ?_
 refine wp_region_lit ?_
 refine wl_val ha0 rfl rfl rfl (op_assign ha0 rfl rfl) ?_
 intro a1 ha1; clear ha0 a0
 refine wl_val ha1 rfl rfl rfl (op_assign ha1 rfl rfl) ?_
 intro a2 ha2; clear ha1 a1
 refine wl_val ha2 rfl rfl rfl (op_assign ha2 rfl rfl) ?_
 intro a3 ha3; clear ha2 a2
 refine wpList_nil ?_
 refine then_n ?_
 refine wp_seq ?_
 refine wp_seq ?_
 refine wp_region_lit ?_
 refine wl_val ha3 rfl rfl rfl (op_move ha3 rfl rfl) ?_
 intro a4 ha4; clear ha3 a3
 refine wl_callR ha4 rfl rfl rfl (op_call ha4 rfl cb18 rfl) (c_impl_IsDayBook _ v_list list (h_list.ext pos_shEnt hx0) (by first | assumption | omega | exact dbB_ent (by assumption) | (simp; omega))) ?_
 rintro v5 w6 he7 rfl a8 ha8; clear ha4 a4
 have hx9 := hx0.trans' he7
 have hzhx9 := he7.size
 refine wl_val ha8 rfl rfl rfl (op_not ha8 rfl rfl) ?_
 intro a10 ha10; clear ha8 a8
 refine wpList_nil ?_
 refine then_n ?_
 rcases Bool.eq_false_or_eq_true (dbB list) with c11 | c11
 ·
  rw [c11] at ha10
  have hlenc11 := dbB_len c11
  have hentc11 := dbB_ent c11
  refine cond_f ha10 rfl ?_
  refine wp_skip ?_
  refine then_n ?_
  refine wp_seq ?_
  refine wp_region_lit ?_
  refine wl_val ha10 rfl rfl rfl (op_move ha10 rfl rfl) ?_
  intro a12 ha12; clear ha10 a10
  refine wl_callR ha12 rfl rfl rfl (op_call ha12 rfl cb69 rfl) (c_impl_debtors _ v_list list (h_list.ext pos_shEnt hx9) (by first | assumption | omega | exact dbB_ent (by assumption) | (simp; omega))) ?_
  rintro v13 w14 he15 ⟨v16, v18, rfl, ho17, ho19⟩ a20 ha20; clear ha12 a12
  have hx21 := hx9.trans' he15
  have hzhx21 := he15.size
  refine wl_val ha20 rfl rfl rfl (op_move ha20 rfl rfl) ?_
  intro a22 ha22; clear ha20 a20
  refine wl_val ha22 rfl rfl rfl (op_extract ha22 rfl rfl rfl) ?_
  intro a23 ha23; clear ha22 a22
  refine wl_val ha23 rfl rfl rfl (op_extract ha23 rfl rfl rfl) ?_
  intro a24 ha24; clear ha23 a23
  refine wl_val ha24 rfl rfl rfl (op_assign ha24 rfl rfl) ?_
  intro a25 ha25; clear ha24 a24
  refine wl_val ha25 rfl rfl rfl (op_assign ha25 rfl rfl) ?_
  intro a26 ha26; clear ha25 a25
  refine wpList_nil ?_
  refine then_n ?_
  refine wp_seq ?_
  refine wp_region_lit ?_
  refine wl_val ha26 rfl rfl rfl (op_move ha26 rfl rfl) ?_
  intro a27 ha27; clear ha26 a26
  refine wl_val ha27 rfl rfl rfl (op_move ha27 rfl rfl) ?_
  intro a28 ha28; clear ha27 a27
  refine wl_val ha28 rfl rfl rfl (op_assign ha28 rfl rfl) ?_
  intro a29 ha29; clear ha28 a28
  refine wl_val ha29 rfl rfl rfl (op_assign ha29 rfl rfl) ?_
  intro a30 ha30; clear ha29 a29
  refine wl_val ha30 rfl rfl rfl (op_assign ha30 rfl rfl) ?_
  intro a31 ha31; clear ha30 a30
  refine wpList_nil ?_
  refine then_n ?_
  refine wp_ret ?_
  refine ret3 ha31 rfl rfl rfl rfl ?_
  clear ha31 a31
  refine ret_mk hx21 ⟨v16, v18, (tup3_eq rfl rfl (int_eq (by simp [c11]))), ?_, ?_⟩
  ·refine (ho17.fin (by omega) (by omega) (by omega)).cast ?_
   simp [c11]
  ·refine (ho19.fin (by omega) (by omega) (by omega)).cast ?_
   simp [c11]
 ·
  rw [c11] at ha10
  refine cond_t ha10 rfl ?_
  refine wp_seq ?_
  refine wp_region_lit ?_
  refine wl_val ha10 rfl rfl rfl (op_assign ha10 rfl rfl) ?_
  intro a32 ha32; clear ha10 a10
  refine wl_val ha32 rfl rfl rfl (op_assign ha32 rfl rfl) ?_
  intro a33 ha33; clear ha32 a32
  refine wl_val ha33 rfl rfl rfl (op_assign ha33 rfl rfl) ?_
  intro a34 ha34; clear ha33 a33
  refine wpList_nil ?_
  refine then_n ?_
  refine wp_ret ?_
  refine then_r ?_
  refine ret3 ha34 rfl rfl rfl rfl ?_
  clear ha34 a34
  refine ret_mk hx9 ⟨.slice none 0 0, .slice none 0 0, (tup3_eq rfl rfl (int_eq (by simp [c11]))), ?_, ?_⟩
  ·refine Own.nil_ _ _ _ _ _ _ ?_
   simp [c11]
  ·refine Own.nil_ _ _ _ _ _ _ ?_
   simp [c11]

theorem c_spec_Debtors (w0 : World) (v_list : Value) (list : List (Int × Int × Str × Int)) {S_list : Nat → Prop} (h_list : Rds shEnt S_list w0 v_list list) (g0 : list.length ≤ 1048576) :
  Calls Try.prog 43 #[v_list] w0 (Ret w0 (fun v w1 => ∃ r0 r1, v = .tuple #[r0, r1, .int .i64 (if dbB list then 0 else 1)] ∧ Own shStr 9 w0.heap.size w0.heap.size w1.heap.size w1 r0 (if dbB list then dbtN list else []) ∧ Own shI64 2 w0.heap.size w0.heap.size w1.heap.size w1 r1 (if dbB list then dbtC list else []))) := by
 refine enter (N := 17) Try.func43 rfl rfl rfl ?_
 intro a0 ha0
 have hx0 := Ext.rfl' w0
 have hl_list := h_list.length_le
 refine wp_seq ?_
 refine wp_region_lit ?_
 refine wl_val ha0 rfl rfl rfl (op_assign ha0 rfl rfl) ?_
 intro a1 ha1; clear ha0 a0
 refine wl_val ha1 rfl rfl rfl (op_assign ha1 rfl rfl) ?_
 intro a2 ha2; clear ha1 a1
 refine wl_val ha2 rfl rfl rfl (op_assign ha2 rfl rfl) ?_
 intro a3 ha3; clear ha2 a2
 refine wpList_nil ?_
 refine then_n ?_
 refine wp_seq ?_
 refine wp_seq ?_
 refine wp_region_lit ?_
 refine wl_val ha3 rfl rfl rfl (op_move ha3 rfl rfl) ?_
 intro a4 ha4; clear ha3 a3
 refine wl_callR ha4 rfl rfl rfl (op_call ha4 rfl cb16 rfl) (c_spec_IsDayBook _ v_list list (h_list.ext pos_shEnt hx0) (by first | assumption | omega | exact dbB_ent (by assumption) | (simp; omega))) ?_
 rintro v5 w6 he7 rfl a8 ha8; clear ha4 a4
 have hx9 := hx0.trans' he7
 have hzhx9 := he7.size
 refine wl_val ha8 rfl rfl rfl (op_not ha8 rfl rfl) ?_
 intro a10 ha10; clear ha8 a8
 refine wpList_nil ?_
 refine then_n ?_
 rcases Bool.eq_false_or_eq_true (dbB list) with c11 | c11
 ·
  rw [c11] at ha10
  have hlenc11 := dbB_len c11
  have hentc11 := dbB_ent c11
  refine cond_f ha10 rfl ?_
  refine wp_skip ?_
  refine then_n ?_
  refine wp_seq ?_
  refine wp_region_lit ?_
  refine wl_val ha10 rfl rfl rfl (op_move ha10 rfl rfl) ?_
  intro a12 ha12; clear ha10 a10
  refine wl_callR ha12 rfl rfl rfl (op_call ha12 rfl cb68 rfl) (c_spec_l33Debtors _ v_list list (h_list.ext pos_shEnt hx9) (by first | assumption | omega | exact dbB_ent (by assumption) | (simp; omega))) ?_
  rintro v13 w14 he15 ⟨v16, v18, rfl, ho17, ho19⟩ a20 ha20; clear ha12 a12
  have hx21 := hx9.trans' he15
  have hzhx21 := he15.size
  refine wl_val ha20 rfl rfl rfl (op_move ha20 rfl rfl) ?_
  intro a22 ha22; clear ha20 a20
  refine wl_val ha22 rfl rfl rfl (op_extract ha22 rfl rfl rfl) ?_
  intro a23 ha23; clear ha22 a22
  refine wl_val ha23 rfl rfl rfl (op_extract ha23 rfl rfl rfl) ?_
  intro a24 ha24; clear ha23 a23
  refine wl_val ha24 rfl rfl rfl (op_assign ha24 rfl rfl) ?_
  intro a25 ha25; clear ha24 a24
  refine wl_val ha25 rfl rfl rfl (op_assign ha25 rfl rfl) ?_
  intro a26 ha26; clear ha25 a25
  refine wpList_nil ?_
  refine then_n ?_
  refine wp_seq ?_
  refine wp_region_lit ?_
  refine wl_val ha26 rfl rfl rfl (op_move ha26 rfl rfl) ?_
  intro a27 ha27; clear ha26 a26
  refine wl_val ha27 rfl rfl rfl (op_move ha27 rfl rfl) ?_
  intro a28 ha28; clear ha27 a27
  refine wl_val ha28 rfl rfl rfl (op_assign ha28 rfl rfl) ?_
  intro a29 ha29; clear ha28 a28
  refine wl_val ha29 rfl rfl rfl (op_assign ha29 rfl rfl) ?_
  intro a30 ha30; clear ha29 a29
  refine wl_val ha30 rfl rfl rfl (op_assign ha30 rfl rfl) ?_
  intro a31 ha31; clear ha30 a30
  refine wpList_nil ?_
  refine then_n ?_
  refine wp_ret ?_
  refine ret3 ha31 rfl rfl rfl rfl ?_
  clear ha31 a31
  refine ret_mk hx21 ⟨v16, v18, (tup3_eq rfl rfl (int_eq (by simp [c11]))), ?_, ?_⟩
  ·refine (ho17.fin (by omega) (by omega) (by omega)).cast ?_
   simp [c11]
  ·refine (ho19.fin (by omega) (by omega) (by omega)).cast ?_
   simp [c11]
 ·
  rw [c11] at ha10
  refine cond_t ha10 rfl ?_
  refine wp_seq ?_
  refine wp_region_lit ?_
  refine wl_val ha10 rfl rfl rfl (op_assign ha10 rfl rfl) ?_
  intro a32 ha32; clear ha10 a10
  refine wl_val ha32 rfl rfl rfl (op_assign ha32 rfl rfl) ?_
  intro a33 ha33; clear ha32 a32
  refine wl_val ha33 rfl rfl rfl (op_assign ha33 rfl rfl) ?_
  intro a34 ha34; clear ha33 a33
  refine wpList_nil ?_
  refine then_n ?_
  refine wp_ret ?_
  refine then_r ?_
  refine ret3 ha34 rfl rfl rfl rfl ?_
  clear ha34 a34
  refine ret_mk hx9 ⟨.slice none 0 0, .slice none 0 0, (tup3_eq rfl rfl (int_eq (by simp [c11]))), ?_, ?_⟩
  ·refine Own.nil_ _ _ _ _ _ _ ?_
   simp [c11]
  ·refine Own.nil_ _ _ _ _ _ _ ?_
   simp [c11]

theorem c_impl_PayAll (w0 : World) (v_list : Value) (list : List (Int × Int × Str × Int)) {S_list : Nat → Prop} (day : Int) (h_list : Rds shEnt S_list w0 v_list list) (g0 : list.length ≤ 1048576) (g1 : I64 day) :
  Calls Try.prog 42 #[v_list, .int .i64 day] w0 (Ret w0 (fun v w1 => ∃ r0, v = .tuple #[r0, .int .i64 (payC list day)] ∧ Own shEnt 41 w0.heap.size w0.heap.size w1.heap.size w1 r0 (payL list day))) := by
 refine enter (N := 50) Try.func42 rfl rfl rfl ?_
 intro a0 ha0
 have hx0 := Ext.rfl' w0
 have hl_list := h_list.length_le
 have hdl := dbtN_len list
 have hdc : (dbtC list).length = (dbtN list).length := by simp [dbtC]
 refine wp_seq ?_
 refine wp_region_lit ?_
 refine wl_val ha0 rfl rfl rfl (op_assign ha0 rfl rfl) ?_
 intro a1 ha1; clear ha0 a0
 refine wl_val ha1 rfl rfl rfl (op_assign ha1 rfl rfl) ?_
 intro a2 ha2; clear ha1 a1
 refine wpList_nil ?_
 refine then_n ?_
 refine wp_seq ?_
 refine wp_seq ?_
 refine wp_region_lit ?_
 refine wl_val ha2 rfl rfl rfl (op_move ha2 rfl rfl) ?_
 intro a3 ha3; clear ha2 a2
 refine wl_callR ha3 rfl rfl rfl (op_call ha3 rfl cb18 rfl) (c_impl_IsDayBook _ v_list list (h_list.ext pos_shEnt hx0) (by first | assumption | omega | exact (codeD_ok (by assumption)).1 | exact dbB_ent (by assumption) | (simp; omega))) ?_
 rintro v4 w5 he6 rfl a7 ha7; clear ha3 a3
 have hx8 := hx0.trans' he6
 have hzhx8 := he6.size
 refine wl_val ha7 rfl rfl rfl (op_not ha7 rfl rfl) ?_
 intro a9 ha9; clear ha7 a7
 refine wpList_nil ?_
 refine then_n ?_
 rcases Bool.eq_false_or_eq_true (dbB list) with c10 | c10
 ·
  rw [c10] at ha9
  have hlenc10 := dbB_len c10
  have hentc10 := dbB_ent c10
  refine cond_f ha9 rfl ?_
  refine wp_skip ?_
  refine then_n ?_
  refine wp_seq ?_
  refine wp_seq ?_
  refine wp_region_lit ?_
  refine wl_val ha9 rfl rfl rfl (op_move ha9 rfl rfl) ?_
  intro a11 ha11; clear ha9 a9
  refine wl_callR ha11 rfl rfl rfl (op_call ha11 rfl cb66 rfl) (c_impl_isDate _ day ) ?_
  rintro v12 w13 he14 rfl a15 ha15; clear ha11 a11
  have hx16 := hx8.trans' he14
  have hzhx16 := he14.size
  refine wl_val ha15 rfl rfl rfl (op_not ha15 rfl rfl) ?_
  intro a17 ha17; clear ha15 a15
  refine wpList_nil ?_
  refine then_n ?_
  rcases Bool.eq_false_or_eq_true (dateB day) with c18 | c18
  ·
   rw [c18] at ha17
   refine cond_f ha17 rfl ?_
   refine wp_skip ?_
   refine then_n ?_
   refine wp_seq ?_
   refine wp_region_lit ?_
   refine wl_eff ha17 rfl rfl rfl (op_buildSlice (s := shEnt) (xs := ([] : List (Int × Int × Str × Int))) (cs := []) (vs := []) (S := fun _ => False) (le := w13.heap.size) ha17 rfl pos_shEnt Try.underlying25 ti41 rfl rfl (by decide) (by kernel_rfl) rfl (fun _ h => h.elim)) ?_
   rintro v19 w20 ⟨ho21, he22, hob23⟩ a24 ha24; clear ha17 a17
   have hx25 := hx16.trans' he22
   have hzhx25 := he22.size
   refine wl_val ha24 rfl rfl rfl (op_move ha24 rfl rfl) ?_
   intro a26 ha26; clear ha24 a24
   refine wl_eff ha26 rfl rfl rfl (op_append (ts := #[]) (s := shEnt) ha26 rfl Try.underlying25 ti41 rfl pos_shEnt rfl rfl ho21 (h_list.ext pos_shEnt hx25) (by omega) (by omega) (by first | omega | (simp; omega)) (by first | omega | (simp; omega)) (.inl flat_shEnt)) ?_
   rintro v27 w28 ⟨ho29, hst30, hob31⟩ a32 ha32; clear ha26 a26
   replace ho29 := ho29.cast (List.nil_append _)
   have hx33 := hx25.stp hst30 (by intro q hq; have hq0 := ho21.lt q hq; omega)
   have hzhx33 := hst30.size
   refine wl_val ha32 rfl rfl rfl (op_assign ha32 rfl rfl) ?_
   intro a34 ha34; clear ha32 a32
   refine wpList_nil ?_
   refine then_n ?_
   refine wp_seq ?_
   refine wp_region_lit ?_
   refine wl_val ha34 rfl rfl rfl (op_move ha34 rfl rfl) ?_
   intro a35 ha35; clear ha34 a34
   refine wl_callR ha35 rfl rfl rfl (op_call ha35 rfl cb69 rfl) (c_impl_debtors _ v_list list (h_list.ext pos_shEnt hx33) (by first | assumption | omega | exact (codeD_ok (by assumption)).1 | exact dbB_ent (by assumption) | (simp; omega))) ?_
   rintro v36 w37 he38 ⟨v39, v41, rfl, ho40, ho42⟩ a43 ha43; clear ha35 a35
   have hx44 := hx33.trans' he38
   have hzhx44 := he38.size
   replace ho29 := ho29.ext he38
   refine wl_val ha43 rfl rfl rfl (op_move ha43 rfl rfl) ?_
   intro a45 ha45; clear ha43 a43
   refine wl_val ha45 rfl rfl rfl (op_extract ha45 rfl rfl rfl) ?_
   intro a46 ha46; clear ha45 a45
   refine wl_val ha46 rfl rfl rfl (op_extract ha46 rfl rfl rfl) ?_
   intro a47 ha47; clear ha46 a46
   refine wl_val ha47 rfl rfl rfl (op_assign ha47 rfl rfl) ?_
   intro a48 ha48; clear ha47 a47
   refine wl_val ha48 rfl rfl rfl (op_assign ha48 rfl rfl) ?_
   intro a49 ha49; clear ha48 a48
   refine wpList_nil ?_
   refine then_n ?_
   refine wp_seq ?_
   refine wp_seq ?_
   refine wp_region_lit ?_
   refine wl_val ha49 rfl rfl rfl (op_move ha49 rfl rfl) ?_
   intro a50 ha50; clear ha49 a49
   refine wl_val ha50 rfl rfl rfl (op_len_sl ha50 rfl Try.underlying52 rfl (ho40.rds pos_shStr)) ?_
   intro a51 ha51; clear ha50 a50
   refine wl_val ha51 rfl rfl rfl (op_move ha51 rfl rfl) ?_
   intro a52 ha52; clear ha51 a51
   refine wpList_nil ?_
   refine then_n ?_
   refine wp_block ?_
   refine loop_inv (X := Nat × Value × (List Ent)) (fun (⟨i, v, acc⟩ : Nat × Value × (List Ent)) fr wl => Sl 50 fr [(1, .int .i64 day), (6, v), (8, v41), (25, v39), (26, .int .i64 ((((dbtN list)).length : Nat) : Int)), (27, .int .i64 ((i : Nat) : Int))] ∧ Ext w0 wl ∧ Own shI64 2 w28.heap.size w28.heap.size w37.heap.size wl v41 ((dbtC list)) ∧ Own shStr 9 w28.heap.size w28.heap.size w37.heap.size wl v39 ((dbtN list)) ∧ Own shEnt 41 w13.heap.size w13.heap.size wl.heap.size wl v acc ∧ w37.heap.size ≤ wl.heap.size ∧ (i ≤ (dbtN list).length) ∧ (acc.length = list.length + i) ∧ (acc = list ++ ((dbtN list).take i).map (payE list day))) (fun (⟨i, v, acc⟩ : Nat × Value × (List Ent)) => (dbtN list).length - i) (0, v27, list) ?_ ?_
   ·
    exact ⟨(Sl.cons_ ha52 rfl rfl (Sl.cons_ ha52 rfl rfl (Sl.cons_ ha52 rfl rfl (Sl.cons_ ha52 rfl rfl (Sl.cons_ ha52 rfl rfl (Sl.cons_ ha52 rfl (int_eq (by omega)) (Sl.nil_ ha52))))))), hx44, ho42, ho40, (ho29.fin (by omega) (by omega) (by omega)), (by omega), (by omega), (by simp), (by simp)⟩
   ·
    clear ha52 a52
    rintro ⟨i, v, acc⟩ a58 w53 ⟨ha58, hx54, hf56, hf57, hf55, hzl59, hi, hl, hF⟩
    have hzhx54 := hx54.size
    refine wp_seq ?_
    refine wp_region_lit ?_
    refine wl_val ha58 rfl rfl rfl (op_lss ha58 rfl rfl rfl) ?_
    intro a60 ha60; clear ha58 a58
    refine wpList_nil ?_
    refine then_n ?_
    refine wp_seq ?_
    by_cases c61 : ((i : Nat) : Int) < ((((dbtN list)).length : Nat) : Int)
    ·
     rw [decide_eq_true c61] at ha60
     refine cond_t ha60 rfl ?_
     refine wp_skip ?_
     refine then_n ?_
     refine wp_seq ?_
     refine wp_block ?_
     refine wp_seq ?_
     refine wp_region_lit ?_
     refine wl_val ha60 rfl rfl rfl (op_move ha60 rfl rfl) ?_
     intro a62 ha62; clear ha60 a60
     obtain ⟨x63, hx63⟩ := get_ex (xs := (dbtN list)) (j := i) (by first | omega | (have hdc : (dbtC list).length = (dbtN list).length := (by simp [dbtC]); omega))
     obtain ⟨p64, c65, hi66, hc67, hr68, hs69⟩ := Rds.at_ (hf57.rds pos_shStr) hx63
     obtain ⟨rfl, b70⟩ := inv_shStr hr68
     obtain ⟨_, _⟩ : _ ∧ _ := hs69
     refine wl_val ha62 rfl rfl rfl (op_indexAddr ha62 rfl Try.underlying52 ti9 rfl rfl (by omega) hi66) ?_
     intro a71 ha71; clear ha62 a62
     refine wl_val ha71 rfl rfl rfl (op_loadH ha71 rfl Try.underlying9 rfl rfl hc67 rfl) ?_
     intro a72 ha72; clear ha71 a71
     refine wl_val ha72 rfl rfl rfl (op_assign ha72 rfl rfl) ?_
     intro a73 ha73; clear ha72 a72
     refine wl_val ha73 rfl rfl rfl (op_assign ha73 rfl rfl) ?_
     intro a74 ha74; clear ha73 a73
     refine wpList_nil ?_
     refine then_n ?_
     refine wp_region_lit ?_
     refine wl_val ha74 rfl rfl rfl (op_move ha74 rfl rfl) ?_
     intro a75 ha75; clear ha74 a74
     refine wl_val ha75 rfl rfl rfl (op_move ha75 rfl rfl) ?_
     intro a76 ha76; clear ha75 a75
     refine wl_val ha76 rfl rfl rfl (op_move ha76 rfl rfl) ?_
     intro a77 ha77; clear ha76 a76
     refine wl_val ha77 rfl rfl rfl (op_move ha77 rfl rfl) ?_
     intro a78 ha78; clear ha77 a77
     refine wl_val ha78 rfl rfl rfl (op_move ha78 rfl rfl) ?_
     intro a79 ha79; clear ha78 a78
     obtain ⟨x80, hx80⟩ := get_ex (xs := (dbtC list)) (j := i) (by first | omega | (have hdc : (dbtC list).length = (dbtN list).length := (by simp [dbtC]); omega))
     obtain ⟨p81, c82, hi83, hc84, hr85, hs86⟩ := Rds.at_ (hf56.rds pos_shI64) hx80
     obtain ⟨rfl, b87⟩ := inv_shI64 hr85
     obtain ⟨_, _⟩ : _ ∧ _ := hs86
     refine wl_val ha79 rfl rfl rfl (op_indexAddr ha79 rfl Try.underlying45 ti2 rfl rfl (by omega) hi83) ?_
     intro a88 ha88; clear ha79 a79
     refine wl_val ha88 rfl rfl rfl (op_loadH ha88 rfl Try.underlying2 rfl rfl hc84 rfl) ?_
     intro a89 ha89; clear ha88 a88
     refine wl_val ha89 rfl rfl rfl (op_build (vs := [(0, .int .i64 day), (1, .int .i64 (1 : Int)), (2, St x63), (3, .int .i64 x80)]) (cs := #[.int .i64 day, .int .i64 (1 : Int), St x63, .int .i64 x80]) ha89 rfl Try.underlying41 ti41 bp41 rfl rfl) ?_
     intro a90 ha90; clear ha89 a89
     refine wl_eff ha90 rfl rfl rfl (op_buildSlice (s := shEnt) (xs := [(day, (1 : Int), x63, x80)]) (cs := [.int .i64 day, .int .i64 (1 : Int), St x63, .int .i64 x80]) (vs := [(0, .agg #[.int .i64 day, .int .i64 (1 : Int), St x63, .int .i64 x80])]) (S := fun _ => False) (le := w53.heap.size) ha90 rfl pos_shEnt Try.underlying25 ti41 rfl rfl (by decide) (by kernel_rfl) (Els.single (mk_shEnt ((day, (1 : Int), x63, x80)) (by first | assumption | omega | (dsimp only; omega)) (by first | assumption | omega | (dsimp only; omega)) (by first | assumption | omega | (dsimp only; omega)) (by first | assumption | omega | (dsimp only; omega)))) (fun _ h => h.elim)) ?_
     rintro v91 w92 ⟨ho93, he94, hob95⟩ a96 ha96; clear ha90 a90
     have hx97 := hx54.trans' he94
     have hzhx97 := he94.size
     replace hf56 := hf56.ext he94
     replace hf57 := hf57.ext he94
     replace hf55 := hf55.ext he94
     replace hc67 := hc67.ext he94
     replace hc84 := hc84.ext he94
     refine wl_eff ha96 rfl rfl rfl (op_append (ts := #[]) (s := shEnt) ha96 rfl Try.underlying25 ti41 rfl pos_shEnt rfl rfl hf55 (ho93.rds pos_shEnt) (by omega) (by omega) (by first | omega | (simp; omega)) (by first | omega | (simp; omega)) (.inl flat_shEnt)) ?_
     rintro v98 w99 ⟨ho100, hst101, hob102⟩ a103 ha103; clear ha96 a96
     have hx104 := hx97.stp hst101 (by intro q hq; have hq0 := hf55.lt q hq; omega)
     have hzhx104 := hst101.size
     first | replace hf56 := hf56.stp hst101 (by intro q hq; have hq0 := hf55.lt q hq; omega) | replace hf56 := hf56.stpF flat_shI64 hst101 (hf56.ne hf55 rfl)
     first | replace hf57 := hf57.stp hst101 (by intro q hq; have hq0 := hf55.lt q hq; omega) | replace hf57 := hf57.stpF flat_shStr hst101 (hf57.ne hf55 rfl)
     replace ho93 := ho93.stp hst101 (by intro q hq; have hq0 := hf55.lt q hq; omega)
     have hsp105 : ∀ q, Value.ownBlock v98 = some q → Value.ownBlock v91 ≠ some q := by intro q hq hb; have hq0 := ho93.lt q hb; rcases hob102 with h | h; (rw [h] at hq; first | (have hq1 := hf55.lt q hq; omega)); (rw [h] at hq; cases hq; omega)
     refine wl_val ha103 rfl rfl rfl (op_assign ha103 rfl rfl) ?_
     intro a106 ha106; clear ha103 a103
     refine wpList_nil ?_
     refine block_n ?_
     refine then_n ?_
     refine wp_region_lit ?_
     refine wl_val ha106 rfl rfl rfl ((op_add ha106 rfl rfl rfl).int (IntWalk.i64_in _ (by omega))) ?_
     intro a107 ha107; clear ha106 a106
     refine wl_val ha107 rfl rfl rfl (op_move ha107 rfl rfl) ?_
     intro a108 ha108; clear ha107 a107
     refine wpList_nil ?_
     refine round_end (x := (i, v, acc)) ((i + 1), v98, (acc ++ [(day, (1 : Int), x63, x80)])) ?_ ?_
     ·
      refine ⟨(Sl.cons_ ha108 rfl rfl (Sl.cons_ ha108 rfl rfl (Sl.cons_ ha108 rfl rfl (Sl.cons_ ha108 rfl rfl (Sl.cons_ ha108 rfl rfl (Sl.cons_ ha108 rfl (int_eq (by omega)) (Sl.nil_ ha108))))))), hx104, hf56, hf57, (ho100.fin (by omega) (by omega) (by omega)), (by omega), (by omega), (by first | omega | (simp; omega)), (by rw [hF, take_snoc hx63, List.map_append, List.append_assoc]; simp [payE, dbtC_get hx63 hx80])⟩
     ·show ((dbtN list).length - ((i + 1)) : Nat) < (dbtN list).length - i; omega
    ·
     rw [decide_eq_false c61] at ha60
     refine cond_f ha60 rfl ?_
     refine wp_exit ?_
     refine then_e ?_
     refine then_e ?_
     refine block_hit ?_
     refine then_n ?_
     refine wp_seq ?_
     refine wp_seq ?_
     refine wp_region_lit ?_
     refine wl_val ha60 rfl rfl rfl (op_move ha60 rfl rfl) ?_
     intro a109 ha109; clear ha60 a60
     refine wl_val ha109 rfl rfl rfl (op_len_sl ha109 rfl Try.underlying25 rfl (hf55.rds pos_shEnt)) ?_
     intro a110 ha110; clear ha109 a109
     refine wl_val ha110 rfl rfl rfl (op_gtr ha110 rfl rfl rfl) ?_
     intro a111 ha111; clear ha110 a110
     refine wpList_nil ?_
     refine then_n ?_
     by_cases c112 : (60 : Int) < ((acc.length : Nat) : Int)
     ·
      rw [decide_eq_true c112] at ha111
      refine cond_t ha111 rfl ?_
      refine wp_seq ?_
      refine wp_region_lit ?_
      refine wl_val ha111 rfl rfl rfl (op_assign ha111 rfl rfl) ?_
      intro a113 ha113; clear ha111 a111
      refine wl_val ha113 rfl rfl rfl (op_assign ha113 rfl rfl) ?_
      intro a114 ha114; clear ha113 a113
      refine wpList_nil ?_
      refine then_n ?_
      refine wp_ret ?_
      refine then_r ?_
      refine ret2 ha114 rfl rfl rfl ?_
      clear ha114 a114
      have hE : acc = payO list day := by rw [hF, List.take_of_length_le (by omega)]; rfl
      subst hE
      have hcd0 : codeD list day = 0 := by first | exact rfl | (unfold codeD; simp [c10, c18, c61, c112])
      refine ret_mk hx54 ⟨.slice none 0 0, (tup2_eq rfl (int_eq (by first | (simp [payC, hcd0, c10, c18, c61, c112]; done) | (simp [payC, hcd0, c10, c18, c61, c112]; omega) | (simp_all [payC]; done)))), ?_⟩
      ·refine Own.nil_ _ _ _ _ _ _ ?_
       first | (simp [payL, hcd0, c10, c18, c61, c112]; done) | (simp [payL, hcd0, c10, c18, c61, c112]; omega) | (simp_all [payL]; done)
     ·
      rw [decide_eq_false c112] at ha111
      refine cond_f ha111 rfl ?_
      refine wp_skip ?_
      refine then_n ?_
      refine wp_seq ?_
      refine wp_seq ?_
      refine wp_region_lit ?_
      refine wl_val ha111 rfl rfl rfl (op_move ha111 rfl rfl) ?_
      intro a115 ha115; clear ha111 a111
      refine wl_callR ha115 rfl rfl rfl (op_call ha115 rfl cb18 rfl) (c_impl_IsDayBook _ v acc (hf55.rds pos_shEnt) (by first | assumption | omega | exact (codeD_ok (by assumption)).1 | exact dbB_ent (by assumption) | (simp; omega))) ?_
      rintro v116 w117 he118 rfl a119 ha119; clear ha115 a115
      have hx120 := hx54.trans' he118
      have hzhx120 := he118.size
      replace hf56 := hf56.ext he118
      replace hf57 := hf57.ext he118
      replace hf55 := hf55.ext he118
      refine wl_val ha119 rfl rfl rfl (op_not ha119 rfl rfl) ?_
      intro a121 ha121; clear ha119 a119
      refine wpList_nil ?_
      refine then_n ?_
      rcases Bool.eq_false_or_eq_true (dbB acc) with c122 | c122
      ·
       rw [c122] at ha121
       have hlenc122 := dbB_len c122
       have hentc122 := dbB_ent c122
       refine cond_f ha121 rfl ?_
       refine wp_skip ?_
       refine then_n ?_
       refine wp_seq ?_
       refine wp_region_lit ?_
       refine wl_val ha121 rfl rfl rfl (op_move ha121 rfl rfl) ?_
       intro a123 ha123; clear ha121 a121
       refine wl_val ha123 rfl rfl rfl (op_assign ha123 rfl rfl) ?_
       intro a124 ha124; clear ha123 a123
       refine wl_val ha124 rfl rfl rfl (op_assign ha124 rfl rfl) ?_
       intro a125 ha125; clear ha124 a124
       refine wpList_nil ?_
       refine then_n ?_
       refine wp_ret ?_
       refine ret2 ha125 rfl rfl rfl ?_
       clear ha125 a125
       have hE : acc = payO list day := by rw [hF, List.take_of_length_le (by omega)]; rfl
       subst hE
       have hcd0 : codeD list day = 0 := by first | exact rfl | (unfold codeD; simp [c10, c18, c61, c112, c122])
       refine ret_mk hx120 ⟨v, (tup2_eq rfl (int_eq (by first | (simp [payC, hcd0, c10, c18, c61, c112, c122]; done) | (simp [payC, hcd0, c10, c18, c61, c112, c122]; omega) | (simp_all [payC]; done)))), ?_⟩
       ·refine (hf55.fin (by omega) (by omega) (by omega)).cast ?_
        first | (simp [payL, hcd0, c10, c18, c61, c112, c122]; done) | (simp [payL, hcd0, c10, c18, c61, c112, c122]; omega) | (simp_all [payL]; done)
      ·
       rw [c122] at ha121
       refine cond_t ha121 rfl ?_
       refine wp_seq ?_
       refine wp_region_lit ?_
       refine wl_val ha121 rfl rfl rfl (op_assign ha121 rfl rfl) ?_
       intro a126 ha126; clear ha121 a121
       refine wl_val ha126 rfl rfl rfl (op_assign ha126 rfl rfl) ?_
       intro a127 ha127; clear ha126 a126
       refine wpList_nil ?_
       refine then_n ?_
       refine wp_ret ?_
       refine then_r ?_
       refine ret2 ha127 rfl rfl rfl ?_
       clear ha127 a127
       have hE : acc = payO list day := by rw [hF, List.take_of_length_le (by omega)]; rfl
       subst hE
       have hcd0 : codeD list day = 0 := by first | exact rfl | (unfold codeD; simp [c10, c18, c61, c112, c122])
       refine ret_mk hx120 ⟨.slice none 0 0, (tup2_eq rfl (int_eq (by first | (simp [payC, hcd0, c10, c18, c61, c112, c122]; done) | (simp [payC, hcd0, c10, c18, c61, c112, c122]; omega) | (simp_all [payC]; done)))), ?_⟩
       ·refine Own.nil_ _ _ _ _ _ _ ?_
        first | (simp [payL, hcd0, c10, c18, c61, c112, c122]; done) | (simp [payL, hcd0, c10, c18, c61, c112, c122]; omega) | (simp_all [payL]; done)
  ·
   rw [c18] at ha17
   refine cond_t ha17 rfl ?_
   refine wp_seq ?_
   refine wp_region_lit ?_
   refine wl_val ha17 rfl rfl rfl (op_assign ha17 rfl rfl) ?_
   intro a128 ha128; clear ha17 a17
   refine wl_val ha128 rfl rfl rfl (op_assign ha128 rfl rfl) ?_
   intro a129 ha129; clear ha128 a128
   refine wpList_nil ?_
   refine then_n ?_
   refine wp_ret ?_
   refine then_r ?_
   refine ret2 ha129 rfl rfl rfl ?_
   clear ha129 a129
   
   refine ret_mk hx16 ⟨.slice none 0 0, (tup2_eq rfl (int_eq (by first | (simp [payC, c10, c18]; done) | (simp [payC, codeD, c10, c18]; done) | (simp [payC, codeD, c10, c18]; omega) | (simp_all [payC, codeD]; done) | (simp_all [payC, codeD]; omega)))), ?_⟩
   ·refine Own.nil_ _ _ _ _ _ _ ?_
    first | (simp [payL, c10, c18]; done) | (simp [payL, codeD, c10, c18]; done) | (simp [payL, codeD, c10, c18]; omega) | (simp_all [payL, codeD]; done) | (simp_all [payL, codeD]; omega)
 ·
  rw [c10] at ha9
  refine cond_t ha9 rfl ?_
  refine wp_seq ?_
  refine wp_region_lit ?_
  refine wl_val ha9 rfl rfl rfl (op_assign ha9 rfl rfl) ?_
  intro a130 ha130; clear ha9 a9
  refine wl_val ha130 rfl rfl rfl (op_assign ha130 rfl rfl) ?_
  intro a131 ha131; clear ha130 a130
  refine wpList_nil ?_
  refine then_n ?_
  refine wp_ret ?_
  refine then_r ?_
  refine ret2 ha131 rfl rfl rfl ?_
  clear ha131 a131
  
  refine ret_mk hx8 ⟨.slice none 0 0, (tup2_eq rfl (int_eq (by first | (simp [payC, c10]; done) | (simp [payC, codeD, c10]; done) | (simp [payC, codeD, c10]; omega) | (simp_all [payC, codeD]; done) | (simp_all [payC, codeD]; omega)))), ?_⟩
  ·refine Own.nil_ _ _ _ _ _ _ ?_
   first | (simp [payL, c10]; done) | (simp [payL, codeD, c10]; done) | (simp [payL, codeD, c10]; omega) | (simp_all [payL, codeD]; done) | (simp_all [payL, codeD]; omega)

theorem c_spec_PayAll (w0 : World) (v_list : Value) (list : List (Int × Int × Str × Int)) {S_list : Nat → Prop} (day : Int) (h_list : Rds shEnt S_list w0 v_list list) (g0 : list.length ≤ 1048576) (g1 : I64 day) :
  Calls Try.prog 41 #[v_list, .int .i64 day] w0 (Ret w0 (fun v w1 => ∃ r0, v = .tuple #[r0, .int .i64 (payC list day)] ∧ Own shEnt 41 w0.heap.size w0.heap.size w1.heap.size w1 r0 (payL list day))) := by
 refine enter (N := 51) Try.func41 rfl rfl rfl ?_
 intro a0 ha0
 have hx0 := Ext.rfl' w0
 have hl_list := h_list.length_le
 have hdl := dbtN_len list
 have hdc : (dbtC list).length = (dbtN list).length := by simp [dbtC]
 refine wp_seq ?_
 refine wp_region_lit ?_
 refine wl_val ha0 rfl rfl rfl (op_assign ha0 rfl rfl) ?_
 intro a1 ha1; clear ha0 a0
 refine wl_val ha1 rfl rfl rfl (op_assign ha1 rfl rfl) ?_
 intro a2 ha2; clear ha1 a1
 refine wpList_nil ?_
 refine then_n ?_
 refine wp_seq ?_
 refine wp_region_lit ?_
 refine wl_val ha2 rfl rfl rfl (op_move ha2 rfl rfl) ?_
 intro a3 ha3; clear ha2 a2
 refine wl_val ha3 rfl rfl rfl (op_move ha3 rfl rfl) ?_
 intro a4 ha4; clear ha3 a3
 refine wl_callR ha4 rfl rfl rfl (op_call ha4 rfl cb65 rfl) (c_spec_l33Code _ v_list list day (h_list.ext pos_shEnt hx0) (by first | assumption | omega | exact (codeD_ok (by assumption)).1 | exact dbB_ent (by assumption) | (simp; omega))) ?_
 rintro v5 w6 he7 rfl a8 ha8; clear ha4 a4
 have hx9 := hx0.trans' he7
 have hzhx9 := he7.size
 refine wl_val ha8 rfl rfl rfl (op_assign ha8 rfl rfl) ?_
 intro a10 ha10; clear ha8 a8
 refine wpList_nil ?_
 refine then_n ?_
 refine wp_seq ?_
 refine wp_seq ?_
 refine wp_region_lit ?_
 refine wl_val ha10 rfl rfl rfl (op_move ha10 rfl rfl) ?_
 intro a11 ha11; clear ha10 a10
 refine wl_val ha11 rfl rfl rfl ((op_neq ha11 rfl rfl rfl).to (congrArg Value.bool decide_not)) ?_
 intro a12 ha12; clear ha11 a11
 refine wpList_nil ?_
 refine then_n ?_
 by_cases c13 : (codeD list day : Int) = (0 : Int)
 ·
  rw [decide_eq_true c13] at ha12
  have hcdc13 := codeD_ok c13
  have hlenc13 := dbB_len hcdc13.1
  have hentc13 := dbB_ent hcdc13.1
  refine cond_f ha12 rfl ?_
  refine wp_skip ?_
  refine then_n ?_
  refine wp_seq ?_
  refine wp_region_lit ?_
  refine wl_eff ha12 rfl rfl rfl (op_buildSlice (s := shEnt) (xs := ([] : List (Int × Int × Str × Int))) (cs := []) (vs := []) (S := fun _ => False) (le := w6.heap.size) ha12 rfl pos_shEnt Try.underlying25 ti41 rfl rfl (by decide) (by kernel_rfl) rfl (fun _ h => h.elim)) ?_
  rintro v14 w15 ⟨ho16, he17, hob18⟩ a19 ha19; clear ha12 a12
  have hx20 := hx9.trans' he17
  have hzhx20 := he17.size
  refine wl_val ha19 rfl rfl rfl (op_move ha19 rfl rfl) ?_
  intro a21 ha21; clear ha19 a19
  refine wl_eff ha21 rfl rfl rfl (op_append (ts := #[]) (s := shEnt) ha21 rfl Try.underlying25 ti41 rfl pos_shEnt rfl rfl ho16 (h_list.ext pos_shEnt hx20) (by omega) (by omega) (by first | omega | (simp; omega)) (by first | omega | (simp; omega)) (.inl flat_shEnt)) ?_
  rintro v22 w23 ⟨ho24, hst25, hob26⟩ a27 ha27; clear ha21 a21
  replace ho24 := ho24.cast (List.nil_append _)
  have hx28 := hx20.stp hst25 (by intro q hq; have hq0 := ho16.lt q hq; omega)
  have hzhx28 := hst25.size
  refine wl_val ha27 rfl rfl rfl (op_assign ha27 rfl rfl) ?_
  intro a29 ha29; clear ha27 a27
  refine wpList_nil ?_
  refine then_n ?_
  refine wp_seq ?_
  refine wp_region_lit ?_
  refine wl_val ha29 rfl rfl rfl (op_move ha29 rfl rfl) ?_
  intro a30 ha30; clear ha29 a29
  refine wl_callR ha30 rfl rfl rfl (op_call ha30 rfl cb68 rfl) (c_spec_l33Debtors _ v_list list (h_list.ext pos_shEnt hx28) (by first | assumption | omega | exact (codeD_ok (by assumption)).1 | exact dbB_ent (by assumption) | (simp; omega))) ?_
  rintro v31 w32 he33 ⟨v34, v36, rfl, ho35, ho37⟩ a38 ha38; clear ha30 a30
  have hx39 := hx28.trans' he33
  have hzhx39 := he33.size
  replace ho24 := ho24.ext he33
  refine wl_val ha38 rfl rfl rfl (op_move ha38 rfl rfl) ?_
  intro a40 ha40; clear ha38 a38
  refine wl_val ha40 rfl rfl rfl (op_extract ha40 rfl rfl rfl) ?_
  intro a41 ha41; clear ha40 a40
  refine wl_val ha41 rfl rfl rfl (op_extract ha41 rfl rfl rfl) ?_
  intro a42 ha42; clear ha41 a41
  refine wl_val ha42 rfl rfl rfl (op_assign ha42 rfl rfl) ?_
  intro a43 ha43; clear ha42 a42
  refine wl_val ha43 rfl rfl rfl (op_assign ha43 rfl rfl) ?_
  intro a44 ha44; clear ha43 a43
  refine wpList_nil ?_
  refine then_n ?_
  refine wp_seq ?_
  refine wp_seq ?_
  refine wp_region_lit ?_
  refine wl_val ha44 rfl rfl rfl (op_assign ha44 rfl rfl) ?_
  intro a45 ha45; clear ha44 a44
  refine wpList_nil ?_
  refine then_n ?_
  refine wp_block ?_
  refine loop_inv (X := Nat × Value × (List Ent)) (fun (⟨i, v, acc⟩ : Nat × Value × (List Ent)) fr wl => Sl 51 fr [(1, .int .i64 day), (7, v), (8, v34), (9, v36), (10, .int .i64 ((i : Nat) : Int))] ∧ Ext w0 wl ∧ Own shStr 9 w23.heap.size w23.heap.size w32.heap.size wl v34 ((dbtN list)) ∧ Own shI64 2 w23.heap.size w23.heap.size w32.heap.size wl v36 ((dbtC list)) ∧ Own shEnt 41 w6.heap.size w6.heap.size wl.heap.size wl v acc ∧ w32.heap.size ≤ wl.heap.size ∧ (i ≤ (dbtN list).length) ∧ (acc.length = list.length + i) ∧ (acc = list ++ ((dbtN list).take i).map (payE list day))) (fun (⟨i, v, acc⟩ : Nat × Value × (List Ent)) => (dbtN list).length - i) (0, v22, list) ?_ ?_
  ·
   exact ⟨(Sl.cons_ ha45 rfl rfl (Sl.cons_ ha45 rfl rfl (Sl.cons_ ha45 rfl rfl (Sl.cons_ ha45 rfl rfl (Sl.cons_ ha45 rfl (int_eq (by omega)) (Sl.nil_ ha45)))))), hx39, ho35, ho37, (ho24.fin (by omega) (by omega) (by omega)), (by omega), (by omega), (by simp), (by simp)⟩
  ·
   clear ha45 a45
   rintro ⟨i, v, acc⟩ a51 w46 ⟨ha51, hx47, hf49, hf50, hf48, hzl52, hi, hl, hF⟩
   have hzhx47 := hx47.size
   refine wp_seq ?_
   refine wp_seq ?_
   refine wp_region_lit ?_
   refine wl_val ha51 rfl rfl rfl (op_move ha51 rfl rfl) ?_
   intro a53 ha53; clear ha51 a51
   refine wl_val ha53 rfl rfl rfl (op_move ha53 rfl rfl) ?_
   intro a54 ha54; clear ha53 a53
   refine wl_val ha54 rfl rfl rfl (op_len_sl ha54 rfl Try.underlying52 rfl (hf49.rds pos_shStr)) ?_
   intro a55 ha55; clear ha54 a54
   refine wl_val ha55 rfl rfl rfl (op_lss ha55 rfl rfl rfl) ?_
   intro a56 ha56; clear ha55 a55
   refine wpList_nil ?_
   refine then_n ?_
   by_cases c57 : ((i : Nat) : Int) < ((((dbtN list)).length : Nat) : Int)
   ·
    rw [decide_eq_true c57] at ha56
    refine cond_t ha56 rfl ?_
    refine wp_skip ?_
    refine then_n ?_
    refine wp_seq ?_
    refine wp_block ?_
    refine dr_enter (fun wa_ wb_ => Stp wa_ wb_ (Value.ownBlock v)) follows_mixed ?_
    intro w58 he59
    have hx60 := hx47.trans' he59
    have hzhx60 := he59.size
    replace hf49 := hf49.ext he59
    replace hf50 := hf50.ext he59
    replace hf48 := hf48.ext he59
    have hs61 : Ext w58 w58 := Ext.rfl' _
    refine dr_val (i := 0) ha56 rfl (by kernel_rfl) (by kernel_rfl) (by kernel_rfl) rfl rfl rfl (Stp.of_ext hs61 _) (fun w' hw' => op_move ha56 rfl rfl) ?_
    intro a62 ha62; clear ha56 a56
    refine dr_val (i := 1) ha62 rfl (by kernel_rfl) (by kernel_rfl) (by kernel_rfl) rfl rfl rfl (Stp.of_ext hs61 _) (fun w' hw' => op_move ha62 rfl rfl) ?_
    intro a63 ha63; clear ha62 a62
    refine dr_val (i := 2) ha63 rfl (by kernel_rfl) (by kernel_rfl) (by kernel_rfl) rfl rfl rfl (Stp.of_ext hs61 _) (fun w' hw' => op_move ha63 rfl rfl) ?_
    intro a64 ha64; clear ha63 a63
    refine dr_val (i := 3) ha64 rfl (by kernel_rfl) (by kernel_rfl) (by kernel_rfl) rfl rfl rfl (Stp.of_ext hs61 _) (fun w' hw' => op_move ha64 rfl rfl) ?_
    intro a65 ha65; clear ha64 a64
    obtain ⟨x66, hx66⟩ := get_ex (xs := (dbtN list)) (j := i) (by first | omega | (have hdc : (dbtC list).length = (dbtN list).length := (by simp [dbtC]); omega))
    obtain ⟨p67, c68, hi69, hc70, hr71, hs72⟩ := Rds.at_ (hf49.rds pos_shStr) hx66
    obtain ⟨rfl, b73⟩ := inv_shStr hr71
    obtain ⟨_, _⟩ : _ ∧ _ := hs72
    refine dr_val (i := 4) ha65 rfl (by kernel_rfl) (by kernel_rfl) (by kernel_rfl) rfl rfl rfl (Stp.of_ext hs61 _) (fun w' hw' => op_indexAddr ha65 rfl Try.underlying52 ti9 rfl rfl (by omega) hi69) ?_
    intro a74 ha74; clear ha65 a65
    refine dr_val (i := 6) ha74 rfl (by kernel_rfl) (by kernel_rfl) (by kernel_rfl) rfl rfl rfl (Stp.of_ext hs61 _) (fun w' hw' => op_move ha74 rfl rfl) ?_
    intro a75 ha75; clear ha74 a74
    refine dr_val (i := 7) ha75 rfl (by kernel_rfl) (by kernel_rfl) (by kernel_rfl) rfl rfl rfl (Stp.of_ext hs61 _) (fun w' hw' => op_move ha75 rfl rfl) ?_
    intro a76 ha76; clear ha75 a75
    obtain ⟨x77, hx77⟩ := get_ex (xs := (dbtC list)) (j := i) (by first | omega | (have hdc : (dbtC list).length = (dbtN list).length := (by simp [dbtC]); omega))
    obtain ⟨p78, c79, hi80, hc81, hr82, hs83⟩ := Rds.at_ (hf50.rds pos_shI64) hx77
    obtain ⟨rfl, b84⟩ := inv_shI64 hr82
    obtain ⟨_, _⟩ : _ ∧ _ := hs83
    refine dr_val (i := 8) ha76 rfl (by kernel_rfl) (by kernel_rfl) (by kernel_rfl) rfl rfl rfl (Stp.of_ext hs61 _) (fun w' hw' => op_indexAddr ha76 rfl Try.underlying45 ti2 rfl rfl (by omega) hi80) ?_
    intro a85 ha85; clear ha76 a76
    refine dr_two (i := 5) (j := 9) (by kernel_rfl) ?_ ?_
    ·
     refine po_to ha85 rfl rfl rfl rfl (op_loadH ha85 rfl Try.underlying9 rfl rfl (hc70.ext hs61) rfl) ?_
     intro a86 ha86; clear ha85 a85
     refine ⟨(Stp.of_ext hs61 _), ?_⟩
     refine dr_one (i := 9) (by kernel_rfl) ?_
     refine po_to ha86 rfl rfl rfl rfl (op_loadH ha86 rfl Try.underlying2 rfl rfl (hc81.ext hs61) rfl) ?_
     intro a87 ha87; clear ha86 a86
     refine ⟨(Stp.of_ext hs61 _), ?_⟩
     refine dr_val (i := 10) ha87 rfl (by kernel_rfl) (by kernel_rfl) (by kernel_rfl) rfl rfl rfl (Stp.of_ext hs61 _) (fun w' hw' => op_build (vs := [(0, .int .i64 day), (1, .int .i64 (1 : Int)), (2, St x66), (3, .int .i64 x77)]) (cs := #[.int .i64 day, .int .i64 (1 : Int), St x66, .int .i64 x77]) ha87 rfl Try.underlying41 ti41 bp41 rfl rfl) ?_
     intro a88 ha88; clear ha87 a87
     refine dr_one (i := 11) (by kernel_rfl) ?_
     refine po_eff ha88 rfl rfl rfl rfl (op_buildSlice (s := shEnt) (xs := [(day, (1 : Int), x66, x77)]) (cs := [.int .i64 day, .int .i64 (1 : Int), St x66, .int .i64 x77]) (vs := [(0, .agg #[.int .i64 day, .int .i64 (1 : Int), St x66, .int .i64 x77])]) (S := fun _ => False) (le := w58.heap.size) ha88 rfl pos_shEnt Try.underlying25 ti41 rfl rfl (by decide) (by kernel_rfl) (Els.single (mk_shEnt ((day, (1 : Int), x66, x77)) (by first | assumption | omega | (dsimp only; omega)) (by first | assumption | omega | (dsimp only; omega)) (by first | assumption | omega | (dsimp only; omega)) (by first | assumption | omega | (dsimp only; omega)))) (fun _ h => h.elim)) ?_
     rintro v89 w90 ⟨ho91, he92, hob93⟩ a94 ha94; clear ha88 a88
     have hs95 := hs61.trans' he92
     have hx96 := hx60.trans' he92
     have hzhx96 := he92.size
     refine ⟨(Stp.of_ext hs95 _), ?_⟩
     refine dr_one (i := 12) (by kernel_rfl) ?_
     replace hf49 := hf49.ext hs95
     replace hf50 := hf50.ext hs95
     replace hf48 := hf48.ext hs95
     replace hc70 := hc70.ext hs95
     replace hc81 := hc81.ext hs95
     refine po_eff ha94 rfl rfl rfl rfl (op_append (ts := #[]) (s := shEnt) ha94 rfl Try.underlying25 ti41 rfl pos_shEnt rfl rfl hf48 (ho91.rds pos_shEnt) (by omega) (by omega) (by first | omega | (simp; omega)) (by first | omega | (simp; omega)) (.inl flat_shEnt)) ?_
     rintro v97 w98 ⟨ho99, hst100, hob101⟩ a102 ha102; clear ha94 a94
     have hs103 := (Stp.of_ext hs95 (Value.ownBlock v)).trans' hst100
     have hx104 := hx96.stp hst100 (by intro q hq; have hq0 := hf48.lt q hq; omega)
     have hzhx104 := hst100.size
     first | replace hf49 := hf49.stp hst100 (by intro q hq; have hq0 := hf48.lt q hq; omega) | replace hf49 := hf49.stpF flat_shStr hst100 (hf49.ne hf48 rfl)
     first | replace hf50 := hf50.stp hst100 (by intro q hq; have hq0 := hf48.lt q hq; omega) | replace hf50 := hf50.stpF flat_shI64 hst100 (hf50.ne hf48 rfl)
     replace ho91 := ho91.stp hst100 (by intro q hq; have hq0 := hf48.lt q hq; omega)
     have hsp105 : ∀ q, Value.ownBlock v97 = some q → Value.ownBlock v89 ≠ some q := by intro q hq hb; have hq0 := ho91.lt q hb; rcases hob101 with h | h; (rw [h] at hq; first | (have hq1 := hf48.lt q hq; omega)); (rw [h] at hq; cases hq; omega)
     refine ⟨hs103, ?_⟩
     refine dr_val (i := 13) ha102 rfl (by kernel_rfl) (by kernel_rfl) (by kernel_rfl) rfl rfl rfl hs103 (fun w' hw' => op_assign ha102 rfl rfl) ?_
     intro a106 ha106; clear ha102 a102
     refine dr_end (by kernel_rfl) ?_
     refine block_n ?_
     refine then_n ?_
     refine wp_region_lit ?_
     refine wl_val ha106 rfl rfl rfl (op_move ha106 rfl rfl) ?_
     intro a107 ha107; clear ha106 a106
     refine wl_val ha107 rfl rfl rfl ((op_add ha107 rfl rfl rfl).int (IntWalk.i64_in _ (by omega))) ?_
     intro a108 ha108; clear ha107 a107
     refine wl_val ha108 rfl rfl rfl (op_assign ha108 rfl rfl) ?_
     intro a109 ha109; clear ha108 a108
     refine wpList_nil ?_
     refine round_end (x := (i, v, acc)) ((i + 1), v97, (acc ++ [(day, (1 : Int), x66, x77)])) ?_ ?_
     ·
      refine ⟨(Sl.cons_ ha109 rfl rfl (Sl.cons_ ha109 rfl rfl (Sl.cons_ ha109 rfl rfl (Sl.cons_ ha109 rfl rfl (Sl.cons_ ha109 rfl (int_eq (by omega)) (Sl.nil_ ha109)))))), hx104, hf49, hf50, (ho99.fin (by omega) (by omega) (by omega)), (by omega), (by omega), (by first | omega | (simp; omega)), (by rw [hF, take_snoc hx66, List.map_append, List.append_assoc]; simp [payE, dbtC_get hx66 hx77])⟩
     ·show ((dbtN list).length - ((i + 1)) : Nat) < (dbtN list).length - i; omega
    ·
     refine po_to ha85 rfl rfl rfl rfl (op_loadH ha85 rfl Try.underlying2 rfl rfl (hc81.ext hs61) rfl) ?_
     intro a110 ha110; clear ha85 a85
     refine ⟨(Stp.of_ext hs61 _), ?_⟩
     refine dr_one (i := 5) (by kernel_rfl) ?_
     refine po_to ha110 rfl rfl rfl rfl (op_loadH ha110 rfl Try.underlying9 rfl rfl (hc70.ext hs61) rfl) ?_
     intro a111 ha111; clear ha110 a110
     refine ⟨(Stp.of_ext hs61 _), ?_⟩
     refine dr_val (i := 10) ha111 rfl (by kernel_rfl) (by kernel_rfl) (by kernel_rfl) rfl rfl rfl (Stp.of_ext hs61 _) (fun w' hw' => op_build (vs := [(0, .int .i64 day), (1, .int .i64 (1 : Int)), (2, St x66), (3, .int .i64 x77)]) (cs := #[.int .i64 day, .int .i64 (1 : Int), St x66, .int .i64 x77]) ha111 rfl Try.underlying41 ti41 bp41 rfl rfl) ?_
     intro a112 ha112; clear ha111 a111
     refine dr_one (i := 11) (by kernel_rfl) ?_
     refine po_eff ha112 rfl rfl rfl rfl (op_buildSlice (s := shEnt) (xs := [(day, (1 : Int), x66, x77)]) (cs := [.int .i64 day, .int .i64 (1 : Int), St x66, .int .i64 x77]) (vs := [(0, .agg #[.int .i64 day, .int .i64 (1 : Int), St x66, .int .i64 x77])]) (S := fun _ => False) (le := w58.heap.size) ha112 rfl pos_shEnt Try.underlying25 ti41 rfl rfl (by decide) (by kernel_rfl) (Els.single (mk_shEnt ((day, (1 : Int), x66, x77)) (by first | assumption | omega | (dsimp only; omega)) (by first | assumption | omega | (dsimp only; omega)) (by first | assumption | omega | (dsimp only; omega)) (by first | assumption | omega | (dsimp only; omega)))) (fun _ h => h.elim)) ?_
     rintro v113 w114 ⟨ho115, he116, hob117⟩ a118 ha118; clear ha112 a112
     have hs119 := hs61.trans' he116
     have hx120 := hx60.trans' he116
     have hzhx120 := he116.size
     refine ⟨(Stp.of_ext hs119 _), ?_⟩
     refine dr_one (i := 12) (by kernel_rfl) ?_
     replace hf49 := hf49.ext hs119
     replace hf50 := hf50.ext hs119
     replace hf48 := hf48.ext hs119
     replace hc70 := hc70.ext hs119
     replace hc81 := hc81.ext hs119
     refine po_eff ha118 rfl rfl rfl rfl (op_append (ts := #[]) (s := shEnt) ha118 rfl Try.underlying25 ti41 rfl pos_shEnt rfl rfl hf48 (ho115.rds pos_shEnt) (by omega) (by omega) (by first | omega | (simp; omega)) (by first | omega | (simp; omega)) (.inl flat_shEnt)) ?_
     rintro v121 w122 ⟨ho123, hst124, hob125⟩ a126 ha126; clear ha118 a118
     have hs127 := (Stp.of_ext hs119 (Value.ownBlock v)).trans' hst124
     have hx128 := hx120.stp hst124 (by intro q hq; have hq0 := hf48.lt q hq; omega)
     have hzhx128 := hst124.size
     first | replace hf49 := hf49.stp hst124 (by intro q hq; have hq0 := hf48.lt q hq; omega) | replace hf49 := hf49.stpF flat_shStr hst124 (hf49.ne hf48 rfl)
     first | replace hf50 := hf50.stp hst124 (by intro q hq; have hq0 := hf48.lt q hq; omega) | replace hf50 := hf50.stpF flat_shI64 hst124 (hf50.ne hf48 rfl)
     replace ho115 := ho115.stp hst124 (by intro q hq; have hq0 := hf48.lt q hq; omega)
     have hsp129 : ∀ q, Value.ownBlock v121 = some q → Value.ownBlock v113 ≠ some q := by intro q hq hb; have hq0 := ho115.lt q hb; rcases hob125 with h | h; (rw [h] at hq; first | (have hq1 := hf48.lt q hq; omega)); (rw [h] at hq; cases hq; omega)
     refine ⟨hs127, ?_⟩
     refine dr_val (i := 13) ha126 rfl (by kernel_rfl) (by kernel_rfl) (by kernel_rfl) rfl rfl rfl hs127 (fun w' hw' => op_assign ha126 rfl rfl) ?_
     intro a130 ha130; clear ha126 a126
     refine dr_end (by kernel_rfl) ?_
     refine block_n ?_
     refine then_n ?_
     refine wp_region_lit ?_
     refine wl_val ha130 rfl rfl rfl (op_move ha130 rfl rfl) ?_
     intro a131 ha131; clear ha130 a130
     refine wl_val ha131 rfl rfl rfl ((op_add ha131 rfl rfl rfl).int (IntWalk.i64_in _ (by omega))) ?_
     intro a132 ha132; clear ha131 a131
     refine wl_val ha132 rfl rfl rfl (op_assign ha132 rfl rfl) ?_
     intro a133 ha133; clear ha132 a132
     refine wpList_nil ?_
     refine round_end (x := (i, v, acc)) ((i + 1), v121, (acc ++ [(day, (1 : Int), x66, x77)])) ?_ ?_
     ·
      refine ⟨(Sl.cons_ ha133 rfl rfl (Sl.cons_ ha133 rfl rfl (Sl.cons_ ha133 rfl rfl (Sl.cons_ ha133 rfl rfl (Sl.cons_ ha133 rfl (int_eq (by omega)) (Sl.nil_ ha133)))))), hx128, hf49, hf50, (ho123.fin (by omega) (by omega) (by omega)), (by omega), (by omega), (by first | omega | (simp; omega)), (by rw [hF, take_snoc hx66, List.map_append, List.append_assoc]; simp [payE, dbtC_get hx66 hx77])⟩
     ·show ((dbtN list).length - ((i + 1)) : Nat) < (dbtN list).length - i; omega
   ·
    rw [decide_eq_false c57] at ha56
    refine cond_f ha56 rfl ?_
    refine wp_exit ?_
    refine then_e ?_
    refine then_e ?_
    refine block_hit ?_
    refine then_n ?_
    refine wp_seq ?_
    refine wp_seq ?_
    refine wp_region_lit ?_
    refine wl_val ha56 rfl rfl rfl (op_move ha56 rfl rfl) ?_
    intro a134 ha134; clear ha56 a56
    refine wl_val ha134 rfl rfl rfl (op_len_sl ha134 rfl Try.underlying25 rfl (hf48.rds pos_shEnt)) ?_
    intro a135 ha135; clear ha134 a134
    refine wl_val ha135 rfl rfl rfl (op_gtr ha135 rfl rfl rfl) ?_
    intro a136 ha136; clear ha135 a135
    refine wpList_nil ?_
    refine then_n ?_
    by_cases c137 : (60 : Int) < ((acc.length : Nat) : Int)
    ·
     rw [decide_eq_true c137] at ha136
     refine cond_t ha136 rfl ?_
     refine wp_seq ?_
     refine wp_region_lit ?_
     refine wl_val ha136 rfl rfl rfl (op_assign ha136 rfl rfl) ?_
     intro a138 ha138; clear ha136 a136
     refine wl_val ha138 rfl rfl rfl (op_assign ha138 rfl rfl) ?_
     intro a139 ha139; clear ha138 a138
     refine wpList_nil ?_
     refine then_n ?_
     refine wp_ret ?_
     refine then_r ?_
     refine ret2 ha139 rfl rfl rfl ?_
     clear ha139 a139
     have hE : acc = payO list day := by rw [hF, List.take_of_length_le (by omega)]; rfl
     subst hE
     have hcd0 : codeD list day = 0 := by first | exact c13 | (unfold codeD; simp [c13, c57, c137])
     refine ret_mk hx47 ⟨.slice none 0 0, (tup2_eq rfl (int_eq (by first | (simp [payC, hcd0, c13, c57, c137]; done) | (simp [payC, hcd0, c13, c57, c137]; omega) | (simp_all [payC]; done)))), ?_⟩
     ·refine Own.nil_ _ _ _ _ _ _ ?_
      first | (simp [payL, hcd0, c13, c57, c137]; done) | (simp [payL, hcd0, c13, c57, c137]; omega) | (simp_all [payL]; done)
    ·
     rw [decide_eq_false c137] at ha136
     refine cond_f ha136 rfl ?_
     refine wp_skip ?_
     refine then_n ?_
     refine wp_seq ?_
     refine wp_seq ?_
     refine wp_region_lit ?_
     refine wl_val ha136 rfl rfl rfl (op_move ha136 rfl rfl) ?_
     intro a140 ha140; clear ha136 a136
     refine wl_callR ha140 rfl rfl rfl (op_call ha140 rfl cb16 rfl) (c_spec_IsDayBook _ v acc (hf48.rds pos_shEnt) (by first | assumption | omega | exact (codeD_ok (by assumption)).1 | exact dbB_ent (by assumption) | (simp; omega))) ?_
     rintro v141 w142 he143 rfl a144 ha144; clear ha140 a140
     have hx145 := hx47.trans' he143
     have hzhx145 := he143.size
     replace hf49 := hf49.ext he143
     replace hf50 := hf50.ext he143
     replace hf48 := hf48.ext he143
     refine wl_val ha144 rfl rfl rfl (op_not ha144 rfl rfl) ?_
     intro a146 ha146; clear ha144 a144
     refine wpList_nil ?_
     refine then_n ?_
     rcases Bool.eq_false_or_eq_true (dbB acc) with c147 | c147
     ·
      rw [c147] at ha146
      have hlenc147 := dbB_len c147
      have hentc147 := dbB_ent c147
      refine cond_f ha146 rfl ?_
      refine wp_skip ?_
      refine then_n ?_
      refine wp_seq ?_
      refine wp_region_lit ?_
      refine wl_val ha146 rfl rfl rfl (op_move ha146 rfl rfl) ?_
      intro a148 ha148; clear ha146 a146
      refine wl_val ha148 rfl rfl rfl (op_assign ha148 rfl rfl) ?_
      intro a149 ha149; clear ha148 a148
      refine wl_val ha149 rfl rfl rfl (op_assign ha149 rfl rfl) ?_
      intro a150 ha150; clear ha149 a149
      refine wpList_nil ?_
      refine then_n ?_
      refine wp_ret ?_
      refine ret2 ha150 rfl rfl rfl ?_
      clear ha150 a150
      have hE : acc = payO list day := by rw [hF, List.take_of_length_le (by omega)]; rfl
      subst hE
      have hcd0 : codeD list day = 0 := by first | exact c13 | (unfold codeD; simp [c13, c57, c137, c147])
      refine ret_mk hx145 ⟨v, (tup2_eq rfl (int_eq (by first | (simp [payC, hcd0, c13, c57, c137, c147]; done) | (simp [payC, hcd0, c13, c57, c137, c147]; omega) | (simp_all [payC]; done)))), ?_⟩
      ·refine (hf48.fin (by omega) (by omega) (by omega)).cast ?_
       first | (simp [payL, hcd0, c13, c57, c137, c147]; done) | (simp [payL, hcd0, c13, c57, c137, c147]; omega) | (simp_all [payL]; done)
     ·
      rw [c147] at ha146
      refine cond_t ha146 rfl ?_
      refine wp_seq ?_
      refine wp_region_lit ?_
      refine wl_val ha146 rfl rfl rfl (op_assign ha146 rfl rfl) ?_
      intro a151 ha151; clear ha146 a146
      refine wl_val ha151 rfl rfl rfl (op_assign ha151 rfl rfl) ?_
      intro a152 ha152; clear ha151 a151
      refine wpList_nil ?_
      refine then_n ?_
      refine wp_ret ?_
      refine then_r ?_
      refine ret2 ha152 rfl rfl rfl ?_
      clear ha152 a152
      have hE : acc = payO list day := by rw [hF, List.take_of_length_le (by omega)]; rfl
      subst hE
      have hcd0 : codeD list day = 0 := by first | exact c13 | (unfold codeD; simp [c13, c57, c137, c147])
      refine ret_mk hx145 ⟨.slice none 0 0, (tup2_eq rfl (int_eq (by first | (simp [payC, hcd0, c13, c57, c137, c147]; done) | (simp [payC, hcd0, c13, c57, c137, c147]; omega) | (simp_all [payC]; done)))), ?_⟩
      ·refine Own.nil_ _ _ _ _ _ _ ?_
       first | (simp [payL, hcd0, c13, c57, c137, c147]; done) | (simp [payL, hcd0, c13, c57, c137, c147]; omega) | (simp_all [payL]; done)
 ·
  rw [decide_eq_false c13] at ha12
  refine cond_t ha12 rfl ?_
  refine wp_seq ?_
  refine wp_region_lit ?_
  refine wl_val ha12 rfl rfl rfl (op_move ha12 rfl rfl) ?_
  intro a153 ha153; clear ha12 a12
  refine wl_val ha153 rfl rfl rfl (op_assign ha153 rfl rfl) ?_
  intro a154 ha154; clear ha153 a153
  refine wl_val ha154 rfl rfl rfl (op_assign ha154 rfl rfl) ?_
  intro a155 ha155; clear ha154 a154
  refine wpList_nil ?_
  refine then_n ?_
  refine wp_ret ?_
  refine then_r ?_
  refine ret2 ha155 rfl rfl rfl ?_
  clear ha155 a155
  
  refine ret_mk hx9 ⟨.slice none 0 0, (tup2_eq rfl (int_eq (by first | (simp [payC, c13]; done) | (simp [payC, codeD, c13]; done) | (simp [payC, codeD, c13]; omega) | (simp_all [payC, codeD]; done) | (simp_all [payC, codeD]; omega)))), ?_⟩
  ·refine Own.nil_ _ _ _ _ _ _ ?_
   first | (simp [payL, c13]; done) | (simp [payL, codeD, c13]; done) | (simp [payL, codeD, c13]; omega) | (simp_all [payL, codeD]; done) | (simp_all [payL, codeD]; omega)


end Go.Proofs.Ytocedhbefdaefaa
