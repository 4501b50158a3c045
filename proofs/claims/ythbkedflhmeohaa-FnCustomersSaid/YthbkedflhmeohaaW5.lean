/- A further customer. -/
import Derived.Test.YthbkedflhmeohaaW4
import Derived.Test.YthbkedflhmeohaaL2
namespace Go.Proofs.Ythbkedflhmeohaa
open Go Go.RowKit

theorem c_impl_AddCustomer (w0 : World) (v_list : Value) (list : List (Str × Int × List Str)) {S_list : Nat → Prop} (name : Str) (since : Int) (h_list : Rds shCust S_list w0 v_list list) (g0 : list.length ≤ 1048576) (g1 : name.length ≤ 9223372036854775807) (g2 : I64 since) :
  Calls Try.prog 32 #[v_list, St name, .int .i64 since] w0 (Ret w0 (fun v w1 => ∃ r0 z0, v = .tuple #[r0, .int .i64 (addcC list name since)] ∧ Own shCustN 55 w0.heap.size w0.heap.size w1.heap.size w1 r0 z0 ∧ Nst shStr 9 (fun x : Str × Int × List Str => x.2.2) w0.heap.size w1.heap.size w1 z0 ∧ z0.map (·.1) = (addcL list name since))) := by
 refine enter (N := 73) Try.func32 rfl rfl rfl ?_
 intro a0 ha0
 have hx0 := Ext.rfl' w0
 have hl_list := h_list.length_le
 refine wp_seq ?_
 refine wp_region_lit ?_
 refine wl_val ha0 rfl rfl rfl (op_assign ha0 rfl rfl) ?_
 intro a1 ha1; clear ha0 a0
 refine wl_val ha1 rfl rfl rfl (op_assign ha1 rfl rfl) ?_
 intro a2 ha2; clear ha1 a1
 refine wpList_nil ?_
 refine then_n ?_
 refine wp_seq ?_
 refine wp_seq ?_
 refine wp_region_lit ?_
 refine wl_val ha2 rfl rfl rfl (op_move ha2 rfl rfl) ?_
 intro a3 ha3; clear ha2 a2
 refine wl_callR ha3 rfl rfl rfl (op_call ha3 rfl cb17 rfl) (c_impl_AreCustomers _ v_list list (h_list.ext pos_shCust hx0) (by first | assumption | omega | (simp; omega) | (intro c hc; have := cuOk_bd (cuB_el (by assumption) c hc); omega) | (intro c hc; have := cuOk_bd (cuB_el (by assumption) c (List.mem_of_mem_take hc)); omega) | (intro c hc; have := cuOk_bd (cuB_el (by assumption) c (List.mem_of_mem_drop hc)); omega))) ?_
 rintro v4 w5 he6 rfl a7 ha7; clear ha3 a3
 have hx8 := hx0.trans' he6
 have hzhx8 := he6.size
 refine wl_val ha7 rfl rfl rfl (op_not ha7 rfl rfl) ?_
 intro a9 ha9; clear ha7 a7
 refine wl_val ha9 rfl rfl rfl (op_move ha9 rfl rfl) ?_
 intro a10 ha10; clear ha9 a9
 rcases Bool.eq_false_or_eq_true (cuB list) with c11 | c11
 ·
  rw [c11] at ha10
  have hlenc11 := cuB_len c11
  have hcuc11 := cuB_el c11
  refine wl_val ha10 rfl rfl rfl (op_move ha10 rfl rfl) ?_
  intro a12 ha12; clear ha10 a10
  refine wl_callR ha12 rfl rfl rfl (op_call ha12 rfl cb56 rfl) (c_impl_IsWord _ name (by first | assumption | omega | (simp; omega) | (intro c hc; have := cuOk_bd (cuB_el (by assumption) c hc); omega) | (intro c hc; have := cuOk_bd (cuB_el (by assumption) c (List.mem_of_mem_take hc)); omega) | (intro c hc; have := cuOk_bd (cuB_el (by assumption) c (List.mem_of_mem_drop hc)); omega))) ?_
  rintro v13 w14 he15 rfl a16 ha16; clear ha12 a12
  have hx17 := hx8.trans' he15
  have hzhx17 := he15.size
  refine wl_val ha16 rfl rfl rfl (op_not ha16 rfl rfl) ?_
  intro a18 ha18; clear ha16 a16
  refine wl_val ha18 rfl rfl rfl (op_pick_f ha18 rfl rfl rfl) ?_
  intro a19 ha19; clear ha18 a18
  refine wpList_nil ?_
  refine then_n ?_
  rcases Bool.eq_false_or_eq_true (wordB name) with c20 | c20
  ·
   rw [c20] at ha19
   refine cond_f ha19 rfl ?_
   refine wp_skip ?_
   refine then_n ?_
   refine wp_seq ?_
   refine wp_seq ?_
   refine wp_region_lit ?_
   refine wl_val ha19 rfl rfl rfl (op_move ha19 rfl rfl) ?_
   intro a21 ha21; clear ha19 a19
   refine wl_callR ha21 rfl rfl rfl (op_call ha21 rfl cb57 rfl) (c_impl_isDate _ since ) ?_
   rintro v22 w23 he24 rfl a25 ha25; clear ha21 a21
   have hx26 := hx17.trans' he24
   have hzhx26 := he24.size
   refine wl_val ha25 rfl rfl rfl (op_not ha25 rfl rfl) ?_
   intro a27 ha27; clear ha25 a25
   refine wpList_nil ?_
   refine then_n ?_
   rcases Bool.eq_false_or_eq_true (dateB since) with c28 | c28
   ·
    rw [c28] at ha27
    refine cond_f ha27 rfl ?_
    refine wp_skip ?_
    refine then_n ?_
    refine wp_seq ?_
    refine wp_seq ?_
    refine wp_region_lit ?_
    refine wl_val ha27 rfl rfl rfl (op_move ha27 rfl rfl) ?_
    intro a29 ha29; clear ha27 a27
    refine wl_val ha29 rfl rfl rfl (op_move ha29 rfl rfl) ?_
    intro a30 ha30; clear ha29 a29
    refine wl_callR ha30 rfl rfl rfl (op_call ha30 rfl cb66 rfl) (c_impl_findCustomer _ v_list list name (h_list.ext pos_shCust hx26)) ?_
    rintro v31 w32 he33 rfl a34 ha34; clear ha30 a30
    have hx35 := hx26.trans' he33
    have hzhx35 := he33.size
    refine wl_val ha34 rfl rfl rfl (op_geq ha34 rfl rfl rfl) ?_
    intro a36 ha36; clear ha34 a34
    refine wpList_nil ?_
    refine then_n ?_
    by_cases c37 : (0 : Int) ≤ (fnI list name : Int)
    ·
     rw [decide_eq_true c37] at ha36
     refine cond_t ha36 rfl ?_
     refine wp_seq ?_
     refine wp_region_lit ?_
     refine wl_val ha36 rfl rfl rfl (op_assign ha36 rfl rfl) ?_
     intro a38 ha38; clear ha36 a36
     refine wl_val ha38 rfl rfl rfl (op_assign ha38 rfl rfl) ?_
     intro a39 ha39; clear ha38 a38
     refine wpList_nil ?_
     refine then_n ?_
     refine wp_ret ?_
     refine then_r ?_
     refine ret2 ha39 rfl rfl rfl ?_
     clear ha39 a39
     refine ret_mk hx35 ⟨(.slice none 0 0), [], (tup2_eq rfl (int_eq (by first | (simp [addcC, c11, c20, c28, c37]; done) | (simp [addcC, c11, c20, c28, c37]; omega) | (simp_all [addcC]; done) | (simp_all [addcC]; omega)))), Own.nil _ _ _ _ _ _, Nst.nil _ _ _ _ _ _, ?_⟩
     ·
      first | (simp [addcL, c11, c20, c28, c37]; done) | (simp [addcL, c11, c20, c28, c37]; omega) | (simp_all [addcL]; done) | (simp_all [addcL]; omega)
    ·
     rw [decide_eq_false c37] at ha36
     refine cond_f ha36 rfl ?_
     refine wp_skip ?_
     refine then_n ?_
     refine wp_seq ?_
     refine wp_seq ?_
     refine wp_region_lit ?_
     refine wl_val ha36 rfl rfl rfl (op_move ha36 rfl rfl) ?_
     intro a40 ha40; clear ha36 a36
     refine wl_val ha40 rfl rfl rfl (op_len_sl ha40 rfl Try.underlying25 rfl h_list) ?_
     intro a41 ha41; clear ha40 a40
     refine wl_val ha41 rfl rfl rfl (op_eql ha41 rfl rfl rfl) ?_
     intro a42 ha42; clear ha41 a41
     refine wpList_nil ?_
     refine then_n ?_
     by_cases c43 : ((list.length : Nat) : Int) = (20 : Int)
     ·
      rw [decide_eq_true c43] at ha42
      have hnc43 : list.length = 20 := by omega
      refine cond_t ha42 rfl ?_
      refine wp_seq ?_
      refine wp_region_lit ?_
      refine wl_val ha42 rfl rfl rfl (op_assign ha42 rfl rfl) ?_
      intro a44 ha44; clear ha42 a42
      refine wl_val ha44 rfl rfl rfl (op_assign ha44 rfl rfl) ?_
      intro a45 ha45; clear ha44 a44
      refine wpList_nil ?_
      refine then_n ?_
      refine wp_ret ?_
      refine then_r ?_
      refine ret2 ha45 rfl rfl rfl ?_
      clear ha45 a45
      refine ret_mk hx35 ⟨(.slice none 0 0), [], (tup2_eq rfl (int_eq (by first | (simp [addcC, c11, c20, c28, c37, c43, hnc43]; done) | (simp [addcC, c11, c20, c28, c37, c43, hnc43]; omega) | (simp_all [addcC]; done) | (simp_all [addcC]; omega)))), Own.nil _ _ _ _ _ _, Nst.nil _ _ _ _ _ _, ?_⟩
      ·
       first | (simp [addcL, c11, c20, c28, c37, c43, hnc43]; done) | (simp [addcL, c11, c20, c28, c37, c43, hnc43]; omega) | (simp_all [addcL]; done) | (simp_all [addcL]; omega)
     ·
      rw [decide_eq_false c43] at ha42
      have hnc43 : ¬ list.length = 20 := by omega
      refine cond_f ha42 rfl ?_
      refine wp_skip ?_
      refine then_n ?_
      refine wp_seq ?_
      refine wp_region_lit ?_
      refine wl_val ha42 rfl rfl rfl (op_move ha42 rfl rfl) ?_
      intro a46 ha46; clear ha42 a42
      refine wl_callR ha46 rfl rfl rfl (op_call ha46 rfl cb67 rfl) (c_impl_copyCustomers _ v_list list (h_list.ext pos_shCust hx35) (by first | assumption | omega | (simp; omega) | (intro c hc; have := cuOk_bd (cuB_el (by assumption) c hc); omega) | (intro c hc; have := cuOk_bd (cuB_el (by assumption) c (List.mem_of_mem_take hc)); omega) | (intro c hc; have := cuOk_bd (cuB_el (by assumption) c (List.mem_of_mem_drop hc)); omega)) (by first | assumption | omega | (simp; omega) | (intro c hc; have := cuOk_bd (cuB_el (by assumption) c hc); omega) | (intro c hc; have := cuOk_bd (cuB_el (by assumption) c (List.mem_of_mem_take hc)); omega) | (intro c hc; have := cuOk_bd (cuB_el (by assumption) c (List.mem_of_mem_drop hc)); omega))) ?_
      rintro v47 w48 he49 ⟨z51, ho50, hN52, hE53⟩ a54 ha54; clear ha46 a46
      have hx55 := hx35.trans' he49
      have hzhx55 := he49.size
      have hlhE53 := absLen hE53
      refine wl_val ha54 rfl rfl rfl (op_move ha54 rfl rfl) ?_
      intro a56 ha56; clear ha54 a54
      refine wl_val ha56 rfl rfl rfl (op_move ha56 rfl rfl) ?_
      intro a57 ha57; clear ha56 a56
      refine wl_val ha57 rfl rfl rfl (op_build (vs := [(0, St name), (1, .int .i64 since)]) (cs := #[St name, .int .i64 since, .slice none 0 0]) ha57 rfl Try.underlying55 ti55 bp55 rfl rfl) ?_
      intro a58 ha58; clear ha57 a57
      refine wl_eff ha58 rfl rfl rfl (op_buildSlice (s := shCustN) (xs := [(((name, since, []) : Str × Int × List Str), (.slice none 0 0 : Value))]) (cs := [St name, .int .i64 since, .slice none 0 0]) (vs := [(0, .agg #[St name, .int .i64 since, .slice none 0 0])]) (S := fun _ => False) (le := w48.heap.size) ha58 rfl pos_shCustN Try.underlying25 ti55 rfl rfl (by decide) (by kernel_rfl) (Els.single (mk_shCustN ((((name, since, []) : Str × Int × List Str), (.slice none 0 0 : Value))) (by first | assumption | omega | (simp; done) | (dsimp only; omega) | (dsimp only; assumption) | exact ⟨by omega, by omega⟩) (by first | assumption | omega | (simp; done) | (dsimp only; omega) | (dsimp only; assumption) | exact ⟨by omega, by omega⟩) (by first | rfl | assumption | exact Own.one (by assumption) | exact Rds.one (by assumption)))) (fun _ h => h.elim)) ?_
      rintro v59 w60 ⟨ho61, he62, hob63⟩ a64 ha64; clear ha58 a58
      have hx65 := hx55.trans' he62
      have hzhx65 := he62.size
      replace ho50 := ho50.ext he62
      replace hN52 := hN52.ext he62
      have hN66 : Nst shStr 9 (fun x : Str × Int × List Str => x.2.2) w48.heap.size w60.heap.size w60 ([(((name, since, []) : Str × Int × List Str), (.slice none 0 0 : Value))]) := Nst.one (Own.nil _ _ _ _ _ _)
      refine wl_eff ha64 rfl rfl rfl (op_append (ts := #[]) (s := shCustN) ha64 rfl Try.underlying25 ti55 rfl pos_shCustN rfl rfl ho50 (ho61.rds pos_shCustN) (by omega) (by omega) (by first | omega | (simp; omega) | (simp only [List.length_append, List.length_take, List.length_drop, List.length_singleton] at *; omega)) (by first | omega | (simp; omega) | (simp only [List.length_append, List.length_take, List.length_drop, List.length_singleton] at *; omega)) (.inl flat_shCustN)) ?_
      rintro v67 w68 ⟨ho69, hst70, hob71⟩ a72 ha72; clear ha64 a64
      have hx73 := hx65.stp hst70 (by intro q hq; have hq0 := ho50.lt q hq; omega)
      have hzhx73 := hst70.size
      first | replace hN52 := hN52.stpF flat_shStr hst70 ho50 rfl | replace hN52 := hN52.stp hst70 (by intro q hq; have hq0 := ho50.lt q hq; omega)
      replace ho61 := ho61.stp hst70 (by intro q hq; have hq0 := ho50.lt q hq; omega)
      replace hN66 := hN66.stp hst70 (by intro q hq; have hq0 := ho50.lt q hq; omega)
      have hsp74 : ∀ q, Value.ownBlock v67 = some q → Value.ownBlock v59 ≠ some q := by intro q hq hb; have hq0 := ho61.lt q hb; rcases hob71 with h | h; (rw [h] at hq; first | (have hq1 := ho50.lt q hq; omega)); (rw [h] at hq; cases hq; omega)
      have hlaq75 : ((z51 ++ [(((name, since, []) : Str × Int × List Str), (.slice none 0 0 : Value))])).length = z51.length + 1 := by simp
      have hN76 : Nst shStr 9 (fun x : Str × Int × List Str => x.2.2) w32.heap.size w68.heap.size w68 ((z51 ++ [(((name, since, []) : Str × Int × List Str), (.slice none 0 0 : Value))])) := (hN52.app hN66 (by omega) (by omega) (by omega)).fin (by omega) (by omega)
      refine wl_val ha72 rfl rfl rfl (op_assign ha72 rfl rfl) ?_
      intro a77 ha77; clear ha72 a72
      refine wpList_nil ?_
      refine then_n ?_
      refine wp_seq ?_
      refine wp_seq ?_
      refine wp_region_lit ?_
      refine wl_val ha77 rfl rfl rfl (op_move ha77 rfl rfl) ?_
      intro a78 ha78; clear ha77 a77
      refine wl_val ha78 rfl rfl rfl (op_len_sl ha78 rfl Try.underlying25 rfl (ho69.rds pos_shCustN)) ?_
      intro a79 ha79; clear ha78 a78
      refine wl_val ha79 rfl rfl rfl ((op_sub ha79 rfl rfl rfl).int (IntWalk.i64_in _ (by omega))) ?_
      intro a80 ha80; clear ha79 a79
      refine wl_val ha80 rfl rfl rfl (op_assign ha80 rfl rfl) ?_
      intro a81 ha81; clear ha80 a80
      refine wpList_nil ?_
      refine then_n ?_
      refine wp_block ?_
      refine loop_inv (X := Nat × (List ((Str × Int × List Str) × Value))) (fun (⟨k, zs⟩ : Nat × (List ((Str × Int × List Str) × Value))) fr wl => Sl 73 fr [(8, v67), (9, .int .i64 ((k : Nat) : Int))] ∧ Ext w0 wl ∧ Own shCustN 55 w32.heap.size w32.heap.size wl.heap.size wl v67 zs ∧ Nst shStr 9 (fun x : Str × Int × List Str => x.2.2) w32.heap.size wl.heap.size wl zs ∧ w68.heap.size ≤ wl.heap.size ∧ (k ≤ list.length) ∧ (zs.length = list.length + 1) ∧ (zs.map (·.1) = list.take k ++ (name, since, []) :: list.drop k) ∧ (∀ (j : Nat) (y : Cust), k ≤ j → list[j]? = some y → name < y.1)) (fun (⟨k, zs⟩ : Nat × (List ((Str × Int × List Str) × Value))) => k) ((((z51 ++ [(((name, since, []) : Str × Int × List Str), (.slice none 0 0 : Value))])).length - 1), (z51 ++ [(((name, since, []) : Str × Int × List Str), (.slice none 0 0 : Value))])) ?_ ?_
      ·
       exact ⟨(Sl.cons_ ha81 rfl rfl (Sl.cons_ ha81 rfl (int_eq (by omega)) (Sl.nil_ ha81))), hx73, (ho69.fin (by omega) (by omega) (by omega)), (hN76.fin (by omega) (by omega)), (by omega), (by simp only [List.length_append, List.length_singleton]; have := abs_len ‹List.map _ _ = list›; omega), (by simp only [List.length_append, List.length_singleton]; have := abs_len ‹List.map _ _ = list›; omega), (by have hl0 := abs_len ‹List.map _ _ = list›; rw [List.map_append, ‹List.map _ _ = list›]; simp only [List.length_append, List.length_singleton, Nat.add_sub_cancel, hl0, List.take_length, List.drop_length]; rfl), (by intro j y hj hy; have := (List.getElem?_eq_some_iff.1 hy).1; have := abs_len ‹List.map _ _ = list›; simp only [List.length_append, List.length_singleton] at hj; omega)⟩
      ·
       clear ha81 a81
       rintro ⟨k, zs⟩ a86 w82 ⟨ha86, hx83, hf84, hf85, hzl87, hk, hl, hF, hk2⟩
       have hzhx83 := hx83.size
       refine wp_seq ?_
       refine wp_seq ?_
       refine dr_enter Ext follows_mixed ?_
       intro w88 he89
       have hx90 := hx83.trans' he89
       have hzhx90 := he89.size
       replace hf84 := hf84.ext he89
       replace hf85 := hf85.ext he89
       have hs91 : Ext w88 w88 := Ext.rfl' _
       refine dr_val (i := 0) ha86 rfl (by kernel_rfl) (by kernel_rfl) (by kernel_rfl) rfl rfl rfl hs91 (fun w' hw' => op_move ha86 rfl rfl) ?_
       intro a92 ha92; clear ha86 a86
       refine dr_val (i := 1) ha92 rfl (by kernel_rfl) (by kernel_rfl) (by kernel_rfl) rfl rfl rfl hs91 (fun w' hw' => op_gtr ha92 rfl rfl rfl) ?_
       intro a93 ha93; clear ha92 a92
       refine dr_val (i := 2) ha93 rfl (by kernel_rfl) (by kernel_rfl) (by kernel_rfl) rfl rfl rfl hs91 (fun w' hw' => op_move ha93 rfl rfl) ?_
       intro a94 ha94; clear ha93 a93
       by_cases c95 : (0 : Int) < ((k : Nat) : Int)
       ·
        rw [decide_eq_true c95] at ha94
        refine dr_val (i := 3) ha94 rfl (by kernel_rfl) (by kernel_rfl) (by kernel_rfl) rfl rfl rfl hs91 (fun w' hw' => op_move ha94 rfl rfl) ?_
        intro a96 ha96; clear ha94 a94
        refine dr_val (i := 4) ha96 rfl (by kernel_rfl) (by kernel_rfl) (by kernel_rfl) rfl rfl rfl hs91 (fun w' hw' => op_move ha96 rfl rfl) ?_
        intro a97 ha97; clear ha96 a96
        refine dr_val (i := 5) ha97 rfl (by kernel_rfl) (by kernel_rfl) (by kernel_rfl) rfl rfl rfl hs91 (fun w' hw' => (op_sub ha97 rfl rfl rfl).int (IntWalk.i64_in _ (by omega))) ?_
        intro a98 ha98; clear ha97 a97
        obtain ⟨x99, hx99⟩ := get_ex (xs := zs) (j := (k - 1)) (by omega)
        obtain ⟨p100, c101, hi102, hc103, hr104, hs105⟩ := Rds.at_ (hf84.rds pos_shCustN) hx99
        obtain ⟨rfl, b106, b107, b108⟩ := inv_shCustN hr104
        have hn109 : Own shStr 9 w32.heap.size w32.heap.size w82.heap.size w88 x99.2 x99.1.2.2 := hf85.get hx99
        obtain ⟨_, _⟩ : _ ∧ _ := hs105
        refine dr_val (i := 6) ha98 rfl (by kernel_rfl) (by kernel_rfl) (by kernel_rfl) rfl rfl rfl hs91 (fun w' hw' => op_indexAddr ha98 rfl Try.underlying25 ti55 rfl rfl (by omega) hi102) ?_
        intro a110 ha110; clear ha98 a98
        refine dr_val (i := 7) ha110 rfl (by kernel_rfl) (by kernel_rfl) (by kernel_rfl) rfl rfl rfl hs91 (fun w' hw' => op_fieldAddr (sz := 0) ha110 rfl Try.underlying55 rfl rfl ti9 rfl) ?_
        intro a111 ha111; clear ha110 a110
        refine dr_val (i := 8) ha111 rfl (by kernel_rfl) (by kernel_rfl) (by kernel_rfl) rfl rfl rfl hs91 (fun w' hw' => op_loadF (off := 0) ha111 rfl Try.underlying9 rfl rfl (hc103.ext hw') rfl) ?_
        intro a112 ha112; clear ha111 a111
        refine dr_val (i := 9) ha112 rfl (by kernel_rfl) (by kernel_rfl) (by kernel_rfl) rfl rfl rfl hs91 (fun w' hw' => op_move ha112 rfl rfl) ?_
        intro a113 ha113; clear ha112 a112
        refine dr_val (i := 10) ha113 rfl (by kernel_rfl) (by kernel_rfl) (by kernel_rfl) rfl rfl rfl hs91 (fun w' hw' => op_move ha113 rfl rfl) ?_
        intro a114 ha114; clear ha113 a113
        obtain ⟨x115, hx115⟩ := get_ex (xs := zs) (j := k) (by omega)
        obtain ⟨p116, c117, hi118, hc119, hr120, hs121⟩ := Rds.at_ (hf84.rds pos_shCustN) hx115
        obtain ⟨rfl, b122, b123, b124⟩ := inv_shCustN hr120
        have hn125 : Own shStr 9 w32.heap.size w32.heap.size w82.heap.size w88 x115.2 x115.1.2.2 := hf85.get hx115
        obtain ⟨_, _⟩ : _ ∧ _ := hs121
        refine dr_val (i := 11) ha114 rfl (by kernel_rfl) (by kernel_rfl) (by kernel_rfl) rfl rfl rfl hs91 (fun w' hw' => op_indexAddr ha114 rfl Try.underlying25 ti55 rfl rfl (by omega) hi118) ?_
        intro a126 ha126; clear ha114 a114
        refine dr_val (i := 12) ha126 rfl (by kernel_rfl) (by kernel_rfl) (by kernel_rfl) rfl rfl rfl hs91 (fun w' hw' => op_fieldAddr (sz := 0) ha126 rfl Try.underlying55 rfl rfl ti9 rfl) ?_
        intro a127 ha127; clear ha126 a126
        refine dr_val (i := 13) ha127 rfl (by kernel_rfl) (by kernel_rfl) (by kernel_rfl) rfl rfl rfl hs91 (fun w' hw' => op_loadF (off := 0) ha127 rfl Try.underlying9 rfl rfl (hc119.ext hw') rfl) ?_
        intro a128 ha128; clear ha127 a127
        refine dr_val (i := 14) ha128 rfl (by kernel_rfl) (by kernel_rfl) (by kernel_rfl) rfl rfl rfl hs91 (fun w' hw' => (op_sgtr ha128 rfl rfl rfl).to (congrArg Value.bool (str_gtr _ _))) ?_
        intro a129 ha129; clear ha128 a128
        refine dr_val (i := 15) ha129 rfl (by kernel_rfl) (by kernel_rfl) (by kernel_rfl) rfl rfl rfl hs91 (fun w' hw' => op_pick_t ha129 rfl rfl rfl) ?_
        intro a130 ha130; clear ha129 a129
        refine dr_end (by kernel_rfl) ?_
        replace hf84 := hf84.ext hs91
        replace hf85 := hf85.ext hs91
        replace hn109 := hn109.ext hs91
        replace hc103 := hc103.ext hs91
        replace hn125 := hn125.ext hs91
        replace hc119 := hc119.ext hs91
        refine then_n ?_
        by_cases c131 : x115.1.1 < x99.1.1
        ·
         rw [decide_eq_true c131] at ha130
         refine cond_t ha130 rfl ?_
         refine wp_skip ?_
         refine then_n ?_
         refine wp_seq ?_
         refine wp_block ?_
         refine dr_enter (fun wa_ wb_ => Stp wa_ wb_ (Value.ownBlock v67)) follows_mixed ?_
         intro w132 he133
         have hx134 := hx90.trans' he133
         have hzhx134 := he133.size
         replace hf84 := hf84.ext he133
         replace hf85 := hf85.ext he133
         replace hn109 := hn109.ext he133
         replace hc103 := hc103.ext he133
         replace hn125 := hn125.ext he133
         replace hc119 := hc119.ext he133
         have hs135 : Ext w132 w132 := Ext.rfl' _
         refine dr_val (i := 0) ha130 rfl (by kernel_rfl) (by kernel_rfl) (by kernel_rfl) rfl rfl rfl (Stp.of_ext hs135 _) (fun w' hw' => op_move ha130 rfl rfl) ?_
         intro a136 ha136; clear ha130 a130
         refine dr_val (i := 1) ha136 rfl (by kernel_rfl) (by kernel_rfl) (by kernel_rfl) rfl rfl rfl (Stp.of_ext hs135 _) (fun w' hw' => op_move ha136 rfl rfl) ?_
         intro a137 ha137; clear ha136 a136
         refine dr_val (i := 2) ha137 rfl (by kernel_rfl) (by kernel_rfl) (by kernel_rfl) rfl rfl rfl (Stp.of_ext hs135 _) (fun w' hw' => (op_sub ha137 rfl rfl rfl).int (IntWalk.i64_in _ (by omega))) ?_
         intro a138 ha138; clear ha137 a137
         refine dr_val (i := 3) ha138 rfl (by kernel_rfl) (by kernel_rfl) (by kernel_rfl) rfl rfl rfl (Stp.of_ext hs135 _) (fun w' hw' => op_move ha138 rfl rfl) ?_
         intro a139 ha139; clear ha138 a138
         refine dr_val (i := 4) ha139 rfl (by kernel_rfl) (by kernel_rfl) (by kernel_rfl) rfl rfl rfl (Stp.of_ext hs135 _) (fun w' hw' => op_move ha139 rfl rfl) ?_
         intro a140 ha140; clear ha139 a139
         refine dr_val (i := 5) ha140 rfl (by kernel_rfl) (by kernel_rfl) (by kernel_rfl) rfl rfl rfl (Stp.of_ext hs135 _) (fun w' hw' => op_move ha140 rfl rfl) ?_
         intro a141 ha141; clear ha140 a140
         refine dr_val (i := 6) ha141 rfl (by kernel_rfl) (by kernel_rfl) (by kernel_rfl) rfl rfl rfl (Stp.of_ext hs135 _) (fun w' hw' => op_move ha141 rfl rfl) ?_
         intro a142 ha142; clear ha141 a141
         refine dr_val (i := 7) ha142 rfl (by kernel_rfl) (by kernel_rfl) (by kernel_rfl) rfl rfl rfl (Stp.of_ext hs135 _) (fun w' hw' => op_indexAddr ha142 rfl Try.underlying25 ti55 rfl rfl (by omega) hi118) ?_
         intro a143 ha143; clear ha142 a142
         refine dr_val (i := 9) ha143 rfl (by kernel_rfl) (by kernel_rfl) (by kernel_rfl) rfl rfl rfl (Stp.of_ext hs135 _) (fun w' hw' => op_move ha143 rfl rfl) ?_
         intro a144 ha144; clear ha143 a143
         refine dr_val (i := 10) ha144 rfl (by kernel_rfl) (by kernel_rfl) (by kernel_rfl) rfl rfl rfl (Stp.of_ext hs135 _) (fun w' hw' => op_move ha144 rfl rfl) ?_
         intro a145 ha145; clear ha144 a144
         refine dr_val (i := 11) ha145 rfl (by kernel_rfl) (by kernel_rfl) (by kernel_rfl) rfl rfl rfl (Stp.of_ext hs135 _) (fun w' hw' => (op_sub ha145 rfl rfl rfl).int (IntWalk.i64_in _ (by omega))) ?_
         intro a146 ha146; clear ha145 a145
         refine dr_val (i := 12) ha146 rfl (by kernel_rfl) (by kernel_rfl) (by kernel_rfl) rfl rfl rfl (Stp.of_ext hs135 _) (fun w' hw' => op_indexAddr ha146 rfl Try.underlying25 ti55 rfl rfl (by omega) hi102) ?_
         intro a147 ha147; clear ha146 a146
         refine dr_two (i := 8) (j := 13) (by kernel_rfl) ?_ ?_
         ·
          refine po_to ha147 rfl rfl rfl rfl (op_loadS ha147 rfl Try.underlying55 ti55 rfl rfl (hc119.ext hs135)) ?_
          intro a148 ha148; clear ha147 a147
          refine ⟨(Stp.of_ext hs135 _), ?_⟩
          refine dr_one (i := 13) (by kernel_rfl) ?_
          refine po_to ha148 rfl rfl rfl rfl (op_loadS ha148 rfl Try.underlying55 ti55 rfl rfl (hc103.ext hs135)) ?_
          intro a149 ha149; clear ha148 a148
          refine ⟨(Stp.of_ext hs135 _), ?_⟩
          refine dr_val (i := 14) ha149 rfl (by kernel_rfl) (by kernel_rfl) (by kernel_rfl) rfl rfl rfl (Stp.of_ext hs135 _) (fun w' hw' => op_indexAddr ha149 rfl Try.underlying25 ti55 rfl rfl (by omega) hi102) ?_
          intro a150 ha150; clear ha149 a149
          refine dr_one (i := 15) (by kernel_rfl) ?_
          replace hf84 := hf84.ext hs135
          replace hf85 := hf85.ext hs135
          replace hn109 := hn109.ext hs135
          replace hc103 := hc103.ext hs135
          replace hn125 := hn125.ext hs135
          replace hc119 := hc119.ext hs135
          refine po_effS ha150 rfl rfl rfl (op_setElem (s := shCustN) (ds := [St x115.1.1, .int .i64 x115.1.2.1, x115.2]) (S' := fun _ => False) ha150 rfl ti55 rfl rfl rfl hf84 pos_shCustN hi102 (by omega) (mk_shCustN x115 (by first | assumption | omega | (simp; done) | (dsimp only; omega) | (dsimp only; assumption) | exact ⟨by omega, by omega⟩) (by first | assumption | omega | (simp; done) | (dsimp only; omega) | (dsimp only; assumption) | exact ⟨by omega, by omega⟩) hn125.one) (fun _ h => h.elim)) ?_
          rintro w151 ⟨ho153, hst152, hz154⟩
          have hx155 := hx134.stp hst152 (by intro q hq; have hq0 := hf84.lt q hq; omega)
          have hzhx155 := hst152.size
          first | replace hf85 := hf85.stpF flat_shStr hst152 hf84 rfl | replace hf85 := hf85.stp hst152 (by intro q hq; have hq0 := hf84.lt q hq; omega)
          first | replace hn109 := hn109.stp hst152 (by intro q hq; have hq0 := hf84.lt q hq; omega) | replace hn109 := hn109.stpF flat_shStr hst152 (hn109.ne hf84 rfl)
          first | replace hn125 := hn125.stp hst152 (by intro q hq; have hq0 := hf84.lt q hq; omega) | replace hn125 := hn125.stpF flat_shStr hst152 (hn125.ne hf84 rfl)
          clear hf84
          have hlsho153 : ((zs.set ((k - 1)) x115)).length = zs.length := List.length_set
          have hs156 := (Stp.of_ext hs135 (Value.ownBlock v67)).trans' hst152
          refine ⟨hs156, ?_⟩
          obtain ⟨x157, hx157⟩ := get_ex (xs := (zs.set ((k - 1)) x115)) (j := k) (by omega)
          obtain ⟨p158, c159, hi160, hc161, hr162, hs163⟩ := Rds.at_ (ho153.rds pos_shCustN) hx157
          obtain ⟨rfl, b164, b165, b166⟩ := inv_shCustN hr162
          obtain ⟨_, _⟩ : _ ∧ _ := hs163
          refine dr_val (i := 16) ha150 rfl (by kernel_rfl) (by kernel_rfl) (by kernel_rfl) rfl rfl rfl hs156 (fun w' hw' => op_indexAddr ha150 rfl Try.underlying25 ti55 rfl rfl (by omega) hi160) ?_
          intro a167 ha167; clear ha150 a150
          refine dr_one (i := 17) (by kernel_rfl) ?_
          refine po_effS ha167 rfl rfl rfl (op_setElem (s := shCustN) (ds := [St x99.1.1, .int .i64 x99.1.2.1, x99.2]) (S' := fun _ => False) ha167 rfl ti55 rfl rfl rfl ho153 pos_shCustN hi160 (by omega) (mk_shCustN x99 (by first | assumption | omega | (simp; done) | (dsimp only; omega) | (dsimp only; assumption) | exact ⟨by omega, by omega⟩) (by first | assumption | omega | (simp; done) | (dsimp only; omega) | (dsimp only; assumption) | exact ⟨by omega, by omega⟩) hn109.one) (fun _ h => h.elim)) ?_
          rintro w168 ⟨ho170, hst169, hz171⟩
          have hx172 := hx155.stp hst169 (by intro q hq; have hq0 := ho153.lt q hq; omega)
          have hzhx172 := hst169.size
          first | replace hf85 := hf85.stpF flat_shStr hst169 ho153 rfl | replace hf85 := hf85.stp hst169 (by intro q hq; have hq0 := ho153.lt q hq; omega)
          first | replace hn109 := hn109.stp hst169 (by intro q hq; have hq0 := ho153.lt q hq; omega) | replace hn109 := hn109.stpF flat_shStr hst169 (hn109.ne ho153 rfl)
          first | replace hn125 := hn125.stp hst169 (by intro q hq; have hq0 := ho153.lt q hq; omega) | replace hn125 := hn125.stpF flat_shStr hst169 (hn125.ne ho153 rfl)
          clear ho153
          have hlsho170 : ((((zs.set ((k - 1)) x115)).set k x99)).length = ((zs.set ((k - 1)) x115)).length := List.length_set
          have hs173 := hs156.trans' hst169
          refine ⟨hs173, ?_⟩
          refine dr_end (by kernel_rfl) ?_
          refine block_n ?_
          refine then_n ?_
          refine wp_region_lit ?_
          refine wl_val ha167 rfl rfl rfl (op_move ha167 rfl rfl) ?_
          intro a174 ha174; clear ha167 a167
          refine wl_val ha174 rfl rfl rfl ((op_sub ha174 rfl rfl rfl).int (IntWalk.i64_in _ (by omega))) ?_
          intro a175 ha175; clear ha174 a174
          refine wl_val ha175 rfl rfl rfl (op_assign ha175 rfl rfl) ?_
          intro a176 ha176; clear ha175 a175
          refine wpList_nil ?_
          refine round_end (x := (k, zs)) ((k - 1), (((zs.set ((k - 1)) x115)).set k x99)) ?_ ?_
          ·
           refine ⟨(Sl.cons_ ha176 rfl rfl (Sl.cons_ ha176 rfl (int_eq (by omega)) (Sl.nil_ ha176))), hx172, (ho170.fin (by omega) (by omega) (by omega)), (by exact (hf85.perm (pw_swap' (by omega) hx99 hx115)).fin (by omega) (by omega)), (by omega), (by omega), (by simp only [List.length_set]; exact hl), (by obtain ⟨j, hj⟩ : ∃ j, k = j + 1 := ⟨k - 1, (by omega)⟩; subst hj; obtain ⟨hs1, hs2⟩ := swap_at hF (by omega); have hc1 := abs_get rfl hx115; rw [hs1] at hc1; have hc2 := abs_get rfl hx99; rw [Nat.add_sub_cancel] at hc2; rw [hs2 j (by omega)] at hc2; have hc3 : x115.1 = (name, since, []) := (Option.some.inj hc1).symm; rw [List.map_set, List.map_set, hc3, Nat.add_sub_cancel]; exact swap_abs hF hc2), (by obtain ⟨j, hj⟩ : ∃ j, k = j + 1 := ⟨k - 1, (by omega)⟩; subst hj; obtain ⟨hs1, hs2⟩ := swap_at hF (by omega); have hc1 := abs_get rfl hx115; rw [hs1] at hc1; have hc2 := abs_get rfl hx99; rw [Nat.add_sub_cancel] at hc2; rw [hs2 j (by omega)] at hc2; have hc3 : x115.1 = (name, since, []) := (Option.some.inj hc1).symm; intro q y hq hy; by_cases e : q = j; (subst e; rw [hc2] at hy; cases hy; rw [hc3] at c131; exact c131); exact hk2 q y (by omega) hy)⟩
          ·show (((k - 1)) : Nat) < k; omega
         ·
          refine po_to ha147 rfl rfl rfl rfl (op_loadS ha147 rfl Try.underlying55 ti55 rfl rfl (hc103.ext hs135)) ?_
          intro a177 ha177; clear ha147 a147
          refine ⟨(Stp.of_ext hs135 _), ?_⟩
          refine dr_one (i := 8) (by kernel_rfl) ?_
          refine po_to ha177 rfl rfl rfl rfl (op_loadS ha177 rfl Try.underlying55 ti55 rfl rfl (hc119.ext hs135)) ?_
          intro a178 ha178; clear ha177 a177
          refine ⟨(Stp.of_ext hs135 _), ?_⟩
          refine dr_val (i := 14) ha178 rfl (by kernel_rfl) (by kernel_rfl) (by kernel_rfl) rfl rfl rfl (Stp.of_ext hs135 _) (fun w' hw' => op_indexAddr ha178 rfl Try.underlying25 ti55 rfl rfl (by omega) hi102) ?_
          intro a179 ha179; clear ha178 a178
          refine dr_one (i := 15) (by kernel_rfl) ?_
          replace hf84 := hf84.ext hs135
          replace hf85 := hf85.ext hs135
          replace hn109 := hn109.ext hs135
          replace hc103 := hc103.ext hs135
          replace hn125 := hn125.ext hs135
          replace hc119 := hc119.ext hs135
          refine po_effS ha179 rfl rfl rfl (op_setElem (s := shCustN) (ds := [St x115.1.1, .int .i64 x115.1.2.1, x115.2]) (S' := fun _ => False) ha179 rfl ti55 rfl rfl rfl hf84 pos_shCustN hi102 (by omega) (mk_shCustN x115 (by first | assumption | omega | (simp; done) | (dsimp only; omega) | (dsimp only; assumption) | exact ⟨by omega, by omega⟩) (by first | assumption | omega | (simp; done) | (dsimp only; omega) | (dsimp only; assumption) | exact ⟨by omega, by omega⟩) hn125.one) (fun _ h => h.elim)) ?_
          rintro w180 ⟨ho182, hst181, hz183⟩
          have hx184 := hx134.stp hst181 (by intro q hq; have hq0 := hf84.lt q hq; omega)
          have hzhx184 := hst181.size
          first | replace hf85 := hf85.stpF flat_shStr hst181 hf84 rfl | replace hf85 := hf85.stp hst181 (by intro q hq; have hq0 := hf84.lt q hq; omega)
          first | replace hn109 := hn109.stp hst181 (by intro q hq; have hq0 := hf84.lt q hq; omega) | replace hn109 := hn109.stpF flat_shStr hst181 (hn109.ne hf84 rfl)
          first | replace hn125 := hn125.stp hst181 (by intro q hq; have hq0 := hf84.lt q hq; omega) | replace hn125 := hn125.stpF flat_shStr hst181 (hn125.ne hf84 rfl)
          clear hf84
          have hlsho182 : ((zs.set ((k - 1)) x115)).length = zs.length := List.length_set
          have hs185 := (Stp.of_ext hs135 (Value.ownBlock v67)).trans' hst181
          refine ⟨hs185, ?_⟩
          obtain ⟨x186, hx186⟩ := get_ex (xs := (zs.set ((k - 1)) x115)) (j := k) (by omega)
          obtain ⟨p187, c188, hi189, hc190, hr191, hs192⟩ := Rds.at_ (ho182.rds pos_shCustN) hx186
          obtain ⟨rfl, b193, b194, b195⟩ := inv_shCustN hr191
          obtain ⟨_, _⟩ : _ ∧ _ := hs192
          refine dr_val (i := 16) ha179 rfl (by kernel_rfl) (by kernel_rfl) (by kernel_rfl) rfl rfl rfl hs185 (fun w' hw' => op_indexAddr ha179 rfl Try.underlying25 ti55 rfl rfl (by omega) hi189) ?_
          intro a196 ha196; clear ha179 a179
          refine dr_one (i := 17) (by kernel_rfl) ?_
          refine po_effS ha196 rfl rfl rfl (op_setElem (s := shCustN) (ds := [St x99.1.1, .int .i64 x99.1.2.1, x99.2]) (S' := fun _ => False) ha196 rfl ti55 rfl rfl rfl ho182 pos_shCustN hi189 (by omega) (mk_shCustN x99 (by first | assumption | omega | (simp; done) | (dsimp only; omega) | (dsimp only; assumption) | exact ⟨by omega, by omega⟩) (by first | assumption | omega | (simp; done) | (dsimp only; omega) | (dsimp only; assumption) | exact ⟨by omega, by omega⟩) hn109.one) (fun _ h => h.elim)) ?_
          rintro w197 ⟨ho199, hst198, hz200⟩
          have hx201 := hx184.stp hst198 (by intro q hq; have hq0 := ho182.lt q hq; omega)
          have hzhx201 := hst198.size
          first | replace hf85 := hf85.stpF flat_shStr hst198 ho182 rfl | replace hf85 := hf85.stp hst198 (by intro q hq; have hq0 := ho182.lt q hq; omega)
          first | replace hn109 := hn109.stp hst198 (by intro q hq; have hq0 := ho182.lt q hq; omega) | replace hn109 := hn109.stpF flat_shStr hst198 (hn109.ne ho182 rfl)
          first | replace hn125 := hn125.stp hst198 (by intro q hq; have hq0 := ho182.lt q hq; omega) | replace hn125 := hn125.stpF flat_shStr hst198 (hn125.ne ho182 rfl)
          clear ho182
          have hlsho199 : ((((zs.set ((k - 1)) x115)).set k x99)).length = ((zs.set ((k - 1)) x115)).length := List.length_set
          have hs202 := hs185.trans' hst198
          refine ⟨hs202, ?_⟩
          refine dr_end (by kernel_rfl) ?_
          refine block_n ?_
          refine then_n ?_
          refine wp_region_lit ?_
          refine wl_val ha196 rfl rfl rfl (op_move ha196 rfl rfl) ?_
          intro a203 ha203; clear ha196 a196
          refine wl_val ha203 rfl rfl rfl ((op_sub ha203 rfl rfl rfl).int (IntWalk.i64_in _ (by omega))) ?_
          intro a204 ha204; clear ha203 a203
          refine wl_val ha204 rfl rfl rfl (op_assign ha204 rfl rfl) ?_
          intro a205 ha205; clear ha204 a204
          refine wpList_nil ?_
          refine round_end (x := (k, zs)) ((k - 1), (((zs.set ((k - 1)) x115)).set k x99)) ?_ ?_
          ·
           refine ⟨(Sl.cons_ ha205 rfl rfl (Sl.cons_ ha205 rfl (int_eq (by omega)) (Sl.nil_ ha205))), hx201, (ho199.fin (by omega) (by omega) (by omega)), (by exact (hf85.perm (pw_swap' (by omega) hx99 hx115)).fin (by omega) (by omega)), (by omega), (by omega), (by simp only [List.length_set]; exact hl), (by obtain ⟨j, hj⟩ : ∃ j, k = j + 1 := ⟨k - 1, (by omega)⟩; subst hj; obtain ⟨hs1, hs2⟩ := swap_at hF (by omega); have hc1 := abs_get rfl hx115; rw [hs1] at hc1; have hc2 := abs_get rfl hx99; rw [Nat.add_sub_cancel] at hc2; rw [hs2 j (by omega)] at hc2; have hc3 : x115.1 = (name, since, []) := (Option.some.inj hc1).symm; rw [List.map_set, List.map_set, hc3, Nat.add_sub_cancel]; exact swap_abs hF hc2), (by obtain ⟨j, hj⟩ : ∃ j, k = j + 1 := ⟨k - 1, (by omega)⟩; subst hj; obtain ⟨hs1, hs2⟩ := swap_at hF (by omega); have hc1 := abs_get rfl hx115; rw [hs1] at hc1; have hc2 := abs_get rfl hx99; rw [Nat.add_sub_cancel] at hc2; rw [hs2 j (by omega)] at hc2; have hc3 : x115.1 = (name, since, []) := (Option.some.inj hc1).symm; intro q y hq hy; by_cases e : q = j; (subst e; rw [hc2] at hy; cases hy; rw [hc3] at c131; exact c131); exact hk2 q y (by omega) hy)⟩
          ·show (((k - 1)) : Nat) < k; omega
        ·
         rw [decide_eq_false c131] at ha130
         refine cond_f ha130 rfl ?_
         refine wp_exit ?_
         refine then_e ?_
         refine then_e ?_
         refine block_hit ?_
         refine then_n ?_
         refine wp_seq ?_
         refine wp_region_lit ?_
         refine wl_val ha130 rfl rfl rfl (op_move ha130 rfl rfl) ?_
         intro a206 ha206; clear ha130 a130
         refine wl_val ha206 rfl rfl rfl (op_assign ha206 rfl rfl) ?_
         intro a207 ha207; clear ha206 a206
         refine wl_val ha207 rfl rfl rfl (op_assign ha207 rfl rfl) ?_
         intro a208 ha208; clear ha207 a207
         refine wpList_nil ?_
         refine then_n ?_
         refine wp_ret ?_
         refine ret2 ha208 rfl rfl rfl ?_
         clear ha208 a208
         refine ret_mk hx90 ⟨v67, zs, (tup2_eq rfl (int_eq (by first | (simp [addcC, c11, c20, c28, c37, c43, hnc43, c95, c131]; done) | (simp [addcC, c11, c20, c28, c37, c43, hnc43, c95, c131]; omega) | (simp_all [addcC]; done) | (simp_all [addcC]; omega)))), hf84.fin (by omega) (by omega) (by omega), hf85.fin (by omega) (by omega), ?_⟩
         ·
          have hic := icL_back (c := (name, since, [])) ‹cuB list = true› (by show fnI list name < 0; omega) hk2 (.inr (by obtain ⟨j, hj⟩ : ∃ j, k = j + 1 := ⟨k - 1, (by omega)⟩; subst hj; obtain ⟨hs1, hs2⟩ := swap_at hF (by omega); have hc1 := abs_get rfl hx115; rw [hs1] at hc1; have hc2 := abs_get rfl hx99; rw [Nat.add_sub_cancel] at hc2; rw [hs2 j (by omega)] at hc2; have hc3 : x115.1 = (name, since, []) := (Option.some.inj hc1).symm; exact ⟨_, by rw [Nat.add_sub_cancel]; exact hc2, by rw [hc3] at c131; exact c131⟩))
          rw [hF, ← hic]; simp [addcL, c11, c20, c28, c37, c43, hnc43, c95, c131]
       ·
        rw [decide_eq_false c95] at ha94
        refine dr_skip (i := 3) ha94 rfl (by kernel_rfl) (by kernel_rfl) (by kernel_rfl) rfl rfl rfl hs91 ?_
        intro a209 ha209; clear ha94 a94
        refine dr_skip (i := 4) ha209 rfl (by kernel_rfl) (by kernel_rfl) (by kernel_rfl) rfl rfl rfl hs91 ?_
        intro a210 ha210; clear ha209 a209
        refine dr_skip (i := 5) ha210 rfl (by kernel_rfl) (by kernel_rfl) (by kernel_rfl) rfl rfl rfl hs91 ?_
        intro a211 ha211; clear ha210 a210
        refine dr_skip (i := 6) ha211 rfl (by kernel_rfl) (by kernel_rfl) (by kernel_rfl) rfl rfl rfl hs91 ?_
        intro a212 ha212; clear ha211 a211
        refine dr_skip (i := 7) ha212 rfl (by kernel_rfl) (by kernel_rfl) (by kernel_rfl) rfl rfl rfl hs91 ?_
        intro a213 ha213; clear ha212 a212
        refine dr_skip (i := 8) ha213 rfl (by kernel_rfl) (by kernel_rfl) (by kernel_rfl) rfl rfl rfl hs91 ?_
        intro a214 ha214; clear ha213 a213
        refine dr_skip (i := 9) ha214 rfl (by kernel_rfl) (by kernel_rfl) (by kernel_rfl) rfl rfl rfl hs91 ?_
        intro a215 ha215; clear ha214 a214
        refine dr_skip (i := 10) ha215 rfl (by kernel_rfl) (by kernel_rfl) (by kernel_rfl) rfl rfl rfl hs91 ?_
        intro a216 ha216; clear ha215 a215
        refine dr_skip (i := 11) ha216 rfl (by kernel_rfl) (by kernel_rfl) (by kernel_rfl) rfl rfl rfl hs91 ?_
        intro a217 ha217; clear ha216 a216
        refine dr_skip (i := 12) ha217 rfl (by kernel_rfl) (by kernel_rfl) (by kernel_rfl) rfl rfl rfl hs91 ?_
        intro a218 ha218; clear ha217 a217
        refine dr_skip (i := 13) ha218 rfl (by kernel_rfl) (by kernel_rfl) (by kernel_rfl) rfl rfl rfl hs91 ?_
        intro a219 ha219; clear ha218 a218
        refine dr_skip (i := 14) ha219 rfl (by kernel_rfl) (by kernel_rfl) (by kernel_rfl) rfl rfl rfl hs91 ?_
        intro a220 ha220; clear ha219 a219
        refine dr_val (i := 15) ha220 rfl (by kernel_rfl) (by kernel_rfl) (by kernel_rfl) rfl rfl rfl hs91 (fun w' hw' => op_pick_f ha220 rfl rfl rfl) ?_
        intro a221 ha221; clear ha220 a220
        refine dr_end (by kernel_rfl) ?_
        replace hf84 := hf84.ext hs91
        replace hf85 := hf85.ext hs91
        refine then_n ?_
        refine cond_f ha221 rfl ?_
        refine wp_exit ?_
        refine then_e ?_
        refine then_e ?_
        refine block_hit ?_
        refine then_n ?_
        refine wp_seq ?_
        refine wp_region_lit ?_
        refine wl_val ha221 rfl rfl rfl (op_move ha221 rfl rfl) ?_
        intro a222 ha222; clear ha221 a221
        refine wl_val ha222 rfl rfl rfl (op_assign ha222 rfl rfl) ?_
        intro a223 ha223; clear ha222 a222
        refine wl_val ha223 rfl rfl rfl (op_assign ha223 rfl rfl) ?_
        intro a224 ha224; clear ha223 a223
        refine wpList_nil ?_
        refine then_n ?_
        refine wp_ret ?_
        refine ret2 ha224 rfl rfl rfl ?_
        clear ha224 a224
        refine ret_mk hx90 ⟨v67, zs, (tup2_eq rfl (int_eq (by first | (simp [addcC, c11, c20, c28, c37, c43, hnc43, c95]; done) | (simp [addcC, c11, c20, c28, c37, c43, hnc43, c95]; omega) | (simp_all [addcC]; done) | (simp_all [addcC]; omega)))), hf84.fin (by omega) (by omega) (by omega), hf85.fin (by omega) (by omega), ?_⟩
        ·
         have hic := icL_back (c := (name, since, [])) ‹cuB list = true› (by show fnI list name < 0; omega) hk2 (.inl (by omega))
         rw [hF, ← hic]; simp [addcL, c11, c20, c28, c37, c43, hnc43, c95]
   ·
    rw [c28] at ha27
    refine cond_t ha27 rfl ?_
    refine wp_seq ?_
    refine wp_region_lit ?_
    refine wl_val ha27 rfl rfl rfl (op_assign ha27 rfl rfl) ?_
    intro a225 ha225; clear ha27 a27
    refine wl_val ha225 rfl rfl rfl (op_assign ha225 rfl rfl) ?_
    intro a226 ha226; clear ha225 a225
    refine wpList_nil ?_
    refine then_n ?_
    refine wp_ret ?_
    refine then_r ?_
    refine ret2 ha226 rfl rfl rfl ?_
    clear ha226 a226
    refine ret_mk hx26 ⟨(.slice none 0 0), [], (tup2_eq rfl (int_eq (by first | (simp [addcC, c11, c20, c28]; done) | (simp [addcC, c11, c20, c28]; omega) | (simp_all [addcC]; done) | (simp_all [addcC]; omega)))), Own.nil _ _ _ _ _ _, Nst.nil _ _ _ _ _ _, ?_⟩
    ·
     first | (simp [addcL, c11, c20, c28]; done) | (simp [addcL, c11, c20, c28]; omega) | (simp_all [addcL]; done) | (simp_all [addcL]; omega)
  ·
   rw [c20] at ha19
   refine cond_t ha19 rfl ?_
   refine wp_seq ?_
   refine wp_region_lit ?_
   refine wl_val ha19 rfl rfl rfl (op_assign ha19 rfl rfl) ?_
   intro a227 ha227; clear ha19 a19
   refine wl_val ha227 rfl rfl rfl (op_assign ha227 rfl rfl) ?_
   intro a228 ha228; clear ha227 a227
   refine wpList_nil ?_
   refine then_n ?_
   refine wp_ret ?_
   refine then_r ?_
   refine ret2 ha228 rfl rfl rfl ?_
   clear ha228 a228
   refine ret_mk hx17 ⟨(.slice none 0 0), [], (tup2_eq rfl (int_eq (by first | (simp [addcC, c11, c20]; done) | (simp [addcC, c11, c20]; omega) | (simp_all [addcC]; done) | (simp_all [addcC]; omega)))), Own.nil _ _ _ _ _ _, Nst.nil _ _ _ _ _ _, ?_⟩
   ·
    first | (simp [addcL, c11, c20]; done) | (simp [addcL, c11, c20]; omega) | (simp_all [addcL]; done) | (simp_all [addcL]; omega)
 ·
  rw [c11] at ha10
  refine wl_skip ha10 rfl rfl rfl ?_
  intro a229 ha229; clear ha10 a10
  refine wl_skip ha229 rfl rfl rfl ?_
  intro a230 ha230; clear ha229 a229
  refine wl_skip ha230 rfl rfl rfl ?_
  intro a231 ha231; clear ha230 a230
  refine wl_val ha231 rfl rfl rfl (op_pick_t ha231 rfl rfl rfl) ?_
  intro a232 ha232; clear ha231 a231
  refine wpList_nil ?_
  refine then_n ?_
  refine cond_t ha232 rfl ?_
  refine wp_seq ?_
  refine wp_region_lit ?_
  refine wl_val ha232 rfl rfl rfl (op_assign ha232 rfl rfl) ?_
  intro a233 ha233; clear ha232 a232
  refine wl_val ha233 rfl rfl rfl (op_assign ha233 rfl rfl) ?_
  intro a234 ha234; clear ha233 a233
  refine wpList_nil ?_
  refine then_n ?_
  refine wp_ret ?_
  refine then_r ?_
  refine ret2 ha234 rfl rfl rfl ?_
  clear ha234 a234
  refine ret_mk hx8 ⟨(.slice none 0 0), [], (tup2_eq rfl (int_eq (by first | (simp [addcC, c11]; done) | (simp [addcC, c11]; omega) | (simp_all [addcC]; done) | (simp_all [addcC]; omega)))), Own.nil _ _ _ _ _ _, Nst.nil _ _ _ _ _ _, ?_⟩
  ·
   first | (simp [addcL, c11]; done) | (simp [addcL, c11]; omega) | (simp_all [addcL]; done) | (simp_all [addcL]; omega)

theorem c_spec_AddCustomer (w0 : World) (v_list : Value) (list : List (Str × Int × List Str)) {S_list : Nat → Prop} (name : Str) (since : Int) (h_list : Rds shCust S_list w0 v_list list) (g0 : list.length ≤ 1048576) (g1 : name.length ≤ 9223372036854775807) (g2 : I64 since) :
  Calls Try.prog 31 #[v_list, St name, .int .i64 since] w0 (Ret w0 (fun v w1 => ∃ r0 z0, v = .tuple #[r0, .int .i64 (addcC list name since)] ∧ Own shCustN 55 w0.heap.size w0.heap.size w1.heap.size w1 r0 z0 ∧ Nst shStr 9 (fun x : Str × Int × List Str => x.2.2) w0.heap.size w1.heap.size w1 z0 ∧ z0.map (·.1) = (addcL list name since))) := by
 refine enter (N := 63) Try.func31 rfl rfl rfl ?_
 intro a0 ha0
 have hx0 := Ext.rfl' w0
 have hl_list := h_list.length_le
 refine wp_seq ?_
 refine wp_region_lit ?_
 refine wl_val ha0 rfl rfl rfl (op_assign ha0 rfl rfl) ?_
 intro a1 ha1; clear ha0 a0
 refine wl_val ha1 rfl rfl rfl (op_assign ha1 rfl rfl) ?_
 intro a2 ha2; clear ha1 a1
 refine wpList_nil ?_
 refine then_n ?_
 refine wp_seq ?_
 refine wp_block ?_
 refine wp_seq ?_
 refine wp_region_lit ?_
 refine wl_val ha2 rfl rfl rfl (op_move ha2 rfl rfl) ?_
 intro a3 ha3; clear ha2 a2
 refine wl_callR ha3 rfl rfl rfl (op_call ha3 rfl cb15 rfl) (c_spec_AreCustomers _ v_list list (h_list.ext pos_shCust hx0) (by first | assumption | omega | (simp; omega) | (intro c hc; have := cuOk_bd (cuB_el (by assumption) c hc); omega) | (intro c hc; have := cuOk_bd (cuB_el (by assumption) c (List.mem_of_mem_take hc)); omega) | (intro c hc; have := cuOk_bd (cuB_el (by assumption) c (List.mem_of_mem_drop hc)); omega))) ?_
 rintro v4 w5 he6 rfl a7 ha7; clear ha3 a3
 have hx8 := hx0.trans' he6
 have hzhx8 := he6.size
 refine wl_val ha7 rfl rfl rfl (op_not ha7 rfl rfl) ?_
 intro a9 ha9; clear ha7 a7
 refine wl_val ha9 rfl rfl rfl (op_move ha9 rfl rfl) ?_
 intro a10 ha10; clear ha9 a9
 rcases Bool.eq_false_or_eq_true (cuB list) with c11 | c11
 ·
  rw [c11] at ha10
  have hlenc11 := cuB_len c11
  have hcuc11 := cuB_el c11
  refine wl_val ha10 rfl rfl rfl (op_move ha10 rfl rfl) ?_
  intro a12 ha12; clear ha10 a10
  refine wl_callR ha12 rfl rfl rfl (op_call ha12 rfl cb52 rfl) (c_spec_IsWord _ name (by first | assumption | omega | (simp; omega) | (intro c hc; have := cuOk_bd (cuB_el (by assumption) c hc); omega) | (intro c hc; have := cuOk_bd (cuB_el (by assumption) c (List.mem_of_mem_take hc)); omega) | (intro c hc; have := cuOk_bd (cuB_el (by assumption) c (List.mem_of_mem_drop hc)); omega))) ?_
  rintro v13 w14 he15 rfl a16 ha16; clear ha12 a12
  have hx17 := hx8.trans' he15
  have hzhx17 := he15.size
  refine wl_val ha16 rfl rfl rfl (op_not ha16 rfl rfl) ?_
  intro a18 ha18; clear ha16 a16
  refine wl_val ha18 rfl rfl rfl (op_pick_f ha18 rfl rfl rfl) ?_
  intro a19 ha19; clear ha18 a18
  refine wl_val ha19 rfl rfl rfl (op_assign ha19 rfl rfl) ?_
  intro a20 ha20; clear ha19 a19
  refine wpList_nil ?_
  refine then_n ?_
  rcases Bool.eq_false_or_eq_true (wordB name) with c21 | c21
  ·
   rw [c21] at ha20
   refine cond_f ha20 rfl ?_
   refine wp_seq ?_
   refine wp_region_lit ?_
   refine wl_val ha20 rfl rfl rfl (op_move ha20 rfl rfl) ?_
   intro a22 ha22; clear ha20 a20
   refine wl_callR ha22 rfl rfl rfl (op_call ha22 rfl cb53 rfl) (c_spec_l01In _ since (0 : Int) (100000 : Int) ) ?_
   rintro v23 w24 he25 rfl a26 ha26; clear ha22 a22
   have hx27 := hx17.trans' he25
   have hzhx27 := he25.size
   refine wl_val ha26 rfl rfl rfl (op_not ha26 rfl rfl) ?_
   intro a28 ha28; clear ha26 a26
   refine wl_val ha28 rfl rfl rfl (op_assign ha28 rfl rfl) ?_
   intro a29 ha29; clear ha28 a28
   refine wpList_nil ?_
   refine then_n ?_
   rcases Bool.eq_false_or_eq_true (decide ((0 : Int) ≤ since) && decide (since ≤ (100000 : Int))) with c30 | c30
   ·
    rw [c30] at ha29
    have hdc30 : dateB since = true := c30
    refine cond_f ha29 rfl ?_
    refine wp_seq ?_
    refine wp_region_lit ?_
    refine wl_val ha29 rfl rfl rfl (op_move ha29 rfl rfl) ?_
    intro a31 ha31; clear ha29 a29
    refine wl_val ha31 rfl rfl rfl (op_move ha31 rfl rfl) ?_
    intro a32 ha32; clear ha31 a31
    refine wl_callR ha32 rfl rfl rfl (op_call ha32 rfl cb64 rfl) (c_spec_l30Find _ v_list list name (h_list.ext pos_shCust hx27)) ?_
    rintro v33 w34 he35 rfl a36 ha36; clear ha32 a32
    have hx37 := hx27.trans' he35
    have hzhx37 := he35.size
    refine wl_val ha36 rfl rfl rfl (op_geq ha36 rfl rfl rfl) ?_
    intro a38 ha38; clear ha36 a36
    refine wl_val ha38 rfl rfl rfl (op_assign ha38 rfl rfl) ?_
    intro a39 ha39; clear ha38 a38
    refine wpList_nil ?_
    refine then_n ?_
    by_cases c40 : (0 : Int) ≤ (fnI list name : Int)
    ·
     rw [decide_eq_true c40] at ha39
     refine cond_t ha39 rfl ?_
     refine wp_seq ?_
     refine wp_region_lit ?_
     refine wl_val ha39 rfl rfl rfl (op_assign ha39 rfl rfl) ?_
     intro a41 ha41; clear ha39 a39
     refine wl_val ha41 rfl rfl rfl (op_assign ha41 rfl rfl) ?_
     intro a42 ha42; clear ha41 a41
     refine wpList_nil ?_
     refine then_n ?_
     refine wp_ret ?_
     refine block_r ?_
     refine then_r ?_
     refine ret2 ha42 rfl rfl rfl ?_
     clear ha42 a42
     refine ret_mk hx37 ⟨(.slice none 0 0), [], (tup2_eq rfl (int_eq (by first | (simp [addcC, c11, c21, c30, hdc30, c40]; done) | (simp [addcC, dateB, c11, c21, c30, hdc30, c40]; done) | (simp_all [addcC, dateB]; done)))), Own.nil _ _ _ _ _ _, Nst.nil _ _ _ _ _ _, ?_⟩
     ·
      first | (simp [addcL, dateB, c11, c21, c30, hdc30, c40]; done) | (simp [addcL, dateB, c11, c21, c30, hdc30, c40]; omega) | (simp_all [addcL, dateB]; done) | (simp_all [addcL, dateB]; omega)
    ·
     rw [decide_eq_false c40] at ha39
     refine cond_f ha39 rfl ?_
     refine wp_seq ?_
     refine wp_region_lit ?_
     refine wl_val ha39 rfl rfl rfl (op_move ha39 rfl rfl) ?_
     intro a43 ha43; clear ha39 a39
     refine wl_val ha43 rfl rfl rfl (op_len_sl ha43 rfl Try.underlying25 rfl h_list) ?_
     intro a44 ha44; clear ha43 a43
     refine wl_val ha44 rfl rfl rfl (op_eql ha44 rfl rfl rfl) ?_
     intro a45 ha45; clear ha44 a44
     refine wl_val ha45 rfl rfl rfl (op_assign ha45 rfl rfl) ?_
     intro a46 ha46; clear ha45 a45
     refine wpList_nil ?_
     refine then_n ?_
     by_cases c47 : ((list.length : Nat) : Int) = (20 : Int)
     ·
      rw [decide_eq_true c47] at ha46
      have hnc47 : list.length = 20 := by omega
      refine cond_t ha46 rfl ?_
      refine wp_seq ?_
      refine wp_region_lit ?_
      refine wl_val ha46 rfl rfl rfl (op_assign ha46 rfl rfl) ?_
      intro a48 ha48; clear ha46 a46
      refine wl_val ha48 rfl rfl rfl (op_assign ha48 rfl rfl) ?_
      intro a49 ha49; clear ha48 a48
      refine wpList_nil ?_
      refine then_n ?_
      refine wp_ret ?_
      refine block_r ?_
      refine then_r ?_
      refine ret2 ha49 rfl rfl rfl ?_
      clear ha49 a49
      refine ret_mk hx37 ⟨(.slice none 0 0), [], (tup2_eq rfl (int_eq (by first | (simp [addcC, c11, c21, c30, hdc30, c40, c47, hnc47]; done) | (simp [addcC, dateB, c11, c21, c30, hdc30, c40, c47, hnc47]; done) | (simp_all [addcC, dateB]; done)))), Own.nil _ _ _ _ _ _, Nst.nil _ _ _ _ _ _, ?_⟩
      ·
       first | (simp [addcL, dateB, c11, c21, c30, hdc30, c40, c47, hnc47]; done) | (simp [addcL, dateB, c11, c21, c30, hdc30, c40, c47, hnc47]; omega) | (simp_all [addcL, dateB]; done) | (simp_all [addcL, dateB]; omega)
     ·
      rw [decide_eq_false c47] at ha46
      have hnc47 : ¬ list.length = 20 := by omega
      refine cond_f ha46 rfl ?_
      refine wp_skip ?_
      refine block_n ?_
      refine then_n ?_
      refine wp_seq ?_
      refine wp_region_lit ?_
      refine wl_val ha46 rfl rfl rfl (op_assign ha46 rfl rfl) ?_
      intro a50 ha50; clear ha46 a46
      refine wpList_nil ?_
      refine then_n ?_
      refine wp_seq ?_
      refine wp_block ?_
      refine loop_inv (X := Nat) (fun (k : Nat) fr wl => Sl 63 fr [(0, v_list), (1, St name), (2, .int .i64 since), (8, .int .i64 ((k : Nat) : Int))] ∧ Ext w0 wl ∧ w34.heap.size ≤ wl.heap.size ∧ (k ≤ list.length) ∧ (∀ (j : Nat) (y : Cust), j < k → list[j]? = some y → y.1 < name)) (fun (k : Nat) => list.length - k) (0) ?_ ?_
      ·
       exact ⟨(Sl.cons_ ha50 rfl rfl (Sl.cons_ ha50 rfl rfl (Sl.cons_ ha50 rfl rfl (Sl.cons_ ha50 rfl (int_eq (by omega)) (Sl.nil_ ha50))))), hx37, (by omega), (by omega), (by exact all_zero)⟩
      ·
       clear ha50 a50
       rintro k a53 w51 ⟨ha53, hx52, hzl54, hk, hk2⟩
       have hzhx52 := hx52.size
       refine wp_seq ?_
       refine wp_seq ?_
       refine wp_region_lit ?_
       refine wl_val ha53 rfl rfl rfl (op_move ha53 rfl rfl) ?_
       intro a55 ha55; clear ha53 a53
       refine wl_val ha55 rfl rfl rfl (op_move ha55 rfl rfl) ?_
       intro a56 ha56; clear ha55 a55
       refine wl_val ha56 rfl rfl rfl (op_len_sl ha56 rfl Try.underlying25 rfl h_list) ?_
       intro a57 ha57; clear ha56 a56
       refine wl_val ha57 rfl rfl rfl (op_lss ha57 rfl rfl rfl) ?_
       intro a58 ha58; clear ha57 a57
       refine wl_val ha58 rfl rfl rfl (op_move ha58 rfl rfl) ?_
       intro a59 ha59; clear ha58 a58
       by_cases c60 : ((k : Nat) : Int) < ((list.length : Nat) : Int)
       ·
        rw [decide_eq_true c60] at ha59
        refine wl_val ha59 rfl rfl rfl (op_move ha59 rfl rfl) ?_
        intro a61 ha61; clear ha59 a59
        refine wl_val ha61 rfl rfl rfl (op_move ha61 rfl rfl) ?_
        intro a62 ha62; clear ha61 a61
        obtain ⟨x63, hx63⟩ := get_ex (xs := list) (j := k) (by omega)
        obtain ⟨p64, c65, hi66, hc67, hr68, hs69⟩ := Rds.at_ h_list hx63
        obtain ⟨v70, rfl, b71, b72, b73⟩ := inv_shCust hr68
        have hlb73 := b73.length_le
        have hbx63 := cuOk_bd (hcuc11 _ (List.mem_of_getElem? hx63))
        refine wl_val ha62 rfl rfl rfl (op_indexAddr ha62 rfl Try.underlying25 ti55 rfl rfl (by omega) hi66) ?_
        intro a74 ha74; clear ha62 a62
        refine wl_val ha74 rfl rfl rfl (op_fieldAddr (sz := 0) ha74 rfl Try.underlying55 rfl rfl ti9 rfl) ?_
        intro a75 ha75; clear ha74 a74
        refine wl_val ha75 rfl rfl rfl (op_loadF (off := 0) ha75 rfl Try.underlying9 rfl rfl (hc67.ext hx52) rfl) ?_
        intro a76 ha76; clear ha75 a75
        refine wl_val ha76 rfl rfl rfl (op_move ha76 rfl rfl) ?_
        intro a77 ha77; clear ha76 a76
        refine wl_val ha77 rfl rfl rfl ((op_slss ha77 rfl rfl rfl).to (congrArg Value.bool (bytesLess_lt _ _))) ?_
        intro a78 ha78; clear ha77 a77
        refine wl_val ha78 rfl rfl rfl (op_pick_t ha78 rfl rfl rfl) ?_
        intro a79 ha79; clear ha78 a78
        refine wpList_nil ?_
        refine then_n ?_
        by_cases c80 : x63.1 < name
        ·
         rw [decide_eq_true c80] at ha79
         refine cond_t ha79 rfl ?_
         refine wp_skip ?_
         refine then_n ?_
         refine wp_block ?_
         refine wp_region_lit ?_
         refine wl_val ha79 rfl rfl rfl (op_move ha79 rfl rfl) ?_
         intro a81 ha81; clear ha79 a79
         refine wl_val ha81 rfl rfl rfl ((op_add ha81 rfl rfl rfl).int (IntWalk.i64_in _ (by omega))) ?_
         intro a82 ha82; clear ha81 a81
         refine wl_val ha82 rfl rfl rfl (op_assign ha82 rfl rfl) ?_
         intro a83 ha83; clear ha82 a82
         refine wpList_nil ?_
         refine block_n ?_
         refine round_end (x := k) ((k + 1)) ?_ ?_
         ·
          refine ⟨(Sl.cons_ ha83 rfl rfl (Sl.cons_ ha83 rfl rfl (Sl.cons_ ha83 rfl rfl (Sl.cons_ ha83 rfl (int_eq (by omega)) (Sl.nil_ ha83))))), hx52, (by omega), (by omega), (by exact all_snoc (p := fun y => y.1 < name) hk2 hx63 (by assumption))⟩
         ·show (list.length - ((k + 1)) : Nat) < list.length - k; omega
        ·
         rw [decide_eq_false c80] at ha79
         refine cond_f ha79 rfl ?_
         refine wp_exit ?_
         refine then_e ?_
         refine then_e ?_
         refine block_hit ?_
         refine then_n ?_
         refine wp_seq ?_
         refine wp_region_lit ?_
         refine wl_val ha79 rfl rfl rfl (op_move ha79 rfl rfl) ?_
         intro a84 ha84; clear ha79 a79
         refine wl_val ha84 rfl rfl rfl (op_move ha84 rfl rfl) ?_
         intro a85 ha85; clear ha84 a84
         obtain ⟨u86, hu87, hr88⟩ := Rds.part h_list Try.underlying25 ti55 none (some (.int .i64 (k : Nat))) 0 k (.inl ⟨rfl, rfl⟩) (.inr ⟨.i64, rfl⟩) (by omega) (by omega)
         replace hr88 := hr88.cast (ys := list.take k) (by first | rw [List.take_length] | simp)
         refine wl_val ha85 rfl rfl rfl (op_slice_t (by omega) ha85 rfl rfl rfl hu87) ?_
         intro a89 ha89; clear ha85 a85
         refine wl_callR ha89 rfl rfl rfl (op_call ha89 rfl cb65 rfl) (c_spec_l30Copy _ u86 (list.take k) (hr88.ext pos_shCust hx52) (by first | assumption | omega | (simp; omega) | (intro c hc; have := cuOk_bd (cuB_el (by assumption) c hc); omega) | (intro c hc; have := cuOk_bd (cuB_el (by assumption) c (List.mem_of_mem_take hc)); omega) | (intro c hc; have := cuOk_bd (cuB_el (by assumption) c (List.mem_of_mem_drop hc)); omega)) (by first | assumption | omega | (simp; omega) | (intro c hc; have := cuOk_bd (cuB_el (by assumption) c hc); omega) | (intro c hc; have := cuOk_bd (cuB_el (by assumption) c (List.mem_of_mem_take hc)); omega) | (intro c hc; have := cuOk_bd (cuB_el (by assumption) c (List.mem_of_mem_drop hc)); omega))) ?_
         rintro v90 w91 he92 ⟨z94, ho93, hN95, hE96⟩ a97 ha97; clear ha89 a89
         have hx98 := hx52.trans' he92
         have hzhx98 := he92.size
         have hlhE96 := absLen hE96
         refine wl_val ha97 rfl rfl rfl (op_move ha97 rfl rfl) ?_
         intro a99 ha99; clear ha97 a97
         refine wl_val ha99 rfl rfl rfl (op_move ha99 rfl rfl) ?_
         intro a100 ha100; clear ha99 a99
         refine wl_eff ha100 rfl rfl rfl (op_buildSlice (s := shStr) (xs := ([] : List Str)) (cs := []) (vs := []) (S := fun _ => False) (le := w91.heap.size) ha100 rfl pos_shStr Try.underlying34 ti9 rfl rfl (by decide) (by kernel_rfl) rfl (fun _ h => h.elim)) ?_
         rintro v101 w102 ⟨ho103, he104, hob105⟩ a106 ha106; clear ha100 a100
         have hx107 := hx98.trans' he104
         have hzhx107 := he104.size
         replace ho93 := ho93.ext he104
         replace hN95 := hN95.ext he104
         refine wl_val ha106 rfl rfl rfl (op_build (vs := [(0, St name), (1, .int .i64 since), (2, v101)]) (cs := #[St name, .int .i64 since, v101]) ha106 rfl Try.underlying55 ti55 bp55 rfl ((fill_one rfl rfl rfl).trans ((fill_one rfl rfl rfl).trans ((fill_one ho103.cells1 rfl rfl).trans rfl)))) ?_
         intro a108 ha108; clear ha106 a106
         refine wl_eff ha108 rfl rfl rfl (op_buildSlice (s := shCustN) (xs := [(((name, since, ([] : List Str)) : Str × Int × List Str), (v101 : Value))]) (cs := [St name, .int .i64 since, v101]) (vs := [(0, .agg #[St name, .int .i64 since, v101])]) (S := fun _ => False) (le := w102.heap.size) ha108 rfl pos_shCustN Try.underlying25 ti55 rfl rfl (by decide) (by kernel_rfl) (Els.single (mk_shCustN ((((name, since, ([] : List Str)) : Str × Int × List Str), (v101 : Value))) (by first | assumption | omega | (simp; done) | (dsimp only; omega) | (dsimp only; assumption) | exact ⟨by omega, by omega⟩) (by first | assumption | omega | (simp; done) | (dsimp only; omega) | (dsimp only; assumption) | exact ⟨by omega, by omega⟩) ho103.one)) (fun _ h => h.elim)) ?_
         rintro v109 w110 ⟨ho111, he112, hob113⟩ a114 ha114; clear ha108 a108
         have hx115 := hx107.trans' he112
         have hzhx115 := he112.size
         replace ho93 := ho93.ext he112
         replace hN95 := hN95.ext he112
         replace ho103 := ho103.ext he112
         have hN116 : Nst shStr 9 (fun x : Str × Int × List Str => x.2.2) w91.heap.size w110.heap.size w110 ([(((name, since, ([] : List Str)) : Str × Int × List Str), (v101 : Value))]) := Nst.one (ho103.fin (by omega) (by omega) (by omega))
         refine wl_eff ha114 rfl rfl rfl (op_append (ts := #[]) (s := shCustN) ha114 rfl Try.underlying25 ti55 rfl pos_shCustN rfl rfl ho93 (ho111.rds pos_shCustN) (by omega) (by omega) (by first | omega | (simp; omega) | (simp only [List.length_append, List.length_take, List.length_drop, List.length_singleton] at *; omega)) (by first | omega | (simp; omega) | (simp only [List.length_append, List.length_take, List.length_drop, List.length_singleton] at *; omega)) (.inl flat_shCustN)) ?_
         rintro v117 w118 ⟨ho119, hst120, hob121⟩ a122 ha122; clear ha114 a114
         have hx123 := hx115.stp hst120 (by intro q hq; have hq0 := ho93.lt q hq; omega)
         have hzhx123 := hst120.size
         first | replace hN95 := hN95.stpF flat_shStr hst120 ho93 rfl | replace hN95 := hN95.stp hst120 (by intro q hq; have hq0 := ho93.lt q hq; omega)
         replace ho103 := ho103.stp hst120 (by intro q hq; have hq0 := ho93.lt q hq; omega)
         replace ho111 := ho111.stp hst120 (by intro q hq; have hq0 := ho93.lt q hq; omega)
         replace hN116 := hN116.stp hst120 (by intro q hq; have hq0 := ho93.lt q hq; omega)
         have hsp124 : ∀ q, Value.ownBlock v117 = some q → Value.ownBlock v109 ≠ some q := by intro q hq hb; have hq0 := ho111.lt q hb; rcases hob121 with h | h; (rw [h] at hq; first | (have hq1 := ho93.lt q hq; omega)); (rw [h] at hq; cases hq; omega)
         have hlaq125 : ((z94 ++ [(((name, since, ([] : List Str)) : Str × Int × List Str), (v101 : Value))])).length = z94.length + 1 := by simp
         have hN126 : Nst shStr 9 (fun x : Str × Int × List Str => x.2.2) w51.heap.size w118.heap.size w118 ((z94 ++ [(((name, since, ([] : List Str)) : Str × Int × List Str), (v101 : Value))])) := (hN95.app hN116 (by omega) (by omega) (by omega)).fin (by omega) (by omega)
         refine wl_val ha122 rfl rfl rfl (op_assign ha122 rfl rfl) ?_
         intro a127 ha127; clear ha122 a122
         refine wpList_nil ?_
         refine then_n ?_
         refine wp_seq ?_
         refine wp_region_lit ?_
         refine wl_val ha127 rfl rfl rfl (op_move ha127 rfl rfl) ?_
         intro a128 ha128; clear ha127 a127
         refine wl_val ha128 rfl rfl rfl (op_move ha128 rfl rfl) ?_
         intro a129 ha129; clear ha128 a128
         refine wl_val ha129 rfl rfl rfl (op_move ha129 rfl rfl) ?_
         intro a130 ha130; clear ha129 a129
         obtain ⟨u131, hu132, hr133⟩ := Rds.part h_list Try.underlying25 ti55 (some (.int .i64 (k : Nat))) none k list.length (.inr ⟨.i64, rfl⟩) (.inl ⟨rfl, rfl⟩) (by omega) (by omega)
         replace hr133 := hr133.cast (ys := list.drop k) (by first | rw [List.take_length] | simp)
         refine wl_val ha130 rfl rfl rfl (op_slice_f (by omega) ha130 rfl rfl rfl hu132) ?_
         intro a134 ha134; clear ha130 a130
         refine wl_callR ha134 rfl rfl rfl (op_call ha134 rfl cb65 rfl) (c_spec_l30Copy _ u131 (list.drop k) (hr133.ext pos_shCust hx123) (by first | assumption | omega | (simp; omega) | (intro c hc; have := cuOk_bd (cuB_el (by assumption) c hc); omega) | (intro c hc; have := cuOk_bd (cuB_el (by assumption) c (List.mem_of_mem_take hc)); omega) | (intro c hc; have := cuOk_bd (cuB_el (by assumption) c (List.mem_of_mem_drop hc)); omega)) (by first | assumption | omega | (simp; omega) | (intro c hc; have := cuOk_bd (cuB_el (by assumption) c hc); omega) | (intro c hc; have := cuOk_bd (cuB_el (by assumption) c (List.mem_of_mem_take hc)); omega) | (intro c hc; have := cuOk_bd (cuB_el (by assumption) c (List.mem_of_mem_drop hc)); omega))) ?_
         rintro v135 w136 he137 ⟨z139, ho138, hN140, hE141⟩ a142 ha142; clear ha134 a134
         have hx143 := hx123.trans' he137
         have hzhx143 := he137.size
         replace ho103 := ho103.ext he137
         replace ho111 := ho111.ext he137
         replace ho119 := ho119.ext he137
         replace hN126 := hN126.ext he137
         have hlhE141 := absLen hE141
         refine wl_eff ha142 rfl rfl rfl (op_append (ts := #[]) (s := shCustN) ha142 rfl Try.underlying25 ti55 rfl pos_shCustN rfl rfl ho119 (ho138.rds pos_shCustN) (by omega) (by omega) (by first | omega | (simp; omega) | (simp only [List.length_append, List.length_take, List.length_drop, List.length_singleton] at *; omega)) (by first | omega | (simp; omega) | (simp only [List.length_append, List.length_take, List.length_drop, List.length_singleton] at *; omega)) (.inl flat_shCustN)) ?_
         rintro v144 w145 ⟨ho146, hst147, hob148⟩ a149 ha149; clear ha142 a142
         have hx150 := hx143.stp hst147 (by intro q hq; have hq0 := ho119.lt q hq; omega)
         have hzhx150 := hst147.size
         first | replace ho103 := ho103.stp hst147 (by intro q hq; have hq0 := ho119.lt q hq; omega) | replace ho103 := ho103.stpF flat_shStr hst147 (ho103.ne ho119 rfl)
         first | replace ho111 := ho111.stp hst147 (by intro q hq; have hq0 := ho119.lt q hq; omega) | replace ho111 := ho111.stpF flat_shCustN hst147 (fun q hq => hsp124 q hq)
         first | replace hN126 := hN126.stpF flat_shStr hst147 ho119 rfl | replace hN126 := hN126.stp hst147 (by intro q hq; have hq0 := ho119.lt q hq; omega)
         replace ho138 := ho138.stp hst147 (by intro q hq; have hq0 := ho119.lt q hq; omega)
         replace hN140 := hN140.stp hst147 (by intro q hq; have hq0 := ho119.lt q hq; omega)
         have hsp151 : ∀ q, Value.ownBlock v144 = some q → Value.ownBlock v109 ≠ some q := by intro q hq hb; have hq0 := ho111.lt q hb; rcases hob148 with h | h; (rw [h] at hq; first | (have hq1 := ho119.lt q hq; omega) | exact hsp124 q hq hb); (rw [h] at hq; cases hq; omega)
         have hsp152 : ∀ q, Value.ownBlock v144 = some q → Value.ownBlock v135 ≠ some q := by intro q hq hb; have hq0 := ho138.lt q hb; rcases hob148 with h | h; (rw [h] at hq; first | (have hq1 := ho119.lt q hq; omega)); (rw [h] at hq; cases hq; omega)
         have hlaq153 : (((z94 ++ [(((name, since, ([] : List Str)) : Str × Int × List Str), (v101 : Value))]) ++ z139)).length = ((z94 ++ [(((name, since, ([] : List Str)) : Str × Int × List Str), (v101 : Value))])).length + z139.length := List.length_append
         have hN154 : Nst shStr 9 (fun x : Str × Int × List Str => x.2.2) w51.heap.size w145.heap.size w145 (((z94 ++ [(((name, since, ([] : List Str)) : Str × Int × List Str), (v101 : Value))]) ++ z139)) := (hN126.app hN140 (by omega) (by omega) (by omega)).fin (by omega) (by omega)
         refine wl_val ha149 rfl rfl rfl (op_assign ha149 rfl rfl) ?_
         intro a155 ha155; clear ha149 a149
         refine wl_val ha155 rfl rfl rfl (op_assign ha155 rfl rfl) ?_
         intro a156 ha156; clear ha155 a155
         refine wpList_nil ?_
         refine then_n ?_
         refine wp_ret ?_
         refine ret2 ha156 rfl rfl rfl ?_
         clear ha156 a156
         refine ret_mk hx150 ⟨v144, ((z94 ++ [(((name, since, ([] : List Str)) : Str × Int × List Str), (v101 : Value))]) ++ z139), (tup2_eq rfl (int_eq (by first | (simp [addcC, c11, c21, c30, hdc30, c40, c47, hnc47, c60, c80]; done) | (simp [addcC, dateB, c11, c21, c30, hdc30, c40, c47, hnc47, c60, c80]; done) | (simp_all [addcC, dateB]; done)))), ho146.fin (by omega) (by omega) (by omega), hN154.fin (by omega) (by omega), ?_⟩
         ·
          have hic := icL_cut (c := (name, since, [])) hk2 (.inr ⟨_, hx63, by assumption⟩)
          rw [List.map_append, List.map_append, hE96, hE141]
          simp [addcL, hic, c11, c21, c30, hdc30, c40, c47, hnc47, c60, c80]
       ·
        rw [decide_eq_false c60] at ha59
        refine wl_skip ha59 rfl rfl rfl ?_
        intro a157 ha157; clear ha59 a59
        refine wl_skip ha157 rfl rfl rfl ?_
        intro a158 ha158; clear ha157 a157
        refine wl_skip ha158 rfl rfl rfl ?_
        intro a159 ha159; clear ha158 a158
        refine wl_skip ha159 rfl rfl rfl ?_
        intro a160 ha160; clear ha159 a159
        refine wl_skip ha160 rfl rfl rfl ?_
        intro a161 ha161; clear ha160 a160
        refine wl_skip ha161 rfl rfl rfl ?_
        intro a162 ha162; clear ha161 a161
        refine wl_skip ha162 rfl rfl rfl ?_
        intro a163 ha163; clear ha162 a162
        refine wl_val ha163 rfl rfl rfl (op_pick_f ha163 rfl rfl rfl) ?_
        intro a164 ha164; clear ha163 a163
        refine wpList_nil ?_
        refine then_n ?_
        refine cond_f ha164 rfl ?_
        refine wp_exit ?_
        refine then_e ?_
        refine then_e ?_
        refine block_hit ?_
        refine then_n ?_
        refine wp_seq ?_
        refine wp_region_lit ?_
        refine wl_val ha164 rfl rfl rfl (op_move ha164 rfl rfl) ?_
        intro a165 ha165; clear ha164 a164
        refine wl_val ha165 rfl rfl rfl (op_move ha165 rfl rfl) ?_
        intro a166 ha166; clear ha165 a165
        obtain ⟨u167, hu168, hr169⟩ := Rds.part h_list Try.underlying25 ti55 none (some (.int .i64 (k : Nat))) 0 k (.inl ⟨rfl, rfl⟩) (.inr ⟨.i64, rfl⟩) (by omega) (by omega)
        replace hr169 := hr169.cast (ys := list.take k) (by first | rw [List.take_length] | simp)
        refine wl_val ha166 rfl rfl rfl (op_slice_t (by omega) ha166 rfl rfl rfl hu168) ?_
        intro a170 ha170; clear ha166 a166
        refine wl_callR ha170 rfl rfl rfl (op_call ha170 rfl cb65 rfl) (c_spec_l30Copy _ u167 (list.take k) (hr169.ext pos_shCust hx52) (by first | assumption | omega | (simp; omega) | (intro c hc; have := cuOk_bd (cuB_el (by assumption) c hc); omega) | (intro c hc; have := cuOk_bd (cuB_el (by assumption) c (List.mem_of_mem_take hc)); omega) | (intro c hc; have := cuOk_bd (cuB_el (by assumption) c (List.mem_of_mem_drop hc)); omega)) (by first | assumption | omega | (simp; omega) | (intro c hc; have := cuOk_bd (cuB_el (by assumption) c hc); omega) | (intro c hc; have := cuOk_bd (cuB_el (by assumption) c (List.mem_of_mem_take hc)); omega) | (intro c hc; have := cuOk_bd (cuB_el (by assumption) c (List.mem_of_mem_drop hc)); omega))) ?_
        rintro v171 w172 he173 ⟨z175, ho174, hN176, hE177⟩ a178 ha178; clear ha170 a170
        have hx179 := hx52.trans' he173
        have hzhx179 := he173.size
        have hlhE177 := absLen hE177
        refine wl_val ha178 rfl rfl rfl (op_move ha178 rfl rfl) ?_
        intro a180 ha180; clear ha178 a178
        refine wl_val ha180 rfl rfl rfl (op_move ha180 rfl rfl) ?_
        intro a181 ha181; clear ha180 a180
        refine wl_eff ha181 rfl rfl rfl (op_buildSlice (s := shStr) (xs := ([] : List Str)) (cs := []) (vs := []) (S := fun _ => False) (le := w172.heap.size) ha181 rfl pos_shStr Try.underlying34 ti9 rfl rfl (by decide) (by kernel_rfl) rfl (fun _ h => h.elim)) ?_
        rintro v182 w183 ⟨ho184, he185, hob186⟩ a187 ha187; clear ha181 a181
        have hx188 := hx179.trans' he185
        have hzhx188 := he185.size
        replace ho174 := ho174.ext he185
        replace hN176 := hN176.ext he185
        refine wl_val ha187 rfl rfl rfl (op_build (vs := [(0, St name), (1, .int .i64 since), (2, v182)]) (cs := #[St name, .int .i64 since, v182]) ha187 rfl Try.underlying55 ti55 bp55 rfl ((fill_one rfl rfl rfl).trans ((fill_one rfl rfl rfl).trans ((fill_one ho184.cells1 rfl rfl).trans rfl)))) ?_
        intro a189 ha189; clear ha187 a187
        refine wl_eff ha189 rfl rfl rfl (op_buildSlice (s := shCustN) (xs := [(((name, since, ([] : List Str)) : Str × Int × List Str), (v182 : Value))]) (cs := [St name, .int .i64 since, v182]) (vs := [(0, .agg #[St name, .int .i64 since, v182])]) (S := fun _ => False) (le := w183.heap.size) ha189 rfl pos_shCustN Try.underlying25 ti55 rfl rfl (by decide) (by kernel_rfl) (Els.single (mk_shCustN ((((name, since, ([] : List Str)) : Str × Int × List Str), (v182 : Value))) (by first | assumption | omega | (simp; done) | (dsimp only; omega) | (dsimp only; assumption) | exact ⟨by omega, by omega⟩) (by first | assumption | omega | (simp; done) | (dsimp only; omega) | (dsimp only; assumption) | exact ⟨by omega, by omega⟩) ho184.one)) (fun _ h => h.elim)) ?_
        rintro v190 w191 ⟨ho192, he193, hob194⟩ a195 ha195; clear ha189 a189
        have hx196 := hx188.trans' he193
        have hzhx196 := he193.size
        replace ho174 := ho174.ext he193
        replace hN176 := hN176.ext he193
        replace ho184 := ho184.ext he193
        have hN197 : Nst shStr 9 (fun x : Str × Int × List Str => x.2.2) w172.heap.size w191.heap.size w191 ([(((name, since, ([] : List Str)) : Str × Int × List Str), (v182 : Value))]) := Nst.one (ho184.fin (by omega) (by omega) (by omega))
        refine wl_eff ha195 rfl rfl rfl (op_append (ts := #[]) (s := shCustN) ha195 rfl Try.underlying25 ti55 rfl pos_shCustN rfl rfl ho174 (ho192.rds pos_shCustN) (by omega) (by omega) (by first | omega | (simp; omega) | (simp only [List.length_append, List.length_take, List.length_drop, List.length_singleton] at *; omega)) (by first | omega | (simp; omega) | (simp only [List.length_append, List.length_take, List.length_drop, List.length_singleton] at *; omega)) (.inl flat_shCustN)) ?_
        rintro v198 w199 ⟨ho200, hst201, hob202⟩ a203 ha203; clear ha195 a195
        have hx204 := hx196.stp hst201 (by intro q hq; have hq0 := ho174.lt q hq; omega)
        have hzhx204 := hst201.size
        first | replace hN176 := hN176.stpF flat_shStr hst201 ho174 rfl | replace hN176 := hN176.stp hst201 (by intro q hq; have hq0 := ho174.lt q hq; omega)
        replace ho184 := ho184.stp hst201 (by intro q hq; have hq0 := ho174.lt q hq; omega)
        replace ho192 := ho192.stp hst201 (by intro q hq; have hq0 := ho174.lt q hq; omega)
        replace hN197 := hN197.stp hst201 (by intro q hq; have hq0 := ho174.lt q hq; omega)
        have hsp205 : ∀ q, Value.ownBlock v198 = some q → Value.ownBlock v190 ≠ some q := by intro q hq hb; have hq0 := ho192.lt q hb; rcases hob202 with h | h; (rw [h] at hq; first | (have hq1 := ho174.lt q hq; omega)); (rw [h] at hq; cases hq; omega)
        have hlaq206 : ((z175 ++ [(((name, since, ([] : List Str)) : Str × Int × List Str), (v182 : Value))])).length = z175.length + 1 := by simp
        have hN207 : Nst shStr 9 (fun x : Str × Int × List Str => x.2.2) w51.heap.size w199.heap.size w199 ((z175 ++ [(((name, since, ([] : List Str)) : Str × Int × List Str), (v182 : Value))])) := (hN176.app hN197 (by omega) (by omega) (by omega)).fin (by omega) (by omega)
        refine wl_val ha203 rfl rfl rfl (op_assign ha203 rfl rfl) ?_
        intro a208 ha208; clear ha203 a203
        refine wpList_nil ?_
        refine then_n ?_
        refine wp_seq ?_
        refine wp_region_lit ?_
        refine wl_val ha208 rfl rfl rfl (op_move ha208 rfl rfl) ?_
        intro a209 ha209; clear ha208 a208
        refine wl_val ha209 rfl rfl rfl (op_move ha209 rfl rfl) ?_
        intro a210 ha210; clear ha209 a209
        refine wl_val ha210 rfl rfl rfl (op_move ha210 rfl rfl) ?_
        intro a211 ha211; clear ha210 a210
        obtain ⟨u212, hu213, hr214⟩ := Rds.part h_list Try.underlying25 ti55 (some (.int .i64 (k : Nat))) none k list.length (.inr ⟨.i64, rfl⟩) (.inl ⟨rfl, rfl⟩) (by omega) (by omega)
        replace hr214 := hr214.cast (ys := list.drop k) (by first | rw [List.take_length] | simp)
        refine wl_val ha211 rfl rfl rfl (op_slice_f (by omega) ha211 rfl rfl rfl hu213) ?_
        intro a215 ha215; clear ha211 a211
        refine wl_callR ha215 rfl rfl rfl (op_call ha215 rfl cb65 rfl) (c_spec_l30Copy _ u212 (list.drop k) (hr214.ext pos_shCust hx204) (by first | assumption | omega | (simp; omega) | (intro c hc; have := cuOk_bd (cuB_el (by assumption) c hc); omega) | (intro c hc; have := cuOk_bd (cuB_el (by assumption) c (List.mem_of_mem_take hc)); omega) | (intro c hc; have := cuOk_bd (cuB_el (by assumption) c (List.mem_of_mem_drop hc)); omega)) (by first | assumption | omega | (simp; omega) | (intro c hc; have := cuOk_bd (cuB_el (by assumption) c hc); omega) | (intro c hc; have := cuOk_bd (cuB_el (by assumption) c (List.mem_of_mem_take hc)); omega) | (intro c hc; have := cuOk_bd (cuB_el (by assumption) c (List.mem_of_mem_drop hc)); omega))) ?_
        rintro v216 w217 he218 ⟨z220, ho219, hN221, hE222⟩ a223 ha223; clear ha215 a215
        have hx224 := hx204.trans' he218
        have hzhx224 := he218.size
        replace ho184 := ho184.ext he218
        replace ho192 := ho192.ext he218
        replace ho200 := ho200.ext he218
        replace hN207 := hN207.ext he218
        have hlhE222 := absLen hE222
        refine wl_eff ha223 rfl rfl rfl (op_append (ts := #[]) (s := shCustN) ha223 rfl Try.underlying25 ti55 rfl pos_shCustN rfl rfl ho200 (ho219.rds pos_shCustN) (by omega) (by omega) (by first | omega | (simp; omega) | (simp only [List.length_append, List.length_take, List.length_drop, List.length_singleton] at *; omega)) (by first | omega | (simp; omega) | (simp only [List.length_append, List.length_take, List.length_drop, List.length_singleton] at *; omega)) (.inl flat_shCustN)) ?_
        rintro v225 w226 ⟨ho227, hst228, hob229⟩ a230 ha230; clear ha223 a223
        have hx231 := hx224.stp hst228 (by intro q hq; have hq0 := ho200.lt q hq; omega)
        have hzhx231 := hst228.size
        first | replace ho184 := ho184.stp hst228 (by intro q hq; have hq0 := ho200.lt q hq; omega) | replace ho184 := ho184.stpF flat_shStr hst228 (ho184.ne ho200 rfl)
        first | replace ho192 := ho192.stp hst228 (by intro q hq; have hq0 := ho200.lt q hq; omega) | replace ho192 := ho192.stpF flat_shCustN hst228 (fun q hq => hsp205 q hq)
        first | replace hN207 := hN207.stpF flat_shStr hst228 ho200 rfl | replace hN207 := hN207.stp hst228 (by intro q hq; have hq0 := ho200.lt q hq; omega)
        replace ho219 := ho219.stp hst228 (by intro q hq; have hq0 := ho200.lt q hq; omega)
        replace hN221 := hN221.stp hst228 (by intro q hq; have hq0 := ho200.lt q hq; omega)
        have hsp232 : ∀ q, Value.ownBlock v225 = some q → Value.ownBlock v190 ≠ some q := by intro q hq hb; have hq0 := ho192.lt q hb; rcases hob229 with h | h; (rw [h] at hq; first | (have hq1 := ho200.lt q hq; omega) | exact hsp205 q hq hb); (rw [h] at hq; cases hq; omega)
        have hsp233 : ∀ q, Value.ownBlock v225 = some q → Value.ownBlock v216 ≠ some q := by intro q hq hb; have hq0 := ho219.lt q hb; rcases hob229 with h | h; (rw [h] at hq; first | (have hq1 := ho200.lt q hq; omega)); (rw [h] at hq; cases hq; omega)
        have hlaq234 : (((z175 ++ [(((name, since, ([] : List Str)) : Str × Int × List Str), (v182 : Value))]) ++ z220)).length = ((z175 ++ [(((name, since, ([] : List Str)) : Str × Int × List Str), (v182 : Value))])).length + z220.length := List.length_append
        have hN235 : Nst shStr 9 (fun x : Str × Int × List Str => x.2.2) w51.heap.size w226.heap.size w226 (((z175 ++ [(((name, since, ([] : List Str)) : Str × Int × List Str), (v182 : Value))]) ++ z220)) := (hN207.app hN221 (by omega) (by omega) (by omega)).fin (by omega) (by omega)
        refine wl_val ha230 rfl rfl rfl (op_assign ha230 rfl rfl) ?_
        intro a236 ha236; clear ha230 a230
        refine wl_val ha236 rfl rfl rfl (op_assign ha236 rfl rfl) ?_
        intro a237 ha237; clear ha236 a236
        refine wpList_nil ?_
        refine then_n ?_
        refine wp_ret ?_
        refine ret2 ha237 rfl rfl rfl ?_
        clear ha237 a237
        refine ret_mk hx231 ⟨v225, ((z175 ++ [(((name, since, ([] : List Str)) : Str × Int × List Str), (v182 : Value))]) ++ z220), (tup2_eq rfl (int_eq (by first | (simp [addcC, c11, c21, c30, hdc30, c40, c47, hnc47, c60]; done) | (simp [addcC, dateB, c11, c21, c30, hdc30, c40, c47, hnc47, c60]; done) | (simp_all [addcC, dateB]; done)))), ho227.fin (by omega) (by omega) (by omega), hN235.fin (by omega) (by omega), ?_⟩
        ·
         have hic := icL_cut (c := (name, since, [])) hk2 (.inl (by omega))
         rw [List.map_append, List.map_append, hE177, hE222]
         simp [addcL, hic, c11, c21, c30, hdc30, c40, c47, hnc47, c60]
   ·
    rw [c30] at ha29
    have hdc30 : dateB since = false := c30
    refine cond_t ha29 rfl ?_
    refine wp_seq ?_
    refine wp_region_lit ?_
    refine wl_val ha29 rfl rfl rfl (op_assign ha29 rfl rfl) ?_
    intro a238 ha238; clear ha29 a29
    refine wl_val ha238 rfl rfl rfl (op_assign ha238 rfl rfl) ?_
    intro a239 ha239; clear ha238 a238
    refine wpList_nil ?_
    refine then_n ?_
    refine wp_ret ?_
    refine block_r ?_
    refine then_r ?_
    refine ret2 ha239 rfl rfl rfl ?_
    clear ha239 a239
    refine ret_mk hx27 ⟨(.slice none 0 0), [], (tup2_eq rfl (int_eq (by first | (simp [addcC, c11, c21, c30, hdc30]; done) | (simp [addcC, dateB, c11, c21, c30, hdc30]; done) | (simp_all [addcC, dateB]; done)))), Own.nil _ _ _ _ _ _, Nst.nil _ _ _ _ _ _, ?_⟩
    ·
     first | (simp [addcL, dateB, c11, c21, c30, hdc30]; done) | (simp [addcL, dateB, c11, c21, c30, hdc30]; omega) | (simp_all [addcL, dateB]; done) | (simp_all [addcL, dateB]; omega)
  ·
   rw [c21] at ha20
   refine cond_t ha20 rfl ?_
   refine wp_seq ?_
   refine wp_region_lit ?_
   refine wl_val ha20 rfl rfl rfl (op_assign ha20 rfl rfl) ?_
   intro a240 ha240; clear ha20 a20
   refine wl_val ha240 rfl rfl rfl (op_assign ha240 rfl rfl) ?_
   intro a241 ha241; clear ha240 a240
   refine wpList_nil ?_
   refine then_n ?_
   refine wp_ret ?_
   refine block_r ?_
   refine then_r ?_
   refine ret2 ha241 rfl rfl rfl ?_
   clear ha241 a241
   refine ret_mk hx17 ⟨(.slice none 0 0), [], (tup2_eq rfl (int_eq (by first | (simp [addcC, c11, c21]; done) | (simp [addcC, dateB, c11, c21]; done) | (simp_all [addcC, dateB]; done)))), Own.nil _ _ _ _ _ _, Nst.nil _ _ _ _ _ _, ?_⟩
   ·
    first | (simp [addcL, dateB, c11, c21]; done) | (simp [addcL, dateB, c11, c21]; omega) | (simp_all [addcL, dateB]; done) | (simp_all [addcL, dateB]; omega)
 ·
  rw [c11] at ha10
  refine wl_skip ha10 rfl rfl rfl ?_
  intro a242 ha242; clear ha10 a10
  refine wl_skip ha242 rfl rfl rfl ?_
  intro a243 ha243; clear ha242 a242
  refine wl_skip ha243 rfl rfl rfl ?_
  intro a244 ha244; clear ha243 a243
  refine wl_val ha244 rfl rfl rfl (op_pick_t ha244 rfl rfl rfl) ?_
  intro a245 ha245; clear ha244 a244
  refine wl_val ha245 rfl rfl rfl (op_assign ha245 rfl rfl) ?_
  intro a246 ha246; clear ha245 a245
  refine wpList_nil ?_
  refine then_n ?_
  refine cond_t ha246 rfl ?_
  refine wp_seq ?_
  refine wp_region_lit ?_
  refine wl_val ha246 rfl rfl rfl (op_assign ha246 rfl rfl) ?_
  intro a247 ha247; clear ha246 a246
  refine wl_val ha247 rfl rfl rfl (op_assign ha247 rfl rfl) ?_
  intro a248 ha248; clear ha247 a247
  refine wpList_nil ?_
  refine then_n ?_
  refine wp_ret ?_
  refine block_r ?_
  refine then_r ?_
  refine ret2 ha248 rfl rfl rfl ?_
  clear ha248 a248
  refine ret_mk hx8 ⟨(.slice none 0 0), [], (tup2_eq rfl (int_eq (by first | (simp [addcC, c11]; done) | (simp [addcC, dateB, c11]; done) | (simp_all [addcC, dateB]; done)))), Own.nil _ _ _ _ _ _, Nst.nil _ _ _ _ _ _, ?_⟩
  ·
   first | (simp [addcL, dateB, c11]; done) | (simp [addcL, dateB, c11]; omega) | (simp_all [addcL, dateB]; done) | (simp_all [addcL, dateB]; omega)


end Go.Proofs.Ythbkedflhmeohaa
