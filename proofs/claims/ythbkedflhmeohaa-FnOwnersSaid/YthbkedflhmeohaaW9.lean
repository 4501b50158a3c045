/- Those who have been there the longest. -/
import Derived.Test.YthbkedflhmeohaaW4
import Derived.Test.YthbkedflhmeohaaL2
namespace Go.Proofs.Ythbkedflhmeohaa
open Go Go.RowKit

theorem keyI_el {xs : List Cust} {o : Int} {c : Cust} (h : xs[o.toNat]? = some c) : keyI xs o = c.2.1 := by unfold keyI; rw [h]; rfl
theorem keyI_nat {xs : List Cust} {i : Nat} {c : Cust} (h : xs[i]? = some c) : keyI xs (i : Int) = c.2.1 := keyI_el (by rw [Int.toNat_natCast]; exact h)
theorem ls_bad {xs : List Cust} {m : Int} (h : codeL xs m ≠ 0) : (if codeL xs m = 0 then lsL xs m else []) = [] := if_neg h
theorem ls_ok {xs : List Cust} {m : Int} (h : codeL xs m = 0) : (if codeL xs m = 0 then lsL xs m else []) = lsL xs m := if_pos h
theorem codeL_1 {xs : List Cust} {m : Int} (h : cuB xs = false) : codeL xs m = 1 := by unfold codeL; rw [if_neg (by simp [h])]
theorem codeL_2 {xs : List Cust} {m : Int} (h : cuB xs = true) (h' : (decide (0 ≤ m) && decide (m ≤ 20)) = false) : codeL xs m = 2 := by unfold codeL; rw [if_pos h, if_neg (by simp [h'])]
theorem insK_fst {zs : List (Cust × Value)} {x : Cust} {v : Value} : (insK (fun z : Cust × Value => sinK z.1) (x, v) zs).map (·.1) = insK sinK x (zs.map (·.1)) := insK_map (f := fun z : Cust × Value => z.1) rfl fun _ _ => rfl
theorem lsL_step {xs : List Cust} {m : Int} {i : Nat} {c : Cust} {acc : List Str} (h0 : 0 ≤ m) (hc : (ordS xs)[i]? = some c) (h : acc = ((ordS xs).map (·.1)).take (min i m.toNat)) (hm : (i : Int) < m) : acc ++ [c.1] = ((ordS xs).map (·.1)).take (min (i + 1) m.toNat) := by
  have e1 : min i m.toNat = i := by omega
  have e2 : min (i + 1) m.toNat = i + 1 := by omega
  rw [e1] at h
  rw [e2, take_snoc (x := c.1) (by rw [List.getElem?_map, hc]; rfl), h]
theorem lsL_stop {xs : List Cust} {m : Int} {i : Nat} {acc : List Str} (h : acc = ((ordS xs).map (·.1)).take (min i m.toNat)) (hm : ¬ (i : Int) < m) : acc = ((ordS xs).map (·.1)).take (min (i + 1) m.toNat) := by
  have e2 : min (i + 1) m.toNat = min i m.toNat := by omega
  rw [e2]; exact h
theorem lsL_end {xs : List Cust} {m : Int} {i : Nat} {acc : List Str} (h : acc = ((ordS xs).map (·.1)).take (min i m.toNat)) (hm : (ordS xs).length ≤ i ∨ m ≤ (i : Int)) : acc = lsL xs m := by
  unfold lsL; rw [h]
  rcases Nat.lt_or_ge i m.toNat with q | q
  · rw [show min i m.toNat = i by omega, List.take_of_length_le (by rw [List.length_map]; omega), List.take_of_length_le (by rw [List.length_map]; omega)]
  · rw [show min i m.toNat = m.toNat by omega]
theorem lsL_len (xs : List Cust) (m : Int) : (lsL xs m).length ≤ xs.length := by unfold lsL; rw [List.length_take, List.length_map, ordS_len]; omega
/-- The reference keeps places. -/
theorem ord_map {xs : List Cust} {os : List Int} {i : Nat} (hos : ∀ o ∈ os, 0 ≤ o ∧ o < (i : Int)) (hi : i < xs.length) : (insK (keyI xs) (i : Int) os).map (getC xs) = insK sinK (getC xs i) (os.map (getC xs)) :=
  insK_map (keyI_get (by omega)) fun o ho => by have := hos o ho; exact keyI_get (by omega)

theorem c_impl_LongestSince (w0 : World) (v_list : Value) (list : List (Str × Int × List Str)) {S_list : Nat → Prop} (most : Int) (h_list : Rds shCust S_list w0 v_list list) (g0 : list.length ≤ 1048576) (g1 : I64 most) :
  Calls Try.prog 30 #[v_list, .int .i64 most] w0 (Ret w0 (fun v w1 => ∃ r0, v = .tuple #[r0, .int .i64 (codeL list most)] ∧ Own shStr 9 w0.heap.size w0.heap.size w1.heap.size w1 r0 (if codeL list most = 0 then lsL list most else []))) := by
 refine enter (N := 76) Try.func30 rfl rfl rfl ?_
 intro a0 ha0
 have hx0 := Ext.rfl' w0
 have hl_list := h_list.length_le
 have hol := ordS_len list
 refine wp_seq ?_
 refine wp_region_lit ?_
 refine wl_val ha0 rfl rfl rfl (op_assign ha0 rfl rfl) ?_
 intro a1 ha1; clear ha0 a0
 refine wl_val ha1 rfl rfl rfl (op_assign ha1 rfl rfl) ?_
 intro a2 ha2; clear ha1 a1
 refine wpList_nil ?_
 refine then_n ?_
 refine wp_seq ?_
 refine wp_seq ?_
 refine wp_region_lit ?_
 refine wl_val ha2 rfl rfl rfl (op_move ha2 rfl rfl) ?_
 intro a3 ha3; clear ha2 a2
 refine wl_callR ha3 rfl rfl rfl (op_call ha3 rfl cb17 rfl) (c_impl_AreCustomers _ v_list list (h_list.ext pos_shCust hx0) (by first | assumption | omega | (simp; omega) | (intro c hc; have := cuOk_bd (cuB_el (by assumption) c hc); omega) | (intro c hc; have := cuOk_bd (cuB_el (by assumption) c (List.mem_of_mem_take hc)); omega) | (intro c hc; have := cuOk_bd (cuB_el (by assumption) c (List.mem_of_mem_drop hc)); omega))) ?_
 rintro v4 w5 he6 rfl a7 ha7; clear ha3 a3
 have hx8 := hx0.trans' he6
 have hzhx8 := he6.size
 refine wl_val ha7 rfl rfl rfl (op_not ha7 rfl rfl) ?_
 intro a9 ha9; clear ha7 a7
 refine wpList_nil ?_
 refine then_n ?_
 rcases Bool.eq_false_or_eq_true (cuB list) with c10 | c10
 ·
  rw [c10] at ha9
  have hlenc10 := cuB_len c10
  have hcuc10 := cuB_el c10
  refine cond_f ha9 rfl ?_
  refine wp_skip ?_
  refine then_n ?_
  refine wp_seq ?_
  refine wp_seq ?_
  refine wp_region_lit ?_
  refine wl_val ha9 rfl rfl rfl (op_move ha9 rfl rfl) ?_
  intro a11 ha11; clear ha9 a9
  refine wl_callR ha11 rfl rfl rfl (op_call ha11 rfl cb63 rfl) (c_impl_within _ most (0 : Int) (20 : Int) ) ?_
  rintro v12 w13 he14 rfl a15 ha15; clear ha11 a11
  have hx16 := hx8.trans' he14
  have hzhx16 := he14.size
  refine wl_val ha15 rfl rfl rfl (op_not ha15 rfl rfl) ?_
  intro a17 ha17; clear ha15 a15
  refine wpList_nil ?_
  refine then_n ?_
  rcases Bool.eq_false_or_eq_true (decide ((0 : Int) ≤ most) && decide (most ≤ (20 : Int))) with c18 | c18
  ·
   rw [c18] at ha17
   have hmc18 : 0 ≤ most ∧ most ≤ 20 := by simpa using c18
   refine cond_f ha17 rfl ?_
   refine wp_skip ?_
   refine then_n ?_
   refine wp_seq ?_
   refine wp_region_lit ?_
   refine wl_val ha17 rfl rfl rfl (op_assign ha17 rfl rfl) ?_
   intro a19 ha19; clear ha17 a17
   refine wpList_nil ?_
   refine then_n ?_
   refine wp_seq ?_
   refine wp_seq ?_
   refine wp_region_lit ?_
   refine wl_val ha19 rfl rfl rfl (op_move ha19 rfl rfl) ?_
   intro a20 ha20; clear ha19 a19
   refine wl_val ha20 rfl rfl rfl (op_len_sl ha20 rfl Try.underlying25 rfl h_list) ?_
   intro a21 ha21; clear ha20 a20
   refine wl_val ha21 rfl rfl rfl (op_move ha21 rfl rfl) ?_
   intro a22 ha22; clear ha21 a21
   refine wpList_nil ?_
   refine then_n ?_
   refine wp_block ?_
   refine loop_inv (X := Nat × Value × (List ((Str × Int × List Str) × Value))) (fun (⟨i, v, zs⟩ : Nat × Value × (List ((Str × Int × List Str) × Value))) fr wl => Sl 76 fr [(1, .int .i64 most), (6, v), (19, v_list), (20, .int .i64 ((list.length : Nat) : Int)), (21, .int .i64 ((i : Nat) : Int))] ∧ Ext w0 wl ∧ Own shCustN 55 w13.heap.size w13.heap.size wl.heap.size wl v zs ∧ w13.heap.size ≤ wl.heap.size ∧ (i ≤ list.length) ∧ (zs.length = i) ∧ (UpK (fun z : (Str × Int × List Str) × Value => sinK z.1) zs) ∧ (ordGo (list.drop i) (zs.map (·.1)) = ordS list)) (fun (⟨i, v, zs⟩ : Nat × Value × (List ((Str × Int × List Str) × Value))) => list.length - i) (0, (.slice none 0 0), []) ?_ ?_
   ·
    exact ⟨(Sl.cons_ ha22 rfl rfl (Sl.cons_ ha22 rfl rfl (Sl.cons_ ha22 rfl rfl (Sl.cons_ ha22 rfl rfl (Sl.cons_ ha22 rfl (int_eq (by omega)) (Sl.nil_ ha22)))))), hx16, (Own.nil _ _ _ _ _ _), (by omega), (by omega), (by rfl), (by exact List.Pairwise.nil), (by rfl)⟩
   ·
    clear ha22 a22
    rintro ⟨i, v, zs⟩ a26 w23 ⟨ha26, hx24, hf25, hzl27, hi, hl, hU, hF⟩
    have hzhx24 := hx24.size
    refine wp_seq ?_
    refine wp_region_lit ?_
    refine wl_val ha26 rfl rfl rfl (op_lss ha26 rfl rfl rfl) ?_
    intro a28 ha28; clear ha26 a26
    refine wpList_nil ?_
    refine then_n ?_
    refine wp_seq ?_
    by_cases c29 : ((i : Nat) : Int) < ((list.length : Nat) : Int)
    ·
     rw [decide_eq_true c29] at ha28
     refine cond_t ha28 rfl ?_
     refine wp_skip ?_
     refine then_n ?_
     refine wp_seq ?_
     refine wp_block ?_
     refine wp_seq ?_
     refine wp_region_lit ?_
     obtain ⟨x30, hx30⟩ := get_ex (xs := list) (j := i) (by first | omega | (simp only [List.length_set, List.length_append, List.length_take, List.length_drop, List.length_singleton]; omega))
     obtain ⟨p31, c32, hi33, hc34, hr35, hs36⟩ := Rds.at_ h_list hx30
     obtain ⟨v37, rfl, b38, b39, b40⟩ := inv_shCust hr35
     have hlb40 := b40.length_le
     have hbx30 := cuOk_bd (hcuc10 _ (List.mem_of_getElem? hx30))
     refine wl_val ha28 rfl rfl rfl (op_indexAddr ha28 rfl Try.underlying25 ti55 rfl rfl (by omega) hi33) ?_
     intro a41 ha41; clear ha28 a28
     refine wl_val ha41 rfl rfl rfl (op_loadS ha41 rfl Try.underlying55 ti55 rfl rfl (hc34.ext hx24)) ?_
     intro a42 ha42; clear ha41 a41
     refine wl_eff ha42 rfl rfl rfl (op_alloc' rfl ti55 rfl) ?_
     rintro _ w44 ⟨rfl, he45, hb46, hz47⟩ a48 ha48; clear ha42 a42
     have hx49 := hx24.trans' he45
     have hzhx49 := he45.size
     replace hf25 := hf25.ext he45
     refine wl_effS ha48 rfl rfl (op_storeAll' ha48 rfl ti55 rfl rfl hb46 rfl rfl (by intro u hu; have hu : u ∈ ([St x30.1, .int .i64 x30.2.1, v37] : List Value) := hu; simp only [List.mem_cons, List.mem_nil_iff, or_false] at hu; rcases hu with rfl | rfl | rfl <;> first | rfl | exact b40.one) rfl) ?_
     rintro w50 ⟨hb52, hst51, hz53⟩
     have hx54 := hx49.stp hst51 (by intro q hq; cases hq; exact (by omega))
     have hzhx54 := hst51.size
     replace hf25 := hf25.stp hst51 (by intro q hq; cases hq; omega)
     clear hb46
     refine wpList_nil ?_
     refine then_n ?_
     refine wp_seq ?_
     refine wp_region_lit ?_
     refine wl_val ha48 rfl rfl rfl (op_move ha48 rfl rfl) ?_
     intro a55 ha55; clear ha48 a48
     refine wl_val ha55 rfl rfl rfl (op_len_sl ha55 rfl Try.underlying25 rfl (hf25.rds pos_shCustN)) ?_
     intro a56 ha56; clear ha55 a55
     refine wl_val ha56 rfl rfl rfl (op_assign ha56 rfl rfl) ?_
     intro a57 ha57; clear ha56 a56
     refine wpList_nil ?_
     refine then_n ?_
     refine wp_seq ?_
     refine wp_block ?_
     refine loop_inv (X := Nat) (fun (k : Nat) fr wl => Sl 76 fr [(1, .int .i64 most), (6, v), (8, .pointer (some (⟨w23.heap.size, 0, none⟩ : Addr))), (9, .int .i64 ((k : Nat) : Int)), (19, v_list), (20, .int .i64 ((list.length : Nat) : Int)), (21, .int .i64 ((i : Nat) : Int))] ∧ Ext w0 wl ∧ Own shCustN 55 w13.heap.size w13.heap.size w23.heap.size wl v zs ∧ Box wl w23.heap.size 55 [St x30.1, .int .i64 x30.2.1, v37] ∧ w50.heap.size ≤ wl.heap.size ∧ (k ≤ zs.length) ∧ (∀ (j : Nat) (y : (Str × Int × List Str) × Value), k ≤ j → zs[j]? = some y → sinK x30 < sinK y.1)) (fun (k : Nat) => k) (zs.length) ?_ ?_
     ·
      exact ⟨(Sl.cons_ ha57 rfl rfl (Sl.cons_ ha57 rfl rfl (Sl.cons_ ha57 rfl rfl (Sl.cons_ ha57 rfl (int_eq (by omega)) (Sl.cons_ ha57 rfl rfl (Sl.cons_ ha57 rfl rfl (Sl.cons_ ha57 rfl rfl (Sl.nil_ ha57)))))))), hx54, hf25, hb52, (by omega), (by omega), (by intro j y hj hy; have := (List.getElem?_eq_some_iff.1 hy).1; omega)⟩
     ·
      clear ha57 a57
      rintro k a62 w58 ⟨ha62, hx59, hf60, hf61, hzl63, hk, hk2⟩
      have hzhx59 := hx59.size
      refine wp_seq ?_
      refine wp_seq ?_
      refine dr_enter Ext follows_mixed ?_
      intro w64 he65
      have hx66 := hx59.trans' he65
      have hzhx66 := he65.size
      replace hf60 := hf60.ext he65
      replace hf61 := hf61.ext he65
      have hs67 : Ext w64 w64 := Ext.rfl' _
      refine dr_val (i := 0) ha62 rfl (by kernel_rfl) (by kernel_rfl) (by kernel_rfl) rfl rfl rfl hs67 (fun w' hw' => op_move ha62 rfl rfl) ?_
      intro a68 ha68; clear ha62 a62
      refine dr_val (i := 1) ha68 rfl (by kernel_rfl) (by kernel_rfl) (by kernel_rfl) rfl rfl rfl hs67 (fun w' hw' => op_gtr ha68 rfl rfl rfl) ?_
      intro a69 ha69; clear ha68 a68
      refine dr_val (i := 2) ha69 rfl (by kernel_rfl) (by kernel_rfl) (by kernel_rfl) rfl rfl rfl hs67 (fun w' hw' => op_move ha69 rfl rfl) ?_
      intro a70 ha70; clear ha69 a69
      by_cases c71 : (0 : Int) < ((k : Nat) : Int)
      ·
       rw [decide_eq_true c71] at ha70
       refine dr_val (i := 3) ha70 rfl (by kernel_rfl) (by kernel_rfl) (by kernel_rfl) rfl rfl rfl hs67 (fun w' hw' => op_move ha70 rfl rfl) ?_
       intro a72 ha72; clear ha70 a70
       refine dr_val (i := 4) ha72 rfl (by kernel_rfl) (by kernel_rfl) (by kernel_rfl) rfl rfl rfl hs67 (fun w' hw' => op_move ha72 rfl rfl) ?_
       intro a73 ha73; clear ha72 a72
       refine dr_val (i := 5) ha73 rfl (by kernel_rfl) (by kernel_rfl) (by kernel_rfl) rfl rfl rfl hs67 (fun w' hw' => (op_sub ha73 rfl rfl rfl).int (IntWalk.i64_in _ (by omega))) ?_
       intro a74 ha74; clear ha73 a73
       obtain ⟨x75, hx75⟩ := get_ex (xs := zs) (j := (k - 1)) (by first | omega | (simp only [List.length_set, List.length_append, List.length_take, List.length_drop, List.length_singleton]; omega))
       obtain ⟨p76, c77, hi78, hc79, hr80, hs81⟩ := Rds.at_ (hf60.rds pos_shCustN) hx75
       obtain ⟨rfl, b82, b83, b84⟩ := inv_shCustN hr80
       obtain ⟨_, _⟩ : _ ∧ _ := hs81
       refine dr_val (i := 6) ha74 rfl (by kernel_rfl) (by kernel_rfl) (by kernel_rfl) rfl rfl rfl hs67 (fun w' hw' => op_indexAddr ha74 rfl Try.underlying25 ti55 rfl rfl (by omega) hi78) ?_
       intro a85 ha85; clear ha74 a74
       refine dr_val (i := 7) ha85 rfl (by kernel_rfl) (by kernel_rfl) (by kernel_rfl) rfl rfl rfl hs67 (fun w' hw' => op_fieldAddr (sz := 0) ha85 rfl Try.underlying55 rfl rfl ti2 rfl) ?_
       intro a86 ha86; clear ha85 a85
       refine dr_val (i := 8) ha86 rfl (by kernel_rfl) (by kernel_rfl) (by kernel_rfl) rfl rfl rfl hs67 (fun w' hw' => op_loadF (off := 1) ha86 rfl Try.underlying2 rfl rfl (hc79.ext hw') rfl) ?_
       intro a87 ha87; clear ha86 a86
       refine dr_val (i := 9) ha87 rfl (by kernel_rfl) (by kernel_rfl) (by kernel_rfl) rfl rfl rfl hs67 (fun w' hw' => op_fieldAddr (sz := 0) ha87 rfl Try.underlying55 rfl rfl ti2 rfl) ?_
       intro a88 ha88; clear ha87 a87
       refine dr_val (i := 10) ha88 rfl (by kernel_rfl) (by kernel_rfl) (by kernel_rfl) rfl rfl rfl hs67 (fun w' hw' => op_loadF (off := 1) ha88 rfl Try.underlying2 rfl rfl (hf61.ext hw').cells rfl) ?_
       intro a89 ha89; clear ha88 a88
       refine dr_val (i := 11) ha89 rfl (by kernel_rfl) (by kernel_rfl) (by kernel_rfl) rfl rfl rfl hs67 (fun w' hw' => op_gtr ha89 rfl rfl rfl) ?_
       intro a90 ha90; clear ha89 a89
       refine dr_val (i := 12) ha90 rfl (by kernel_rfl) (by kernel_rfl) (by kernel_rfl) rfl rfl rfl hs67 (fun w' hw' => op_pick_t ha90 rfl rfl rfl) ?_
       intro a91 ha91; clear ha90 a90
       refine dr_end (by kernel_rfl) ?_
       replace hf60 := hf60.ext hs67
       replace hf61 := hf61.ext hs67
       replace hc79 := hc79.ext hs67
       refine then_n ?_
       by_cases c92 : x30.2.1 < x75.1.2.1
       ·
        rw [decide_eq_true c92] at ha91
        refine cond_t ha91 rfl ?_
        refine wp_skip ?_
        refine then_n ?_
        refine wp_block ?_
        refine wp_region_lit ?_
        refine wl_val ha91 rfl rfl rfl (op_move ha91 rfl rfl) ?_
        intro a93 ha93; clear ha91 a91
        refine wl_val ha93 rfl rfl rfl ((op_sub ha93 rfl rfl rfl).int (IntWalk.i64_in _ (by omega))) ?_
        intro a94 ha94; clear ha93 a93
        refine wl_val ha94 rfl rfl rfl (op_assign ha94 rfl rfl) ?_
        intro a95 ha95; clear ha94 a94
        refine wpList_nil ?_
        refine block_n ?_
        refine round_end (x := k) ((k - 1)) ?_ ?_
        ·
         refine ⟨(Sl.cons_ ha95 rfl rfl (Sl.cons_ ha95 rfl rfl (Sl.cons_ ha95 rfl rfl (Sl.cons_ ha95 rfl (int_eq (by omega)) (Sl.cons_ ha95 rfl rfl (Sl.cons_ ha95 rfl rfl (Sl.cons_ ha95 rfl rfl (Sl.nil_ ha95)))))))), hx66, hf60, hf61, (by omega), (by omega), (by intro j y hj hy; by_cases e : j = k - 1; (subst e; rw [hx75] at hy; cases hy; exact c92); exact hk2 j y (by omega) hy)⟩
        ·show (((k - 1)) : Nat) < k; omega
       ·
        rw [decide_eq_false c92] at ha91
        refine cond_f ha91 rfl ?_
        refine wp_exit ?_
        refine then_e ?_
        refine then_e ?_
        refine block_hit ?_
        refine then_n ?_
        refine wp_seq ?_
        refine wp_region_lit ?_
        refine wl_val ha91 rfl rfl rfl (op_move ha91 rfl rfl) ?_
        intro a96 ha96; clear ha91 a91
        refine wl_val ha96 rfl rfl rfl (op_build (vs := []) (cs := #[St (([] : Str)), .int .i64 (0 : Int), .slice none 0 0]) ha96 rfl Try.underlying55 ti55 bp55 rfl rfl) ?_
        intro a97 ha97; clear ha96 a96
        refine wl_eff ha97 rfl rfl rfl (op_buildSlice (s := shCustN) (xs := [(((([] : Str), (0 : Int), []) : Str × Int × List Str), (.slice none 0 0 : Value))]) (cs := [St (([] : Str)), .int .i64 (0 : Int), .slice none 0 0]) (vs := [(0, .agg #[St (([] : Str)), .int .i64 (0 : Int), .slice none 0 0])]) (S := fun _ => False) (le := w64.heap.size) ha97 rfl pos_shCustN Try.underlying25 ti55 rfl rfl (by decide) (by kernel_rfl) (Els.single (mk_shCustN ((((([] : Str), (0 : Int), []) : Str × Int × List Str), (.slice none 0 0 : Value))) (by first | assumption | omega | (simp; done) | (dsimp only; omega) | (dsimp only; assumption) | exact ⟨by omega, by omega⟩) (by first | assumption | omega | (simp; done) | (dsimp only; omega) | (dsimp only; assumption) | exact ⟨by omega, by omega⟩) (by first | rfl | assumption | exact Own.one (by assumption) | exact Rds.one (by assumption)))) (fun _ h => h.elim)) ?_
        rintro v98 w99 ⟨ho100, he101, hob102⟩ a103 ha103; clear ha97 a97
        have hx104 := hx66.trans' he101
        have hzhx104 := he101.size
        replace hf60 := hf60.ext he101
        replace hf61 := hf61.ext he101
        replace hc79 := hc79.ext he101
        have hN105 : Nst shStr 9 (fun x : Str × Int × List Str => x.2.2) w64.heap.size w99.heap.size w99 ([(((([] : Str), (0 : Int), []) : Str × Int × List Str), (.slice none 0 0 : Value))]) := Nst.one (Own.nil _ _ _ _ _ _)
        refine wl_eff ha103 rfl rfl rfl (op_append (ts := #[]) (s := shCustN) ha103 rfl Try.underlying25 ti55 rfl pos_shCustN rfl rfl hf60 (ho100.rds pos_shCustN) (by omega) (by omega) (by first | omega | (simp; omega) | (simp only [List.length_append, List.length_take, List.length_drop, List.length_singleton] at *; omega)) (by first | omega | (simp; omega) | (simp only [List.length_append, List.length_take, List.length_drop, List.length_singleton] at *; omega)) (.inl flat_shCustN)) ?_
        rintro v106 w107 ⟨ho108, hst109, hob110⟩ a111 ha111; clear ha103 a103
        have hx112 := hx104.stp hst109 (by intro q hq; have hq0 := hf60.lt q hq; omega)
        have hzhx112 := hst109.size
        replace hf61 := hf61.stp hst109 (by intro q hq; have hq0 := hf60.lt q hq; omega)
        replace ho100 := ho100.stp hst109 (by intro q hq; have hq0 := hf60.lt q hq; omega)
        replace hN105 := hN105.stp hst109 (by intro q hq; have hq0 := hf60.lt q hq; omega)
        have hsp113 : ∀ q, Value.ownBlock v106 = some q → q ≠ w23.heap.size := by intro q hq; have hq0 := hf61.lt; rcases hob110 with h | h; (rw [h] at hq; first | (have hq1 := hf60.lt q hq; omega)); (rw [h] at hq; cases hq; omega)
        have hsp114 : ∀ q, Value.ownBlock v106 = some q → Value.ownBlock v98 ≠ some q := by intro q hq hb; have hq0 := ho100.lt q hb; rcases hob110 with h | h; (rw [h] at hq; first | (have hq1 := hf60.lt q hq; omega)); (rw [h] at hq; cases hq; omega)
        have hlaq115 : ((zs ++ [(((([] : Str), (0 : Int), []) : Str × Int × List Str), (.slice none 0 0 : Value))])).length = zs.length + 1 := by simp
        refine wl_val ha111 rfl rfl rfl (op_assign ha111 rfl rfl) ?_
        intro a116 ha116; clear ha111 a111
        refine wpList_nil ?_
        refine then_n ?_
        refine wp_seq ?_
        refine dr_enter (fun wa_ wb_ => Stp wa_ wb_ (Value.ownBlock v106)) follows_mixed ?_
        intro w117 he118
        have hx119 := hx112.trans' he118
        have hzhx119 := he118.size
        replace hf61 := hf61.ext he118
        replace ho100 := ho100.ext he118
        replace hN105 := hN105.ext he118
        replace ho108 := ho108.ext he118
        have hs120 : Ext w117 w117 := Ext.rfl' _
        refine dr_val (i := 0) ha116 rfl (by kernel_rfl) (by kernel_rfl) (by kernel_rfl) rfl rfl rfl (Stp.of_ext hs120 _) (fun w' hw' => op_move ha116 rfl rfl) ?_
        intro a121 ha121; clear ha116 a116
        refine dr_val (i := 1) ha121 rfl (by kernel_rfl) (by kernel_rfl) (by kernel_rfl) rfl rfl rfl (Stp.of_ext hs120 _) (fun w' hw' => op_move ha121 rfl rfl) ?_
        intro a122 ha122; clear ha121 a121
        refine dr_val (i := 2) ha122 rfl (by kernel_rfl) (by kernel_rfl) (by kernel_rfl) rfl rfl rfl (Stp.of_ext hs120 _) (fun w' hw' => (op_add ha122 rfl rfl rfl).int (IntWalk.i64_in _ (by omega))) ?_
        intro a123 ha123; clear ha122 a122
        obtain ⟨u124, hu125, hpp127, hr126⟩ := Own.partw ho108 pos_shCustN (by first | omega | (simp; done) | (simp; omega)) Try.underlying25 ti55 (some (.int .i64 ((k + 1) : Nat))) none ((k + 1)) (((zs ++ [(((([] : Str), (0 : Int), []) : Str × Int × List Str), (.slice none 0 0 : Value))])).length) (.inr ⟨.i64, rfl⟩) (.inl ⟨rfl, rfl⟩) (by first | omega | (simp; omega)) (by first | omega | (simp; omega))
        replace hr126 := hr126.cast (ys := ((zs ++ [(((([] : Str), (0 : Int), []) : Str × Int × List Str), (.slice none 0 0 : Value))])).drop ((k + 1))) (by first | rw [List.take_length] | simp)
        refine dr_val (i := 3) ha123 rfl (by kernel_rfl) (by kernel_rfl) (by kernel_rfl) rfl rfl rfl (Stp.of_ext hs120 _) (fun w' hw' => op_slice_f (by omega) ha123 rfl rfl rfl hu125) ?_
        intro a128 ha128; clear ha123 a123
        refine dr_val (i := 4) ha128 rfl (by kernel_rfl) (by kernel_rfl) (by kernel_rfl) rfl rfl rfl (Stp.of_ext hs120 _) (fun w' hw' => op_move ha128 rfl rfl) ?_
        intro a129 ha129; clear ha128 a128
        refine dr_val (i := 5) ha129 rfl (by kernel_rfl) (by kernel_rfl) (by kernel_rfl) rfl rfl rfl (Stp.of_ext hs120 _) (fun w' hw' => op_move ha129 rfl rfl) ?_
        intro a130 ha130; clear ha129 a129
        obtain ⟨u131, hu132, hpp134, hr133⟩ := Own.partw ho108 pos_shCustN (by first | omega | (simp; done) | (simp; omega)) Try.underlying25 ti55 (some (.int .i64 (k : Nat))) none k (((zs ++ [(((([] : Str), (0 : Int), []) : Str × Int × List Str), (.slice none 0 0 : Value))])).length) (.inr ⟨.i64, rfl⟩) (.inl ⟨rfl, rfl⟩) (by first | omega | (simp; omega)) (by first | omega | (simp; omega))
        replace hr133 := hr133.cast (ys := ((zs ++ [(((([] : Str), (0 : Int), []) : Str × Int × List Str), (.slice none 0 0 : Value))])).drop k) (by first | rw [List.take_length] | simp)
        refine dr_val (i := 6) ha130 rfl (by kernel_rfl) (by kernel_rfl) (by kernel_rfl) rfl rfl rfl (Stp.of_ext hs120 _) (fun w' hw' => op_slice_f (by omega) ha130 rfl rfl rfl hu132) ?_
        intro a135 ha135; clear ha130 a130
        refine dr_one (i := 7) (by kernel_rfl) ?_
        replace hf61 := hf61.ext hs120
        replace ho100 := ho100.ext hs120
        replace hN105 := hN105.ext hs120
        replace ho108 := ho108.ext hs120
        replace hr126 := hr126.ext pos_shCustN hs120
        replace hr133 := hr133.ext pos_shCustN hs120
        refine po_eff ha135 rfl rfl rfl rfl (op_copyIn (s := shCustN) ha135 rfl Try.underlying25 ti55 rfl rfl ho108 (by first | omega | (simp; done) | (simp; omega)) hpp127 hpp134) ?_
        rintro _ w136 ⟨rfl, ho138, hst137, hz139⟩ a140 ha140; clear ha135 a135
        have hx141 := hx119.stp hst137 (by intro q hq; have hq0 := ho108.lt q hq; omega)
        have hzhx141 := hst137.size
        first | replace hf61 := hf61.stp hst137 (by intro q hq; have hq0 := ho108.lt q hq; omega) | replace hf61 := hf61.stp hst137 (fun q hq e => hsp113 q hq e.symm)
        first | replace ho100 := ho100.stp hst137 (by intro q hq; have hq0 := ho108.lt q hq; omega) | replace ho100 := ho100.stpF flat_shCustN hst137 (fun q hq => hsp114 q hq)
        first | replace hN105 := hN105.stpF flat_shStr hst137 ho108 rfl | replace hN105 := hN105.stp hst137 (by intro q hq; have hq0 := ho108.lt q hq; omega)
        clear ho108
        have hs142 := (Stp.of_ext hs120 (Value.ownBlock v106)).trans' hst137
        refine ⟨hs142, ?_⟩
        refine dr_end (by kernel_rfl) ?_
        refine then_n ?_
        refine wp_region_lit ?_
        refine wl_val ha140 rfl rfl rfl (op_move ha140 rfl rfl) ?_
        intro a143 ha143; clear ha140 a140
        refine wl_val ha143 rfl rfl rfl (op_move ha143 rfl rfl) ?_
        intro a144 ha144; clear ha143 a143
        refine wl_val ha144 rfl rfl rfl (op_loadS ha144 rfl Try.underlying55 ti55 rfl rfl hf61.cells) ?_
        intro a145 ha145; clear ha144 a144
        obtain ⟨x146, hx146⟩ := get_ex (xs := (((zs ++ [(((([] : Str), (0 : Int), []) : Str × Int × List Str), (.slice none 0 0 : Value))])).take ((k + 1)) ++ (((zs ++ [(((([] : Str), (0 : Int), []) : Str × Int × List Str), (.slice none 0 0 : Value))])).drop k).take (min (((zs ++ [(((([] : Str), (0 : Int), []) : Str × Int × List Str), (.slice none 0 0 : Value))])).length - (k + 1)) (((zs ++ [(((([] : Str), (0 : Int), []) : Str × Int × List Str), (.slice none 0 0 : Value))])).length - k)) ++ ((zs ++ [(((([] : Str), (0 : Int), []) : Str × Int × List Str), (.slice none 0 0 : Value))])).drop ((k + 1) + (min (((zs ++ [(((([] : Str), (0 : Int), []) : Str × Int × List Str), (.slice none 0 0 : Value))])).length - (k + 1)) (((zs ++ [(((([] : Str), (0 : Int), []) : Str × Int × List Str), (.slice none 0 0 : Value))])).length - k))))) (j := k) (by first | omega | (simp only [List.length_set, List.length_append, List.length_take, List.length_drop, List.length_singleton]; omega))
        obtain ⟨p147, c148, hi149, hc150, hr151, hs152⟩ := Rds.at_ (ho138.rds pos_shCustN) hx146
        obtain ⟨rfl, b153, b154, b155⟩ := inv_shCustN hr151
        obtain ⟨_, _⟩ : _ ∧ _ := hs152
        refine wl_val ha145 rfl rfl rfl (op_indexAddr ha145 rfl Try.underlying25 ti55 rfl rfl (by omega) hi149) ?_
        intro a156 ha156; clear ha145 a145
        refine wl_effS ha156 rfl rfl (op_setElem (s := shCustN) (ds := [St x30.1, .int .i64 x30.2.1, v37]) (S' := fun _ => False) ha156 rfl ti55 rfl rfl rfl ho138 pos_shCustN hi149 (by first | omega | (simp only [List.length_set, List.length_append, List.length_take, List.length_drop, List.length_singleton]; omega)) (mk_shCustN ((x30, (v37 : Value))) (by first | assumption | omega | (simp; done) | (dsimp only; omega) | (dsimp only; assumption) | exact ⟨by omega, by omega⟩) (by first | assumption | omega | (simp; done) | (dsimp only; omega) | (dsimp only; assumption) | exact ⟨by omega, by omega⟩) b40.one) (fun _ h => h.elim)) ?_
        rintro w157 ⟨ho159, hst158, hz160⟩
        have hx161 := hx141.stp hst158 (by intro q hq; have hq0 := ho138.lt q hq; omega)
        have hzhx161 := hst158.size
        first | replace hf61 := hf61.stp hst158 (by intro q hq; have hq0 := ho138.lt q hq; omega) | replace hf61 := hf61.stp hst158 (fun q hq e => hsp113 q hq e.symm)
        first | replace ho100 := ho100.stp hst158 (by intro q hq; have hq0 := ho138.lt q hq; omega) | replace ho100 := ho100.stpF flat_shCustN hst158 (fun q hq => hsp114 q hq)
        first | replace hN105 := hN105.stpF flat_shStr hst158 ho138 rfl | replace hN105 := hN105.stp hst158 (by intro q hq; have hq0 := ho138.lt q hq; omega)
        clear ho138
        have hlsho159 : ((((((zs ++ [(((([] : Str), (0 : Int), []) : Str × Int × List Str), (.slice none 0 0 : Value))])).take ((k + 1)) ++ (((zs ++ [(((([] : Str), (0 : Int), []) : Str × Int × List Str), (.slice none 0 0 : Value))])).drop k).take (min (((zs ++ [(((([] : Str), (0 : Int), []) : Str × Int × List Str), (.slice none 0 0 : Value))])).length - (k + 1)) (((zs ++ [(((([] : Str), (0 : Int), []) : Str × Int × List Str), (.slice none 0 0 : Value))])).length - k)) ++ ((zs ++ [(((([] : Str), (0 : Int), []) : Str × Int × List Str), (.slice none 0 0 : Value))])).drop ((k + 1) + (min (((zs ++ [(((([] : Str), (0 : Int), []) : Str × Int × List Str), (.slice none 0 0 : Value))])).length - (k + 1)) (((zs ++ [(((([] : Str), (0 : Int), []) : Str × Int × List Str), (.slice none 0 0 : Value))])).length - k))))).set k ((x30, (v37 : Value))))).length = ((((zs ++ [(((([] : Str), (0 : Int), []) : Str × Int × List Str), (.slice none 0 0 : Value))])).take ((k + 1)) ++ (((zs ++ [(((([] : Str), (0 : Int), []) : Str × Int × List Str), (.slice none 0 0 : Value))])).drop k).take (min (((zs ++ [(((([] : Str), (0 : Int), []) : Str × Int × List Str), (.slice none 0 0 : Value))])).length - (k + 1)) (((zs ++ [(((([] : Str), (0 : Int), []) : Str × Int × List Str), (.slice none 0 0 : Value))])).length - k)) ++ ((zs ++ [(((([] : Str), (0 : Int), []) : Str × Int × List Str), (.slice none 0 0 : Value))])).drop ((k + 1) + (min (((zs ++ [(((([] : Str), (0 : Int), []) : Str × Int × List Str), (.slice none 0 0 : Value))])).length - (k + 1)) (((zs ++ [(((([] : Str), (0 : Int), []) : Str × Int × List Str), (.slice none 0 0 : Value))])).length - k))))).length := List.length_set
        refine wpList_nil ?_
        refine block_n ?_
        refine then_n ?_
        refine wp_region_lit ?_
        refine wl_val ha156 rfl rfl rfl ((op_add ha156 rfl rfl rfl).int (IntWalk.i64_in _ (by omega))) ?_
        intro a162 ha162; clear ha156 a156
        refine wl_val ha162 rfl rfl rfl (op_move ha162 rfl rfl) ?_
        intro a163 ha163; clear ha162 a162
        refine wpList_nil ?_
        have hins := insK_back (key := fun z : Cust × Value => sinK z.1) (x := (x30, v37)) hU hk2 (.inr ⟨_, hx75, c92⟩)
        have hieq := ins_eq (acc := zs) (k := k) (x := (x30, v37)) (z := ((([], 0, []) : Str × Int × List Str), (.slice none 0 0 : Value))) (by omega)
        rw [← hins] at hieq
        refine round_end (x := (i, v, zs)) ((i + 1), v106, (((((zs ++ [(((([] : Str), (0 : Int), []) : Str × Int × List Str), (.slice none 0 0 : Value))])).take ((k + 1)) ++ (((zs ++ [(((([] : Str), (0 : Int), []) : Str × Int × List Str), (.slice none 0 0 : Value))])).drop k).take (min (((zs ++ [(((([] : Str), (0 : Int), []) : Str × Int × List Str), (.slice none 0 0 : Value))])).length - (k + 1)) (((zs ++ [(((([] : Str), (0 : Int), []) : Str × Int × List Str), (.slice none 0 0 : Value))])).length - k)) ++ ((zs ++ [(((([] : Str), (0 : Int), []) : Str × Int × List Str), (.slice none 0 0 : Value))])).drop ((k + 1) + (min (((zs ++ [(((([] : Str), (0 : Int), []) : Str × Int × List Str), (.slice none 0 0 : Value))])).length - (k + 1)) (((zs ++ [(((([] : Str), (0 : Int), []) : Str × Int × List Str), (.slice none 0 0 : Value))])).length - k))))).set k ((x30, (v37 : Value))))) ?_ ?_
        ·
         refine ⟨(Sl.cons_ ha163 rfl rfl (Sl.cons_ ha163 rfl rfl (Sl.cons_ ha163 rfl rfl (Sl.cons_ ha163 rfl rfl (Sl.cons_ ha163 rfl (int_eq (by omega)) (Sl.nil_ ha163)))))), hx161, (ho159.fin (by omega) (by omega) (by omega)), (by omega), (by omega), (by rw [hieq, insK_len]; omega), (by rw [hieq]; exact insK_up hU), (by rw [hieq, insK_fst]; rw [drop_cons hx30, ordGo] at hF; exact hF)⟩
        ·show (list.length - ((i + 1)) : Nat) < list.length - i; omega
      ·
       rw [decide_eq_false c71] at ha70
       refine dr_skip (i := 3) ha70 rfl (by kernel_rfl) (by kernel_rfl) (by kernel_rfl) rfl rfl rfl hs67 ?_
       intro a164 ha164; clear ha70 a70
       refine dr_skip (i := 4) ha164 rfl (by kernel_rfl) (by kernel_rfl) (by kernel_rfl) rfl rfl rfl hs67 ?_
       intro a165 ha165; clear ha164 a164
       refine dr_skip (i := 5) ha165 rfl (by kernel_rfl) (by kernel_rfl) (by kernel_rfl) rfl rfl rfl hs67 ?_
       intro a166 ha166; clear ha165 a165
       refine dr_skip (i := 6) ha166 rfl (by kernel_rfl) (by kernel_rfl) (by kernel_rfl) rfl rfl rfl hs67 ?_
       intro a167 ha167; clear ha166 a166
       refine dr_skip (i := 7) ha167 rfl (by kernel_rfl) (by kernel_rfl) (by kernel_rfl) rfl rfl rfl hs67 ?_
       intro a168 ha168; clear ha167 a167
       refine dr_skip (i := 8) ha168 rfl (by kernel_rfl) (by kernel_rfl) (by kernel_rfl) rfl rfl rfl hs67 ?_
       intro a169 ha169; clear ha168 a168
       refine dr_skip (i := 9) ha169 rfl (by kernel_rfl) (by kernel_rfl) (by kernel_rfl) rfl rfl rfl hs67 ?_
       intro a170 ha170; clear ha169 a169
       refine dr_skip (i := 10) ha170 rfl (by kernel_rfl) (by kernel_rfl) (by kernel_rfl) rfl rfl rfl hs67 ?_
       intro a171 ha171; clear ha170 a170
       refine dr_skip (i := 11) ha171 rfl (by kernel_rfl) (by kernel_rfl) (by kernel_rfl) rfl rfl rfl hs67 ?_
       intro a172 ha172; clear ha171 a171
       refine dr_val (i := 12) ha172 rfl (by kernel_rfl) (by kernel_rfl) (by kernel_rfl) rfl rfl rfl hs67 (fun w' hw' => op_pick_f ha172 rfl rfl rfl) ?_
       intro a173 ha173; clear ha172 a172
       refine dr_end (by kernel_rfl) ?_
       replace hf60 := hf60.ext hs67
       replace hf61 := hf61.ext hs67
       refine then_n ?_
       refine cond_f ha173 rfl ?_
       refine wp_exit ?_
       refine then_e ?_
       refine then_e ?_
       refine block_hit ?_
       refine then_n ?_
       refine wp_seq ?_
       refine wp_region_lit ?_
       refine wl_val ha173 rfl rfl rfl (op_move ha173 rfl rfl) ?_
       intro a174 ha174; clear ha173 a173
       refine wl_val ha174 rfl rfl rfl (op_build (vs := []) (cs := #[St (([] : Str)), .int .i64 (0 : Int), .slice none 0 0]) ha174 rfl Try.underlying55 ti55 bp55 rfl rfl) ?_
       intro a175 ha175; clear ha174 a174
       refine wl_eff ha175 rfl rfl rfl (op_buildSlice (s := shCustN) (xs := [(((([] : Str), (0 : Int), []) : Str × Int × List Str), (.slice none 0 0 : Value))]) (cs := [St (([] : Str)), .int .i64 (0 : Int), .slice none 0 0]) (vs := [(0, .agg #[St (([] : Str)), .int .i64 (0 : Int), .slice none 0 0])]) (S := fun _ => False) (le := w64.heap.size) ha175 rfl pos_shCustN Try.underlying25 ti55 rfl rfl (by decide) (by kernel_rfl) (Els.single (mk_shCustN ((((([] : Str), (0 : Int), []) : Str × Int × List Str), (.slice none 0 0 : Value))) (by first | assumption | omega | (simp; done) | (dsimp only; omega) | (dsimp only; assumption) | exact ⟨by omega, by omega⟩) (by first | assumption | omega | (simp; done) | (dsimp only; omega) | (dsimp only; assumption) | exact ⟨by omega, by omega⟩) (by first | rfl | assumption | exact Own.one (by assumption) | exact Rds.one (by assumption)))) (fun _ h => h.elim)) ?_
       rintro v176 w177 ⟨ho178, he179, hob180⟩ a181 ha181; clear ha175 a175
       have hx182 := hx66.trans' he179
       have hzhx182 := he179.size
       replace hf60 := hf60.ext he179
       replace hf61 := hf61.ext he179
       have hN183 : Nst shStr 9 (fun x : Str × Int × List Str => x.2.2) w64.heap.size w177.heap.size w177 ([(((([] : Str), (0 : Int), []) : Str × Int × List Str), (.slice none 0 0 : Value))]) := Nst.one (Own.nil _ _ _ _ _ _)
       refine wl_eff ha181 rfl rfl rfl (op_append (ts := #[]) (s := shCustN) ha181 rfl Try.underlying25 ti55 rfl pos_shCustN rfl rfl hf60 (ho178.rds pos_shCustN) (by omega) (by omega) (by first | omega | (simp; omega) | (simp only [List.length_append, List.length_take, List.length_drop, List.length_singleton] at *; omega)) (by first | omega | (simp; omega) | (simp only [List.length_append, List.length_take, List.length_drop, List.length_singleton] at *; omega)) (.inl flat_shCustN)) ?_
       rintro v184 w185 ⟨ho186, hst187, hob188⟩ a189 ha189; clear ha181 a181
       have hx190 := hx182.stp hst187 (by intro q hq; have hq0 := hf60.lt q hq; omega)
       have hzhx190 := hst187.size
       replace hf61 := hf61.stp hst187 (by intro q hq; have hq0 := hf60.lt q hq; omega)
       replace ho178 := ho178.stp hst187 (by intro q hq; have hq0 := hf60.lt q hq; omega)
       replace hN183 := hN183.stp hst187 (by intro q hq; have hq0 := hf60.lt q hq; omega)
       have hsp191 : ∀ q, Value.ownBlock v184 = some q → q ≠ w23.heap.size := by intro q hq; have hq0 := hf61.lt; rcases hob188 with h | h; (rw [h] at hq; first | (have hq1 := hf60.lt q hq; omega)); (rw [h] at hq; cases hq; omega)
       have hsp192 : ∀ q, Value.ownBlock v184 = some q → Value.ownBlock v176 ≠ some q := by intro q hq hb; have hq0 := ho178.lt q hb; rcases hob188 with h | h; (rw [h] at hq; first | (have hq1 := hf60.lt q hq; omega)); (rw [h] at hq; cases hq; omega)
       have hlaq193 : ((zs ++ [(((([] : Str), (0 : Int), []) : Str × Int × List Str), (.slice none 0 0 : Value))])).length = zs.length + 1 := by simp
       refine wl_val ha189 rfl rfl rfl (op_assign ha189 rfl rfl) ?_
       intro a194 ha194; clear ha189 a189
       refine wpList_nil ?_
       refine then_n ?_
       refine wp_seq ?_
       refine dr_enter (fun wa_ wb_ => Stp wa_ wb_ (Value.ownBlock v184)) follows_mixed ?_
       intro w195 he196
       have hx197 := hx190.trans' he196
       have hzhx197 := he196.size
       replace hf61 := hf61.ext he196
       replace ho178 := ho178.ext he196
       replace hN183 := hN183.ext he196
       replace ho186 := ho186.ext he196
       have hs198 : Ext w195 w195 := Ext.rfl' _
       refine dr_val (i := 0) ha194 rfl (by kernel_rfl) (by kernel_rfl) (by kernel_rfl) rfl rfl rfl (Stp.of_ext hs198 _) (fun w' hw' => op_move ha194 rfl rfl) ?_
       intro a199 ha199; clear ha194 a194
       refine dr_val (i := 1) ha199 rfl (by kernel_rfl) (by kernel_rfl) (by kernel_rfl) rfl rfl rfl (Stp.of_ext hs198 _) (fun w' hw' => op_move ha199 rfl rfl) ?_
       intro a200 ha200; clear ha199 a199
       refine dr_val (i := 2) ha200 rfl (by kernel_rfl) (by kernel_rfl) (by kernel_rfl) rfl rfl rfl (Stp.of_ext hs198 _) (fun w' hw' => (op_add ha200 rfl rfl rfl).int (IntWalk.i64_in _ (by omega))) ?_
       intro a201 ha201; clear ha200 a200
       obtain ⟨u202, hu203, hpp205, hr204⟩ := Own.partw ho186 pos_shCustN (by first | omega | (simp; done) | (simp; omega)) Try.underlying25 ti55 (some (.int .i64 ((k + 1) : Nat))) none ((k + 1)) (((zs ++ [(((([] : Str), (0 : Int), []) : Str × Int × List Str), (.slice none 0 0 : Value))])).length) (.inr ⟨.i64, rfl⟩) (.inl ⟨rfl, rfl⟩) (by first | omega | (simp; omega)) (by first | omega | (simp; omega))
       replace hr204 := hr204.cast (ys := ((zs ++ [(((([] : Str), (0 : Int), []) : Str × Int × List Str), (.slice none 0 0 : Value))])).drop ((k + 1))) (by first | rw [List.take_length] | simp)
       refine dr_val (i := 3) ha201 rfl (by kernel_rfl) (by kernel_rfl) (by kernel_rfl) rfl rfl rfl (Stp.of_ext hs198 _) (fun w' hw' => op_slice_f (by omega) ha201 rfl rfl rfl hu203) ?_
       intro a206 ha206; clear ha201 a201
       refine dr_val (i := 4) ha206 rfl (by kernel_rfl) (by kernel_rfl) (by kernel_rfl) rfl rfl rfl (Stp.of_ext hs198 _) (fun w' hw' => op_move ha206 rfl rfl) ?_
       intro a207 ha207; clear ha206 a206
       refine dr_val (i := 5) ha207 rfl (by kernel_rfl) (by kernel_rfl) (by kernel_rfl) rfl rfl rfl (Stp.of_ext hs198 _) (fun w' hw' => op_move ha207 rfl rfl) ?_
       intro a208 ha208; clear ha207 a207
       obtain ⟨u209, hu210, hpp212, hr211⟩ := Own.partw ho186 pos_shCustN (by first | omega | (simp; done) | (simp; omega)) Try.underlying25 ti55 (some (.int .i64 (k : Nat))) none k (((zs ++ [(((([] : Str), (0 : Int), []) : Str × Int × List Str), (.slice none 0 0 : Value))])).length) (.inr ⟨.i64, rfl⟩) (.inl ⟨rfl, rfl⟩) (by first | omega | (simp; omega)) (by first | omega | (simp; omega))
       replace hr211 := hr211.cast (ys := ((zs ++ [(((([] : Str), (0 : Int), []) : Str × Int × List Str), (.slice none 0 0 : Value))])).drop k) (by first | rw [List.take_length] | simp)
       refine dr_val (i := 6) ha208 rfl (by kernel_rfl) (by kernel_rfl) (by kernel_rfl) rfl rfl rfl (Stp.of_ext hs198 _) (fun w' hw' => op_slice_f (by omega) ha208 rfl rfl rfl hu210) ?_
       intro a213 ha213; clear ha208 a208
       refine dr_one (i := 7) (by kernel_rfl) ?_
       replace hf61 := hf61.ext hs198
       replace ho178 := ho178.ext hs198
       replace hN183 := hN183.ext hs198
       replace ho186 := ho186.ext hs198
       replace hr204 := hr204.ext pos_shCustN hs198
       replace hr211 := hr211.ext pos_shCustN hs198
       refine po_eff ha213 rfl rfl rfl rfl (op_copyIn (s := shCustN) ha213 rfl Try.underlying25 ti55 rfl rfl ho186 (by first | omega | (simp; done) | (simp; omega)) hpp205 hpp212) ?_
       rintro _ w214 ⟨rfl, ho216, hst215, hz217⟩ a218 ha218; clear ha213 a213
       have hx219 := hx197.stp hst215 (by intro q hq; have hq0 := ho186.lt q hq; omega)
       have hzhx219 := hst215.size
       first | replace hf61 := hf61.stp hst215 (by intro q hq; have hq0 := ho186.lt q hq; omega) | replace hf61 := hf61.stp hst215 (fun q hq e => hsp191 q hq e.symm)
       first | replace ho178 := ho178.stp hst215 (by intro q hq; have hq0 := ho186.lt q hq; omega) | replace ho178 := ho178.stpF flat_shCustN hst215 (fun q hq => hsp192 q hq)
       first | replace hN183 := hN183.stpF flat_shStr hst215 ho186 rfl | replace hN183 := hN183.stp hst215 (by intro q hq; have hq0 := ho186.lt q hq; omega)
       clear ho186
       have hs220 := (Stp.of_ext hs198 (Value.ownBlock v184)).trans' hst215
       refine ⟨hs220, ?_⟩
       refine dr_end (by kernel_rfl) ?_
       refine then_n ?_
       refine wp_region_lit ?_
       refine wl_val ha218 rfl rfl rfl (op_move ha218 rfl rfl) ?_
       intro a221 ha221; clear ha218 a218
       refine wl_val ha221 rfl rfl rfl (op_move ha221 rfl rfl) ?_
       intro a222 ha222; clear ha221 a221
       refine wl_val ha222 rfl rfl rfl (op_loadS ha222 rfl Try.underlying55 ti55 rfl rfl hf61.cells) ?_
       intro a223 ha223; clear ha222 a222
       obtain ⟨x224, hx224⟩ := get_ex (xs := (((zs ++ [(((([] : Str), (0 : Int), []) : Str × Int × List Str), (.slice none 0 0 : Value))])).take ((k + 1)) ++ (((zs ++ [(((([] : Str), (0 : Int), []) : Str × Int × List Str), (.slice none 0 0 : Value))])).drop k).take (min (((zs ++ [(((([] : Str), (0 : Int), []) : Str × Int × List Str), (.slice none 0 0 : Value))])).length - (k + 1)) (((zs ++ [(((([] : Str), (0 : Int), []) : Str × Int × List Str), (.slice none 0 0 : Value))])).length - k)) ++ ((zs ++ [(((([] : Str), (0 : Int), []) : Str × Int × List Str), (.slice none 0 0 : Value))])).drop ((k + 1) + (min (((zs ++ [(((([] : Str), (0 : Int), []) : Str × Int × List Str), (.slice none 0 0 : Value))])).length - (k + 1)) (((zs ++ [(((([] : Str), (0 : Int), []) : Str × Int × List Str), (.slice none 0 0 : Value))])).length - k))))) (j := k) (by first | omega | (simp only [List.length_set, List.length_append, List.length_take, List.length_drop, List.length_singleton]; omega))
       obtain ⟨p225, c226, hi227, hc228, hr229, hs230⟩ := Rds.at_ (ho216.rds pos_shCustN) hx224
       obtain ⟨rfl, b231, b232, b233⟩ := inv_shCustN hr229
       obtain ⟨_, _⟩ : _ ∧ _ := hs230
       refine wl_val ha223 rfl rfl rfl (op_indexAddr ha223 rfl Try.underlying25 ti55 rfl rfl (by omega) hi227) ?_
       intro a234 ha234; clear ha223 a223
       refine wl_effS ha234 rfl rfl (op_setElem (s := shCustN) (ds := [St x30.1, .int .i64 x30.2.1, v37]) (S' := fun _ => False) ha234 rfl ti55 rfl rfl rfl ho216 pos_shCustN hi227 (by first | omega | (simp only [List.length_set, List.length_append, List.length_take, List.length_drop, List.length_singleton]; omega)) (mk_shCustN ((x30, (v37 : Value))) (by first | assumption | omega | (simp; done) | (dsimp only; omega) | (dsimp only; assumption) | exact ⟨by omega, by omega⟩) (by first | assumption | omega | (simp; done) | (dsimp only; omega) | (dsimp only; assumption) | exact ⟨by omega, by omega⟩) b40.one) (fun _ h => h.elim)) ?_
       rintro w235 ⟨ho237, hst236, hz238⟩
       have hx239 := hx219.stp hst236 (by intro q hq; have hq0 := ho216.lt q hq; omega)
       have hzhx239 := hst236.size
       first | replace hf61 := hf61.stp hst236 (by intro q hq; have hq0 := ho216.lt q hq; omega) | replace hf61 := hf61.stp hst236 (fun q hq e => hsp191 q hq e.symm)
       first | replace ho178 := ho178.stp hst236 (by intro q hq; have hq0 := ho216.lt q hq; omega) | replace ho178 := ho178.stpF flat_shCustN hst236 (fun q hq => hsp192 q hq)
       first | replace hN183 := hN183.stpF flat_shStr hst236 ho216 rfl | replace hN183 := hN183.stp hst236 (by intro q hq; have hq0 := ho216.lt q hq; omega)
       clear ho216
       have hlsho237 : ((((((zs ++ [(((([] : Str), (0 : Int), []) : Str × Int × List Str), (.slice none 0 0 : Value))])).take ((k + 1)) ++ (((zs ++ [(((([] : Str), (0 : Int), []) : Str × Int × List Str), (.slice none 0 0 : Value))])).drop k).take (min (((zs ++ [(((([] : Str), (0 : Int), []) : Str × Int × List Str), (.slice none 0 0 : Value))])).length - (k + 1)) (((zs ++ [(((([] : Str), (0 : Int), []) : Str × Int × List Str), (.slice none 0 0 : Value))])).length - k)) ++ ((zs ++ [(((([] : Str), (0 : Int), []) : Str × Int × List Str), (.slice none 0 0 : Value))])).drop ((k + 1) + (min (((zs ++ [(((([] : Str), (0 : Int), []) : Str × Int × List Str), (.slice none 0 0 : Value))])).length - (k + 1)) (((zs ++ [(((([] : Str), (0 : Int), []) : Str × Int × List Str), (.slice none 0 0 : Value))])).length - k))))).set k ((x30, (v37 : Value))))).length = ((((zs ++ [(((([] : Str), (0 : Int), []) : Str × Int × List Str), (.slice none 0 0 : Value))])).take ((k + 1)) ++ (((zs ++ [(((([] : Str), (0 : Int), []) : Str × Int × List Str), (.slice none 0 0 : Value))])).drop k).take (min (((zs ++ [(((([] : Str), (0 : Int), []) : Str × Int × List Str), (.slice none 0 0 : Value))])).length - (k + 1)) (((zs ++ [(((([] : Str), (0 : Int), []) : Str × Int × List Str), (.slice none 0 0 : Value))])).length - k)) ++ ((zs ++ [(((([] : Str), (0 : Int), []) : Str × Int × List Str), (.slice none 0 0 : Value))])).drop ((k + 1) + (min (((zs ++ [(((([] : Str), (0 : Int), []) : Str × Int × List Str), (.slice none 0 0 : Value))])).length - (k + 1)) (((zs ++ [(((([] : Str), (0 : Int), []) : Str × Int × List Str), (.slice none 0 0 : Value))])).length - k))))).length := List.length_set
       refine wpList_nil ?_
       refine block_n ?_
       refine then_n ?_
       refine wp_region_lit ?_
       refine wl_val ha234 rfl rfl rfl ((op_add ha234 rfl rfl rfl).int (IntWalk.i64_in _ (by omega))) ?_
       intro a240 ha240; clear ha234 a234
       refine wl_val ha240 rfl rfl rfl (op_move ha240 rfl rfl) ?_
       intro a241 ha241; clear ha240 a240
       refine wpList_nil ?_
       have hins := insK_back (key := fun z : Cust × Value => sinK z.1) (x := (x30, v37)) hU hk2 (.inl (by omega))
       have hieq := ins_eq (acc := zs) (k := k) (x := (x30, v37)) (z := ((([], 0, []) : Str × Int × List Str), (.slice none 0 0 : Value))) (by omega)
       rw [← hins] at hieq
       refine round_end (x := (i, v, zs)) ((i + 1), v184, (((((zs ++ [(((([] : Str), (0 : Int), []) : Str × Int × List Str), (.slice none 0 0 : Value))])).take ((k + 1)) ++ (((zs ++ [(((([] : Str), (0 : Int), []) : Str × Int × List Str), (.slice none 0 0 : Value))])).drop k).take (min (((zs ++ [(((([] : Str), (0 : Int), []) : Str × Int × List Str), (.slice none 0 0 : Value))])).length - (k + 1)) (((zs ++ [(((([] : Str), (0 : Int), []) : Str × Int × List Str), (.slice none 0 0 : Value))])).length - k)) ++ ((zs ++ [(((([] : Str), (0 : Int), []) : Str × Int × List Str), (.slice none 0 0 : Value))])).drop ((k + 1) + (min (((zs ++ [(((([] : Str), (0 : Int), []) : Str × Int × List Str), (.slice none 0 0 : Value))])).length - (k + 1)) (((zs ++ [(((([] : Str), (0 : Int), []) : Str × Int × List Str), (.slice none 0 0 : Value))])).length - k))))).set k ((x30, (v37 : Value))))) ?_ ?_
       ·
        refine ⟨(Sl.cons_ ha241 rfl rfl (Sl.cons_ ha241 rfl rfl (Sl.cons_ ha241 rfl rfl (Sl.cons_ ha241 rfl rfl (Sl.cons_ ha241 rfl (int_eq (by omega)) (Sl.nil_ ha241)))))), hx239, (ho237.fin (by omega) (by omega) (by omega)), (by omega), (by omega), (by rw [hieq, insK_len]; omega), (by rw [hieq]; exact insK_up hU), (by rw [hieq, insK_fst]; rw [drop_cons hx30, ordGo] at hF; exact hF)⟩
       ·show (list.length - ((i + 1)) : Nat) < list.length - i; omega
    ·
     rw [decide_eq_false c29] at ha28
     refine cond_f ha28 rfl ?_
     refine wp_exit ?_
     refine then_e ?_
     refine then_e ?_
     refine block_hit ?_
     refine then_n ?_
     refine wp_seq ?_
     refine wp_region_lit ?_
     refine wl_val ha28 rfl rfl rfl (op_assign ha28 rfl rfl) ?_
     intro a242 ha242; clear ha28 a28
     refine wpList_nil ?_
     refine then_n ?_
     refine wp_seq ?_
     refine wp_seq ?_
     refine wp_region_lit ?_
     refine wl_val ha242 rfl rfl rfl (op_move ha242 rfl rfl) ?_
     intro a243 ha243; clear ha242 a242
     refine wl_val ha243 rfl rfl rfl (op_len_sl ha243 rfl Try.underlying25 rfl (hf25.rds pos_shCustN)) ?_
     intro a244 ha244; clear ha243 a243
     refine wl_val ha244 rfl rfl rfl (op_move ha244 rfl rfl) ?_
     intro a245 ha245; clear ha244 a244
     refine wpList_nil ?_
     refine then_n ?_
     refine wp_block ?_
     refine loop_inv (X := Nat × Value × (List Str)) (fun (⟨j, v2, acc⟩ : Nat × Value × (List Str)) fr wl => Sl 76 fr [(1, .int .i64 most), (10, v2), (59, v), (60, .int .i64 ((zs.length : Nat) : Int)), (61, .int .i64 ((j : Nat) : Int))] ∧ Ext w0 wl ∧ Own shCustN 55 w13.heap.size w13.heap.size w23.heap.size wl v zs ∧ Own shStr 9 w23.heap.size w23.heap.size wl.heap.size wl v2 acc ∧ w23.heap.size ≤ wl.heap.size ∧ (j ≤ zs.length) ∧ (acc.length ≤ j) ∧ (zs.map (·.1) = ordS list) ∧ (acc = ((ordS list).map (·.1)).take (min j most.toNat))) (fun (⟨j, v2, acc⟩ : Nat × Value × (List Str)) => zs.length - j) (0, (.slice none 0 0), []) ?_ ?_
     ·
      exact ⟨(Sl.cons_ ha245 rfl rfl (Sl.cons_ ha245 rfl rfl (Sl.cons_ ha245 rfl rfl (Sl.cons_ ha245 rfl rfl (Sl.cons_ ha245 rfl (int_eq (by omega)) (Sl.nil_ ha245)))))), hx24, hf25, (Own.nil _ _ _ _ _ _), (by omega), (by omega), (by simp), (by rw [drop_nil (by omega), ordGo] at hF; exact hF), (by simp)⟩
     ·
      clear ha245 a245
      rintro ⟨j, v2, acc⟩ a250 w246 ⟨ha250, hx247, hf249, hf248, hzl251, hj, hl2, hE, hG⟩
      have hzhx247 := hx247.size
      refine wp_seq ?_
      refine wp_region_lit ?_
      refine wl_val ha250 rfl rfl rfl (op_lss ha250 rfl rfl rfl) ?_
      intro a252 ha252; clear ha250 a250
      refine wpList_nil ?_
      refine then_n ?_
      refine wp_seq ?_
      by_cases c253 : ((j : Nat) : Int) < ((zs.length : Nat) : Int)
      ·
       rw [decide_eq_true c253] at ha252
       refine cond_t ha252 rfl ?_
       refine wp_skip ?_
       refine then_n ?_
       refine wp_seq ?_
       refine wp_block ?_
       refine wp_seq ?_
       refine wp_region_lit ?_
       refine wl_val ha252 rfl rfl rfl (op_move ha252 rfl rfl) ?_
       intro a254 ha254; clear ha252 a252
       obtain ⟨x255, hx255⟩ := get_ex (xs := zs) (j := j) (by first | omega | (simp only [List.length_set, List.length_append, List.length_take, List.length_drop, List.length_singleton]; omega))
       obtain ⟨p256, c257, hi258, hc259, hr260, hs261⟩ := Rds.at_ (hf249.rds pos_shCustN) hx255
       obtain ⟨rfl, b262, b263, b264⟩ := inv_shCustN hr260
       obtain ⟨_, _⟩ : _ ∧ _ := hs261
       refine wl_val ha254 rfl rfl rfl (op_indexAddr ha254 rfl Try.underlying25 ti55 rfl rfl (by omega) hi258) ?_
       intro a265 ha265; clear ha254 a254
       refine wl_val ha265 rfl rfl rfl (op_loadS ha265 rfl Try.underlying55 ti55 rfl rfl hc259) ?_
       intro a266 ha266; clear ha265 a265
       refine wl_eff ha266 rfl rfl rfl (op_alloc' rfl ti55 rfl) ?_
       rintro _ w268 ⟨rfl, he269, hb270, hz271⟩ a272 ha272; clear ha266 a266
       have hx273 := hx247.trans' he269
       have hzhx273 := he269.size
       replace hf249 := hf249.ext he269
       replace hf248 := hf248.ext he269
       replace hc259 := hc259.ext he269
       refine wl_val ha272 rfl rfl rfl (op_assign ha272 rfl rfl) ?_
       intro a274 ha274; clear ha272 a272
       refine wl_effS ha274 rfl rfl (op_storeAll' ha274 rfl ti55 rfl rfl hb270 rfl rfl (by intro u hu; have hu : u ∈ ([St x255.1.1, .int .i64 x255.1.2.1, x255.2] : List Value) := hu; simp only [List.mem_cons, List.mem_nil_iff, or_false] at hu; rcases hu with rfl | rfl | rfl <;> first | rfl | exact b264) rfl) ?_
       rintro w275 ⟨hb277, hst276, hz278⟩
       have hx279 := hx273.stp hst276 (by intro q hq; cases hq; exact (by omega))
       have hzhx279 := hst276.size
       replace hf249 := hf249.stp hst276 (by intro q hq; cases hq; omega)
       replace hf248 := hf248.stp hst276 (by intro q hq; cases hq; omega)
       replace hc259 := hc259.stp hst276 (by intro q hq; cases hq; omega)
       clear hb270
       refine wpList_nil ?_
       refine then_n ?_
       refine wp_seq ?_
       refine wp_region_lit ?_
       refine wl_val ha274 rfl rfl rfl (op_move ha274 rfl rfl) ?_
       intro a280 ha280; clear ha274 a274
       refine wl_val ha280 rfl rfl rfl (op_move ha280 rfl rfl) ?_
       intro a281 ha281; clear ha280 a280
       refine wl_val ha281 rfl rfl rfl (op_lss ha281 rfl rfl rfl) ?_
       intro a282 ha282; clear ha281 a281
       refine wpList_nil ?_
       refine then_n ?_
       by_cases c283 : ((j : Nat) : Int) < most
       ·
        rw [decide_eq_true c283] at ha282
        refine cond_t ha282 rfl ?_
        refine wp_region_lit ?_
        refine wl_val ha282 rfl rfl rfl (op_move ha282 rfl rfl) ?_
        intro a284 ha284; clear ha282 a282
        refine wl_val ha284 rfl rfl rfl (op_fieldAddr (sz := 0) ha284 rfl Try.underlying55 rfl rfl ti9 rfl) ?_
        intro a285 ha285; clear ha284 a284
        refine wl_val ha285 rfl rfl rfl (op_loadF (off := 0) ha285 rfl Try.underlying9 rfl rfl hb277.cells rfl) ?_
        intro a286 ha286; clear ha285 a285
        refine wl_eff ha286 rfl rfl rfl (op_buildSlice (s := shStr) (xs := [x255.1.1]) (cs := [St x255.1.1]) (vs := [(0, St x255.1.1)]) (S := fun _ => False) (le := w275.heap.size) ha286 rfl pos_shStr Try.underlying34 ti9 rfl rfl (by decide) (by kernel_rfl) (Els.single (mk_shStr x255.1.1 (by first | assumption | omega | (simp; done) | (dsimp only; omega) | (dsimp only; assumption) | exact ⟨by omega, by omega⟩))) (fun _ h => h.elim)) ?_
        rintro v287 w288 ⟨ho289, he290, hob291⟩ a292 ha292; clear ha286 a286
        have hx293 := hx279.trans' he290
        have hzhx293 := he290.size
        replace hf249 := hf249.ext he290
        replace hf248 := hf248.ext he290
        replace hc259 := hc259.ext he290
        replace hb277 := hb277.ext he290
        refine wl_eff ha292 rfl rfl rfl (op_append (ts := #[]) (s := shStr) ha292 rfl Try.underlying34 ti9 rfl pos_shStr rfl rfl hf248 (ho289.rds pos_shStr) (by omega) (by omega) (by first | omega | (simp; omega) | (simp only [List.length_append, List.length_take, List.length_drop, List.length_singleton] at *; omega)) (by first | omega | (simp; omega) | (simp only [List.length_append, List.length_take, List.length_drop, List.length_singleton] at *; omega)) (.inl flat_shStr)) ?_
        rintro v294 w295 ⟨ho296, hst297, hob298⟩ a299 ha299; clear ha292 a292
        have hx300 := hx293.stp hst297 (by intro q hq; have hq0 := hf248.lt q hq; omega)
        have hzhx300 := hst297.size
        replace hf249 := hf249.stp hst297 (by intro q hq; have hq0 := hf248.lt q hq; omega)
        replace hb277 := hb277.stp hst297 (by intro q hq; have hq0 := hf248.lt q hq; omega)
        replace ho289 := ho289.stp hst297 (by intro q hq; have hq0 := hf248.lt q hq; omega)
        have hsp301 : ∀ q, Value.ownBlock v294 = some q → Value.ownBlock v287 ≠ some q := by intro q hq hb; have hq0 := ho289.lt q hb; rcases hob298 with h | h; (rw [h] at hq; first | (have hq1 := hf248.lt q hq; omega)); (rw [h] at hq; cases hq; omega)
        have hlaq302 : ((acc ++ [x255.1.1])).length = acc.length + 1 := by simp
        refine wl_val ha299 rfl rfl rfl (op_assign ha299 rfl rfl) ?_
        intro a303 ha303; clear ha299 a299
        refine wpList_nil ?_
        refine block_n ?_
        refine then_n ?_
        refine wp_region_lit ?_
        refine wl_val ha303 rfl rfl rfl ((op_add ha303 rfl rfl rfl).int (IntWalk.i64_in _ (by omega))) ?_
        intro a304 ha304; clear ha303 a303
        refine wl_val ha304 rfl rfl rfl (op_move ha304 rfl rfl) ?_
        intro a305 ha305; clear ha304 a304
        refine wpList_nil ?_
        refine round_end (x := (j, v2, acc)) ((j + 1), v294, (acc ++ [x255.1.1])) ?_ ?_
        ·
         refine ⟨(Sl.cons_ ha305 rfl rfl (Sl.cons_ ha305 rfl rfl (Sl.cons_ ha305 rfl rfl (Sl.cons_ ha305 rfl rfl (Sl.cons_ ha305 rfl (int_eq (by omega)) (Sl.nil_ ha305)))))), hx300, hf249, (ho296.fin (by omega) (by omega) (by omega)), (by omega), (by omega), (by first | omega | (simp; omega)), (by exact hE), (by exact lsL_step (by omega) (abs_get hE hx255) hG (by assumption))⟩
        ·show (zs.length - ((j + 1)) : Nat) < zs.length - j; omega
       ·
        rw [decide_eq_false c283] at ha282
        refine cond_f ha282 rfl ?_
        refine wp_skip ?_
        refine block_n ?_
        refine then_n ?_
        refine wp_region_lit ?_
        refine wl_val ha282 rfl rfl rfl ((op_add ha282 rfl rfl rfl).int (IntWalk.i64_in _ (by omega))) ?_
        intro a306 ha306; clear ha282 a282
        refine wl_val ha306 rfl rfl rfl (op_move ha306 rfl rfl) ?_
        intro a307 ha307; clear ha306 a306
        refine wpList_nil ?_
        refine round_end (x := (j, v2, acc)) ((j + 1), v2, acc) ?_ ?_
        ·
         refine ⟨(Sl.cons_ ha307 rfl rfl (Sl.cons_ ha307 rfl rfl (Sl.cons_ ha307 rfl rfl (Sl.cons_ ha307 rfl rfl (Sl.cons_ ha307 rfl (int_eq (by omega)) (Sl.nil_ ha307)))))), hx279, hf249, (hf248.fin (by omega) (by omega) (by omega)), (by omega), (by omega), (by first | omega | (simp; omega)), (by exact hE), (by exact lsL_stop hG (by assumption))⟩
        ·show (zs.length - ((j + 1)) : Nat) < zs.length - j; omega
      ·
       rw [decide_eq_false c253] at ha252
       refine cond_f ha252 rfl ?_
       refine wp_exit ?_
       refine then_e ?_
       refine then_e ?_
       refine block_hit ?_
       refine then_n ?_
       refine wp_seq ?_
       refine wp_region_lit ?_
       refine wl_val ha252 rfl rfl rfl (op_move ha252 rfl rfl) ?_
       intro a308 ha308; clear ha252 a252
       refine wl_val ha308 rfl rfl rfl (op_assign ha308 rfl rfl) ?_
       intro a309 ha309; clear ha308 a308
       refine wl_val ha309 rfl rfl rfl (op_assign ha309 rfl rfl) ?_
       intro a310 ha310; clear ha309 a309
       refine wpList_nil ?_
       refine then_n ?_
       refine wp_ret ?_
       refine ret2 ha310 rfl rfl rfl ?_
       clear ha310 a310
       have hr := codeL_ok c10 c18
       have hr2 := ls_ok hr
       refine ret_mk hx247 ⟨v2, (tup2_eq rfl (int_eq (by exact hr.symm))), ?_⟩
       ·refine (hf248.fin (by omega) (by omega) (by omega)).cast ?_
        rw [hr2]; exact lsL_end hG (by first | (left; have := absLen hE; omega) | (right; omega))
  ·
   rw [c18] at ha17
   refine cond_t ha17 rfl ?_
   refine wp_seq ?_
   refine wp_region_lit ?_
   refine wl_val ha17 rfl rfl rfl (op_assign ha17 rfl rfl) ?_
   intro a311 ha311; clear ha17 a17
   refine wl_val ha311 rfl rfl rfl (op_assign ha311 rfl rfl) ?_
   intro a312 ha312; clear ha311 a311
   refine wpList_nil ?_
   refine then_n ?_
   refine wp_ret ?_
   refine then_r ?_
   refine ret2 ha312 rfl rfl rfl ?_
   clear ha312 a312
   have hr := codeL_2 c10 c18
   have hr2 := ls_bad (by rw [hr]; decide)
   refine ret_mk hx16 ⟨.slice none 0 0, (tup2_eq rfl (int_eq (by exact hr.symm))), ?_⟩
   ·refine Own.nil_ _ _ _ _ _ _ ?_
    rw [hr2]
 ·
  rw [c10] at ha9
  refine cond_t ha9 rfl ?_
  refine wp_seq ?_
  refine wp_region_lit ?_
  refine wl_val ha9 rfl rfl rfl (op_assign ha9 rfl rfl) ?_
  intro a313 ha313; clear ha9 a9
  refine wl_val ha313 rfl rfl rfl (op_assign ha313 rfl rfl) ?_
  intro a314 ha314; clear ha313 a313
  refine wpList_nil ?_
  refine then_n ?_
  refine wp_ret ?_
  refine then_r ?_
  refine ret2 ha314 rfl rfl rfl ?_
  clear ha314 a314
  have hr := codeL_1 (xs := list) (m := most) c10
  have hr2 := ls_bad (by rw [hr]; decide)
  refine ret_mk hx8 ⟨.slice none 0 0, (tup2_eq rfl (int_eq (by exact hr.symm))), ?_⟩
  ·refine Own.nil_ _ _ _ _ _ _ ?_
   rw [hr2]

theorem c_spec_l01Own (w0 : World) (v_list : Value) (list : List Int) {S_list : Nat → Prop} (h_list : Rds shI64 S_list w0 v_list list) (g0 : list.length ≤ 1048576) :
  Calls Try.prog 62 #[v_list] w0 (Ret w0 (fun v w1 => Own shI64 2 w0.heap.size w0.heap.size w1.heap.size w1 v (list))) := by
 refine enter (N := 6) Try.func62 rfl rfl rfl ?_
 intro a0 ha0
 have hx0 := Ext.rfl' w0
 have hl_list := h_list.length_le
 refine wp_seq ?_
 refine wp_region_lit ?_
 refine wl_val ha0 rfl rfl rfl (op_assign ha0 rfl rfl) ?_
 intro a1 ha1; clear ha0 a0
 refine wpList_nil ?_
 refine then_n ?_
 refine wp_seq ?_
 refine wp_region_lit ?_
 refine wl_eff ha1 rfl rfl rfl (op_buildSlice (s := shI64) (xs := ([] : List Int)) (cs := []) (vs := []) (S := fun _ => False) (le := w0.heap.size) ha1 rfl pos_shI64 Try.underlying69 ti2 rfl rfl (by decide) (by kernel_rfl) rfl (fun _ h => h.elim)) ?_
 rintro v2 w3 ⟨ho4, he5, hob6⟩ a7 ha7; clear ha1 a1
 have hx8 := hx0.trans' he5
 have hzhx8 := he5.size
 refine wl_val ha7 rfl rfl rfl (op_move ha7 rfl rfl) ?_
 intro a9 ha9; clear ha7 a7
 refine wl_eff ha9 rfl rfl rfl (op_append (ts := #[]) (s := shI64) ha9 rfl Try.underlying69 ti2 rfl pos_shI64 rfl rfl ho4 (h_list.ext pos_shI64 hx8) (by omega) (by omega) (by first | omega | (simp; omega)) (by first | omega | (simp; omega)) (.inl flat_shI64)) ?_
 rintro v10 w11 ⟨ho12, hst13, hob14⟩ a15 ha15; clear ha9 a9
 replace ho12 := ho12.cast (List.nil_append _)
 have hx16 := hx8.stp hst13 (by intro q hq; have hq0 := ho4.lt q hq; omega)
 have hzhx16 := hst13.size
 refine wl_val ha15 rfl rfl rfl (op_assign ha15 rfl rfl) ?_
 intro a17 ha17; clear ha15 a15
 refine wpList_nil ?_
 refine then_n ?_
 refine wp_ret ?_
 refine ret1 ha17 rfl rfl ?_
 clear ha17 a17
 refine ret_mk hx16 ?_
 refine (ho12.fin (by omega) (by omega) (by omega)).cast ?_
 rfl

theorem c_spec_LongestSince (w0 : World) (v_list : Value) (list : List (Str × Int × List Str)) {S_list : Nat → Prop} (most : Int) (h_list : Rds shCust S_list w0 v_list list) (g0 : list.length ≤ 1048576) (g1 : I64 most) :
  Calls Try.prog 29 #[v_list, .int .i64 most] w0 (Ret w0 (fun v w1 => ∃ r0, v = .tuple #[r0, .int .i64 (codeL list most)] ∧ Own shStr 9 w0.heap.size w0.heap.size w1.heap.size w1 r0 (if codeL list most = 0 then lsL list most else []))) := by
 refine enter (N := 81) Try.func29 rfl rfl rfl ?_
 intro a0 ha0
 have hx0 := Ext.rfl' w0
 have hl_list := h_list.length_le
 have hol := ordS_len list
 refine wp_seq ?_
 refine wp_region_lit ?_
 refine wl_val ha0 rfl rfl rfl (op_assign ha0 rfl rfl) ?_
 intro a1 ha1; clear ha0 a0
 refine wl_val ha1 rfl rfl rfl (op_assign ha1 rfl rfl) ?_
 intro a2 ha2; clear ha1 a1
 refine wpList_nil ?_
 refine then_n ?_
 refine wp_seq ?_
 refine wp_seq ?_
 refine wp_region_lit ?_
 refine wl_val ha2 rfl rfl rfl (op_move ha2 rfl rfl) ?_
 intro a3 ha3; clear ha2 a2
 refine wl_callR ha3 rfl rfl rfl (op_call ha3 rfl cb15 rfl) (c_spec_AreCustomers _ v_list list (h_list.ext pos_shCust hx0) (by first | assumption | omega | (simp; omega) | (intro c hc; have := cuOk_bd (cuB_el (by assumption) c hc); omega) | (intro c hc; have := cuOk_bd (cuB_el (by assumption) c (List.mem_of_mem_take hc)); omega) | (intro c hc; have := cuOk_bd (cuB_el (by assumption) c (List.mem_of_mem_drop hc)); omega))) ?_
 rintro v4 w5 he6 rfl a7 ha7; clear ha3 a3
 have hx8 := hx0.trans' he6
 have hzhx8 := he6.size
 refine wl_val ha7 rfl rfl rfl (op_not ha7 rfl rfl) ?_
 intro a9 ha9; clear ha7 a7
 refine wpList_nil ?_
 refine then_n ?_
 rcases Bool.eq_false_or_eq_true (cuB list) with c10 | c10
 ·
  rw [c10] at ha9
  have hlenc10 := cuB_len c10
  have hcuc10 := cuB_el c10
  refine cond_f ha9 rfl ?_
  refine wp_skip ?_
  refine then_n ?_
  refine wp_seq ?_
  refine wp_seq ?_
  refine wp_region_lit ?_
  refine wl_val ha9 rfl rfl rfl (op_move ha9 rfl rfl) ?_
  intro a11 ha11; clear ha9 a9
  refine wl_callR ha11 rfl rfl rfl (op_call ha11 rfl cb53 rfl) (c_spec_l01In _ most (0 : Int) (20 : Int) ) ?_
  rintro v12 w13 he14 rfl a15 ha15; clear ha11 a11
  have hx16 := hx8.trans' he14
  have hzhx16 := he14.size
  refine wl_val ha15 rfl rfl rfl (op_not ha15 rfl rfl) ?_
  intro a17 ha17; clear ha15 a15
  refine wpList_nil ?_
  refine then_n ?_
  rcases Bool.eq_false_or_eq_true (decide ((0 : Int) ≤ most) && decide (most ≤ (20 : Int))) with c18 | c18
  ·
   rw [c18] at ha17
   have hmc18 : 0 ≤ most ∧ most ≤ 20 := by simpa using c18
   refine cond_f ha17 rfl ?_
   refine wp_skip ?_
   refine then_n ?_
   refine wp_seq ?_
   refine wp_region_lit ?_
   refine wl_eff ha17 rfl rfl rfl (op_buildSlice (s := shI64) (xs := ([] : List Int)) (cs := []) (vs := []) (S := fun _ => False) (le := w13.heap.size) ha17 rfl pos_shI64 Try.underlying69 ti2 rfl rfl (by decide) (by kernel_rfl) rfl (fun _ h => h.elim)) ?_
   rintro v19 w20 ⟨ho21, he22, hob23⟩ a24 ha24; clear ha17 a17
   have hx25 := hx16.trans' he22
   have hzhx25 := he22.size
   refine wl_val ha24 rfl rfl rfl (op_assign ha24 rfl rfl) ?_
   intro a26 ha26; clear ha24 a24
   refine wpList_nil ?_
   refine then_n ?_
   refine wp_seq ?_
   refine wp_seq ?_
   refine wp_region_lit ?_
   refine wl_val ha26 rfl rfl rfl (op_assign ha26 rfl rfl) ?_
   intro a27 ha27; clear ha26 a26
   refine wpList_nil ?_
   refine then_n ?_
   refine wp_block ?_
   refine loop_inv (X := Nat × Value × (List Int)) (fun (⟨i, v, os⟩ : Nat × Value × (List Int)) fr wl => Sl 81 fr [(0, v_list), (1, .int .i64 most), (6, v), (7, .int .i64 ((i : Nat) : Int))] ∧ Ext w0 wl ∧ Own shI64 2 w13.heap.size w13.heap.size wl.heap.size wl v os ∧ w20.heap.size ≤ wl.heap.size ∧ (i ≤ list.length) ∧ (os.length = i) ∧ (UpK (keyI list) os) ∧ (∀ o ∈ os, 0 ≤ o ∧ o < (i : Int)) ∧ (ordGo (list.drop i) (os.map (getC list)) = ordS list)) (fun (⟨i, v, os⟩ : Nat × Value × (List Int)) => list.length - i) (0, v19, ([] : List Int)) ?_ ?_
   ·
    exact ⟨(Sl.cons_ ha27 rfl rfl (Sl.cons_ ha27 rfl rfl (Sl.cons_ ha27 rfl rfl (Sl.cons_ ha27 rfl (int_eq (by omega)) (Sl.nil_ ha27))))), hx25, (ho21.fin (by omega) (by omega) (by omega)), (by omega), (by omega), (by rfl), (by exact List.Pairwise.nil), (by intro o ho; simp at ho), (by rfl)⟩
   ·
    clear ha27 a27
    rintro ⟨i, v, os⟩ a31 w28 ⟨ha31, hx29, hf30, hzl32, hi, hl, hU, hB, hF⟩
    have hzhx29 := hx29.size
    refine wp_seq ?_
    refine wp_seq ?_
    refine wp_region_lit ?_
    refine wl_val ha31 rfl rfl rfl (op_move ha31 rfl rfl) ?_
    intro a33 ha33; clear ha31 a31
    refine wl_val ha33 rfl rfl rfl (op_move ha33 rfl rfl) ?_
    intro a34 ha34; clear ha33 a33
    refine wl_val ha34 rfl rfl rfl (op_len_sl ha34 rfl Try.underlying25 rfl h_list) ?_
    intro a35 ha35; clear ha34 a34
    refine wl_val ha35 rfl rfl rfl (op_lss ha35 rfl rfl rfl) ?_
    intro a36 ha36; clear ha35 a35
    refine wpList_nil ?_
    refine then_n ?_
    by_cases c37 : ((i : Nat) : Int) < ((list.length : Nat) : Int)
    ·
     rw [decide_eq_true c37] at ha36
     refine cond_t ha36 rfl ?_
     refine wp_skip ?_
     refine then_n ?_
     refine wp_seq ?_
     refine wp_block ?_
     refine wp_seq ?_
     refine wp_region_lit ?_
     refine wl_val ha36 rfl rfl rfl (op_assign ha36 rfl rfl) ?_
     intro a38 ha38; clear ha36 a36
     refine wpList_nil ?_
     refine then_n ?_
     refine wp_seq ?_
     refine wp_block ?_
     obtain ⟨x39, hx39⟩ := get_ex (xs := list) (j := i) (by first | omega | (simp only [List.length_set, List.length_append, List.length_take, List.length_drop, List.length_singleton]; omega))
     obtain ⟨p40, c41, hi42, hc43, hr44, hs45⟩ := Rds.at_ h_list hx39
     obtain ⟨v46, rfl, b47, b48, b49⟩ := inv_shCust hr44
     have hlb49 := b49.length_le
     have hbx39 := cuOk_bd (hcuc10 _ (List.mem_of_getElem? hx39))
     refine loop_inv (X := Nat) (fun (k : Nat) fr wl => Sl 81 fr [(0, v_list), (1, .int .i64 most), (6, v), (7, .int .i64 ((i : Nat) : Int)), (8, .int .i64 ((k : Nat) : Int))] ∧ Ext w0 wl ∧ Own shI64 2 w13.heap.size w13.heap.size w28.heap.size wl v os ∧ w28.heap.size ≤ wl.heap.size ∧ (k ≤ os.length) ∧ (∀ (j : Nat) (o : Int), j < k → os[j]? = some o → keyI list o ≤ keyI list (i : Int))) (fun (k : Nat) => os.length - k) (0) ?_ ?_
     ·
      exact ⟨(Sl.cons_ ha38 rfl rfl (Sl.cons_ ha38 rfl rfl (Sl.cons_ ha38 rfl rfl (Sl.cons_ ha38 rfl rfl (Sl.cons_ ha38 rfl (int_eq (by omega)) (Sl.nil_ ha38)))))), hx29, hf30, (by omega), (by omega), (by exact all_zero)⟩
     ·
      clear ha38 a38
      rintro k a53 w50 ⟨ha53, hx51, hf52, hzl54, hk, hk2⟩
      have hzhx51 := hx51.size
      refine wp_seq ?_
      refine wp_seq ?_
      refine dr_enter Ext follows_mixed ?_
      intro w55 he56
      have hx57 := hx51.trans' he56
      have hzhx57 := he56.size
      replace hf52 := hf52.ext he56
      have hs58 : Ext w55 w55 := Ext.rfl' _
      refine dr_val (i := 0) ha53 rfl (by kernel_rfl) (by kernel_rfl) (by kernel_rfl) rfl rfl rfl hs58 (fun w' hw' => op_move ha53 rfl rfl) ?_
      intro a59 ha59; clear ha53 a53
      refine dr_val (i := 1) ha59 rfl (by kernel_rfl) (by kernel_rfl) (by kernel_rfl) rfl rfl rfl hs58 (fun w' hw' => op_move ha59 rfl rfl) ?_
      intro a60 ha60; clear ha59 a59
      refine dr_val (i := 2) ha60 rfl (by kernel_rfl) (by kernel_rfl) (by kernel_rfl) rfl rfl rfl hs58 (fun w' hw' => op_len_sl ha60 rfl Try.underlying69 rfl (hf52.rds pos_shI64)) ?_
      intro a61 ha61; clear ha60 a60
      refine dr_val (i := 3) ha61 rfl (by kernel_rfl) (by kernel_rfl) (by kernel_rfl) rfl rfl rfl hs58 (fun w' hw' => op_lss ha61 rfl rfl rfl) ?_
      intro a62 ha62; clear ha61 a61
      refine dr_val (i := 4) ha62 rfl (by kernel_rfl) (by kernel_rfl) (by kernel_rfl) rfl rfl rfl hs58 (fun w' hw' => op_move ha62 rfl rfl) ?_
      intro a63 ha63; clear ha62 a62
      by_cases c64 : ((k : Nat) : Int) < ((os.length : Nat) : Int)
      ·
       rw [decide_eq_true c64] at ha63
       refine dr_val (i := 5) ha63 rfl (by kernel_rfl) (by kernel_rfl) (by kernel_rfl) rfl rfl rfl hs58 (fun w' hw' => op_move ha63 rfl rfl) ?_
       intro a65 ha65; clear ha63 a63
       refine dr_val (i := 6) ha65 rfl (by kernel_rfl) (by kernel_rfl) (by kernel_rfl) rfl rfl rfl hs58 (fun w' hw' => op_move ha65 rfl rfl) ?_
       intro a66 ha66; clear ha65 a65
       refine dr_val (i := 7) ha66 rfl (by kernel_rfl) (by kernel_rfl) (by kernel_rfl) rfl rfl rfl hs58 (fun w' hw' => op_move ha66 rfl rfl) ?_
       intro a67 ha67; clear ha66 a66
       obtain ⟨x68, hx68⟩ := get_ex (xs := os) (j := k) (by first | omega | (simp only [List.length_set, List.length_append, List.length_take, List.length_drop, List.length_singleton]; omega))
       obtain ⟨p69, c70, hi71, hc72, hr73, hs74⟩ := Rds.at_ (hf52.rds pos_shI64) hx68
       obtain ⟨rfl, b75⟩ := inv_shI64 hr73
       obtain ⟨_, _⟩ : _ ∧ _ := hs74
       have hobx68 := hB _ (List.mem_of_getElem? hx68)
       refine dr_val (i := 8) ha67 rfl (by kernel_rfl) (by kernel_rfl) (by kernel_rfl) rfl rfl rfl hs58 (fun w' hw' => op_indexAddr ha67 rfl Try.underlying69 ti2 rfl rfl (by omega) hi71) ?_
       intro a76 ha76; clear ha67 a67
       refine dr_val (i := 9) ha76 rfl (by kernel_rfl) (by kernel_rfl) (by kernel_rfl) rfl rfl rfl hs58 (fun w' hw' => op_loadH ha76 rfl Try.underlying2 rfl rfl (hc72.ext hw') rfl) ?_
       intro a77 ha77; clear ha76 a76
       obtain ⟨x78, hx78⟩ := get_ex (xs := list) (j := x68.toNat) (by first | omega | (simp only [List.length_set, List.length_append, List.length_take, List.length_drop, List.length_singleton]; omega))
       obtain ⟨p79, c80, hi81, hc82, hr83, hs84⟩ := Rds.at_ h_list hx78
       obtain ⟨v85, rfl, b86, b87, b88⟩ := inv_shCust hr83
       have hlb88 := b88.length_le
       have hbx78 := cuOk_bd (hcuc10 _ (List.mem_of_getElem? hx78))
       refine dr_val (i := 10) ha77 rfl (by kernel_rfl) (by kernel_rfl) (by kernel_rfl) rfl rfl rfl hs58 (fun w' hw' => op_indexAddr ha77 rfl Try.underlying25 ti55 rfl rfl (by omega) hi81) ?_
       intro a89 ha89; clear ha77 a77
       refine dr_val (i := 11) ha89 rfl (by kernel_rfl) (by kernel_rfl) (by kernel_rfl) rfl rfl rfl hs58 (fun w' hw' => op_fieldAddr (sz := 0) ha89 rfl Try.underlying55 rfl rfl ti2 rfl) ?_
       intro a90 ha90; clear ha89 a89
       refine dr_val (i := 12) ha90 rfl (by kernel_rfl) (by kernel_rfl) (by kernel_rfl) rfl rfl rfl hs58 (fun w' hw' => op_loadF (off := 1) ha90 rfl Try.underlying2 rfl rfl (hc82.ext (hx57.trans' hw')) rfl) ?_
       intro a91 ha91; clear ha90 a90
       refine dr_val (i := 13) ha91 rfl (by kernel_rfl) (by kernel_rfl) (by kernel_rfl) rfl rfl rfl hs58 (fun w' hw' => op_move ha91 rfl rfl) ?_
       intro a92 ha92; clear ha91 a91
       refine dr_val (i := 14) ha92 rfl (by kernel_rfl) (by kernel_rfl) (by kernel_rfl) rfl rfl rfl hs58 (fun w' hw' => op_move ha92 rfl rfl) ?_
       intro a93 ha93; clear ha92 a92
       refine dr_val (i := 15) ha93 rfl (by kernel_rfl) (by kernel_rfl) (by kernel_rfl) rfl rfl rfl hs58 (fun w' hw' => op_indexAddr ha93 rfl Try.underlying25 ti55 rfl rfl (by omega) hi42) ?_
       intro a94 ha94; clear ha93 a93
       refine dr_val (i := 16) ha94 rfl (by kernel_rfl) (by kernel_rfl) (by kernel_rfl) rfl rfl rfl hs58 (fun w' hw' => op_fieldAddr (sz := 0) ha94 rfl Try.underlying55 rfl rfl ti2 rfl) ?_
       intro a95 ha95; clear ha94 a94
       refine dr_val (i := 17) ha95 rfl (by kernel_rfl) (by kernel_rfl) (by kernel_rfl) rfl rfl rfl hs58 (fun w' hw' => op_loadF (off := 1) ha95 rfl Try.underlying2 rfl rfl (hc43.ext (hx57.trans' hw')) rfl) ?_
       intro a96 ha96; clear ha95 a95
       refine dr_val (i := 18) ha96 rfl (by kernel_rfl) (by kernel_rfl) (by kernel_rfl) rfl rfl rfl hs58 (fun w' hw' => op_leq ha96 rfl rfl rfl) ?_
       intro a97 ha97; clear ha96 a96
       refine dr_val (i := 19) ha97 rfl (by kernel_rfl) (by kernel_rfl) (by kernel_rfl) rfl rfl rfl hs58 (fun w' hw' => op_pick_t ha97 rfl rfl rfl) ?_
       intro a98 ha98; clear ha97 a97
       refine dr_end (by kernel_rfl) ?_
       replace hf52 := hf52.ext hs58
       replace hc72 := hc72.ext hs58
       refine then_n ?_
       by_cases c99 : x78.2.1 ≤ x39.2.1
       ·
        rw [decide_eq_true c99] at ha98
        refine cond_t ha98 rfl ?_
        refine wp_skip ?_
        refine then_n ?_
        refine wp_block ?_
        refine wp_region_lit ?_
        refine wl_val ha98 rfl rfl rfl (op_move ha98 rfl rfl) ?_
        intro a100 ha100; clear ha98 a98
        refine wl_val ha100 rfl rfl rfl ((op_add ha100 rfl rfl rfl).int (IntWalk.i64_in _ (by omega))) ?_
        intro a101 ha101; clear ha100 a100
        refine wl_val ha101 rfl rfl rfl (op_assign ha101 rfl rfl) ?_
        intro a102 ha102; clear ha101 a101
        refine wpList_nil ?_
        refine block_n ?_
        refine round_end (x := k) ((k + 1)) ?_ ?_
        ·
         refine ⟨(Sl.cons_ ha102 rfl rfl (Sl.cons_ ha102 rfl rfl (Sl.cons_ ha102 rfl rfl (Sl.cons_ ha102 rfl rfl (Sl.cons_ ha102 rfl (int_eq (by omega)) (Sl.nil_ ha102)))))), hx57, hf52, (by omega), (by omega), (by exact all_snoc (p := fun o => keyI list o ≤ keyI list (i : Int)) hk2 hx68 (by show keyI list x68 ≤ _; rw [keyI_el hx78, keyI_nat hx39]; assumption))⟩
        ·show (os.length - ((k + 1)) : Nat) < os.length - k; omega
       ·
        rw [decide_eq_false c99] at ha98
        refine cond_f ha98 rfl ?_
        refine wp_exit ?_
        refine then_e ?_
        refine then_e ?_
        refine block_hit ?_
        refine then_n ?_
        refine dr_enter Ext follows_mixed ?_
        intro w103 he104
        have hx105 := hx57.trans' he104
        have hzhx105 := he104.size
        replace hf52 := hf52.ext he104
        replace hc72 := hc72.ext he104
        have hs106 : Ext w103 w103 := Ext.rfl' _
        refine dr_val (i := 0) ha98 rfl (by kernel_rfl) (by kernel_rfl) (by kernel_rfl) rfl rfl rfl hs106 (fun w' hw' => op_move ha98 rfl rfl) ?_
        intro a107 ha107; clear ha98 a98
        refine dr_val (i := 1) ha107 rfl (by kernel_rfl) (by kernel_rfl) (by kernel_rfl) rfl rfl rfl hs106 (fun w' hw' => op_move ha107 rfl rfl) ?_
        intro a108 ha108; clear ha107 a107
        obtain ⟨u109, hu110, hr111⟩ := Rds.part (hf52.rds pos_shI64) Try.underlying69 ti2 none (some (.int .i64 (k : Nat))) 0 k (.inl ⟨rfl, rfl⟩) (.inr ⟨.i64, rfl⟩) (by first | omega | (simp; omega)) (by first | omega | (simp; omega))
        replace hr111 := hr111.cast (ys := os.take k) (by first | rw [List.take_length] | simp)
        refine dr_val (i := 2) ha108 rfl (by kernel_rfl) (by kernel_rfl) (by kernel_rfl) rfl rfl rfl hs106 (fun w' hw' => op_slice_t (by omega) ha108 rfl rfl rfl hu110) ?_
        intro a112 ha112; clear ha108 a108
        refine dr_val (i := 4) ha112 rfl (by kernel_rfl) (by kernel_rfl) (by kernel_rfl) rfl rfl rfl hs106 (fun w' hw' => op_move ha112 rfl rfl) ?_
        intro a113 ha113; clear ha112 a112
        refine dr_val (i := 7) ha113 rfl (by kernel_rfl) (by kernel_rfl) (by kernel_rfl) rfl rfl rfl hs106 (fun w' hw' => op_move ha113 rfl rfl) ?_
        intro a114 ha114; clear ha113 a113
        refine dr_val (i := 8) ha114 rfl (by kernel_rfl) (by kernel_rfl) (by kernel_rfl) rfl rfl rfl hs106 (fun w' hw' => op_move ha114 rfl rfl) ?_
        intro a115 ha115; clear ha114 a114
        obtain ⟨u116, hu117, hr118⟩ := Rds.part (hf52.rds pos_shI64) Try.underlying69 ti2 (some (.int .i64 (k : Nat))) none k os.length (.inr ⟨.i64, rfl⟩) (.inl ⟨rfl, rfl⟩) (by first | omega | (simp; omega)) (by first | omega | (simp; omega))
        replace hr118 := hr118.cast (ys := os.drop k) (by first | rw [List.take_length] | simp)
        refine dr_val (i := 9) ha115 rfl (by kernel_rfl) (by kernel_rfl) (by kernel_rfl) rfl rfl rfl hs106 (fun w' hw' => op_slice_f (by omega) ha115 rfl rfl rfl hu117) ?_
        intro a119 ha119; clear ha115 a115
        refine dr_two (i := 3) (j := 5) (by kernel_rfl) ?_ ?_
        ·
         refine po_callR ha119 rfl rfl rfl rfl (op_call ha119 rfl cb62 rfl) (c_spec_l01Own _ u109 (os.take k) (hr111.ext pos_shI64 hs106) (by first | assumption | omega | (simp; omega) | (intro c hc; have := cuOk_bd (cuB_el (by assumption) c hc); omega) | (intro c hc; have := cuOk_bd (cuB_el (by assumption) c (List.mem_of_mem_take hc)); omega) | (intro c hc; have := cuOk_bd (cuB_el (by assumption) c (List.mem_of_mem_drop hc)); omega))) ?_
         rintro v120 w121 he122 ho123 a124 ha124; clear ha119 a119
         have hs125 := hs106.trans' he122
         have hx126 := hx105.trans' he122
         have hzhx126 := he122.size
         refine ⟨hs125, ?_⟩
         refine dr_one (i := 5) (by kernel_rfl) ?_
         refine po_eff ha124 rfl rfl rfl rfl (op_buildSlice (s := shI64) (xs := [((i : Nat) : Int)]) (cs := [.int .i64 ((i : Nat) : Int)]) (vs := [(0, .int .i64 ((i : Nat) : Int))]) (S := fun _ => False) (le := w121.heap.size) ha124 rfl pos_shI64 Try.underlying69 ti2 rfl rfl (by decide) (by kernel_rfl) (Els.single (mk_shI64 (((i : Nat) : Int)) (by first | assumption | omega | exact ⟨by omega, by omega⟩))) (fun _ h => h.elim)) ?_
         rintro v127 w128 ⟨ho129, he130, hob131⟩ a132 ha132; clear ha124 a124
         have hs133 := hs125.trans' he130
         have hx134 := hx126.trans' he130
         have hzhx134 := he130.size
         replace ho123 := ho123.ext he130
         refine ⟨hs133, ?_⟩
         refine dr_one (i := 6) (by kernel_rfl) ?_
         refine po_eff ha132 rfl rfl rfl rfl (op_append (ts := #[]) (s := shI64) ha132 rfl Try.underlying69 ti2 rfl pos_shI64 rfl rfl ho123 (ho129.rds pos_shI64) (by omega) (by omega) (by first | omega | (simp; omega) | (simp only [List.length_append, List.length_take, List.length_drop, List.length_singleton] at *; omega)) (by first | omega | (simp; omega) | (simp only [List.length_append, List.length_take, List.length_drop, List.length_singleton] at *; omega)) (.inl flat_shI64)) ?_
         rintro v135 w136 ⟨ho137, hst138, hob139⟩ a140 ha140; clear ha132 a132
         have hs141 := hs133.stp hst138 (by intro q hq; have hq0 := ho123.lt q hq; omega)
         have hx142 := hx134.stp hst138 (by intro q hq; have hq0 := ho123.lt q hq; omega)
         have hzhx142 := hst138.size
         replace ho129 := ho129.stp hst138 (by intro q hq; have hq0 := ho123.lt q hq; omega)
         have hsp143 : ∀ q, Value.ownBlock v135 = some q → Value.ownBlock v ≠ some q := by intro q hq hb; have hq0 := hf52.lt q hb; rcases hob139 with h | h; (rw [h] at hq; first | (have hq1 := ho123.lt q hq; omega)); (rw [h] at hq; cases hq; omega)
         have hsp144 : ∀ q, Value.ownBlock v135 = some q → Value.ownBlock v127 ≠ some q := by intro q hq hb; have hq0 := ho129.lt q hb; rcases hob139 with h | h; (rw [h] at hq; first | (have hq1 := ho123.lt q hq; omega)); (rw [h] at hq; cases hq; omega)
         refine ⟨hs141, ?_⟩
         refine dr_one (i := 10) (by kernel_rfl) ?_
         refine po_eff ha140 rfl rfl rfl rfl (op_append (ts := #[]) (s := shI64) ha140 rfl Try.underlying69 ti2 rfl pos_shI64 rfl rfl ho137 (hr118.ext pos_shI64 hs141) (by omega) (by omega) (by first | omega | (simp; omega) | (simp only [List.length_append, List.length_take, List.length_drop, List.length_singleton] at *; omega)) (by first | omega | (simp; omega) | (simp only [List.length_append, List.length_take, List.length_drop, List.length_singleton] at *; omega)) (.inl flat_shI64)) ?_
         rintro v145 w146 ⟨ho147, hst148, hob149⟩ a150 ha150; clear ha140 a140
         have hs151 := hs141.stp hst148 (by intro q hq; have hq0 := ho137.lt q hq; omega)
         have hx152 := hx142.stp hst148 (by intro q hq; have hq0 := ho137.lt q hq; omega)
         have hzhx152 := hst148.size
         first | replace ho129 := ho129.stp hst148 (by intro q hq; have hq0 := ho137.lt q hq; omega) | replace ho129 := ho129.stpF flat_shI64 hst148 (fun q hq => hsp144 q hq)
         have hsp153 : ∀ q, Value.ownBlock v145 = some q → Value.ownBlock v ≠ some q := by intro q hq hb; have hq0 := hf52.lt q hb; rcases hob149 with h | h; (rw [h] at hq; first | (have hq1 := ho137.lt q hq; omega) | exact hsp143 q hq hb); (rw [h] at hq; cases hq; omega)
         have hsp154 : ∀ q, Value.ownBlock v145 = some q → Value.ownBlock v127 ≠ some q := by intro q hq hb; have hq0 := ho129.lt q hb; rcases hob149 with h | h; (rw [h] at hq; first | (have hq1 := ho137.lt q hq; omega) | exact hsp144 q hq hb); (rw [h] at hq; cases hq; omega)
         refine ⟨hs151, ?_⟩
         refine dr_val (i := 11) ha150 rfl (by kernel_rfl) (by kernel_rfl) (by kernel_rfl) rfl rfl rfl hs151 (fun w' hw' => op_assign ha150 rfl rfl) ?_
         intro a155 ha155; clear ha150 a150
         refine dr_end (by kernel_rfl) ?_
         replace hf52 := hf52.ext hs151
         replace hc72 := hc72.ext hs151
         replace hr111 := hr111.ext pos_shI64 hs151
         replace hr118 := hr118.ext pos_shI64 hs151
         refine block_n ?_
         refine then_n ?_
         refine wp_region_lit ?_
         refine wl_val ha155 rfl rfl rfl (op_move ha155 rfl rfl) ?_
         intro a156 ha156; clear ha155 a155
         refine wl_val ha156 rfl rfl rfl ((op_add ha156 rfl rfl rfl).int (IntWalk.i64_in _ (by omega))) ?_
         intro a157 ha157; clear ha156 a156
         refine wl_val ha157 rfl rfl rfl (op_assign ha157 rfl rfl) ?_
         intro a158 ha158; clear ha157 a157
         refine wpList_nil ?_
         have hins := insK_front (key := keyI list) (x := (i : Int)) hU hk2 (.inr ⟨_, hx68, by rw [keyI_el hx78, keyI_nat hx39]; assumption⟩)
         have hieq : ((((os.take k)) ++ [((i : Nat) : Int)]) ++ os.drop k) = insK (keyI list) (i : Int) os := by rw [hins]; simp
         refine round_end (x := (i, v, os)) ((i + 1), v145, ((((os.take k)) ++ [((i : Nat) : Int)]) ++ os.drop k)) ?_ ?_
         ·
          refine ⟨(Sl.cons_ ha158 rfl rfl (Sl.cons_ ha158 rfl rfl (Sl.cons_ ha158 rfl rfl (Sl.cons_ ha158 rfl (int_eq (by omega)) (Sl.nil_ ha158))))), hx152, (ho147.fin (by omega) (by omega) (by omega)), (by omega), (by omega), (by rw [hieq, insK_len]; omega), (by rw [hieq]; exact insK_up hU), (by rw [hieq]; intro o ho; rcases insK_mem.1 ho with e | e; (subst e; omega); (have := hB o e; omega)), (by rw [hieq, ord_map hB (by omega), getC_eq hx39]; rw [drop_cons hx39, ordGo] at hF; exact hF)⟩
         ·show (list.length - ((i + 1)) : Nat) < list.length - i; omega
        ·
         refine po_eff ha119 rfl rfl rfl rfl (op_buildSlice (s := shI64) (xs := [((i : Nat) : Int)]) (cs := [.int .i64 ((i : Nat) : Int)]) (vs := [(0, .int .i64 ((i : Nat) : Int))]) (S := fun _ => False) (le := w103.heap.size) ha119 rfl pos_shI64 Try.underlying69 ti2 rfl rfl (by decide) (by kernel_rfl) (Els.single (mk_shI64 (((i : Nat) : Int)) (by first | assumption | omega | exact ⟨by omega, by omega⟩))) (fun _ h => h.elim)) ?_
         rintro v159 w160 ⟨ho161, he162, hob163⟩ a164 ha164; clear ha119 a119
         have hs165 := hs106.trans' he162
         have hx166 := hx105.trans' he162
         have hzhx166 := he162.size
         refine ⟨hs165, ?_⟩
         refine dr_one (i := 3) (by kernel_rfl) ?_
         refine po_callR ha164 rfl rfl rfl rfl (op_call ha164 rfl cb62 rfl) (c_spec_l01Own _ u109 (os.take k) (hr111.ext pos_shI64 hs165) (by first | assumption | omega | (simp; omega) | (intro c hc; have := cuOk_bd (cuB_el (by assumption) c hc); omega) | (intro c hc; have := cuOk_bd (cuB_el (by assumption) c (List.mem_of_mem_take hc)); omega) | (intro c hc; have := cuOk_bd (cuB_el (by assumption) c (List.mem_of_mem_drop hc)); omega))) ?_
         rintro v167 w168 he169 ho170 a171 ha171; clear ha164 a164
         have hs172 := hs165.trans' he169
         have hx173 := hx166.trans' he169
         have hzhx173 := he169.size
         replace ho161 := ho161.ext he169
         refine ⟨hs172, ?_⟩
         refine dr_one (i := 6) (by kernel_rfl) ?_
         refine po_eff ha171 rfl rfl rfl rfl (op_append (ts := #[]) (s := shI64) ha171 rfl Try.underlying69 ti2 rfl pos_shI64 rfl rfl ho170 (ho161.rds pos_shI64) (by omega) (by omega) (by first | omega | (simp; omega) | (simp only [List.length_append, List.length_take, List.length_drop, List.length_singleton] at *; omega)) (by first | omega | (simp; omega) | (simp only [List.length_append, List.length_take, List.length_drop, List.length_singleton] at *; omega)) (.inl flat_shI64)) ?_
         rintro v174 w175 ⟨ho176, hst177, hob178⟩ a179 ha179; clear ha171 a171
         have hs180 := hs172.stp hst177 (by intro q hq; have hq0 := ho170.lt q hq; omega)
         have hx181 := hx173.stp hst177 (by intro q hq; have hq0 := ho170.lt q hq; omega)
         have hzhx181 := hst177.size
         replace ho161 := ho161.stp hst177 (by intro q hq; have hq0 := ho170.lt q hq; omega)
         have hsp182 : ∀ q, Value.ownBlock v174 = some q → Value.ownBlock v ≠ some q := by intro q hq hb; have hq0 := hf52.lt q hb; rcases hob178 with h | h; (rw [h] at hq; first | (have hq1 := ho170.lt q hq; omega)); (rw [h] at hq; cases hq; omega)
         have hsp183 : ∀ q, Value.ownBlock v174 = some q → Value.ownBlock v159 ≠ some q := by intro q hq hb; have hq0 := ho161.lt q hb; rcases hob178 with h | h; (rw [h] at hq; first | (have hq1 := ho170.lt q hq; omega)); (rw [h] at hq; cases hq; omega)
         refine ⟨hs180, ?_⟩
         refine dr_one (i := 10) (by kernel_rfl) ?_
         refine po_eff ha179 rfl rfl rfl rfl (op_append (ts := #[]) (s := shI64) ha179 rfl Try.underlying69 ti2 rfl pos_shI64 rfl rfl ho176 (hr118.ext pos_shI64 hs180) (by omega) (by omega) (by first | omega | (simp; omega) | (simp only [List.length_append, List.length_take, List.length_drop, List.length_singleton] at *; omega)) (by first | omega | (simp; omega) | (simp only [List.length_append, List.length_take, List.length_drop, List.length_singleton] at *; omega)) (.inl flat_shI64)) ?_
         rintro v184 w185 ⟨ho186, hst187, hob188⟩ a189 ha189; clear ha179 a179
         have hs190 := hs180.stp hst187 (by intro q hq; have hq0 := ho176.lt q hq; omega)
         have hx191 := hx181.stp hst187 (by intro q hq; have hq0 := ho176.lt q hq; omega)
         have hzhx191 := hst187.size
         replace ho161 := ho161.stp hst187 (by intro q hq; have hq0 := ho176.lt q hq; omega)
         have hsp192 : ∀ q, Value.ownBlock v184 = some q → Value.ownBlock v ≠ some q := by intro q hq hb; have hq0 := hf52.lt q hb; rcases hob188 with h | h; (rw [h] at hq; first | (have hq1 := ho176.lt q hq; omega) | exact hsp182 q hq hb); (rw [h] at hq; cases hq; omega)
         have hsp193 : ∀ q, Value.ownBlock v184 = some q → Value.ownBlock v159 ≠ some q := by intro q hq hb; have hq0 := ho161.lt q hb; rcases hob188 with h | h; (rw [h] at hq; first | (have hq1 := ho176.lt q hq; omega) | exact hsp183 q hq hb); (rw [h] at hq; cases hq; omega)
         refine ⟨hs190, ?_⟩
         refine dr_val (i := 11) ha189 rfl (by kernel_rfl) (by kernel_rfl) (by kernel_rfl) rfl rfl rfl hs190 (fun w' hw' => op_assign ha189 rfl rfl) ?_
         intro a194 ha194; clear ha189 a189
         refine dr_end (by kernel_rfl) ?_
         replace hf52 := hf52.ext hs190
         replace hc72 := hc72.ext hs190
         replace hr111 := hr111.ext pos_shI64 hs190
         replace hr118 := hr118.ext pos_shI64 hs190
         refine block_n ?_
         refine then_n ?_
         refine wp_region_lit ?_
         refine wl_val ha194 rfl rfl rfl (op_move ha194 rfl rfl) ?_
         intro a195 ha195; clear ha194 a194
         refine wl_val ha195 rfl rfl rfl ((op_add ha195 rfl rfl rfl).int (IntWalk.i64_in _ (by omega))) ?_
         intro a196 ha196; clear ha195 a195
         refine wl_val ha196 rfl rfl rfl (op_assign ha196 rfl rfl) ?_
         intro a197 ha197; clear ha196 a196
         refine wpList_nil ?_
         have hins := insK_front (key := keyI list) (x := (i : Int)) hU hk2 (.inr ⟨_, hx68, by rw [keyI_el hx78, keyI_nat hx39]; assumption⟩)
         have hieq : ((((os.take k)) ++ [((i : Nat) : Int)]) ++ os.drop k) = insK (keyI list) (i : Int) os := by rw [hins]; simp
         refine round_end (x := (i, v, os)) ((i + 1), v184, ((((os.take k)) ++ [((i : Nat) : Int)]) ++ os.drop k)) ?_ ?_
         ·
          refine ⟨(Sl.cons_ ha197 rfl rfl (Sl.cons_ ha197 rfl rfl (Sl.cons_ ha197 rfl rfl (Sl.cons_ ha197 rfl (int_eq (by omega)) (Sl.nil_ ha197))))), hx191, (ho186.fin (by omega) (by omega) (by omega)), (by omega), (by omega), (by rw [hieq, insK_len]; omega), (by rw [hieq]; exact insK_up hU), (by rw [hieq]; intro o ho; rcases insK_mem.1 ho with e | e; (subst e; omega); (have := hB o e; omega)), (by rw [hieq, ord_map hB (by omega), getC_eq hx39]; rw [drop_cons hx39, ordGo] at hF; exact hF)⟩
         ·show (list.length - ((i + 1)) : Nat) < list.length - i; omega
      ·
       rw [decide_eq_false c64] at ha63
       refine dr_skip (i := 5) ha63 rfl (by kernel_rfl) (by kernel_rfl) (by kernel_rfl) rfl rfl rfl hs58 ?_
       intro a198 ha198; clear ha63 a63
       refine dr_skip (i := 6) ha198 rfl (by kernel_rfl) (by kernel_rfl) (by kernel_rfl) rfl rfl rfl hs58 ?_
       intro a199 ha199; clear ha198 a198
       refine dr_skip (i := 7) ha199 rfl (by kernel_rfl) (by kernel_rfl) (by kernel_rfl) rfl rfl rfl hs58 ?_
       intro a200 ha200; clear ha199 a199
       refine dr_skip (i := 8) ha200 rfl (by kernel_rfl) (by kernel_rfl) (by kernel_rfl) rfl rfl rfl hs58 ?_
       intro a201 ha201; clear ha200 a200
       refine dr_skip (i := 9) ha201 rfl (by kernel_rfl) (by kernel_rfl) (by kernel_rfl) rfl rfl rfl hs58 ?_
       intro a202 ha202; clear ha201 a201
       refine dr_skip (i := 10) ha202 rfl (by kernel_rfl) (by kernel_rfl) (by kernel_rfl) rfl rfl rfl hs58 ?_
       intro a203 ha203; clear ha202 a202
       refine dr_skip (i := 11) ha203 rfl (by kernel_rfl) (by kernel_rfl) (by kernel_rfl) rfl rfl rfl hs58 ?_
       intro a204 ha204; clear ha203 a203
       refine dr_skip (i := 12) ha204 rfl (by kernel_rfl) (by kernel_rfl) (by kernel_rfl) rfl rfl rfl hs58 ?_
       intro a205 ha205; clear ha204 a204
       refine dr_skip (i := 13) ha205 rfl (by kernel_rfl) (by kernel_rfl) (by kernel_rfl) rfl rfl rfl hs58 ?_
       intro a206 ha206; clear ha205 a205
       refine dr_skip (i := 14) ha206 rfl (by kernel_rfl) (by kernel_rfl) (by kernel_rfl) rfl rfl rfl hs58 ?_
       intro a207 ha207; clear ha206 a206
       refine dr_skip (i := 15) ha207 rfl (by kernel_rfl) (by kernel_rfl) (by kernel_rfl) rfl rfl rfl hs58 ?_
       intro a208 ha208; clear ha207 a207
       refine dr_skip (i := 16) ha208 rfl (by kernel_rfl) (by kernel_rfl) (by kernel_rfl) rfl rfl rfl hs58 ?_
       intro a209 ha209; clear ha208 a208
       refine dr_skip (i := 17) ha209 rfl (by kernel_rfl) (by kernel_rfl) (by kernel_rfl) rfl rfl rfl hs58 ?_
       intro a210 ha210; clear ha209 a209
       refine dr_skip (i := 18) ha210 rfl (by kernel_rfl) (by kernel_rfl) (by kernel_rfl) rfl rfl rfl hs58 ?_
       intro a211 ha211; clear ha210 a210
       refine dr_val (i := 19) ha211 rfl (by kernel_rfl) (by kernel_rfl) (by kernel_rfl) rfl rfl rfl hs58 (fun w' hw' => op_pick_f ha211 rfl rfl rfl) ?_
       intro a212 ha212; clear ha211 a211
       refine dr_end (by kernel_rfl) ?_
       replace hf52 := hf52.ext hs58
       refine then_n ?_
       refine cond_f ha212 rfl ?_
       refine wp_exit ?_
       refine then_e ?_
       refine then_e ?_
       refine block_hit ?_
       refine then_n ?_
       refine dr_enter Ext follows_mixed ?_
       intro w213 he214
       have hx215 := hx57.trans' he214
       have hzhx215 := he214.size
       replace hf52 := hf52.ext he214
       have hs216 : Ext w213 w213 := Ext.rfl' _
       refine dr_val (i := 0) ha212 rfl (by kernel_rfl) (by kernel_rfl) (by kernel_rfl) rfl rfl rfl hs216 (fun w' hw' => op_move ha212 rfl rfl) ?_
       intro a217 ha217; clear ha212 a212
       refine dr_val (i := 1) ha217 rfl (by kernel_rfl) (by kernel_rfl) (by kernel_rfl) rfl rfl rfl hs216 (fun w' hw' => op_move ha217 rfl rfl) ?_
       intro a218 ha218; clear ha217 a217
       obtain ⟨u219, hu220, hr221⟩ := Rds.part (hf52.rds pos_shI64) Try.underlying69 ti2 none (some (.int .i64 (k : Nat))) 0 k (.inl ⟨rfl, rfl⟩) (.inr ⟨.i64, rfl⟩) (by first | omega | (simp; omega)) (by first | omega | (simp; omega))
       replace hr221 := hr221.cast (ys := os.take k) (by first | rw [List.take_length] | simp)
       refine dr_val (i := 2) ha218 rfl (by kernel_rfl) (by kernel_rfl) (by kernel_rfl) rfl rfl rfl hs216 (fun w' hw' => op_slice_t (by omega) ha218 rfl rfl rfl hu220) ?_
       intro a222 ha222; clear ha218 a218
       refine dr_val (i := 4) ha222 rfl (by kernel_rfl) (by kernel_rfl) (by kernel_rfl) rfl rfl rfl hs216 (fun w' hw' => op_move ha222 rfl rfl) ?_
       intro a223 ha223; clear ha222 a222
       refine dr_val (i := 7) ha223 rfl (by kernel_rfl) (by kernel_rfl) (by kernel_rfl) rfl rfl rfl hs216 (fun w' hw' => op_move ha223 rfl rfl) ?_
       intro a224 ha224; clear ha223 a223
       refine dr_val (i := 8) ha224 rfl (by kernel_rfl) (by kernel_rfl) (by kernel_rfl) rfl rfl rfl hs216 (fun w' hw' => op_move ha224 rfl rfl) ?_
       intro a225 ha225; clear ha224 a224
       obtain ⟨u226, hu227, hr228⟩ := Rds.part (hf52.rds pos_shI64) Try.underlying69 ti2 (some (.int .i64 (k : Nat))) none k os.length (.inr ⟨.i64, rfl⟩) (.inl ⟨rfl, rfl⟩) (by first | omega | (simp; omega)) (by first | omega | (simp; omega))
       replace hr228 := hr228.cast (ys := os.drop k) (by first | rw [List.take_length] | simp)
       refine dr_val (i := 9) ha225 rfl (by kernel_rfl) (by kernel_rfl) (by kernel_rfl) rfl rfl rfl hs216 (fun w' hw' => op_slice_f (by omega) ha225 rfl rfl rfl hu227) ?_
       intro a229 ha229; clear ha225 a225
       refine dr_two (i := 3) (j := 5) (by kernel_rfl) ?_ ?_
       ·
        refine po_callR ha229 rfl rfl rfl rfl (op_call ha229 rfl cb62 rfl) (c_spec_l01Own _ u219 (os.take k) (hr221.ext pos_shI64 hs216) (by first | assumption | omega | (simp; omega) | (intro c hc; have := cuOk_bd (cuB_el (by assumption) c hc); omega) | (intro c hc; have := cuOk_bd (cuB_el (by assumption) c (List.mem_of_mem_take hc)); omega) | (intro c hc; have := cuOk_bd (cuB_el (by assumption) c (List.mem_of_mem_drop hc)); omega))) ?_
        rintro v230 w231 he232 ho233 a234 ha234; clear ha229 a229
        have hs235 := hs216.trans' he232
        have hx236 := hx215.trans' he232
        have hzhx236 := he232.size
        refine ⟨hs235, ?_⟩
        refine dr_one (i := 5) (by kernel_rfl) ?_
        refine po_eff ha234 rfl rfl rfl rfl (op_buildSlice (s := shI64) (xs := [((i : Nat) : Int)]) (cs := [.int .i64 ((i : Nat) : Int)]) (vs := [(0, .int .i64 ((i : Nat) : Int))]) (S := fun _ => False) (le := w231.heap.size) ha234 rfl pos_shI64 Try.underlying69 ti2 rfl rfl (by decide) (by kernel_rfl) (Els.single (mk_shI64 (((i : Nat) : Int)) (by first | assumption | omega | exact ⟨by omega, by omega⟩))) (fun _ h => h.elim)) ?_
        rintro v237 w238 ⟨ho239, he240, hob241⟩ a242 ha242; clear ha234 a234
        have hs243 := hs235.trans' he240
        have hx244 := hx236.trans' he240
        have hzhx244 := he240.size
        replace ho233 := ho233.ext he240
        refine ⟨hs243, ?_⟩
        refine dr_one (i := 6) (by kernel_rfl) ?_
        refine po_eff ha242 rfl rfl rfl rfl (op_append (ts := #[]) (s := shI64) ha242 rfl Try.underlying69 ti2 rfl pos_shI64 rfl rfl ho233 (ho239.rds pos_shI64) (by omega) (by omega) (by first | omega | (simp; omega) | (simp only [List.length_append, List.length_take, List.length_drop, List.length_singleton] at *; omega)) (by first | omega | (simp; omega) | (simp only [List.length_append, List.length_take, List.length_drop, List.length_singleton] at *; omega)) (.inl flat_shI64)) ?_
        rintro v245 w246 ⟨ho247, hst248, hob249⟩ a250 ha250; clear ha242 a242
        have hs251 := hs243.stp hst248 (by intro q hq; have hq0 := ho233.lt q hq; omega)
        have hx252 := hx244.stp hst248 (by intro q hq; have hq0 := ho233.lt q hq; omega)
        have hzhx252 := hst248.size
        replace ho239 := ho239.stp hst248 (by intro q hq; have hq0 := ho233.lt q hq; omega)
        have hsp253 : ∀ q, Value.ownBlock v245 = some q → Value.ownBlock v ≠ some q := by intro q hq hb; have hq0 := hf52.lt q hb; rcases hob249 with h | h; (rw [h] at hq; first | (have hq1 := ho233.lt q hq; omega)); (rw [h] at hq; cases hq; omega)
        have hsp254 : ∀ q, Value.ownBlock v245 = some q → Value.ownBlock v237 ≠ some q := by intro q hq hb; have hq0 := ho239.lt q hb; rcases hob249 with h | h; (rw [h] at hq; first | (have hq1 := ho233.lt q hq; omega)); (rw [h] at hq; cases hq; omega)
        refine ⟨hs251, ?_⟩
        refine dr_one (i := 10) (by kernel_rfl) ?_
        refine po_eff ha250 rfl rfl rfl rfl (op_append (ts := #[]) (s := shI64) ha250 rfl Try.underlying69 ti2 rfl pos_shI64 rfl rfl ho247 (hr228.ext pos_shI64 hs251) (by omega) (by omega) (by first | omega | (simp; omega) | (simp only [List.length_append, List.length_take, List.length_drop, List.length_singleton] at *; omega)) (by first | omega | (simp; omega) | (simp only [List.length_append, List.length_take, List.length_drop, List.length_singleton] at *; omega)) (.inl flat_shI64)) ?_
        rintro v255 w256 ⟨ho257, hst258, hob259⟩ a260 ha260; clear ha250 a250
        have hs261 := hs251.stp hst258 (by intro q hq; have hq0 := ho247.lt q hq; omega)
        have hx262 := hx252.stp hst258 (by intro q hq; have hq0 := ho247.lt q hq; omega)
        have hzhx262 := hst258.size
        first | replace ho239 := ho239.stp hst258 (by intro q hq; have hq0 := ho247.lt q hq; omega) | replace ho239 := ho239.stpF flat_shI64 hst258 (fun q hq => hsp254 q hq)
        have hsp263 : ∀ q, Value.ownBlock v255 = some q → Value.ownBlock v ≠ some q := by intro q hq hb; have hq0 := hf52.lt q hb; rcases hob259 with h | h; (rw [h] at hq; first | (have hq1 := ho247.lt q hq; omega) | exact hsp253 q hq hb); (rw [h] at hq; cases hq; omega)
        have hsp264 : ∀ q, Value.ownBlock v255 = some q → Value.ownBlock v237 ≠ some q := by intro q hq hb; have hq0 := ho239.lt q hb; rcases hob259 with h | h; (rw [h] at hq; first | (have hq1 := ho247.lt q hq; omega) | exact hsp254 q hq hb); (rw [h] at hq; cases hq; omega)
        refine ⟨hs261, ?_⟩
        refine dr_val (i := 11) ha260 rfl (by kernel_rfl) (by kernel_rfl) (by kernel_rfl) rfl rfl rfl hs261 (fun w' hw' => op_assign ha260 rfl rfl) ?_
        intro a265 ha265; clear ha260 a260
        refine dr_end (by kernel_rfl) ?_
        replace hf52 := hf52.ext hs261
        replace hr221 := hr221.ext pos_shI64 hs261
        replace hr228 := hr228.ext pos_shI64 hs261
        refine block_n ?_
        refine then_n ?_
        refine wp_region_lit ?_
        refine wl_val ha265 rfl rfl rfl (op_move ha265 rfl rfl) ?_
        intro a266 ha266; clear ha265 a265
        refine wl_val ha266 rfl rfl rfl ((op_add ha266 rfl rfl rfl).int (IntWalk.i64_in _ (by omega))) ?_
        intro a267 ha267; clear ha266 a266
        refine wl_val ha267 rfl rfl rfl (op_assign ha267 rfl rfl) ?_
        intro a268 ha268; clear ha267 a267
        refine wpList_nil ?_
        have hins := insK_front (key := keyI list) (x := (i : Int)) hU hk2 (.inl (by omega))
        have hieq : ((((os.take k)) ++ [((i : Nat) : Int)]) ++ os.drop k) = insK (keyI list) (i : Int) os := by rw [hins]; simp
        refine round_end (x := (i, v, os)) ((i + 1), v255, ((((os.take k)) ++ [((i : Nat) : Int)]) ++ os.drop k)) ?_ ?_
        ·
         refine ⟨(Sl.cons_ ha268 rfl rfl (Sl.cons_ ha268 rfl rfl (Sl.cons_ ha268 rfl rfl (Sl.cons_ ha268 rfl (int_eq (by omega)) (Sl.nil_ ha268))))), hx262, (ho257.fin (by omega) (by omega) (by omega)), (by omega), (by omega), (by rw [hieq, insK_len]; omega), (by rw [hieq]; exact insK_up hU), (by rw [hieq]; intro o ho; rcases insK_mem.1 ho with e | e; (subst e; omega); (have := hB o e; omega)), (by rw [hieq, ord_map hB (by omega), getC_eq hx39]; rw [drop_cons hx39, ordGo] at hF; exact hF)⟩
        ·show (list.length - ((i + 1)) : Nat) < list.length - i; omega
       ·
        refine po_eff ha229 rfl rfl rfl rfl (op_buildSlice (s := shI64) (xs := [((i : Nat) : Int)]) (cs := [.int .i64 ((i : Nat) : Int)]) (vs := [(0, .int .i64 ((i : Nat) : Int))]) (S := fun _ => False) (le := w213.heap.size) ha229 rfl pos_shI64 Try.underlying69 ti2 rfl rfl (by decide) (by kernel_rfl) (Els.single (mk_shI64 (((i : Nat) : Int)) (by first | assumption | omega | exact ⟨by omega, by omega⟩))) (fun _ h => h.elim)) ?_
        rintro v269 w270 ⟨ho271, he272, hob273⟩ a274 ha274; clear ha229 a229
        have hs275 := hs216.trans' he272
        have hx276 := hx215.trans' he272
        have hzhx276 := he272.size
        refine ⟨hs275, ?_⟩
        refine dr_one (i := 3) (by kernel_rfl) ?_
        refine po_callR ha274 rfl rfl rfl rfl (op_call ha274 rfl cb62 rfl) (c_spec_l01Own _ u219 (os.take k) (hr221.ext pos_shI64 hs275) (by first | assumption | omega | (simp; omega) | (intro c hc; have := cuOk_bd (cuB_el (by assumption) c hc); omega) | (intro c hc; have := cuOk_bd (cuB_el (by assumption) c (List.mem_of_mem_take hc)); omega) | (intro c hc; have := cuOk_bd (cuB_el (by assumption) c (List.mem_of_mem_drop hc)); omega))) ?_
        rintro v277 w278 he279 ho280 a281 ha281; clear ha274 a274
        have hs282 := hs275.trans' he279
        have hx283 := hx276.trans' he279
        have hzhx283 := he279.size
        replace ho271 := ho271.ext he279
        refine ⟨hs282, ?_⟩
        refine dr_one (i := 6) (by kernel_rfl) ?_
        refine po_eff ha281 rfl rfl rfl rfl (op_append (ts := #[]) (s := shI64) ha281 rfl Try.underlying69 ti2 rfl pos_shI64 rfl rfl ho280 (ho271.rds pos_shI64) (by omega) (by omega) (by first | omega | (simp; omega) | (simp only [List.length_append, List.length_take, List.length_drop, List.length_singleton] at *; omega)) (by first | omega | (simp; omega) | (simp only [List.length_append, List.length_take, List.length_drop, List.length_singleton] at *; omega)) (.inl flat_shI64)) ?_
        rintro v284 w285 ⟨ho286, hst287, hob288⟩ a289 ha289; clear ha281 a281
        have hs290 := hs282.stp hst287 (by intro q hq; have hq0 := ho280.lt q hq; omega)
        have hx291 := hx283.stp hst287 (by intro q hq; have hq0 := ho280.lt q hq; omega)
        have hzhx291 := hst287.size
        replace ho271 := ho271.stp hst287 (by intro q hq; have hq0 := ho280.lt q hq; omega)
        have hsp292 : ∀ q, Value.ownBlock v284 = some q → Value.ownBlock v ≠ some q := by intro q hq hb; have hq0 := hf52.lt q hb; rcases hob288 with h | h; (rw [h] at hq; first | (have hq1 := ho280.lt q hq; omega)); (rw [h] at hq; cases hq; omega)
        have hsp293 : ∀ q, Value.ownBlock v284 = some q → Value.ownBlock v269 ≠ some q := by intro q hq hb; have hq0 := ho271.lt q hb; rcases hob288 with h | h; (rw [h] at hq; first | (have hq1 := ho280.lt q hq; omega)); (rw [h] at hq; cases hq; omega)
        refine ⟨hs290, ?_⟩
        refine dr_one (i := 10) (by kernel_rfl) ?_
        refine po_eff ha289 rfl rfl rfl rfl (op_append (ts := #[]) (s := shI64) ha289 rfl Try.underlying69 ti2 rfl pos_shI64 rfl rfl ho286 (hr228.ext pos_shI64 hs290) (by omega) (by omega) (by first | omega | (simp; omega) | (simp only [List.length_append, List.length_take, List.length_drop, List.length_singleton] at *; omega)) (by first | omega | (simp; omega) | (simp only [List.length_append, List.length_take, List.length_drop, List.length_singleton] at *; omega)) (.inl flat_shI64)) ?_
        rintro v294 w295 ⟨ho296, hst297, hob298⟩ a299 ha299; clear ha289 a289
        have hs300 := hs290.stp hst297 (by intro q hq; have hq0 := ho286.lt q hq; omega)
        have hx301 := hx291.stp hst297 (by intro q hq; have hq0 := ho286.lt q hq; omega)
        have hzhx301 := hst297.size
        replace ho271 := ho271.stp hst297 (by intro q hq; have hq0 := ho286.lt q hq; omega)
        have hsp302 : ∀ q, Value.ownBlock v294 = some q → Value.ownBlock v ≠ some q := by intro q hq hb; have hq0 := hf52.lt q hb; rcases hob298 with h | h; (rw [h] at hq; first | (have hq1 := ho286.lt q hq; omega) | exact hsp292 q hq hb); (rw [h] at hq; cases hq; omega)
        have hsp303 : ∀ q, Value.ownBlock v294 = some q → Value.ownBlock v269 ≠ some q := by intro q hq hb; have hq0 := ho271.lt q hb; rcases hob298 with h | h; (rw [h] at hq; first | (have hq1 := ho286.lt q hq; omega) | exact hsp293 q hq hb); (rw [h] at hq; cases hq; omega)
        refine ⟨hs300, ?_⟩
        refine dr_val (i := 11) ha299 rfl (by kernel_rfl) (by kernel_rfl) (by kernel_rfl) rfl rfl rfl hs300 (fun w' hw' => op_assign ha299 rfl rfl) ?_
        intro a304 ha304; clear ha299 a299
        refine dr_end (by kernel_rfl) ?_
        replace hf52 := hf52.ext hs300
        replace hr221 := hr221.ext pos_shI64 hs300
        replace hr228 := hr228.ext pos_shI64 hs300
        refine block_n ?_
        refine then_n ?_
        refine wp_region_lit ?_
        refine wl_val ha304 rfl rfl rfl (op_move ha304 rfl rfl) ?_
        intro a305 ha305; clear ha304 a304
        refine wl_val ha305 rfl rfl rfl ((op_add ha305 rfl rfl rfl).int (IntWalk.i64_in _ (by omega))) ?_
        intro a306 ha306; clear ha305 a305
        refine wl_val ha306 rfl rfl rfl (op_assign ha306 rfl rfl) ?_
        intro a307 ha307; clear ha306 a306
        refine wpList_nil ?_
        have hins := insK_front (key := keyI list) (x := (i : Int)) hU hk2 (.inl (by omega))
        have hieq : ((((os.take k)) ++ [((i : Nat) : Int)]) ++ os.drop k) = insK (keyI list) (i : Int) os := by rw [hins]; simp
        refine round_end (x := (i, v, os)) ((i + 1), v294, ((((os.take k)) ++ [((i : Nat) : Int)]) ++ os.drop k)) ?_ ?_
        ·
         refine ⟨(Sl.cons_ ha307 rfl rfl (Sl.cons_ ha307 rfl rfl (Sl.cons_ ha307 rfl rfl (Sl.cons_ ha307 rfl (int_eq (by omega)) (Sl.nil_ ha307))))), hx301, (ho296.fin (by omega) (by omega) (by omega)), (by omega), (by omega), (by rw [hieq, insK_len]; omega), (by rw [hieq]; exact insK_up hU), (by rw [hieq]; intro o ho; rcases insK_mem.1 ho with e | e; (subst e; omega); (have := hB o e; omega)), (by rw [hieq, ord_map hB (by omega), getC_eq hx39]; rw [drop_cons hx39, ordGo] at hF; exact hF)⟩
        ·show (list.length - ((i + 1)) : Nat) < list.length - i; omega
    ·
     rw [decide_eq_false c37] at ha36
     refine cond_f ha36 rfl ?_
     refine wp_exit ?_
     refine then_e ?_
     refine then_e ?_
     refine block_hit ?_
     refine then_n ?_
     refine wp_seq ?_
     refine wp_region_lit ?_
     refine wl_eff ha36 rfl rfl rfl (op_buildSlice (s := shStr) (xs := ([] : List Str)) (cs := []) (vs := []) (S := fun _ => False) (le := w28.heap.size) ha36 rfl pos_shStr Try.underlying34 ti9 rfl rfl (by decide) (by kernel_rfl) rfl (fun _ h => h.elim)) ?_
     rintro v308 w309 ⟨ho310, he311, hob312⟩ a313 ha313; clear ha36 a36
     have hx314 := hx29.trans' he311
     have hzhx314 := he311.size
     replace hf30 := hf30.ext he311
     refine wl_val ha313 rfl rfl rfl (op_assign ha313 rfl rfl) ?_
     intro a315 ha315; clear ha313 a313
     refine wpList_nil ?_
     refine then_n ?_
     refine wp_seq ?_
     refine wp_seq ?_
     refine wp_region_lit ?_
     refine wl_val ha315 rfl rfl rfl (op_assign ha315 rfl rfl) ?_
     intro a316 ha316; clear ha315 a315
     refine wpList_nil ?_
     refine then_n ?_
     refine wp_block ?_
     refine loop_inv (X := Nat × Value × (List Str)) (fun (⟨j, v2, acc⟩ : Nat × Value × (List Str)) fr wl => Sl 81 fr [(0, v_list), (1, .int .i64 most), (6, v), (9, v2), (10, .int .i64 ((j : Nat) : Int))] ∧ Ext w0 wl ∧ Own shI64 2 w13.heap.size w13.heap.size w28.heap.size wl v os ∧ Own shStr 9 w28.heap.size w28.heap.size wl.heap.size wl v2 acc ∧ w309.heap.size ≤ wl.heap.size ∧ (j ≤ os.length) ∧ (acc.length ≤ j) ∧ (os.map (getC list) = ordS list) ∧ (acc = ((ordS list).map (·.1)).take (min j most.toNat))) (fun (⟨j, v2, acc⟩ : Nat × Value × (List Str)) => os.length - j) (0, v308, ([] : List Str)) ?_ ?_
     ·
      exact ⟨(Sl.cons_ ha316 rfl rfl (Sl.cons_ ha316 rfl rfl (Sl.cons_ ha316 rfl rfl (Sl.cons_ ha316 rfl rfl (Sl.cons_ ha316 rfl (int_eq (by omega)) (Sl.nil_ ha316)))))), hx314, hf30, (ho310.fin (by omega) (by omega) (by omega)), (by omega), (by omega), (by simp), (by rw [drop_nil (by omega), ordGo] at hF; exact hF), (by simp)⟩
     ·
      clear ha316 a316
      rintro ⟨j, v2, acc⟩ a321 w317 ⟨ha321, hx318, hf319, hf320, hzl322, hj, hl2, hE, hG⟩
      have hzhx318 := hx318.size
      refine wp_seq ?_
      refine wp_seq ?_
      refine wp_region_lit ?_
      refine wl_val ha321 rfl rfl rfl (op_move ha321 rfl rfl) ?_
      intro a323 ha323; clear ha321 a321
      refine wl_val ha323 rfl rfl rfl (op_move ha323 rfl rfl) ?_
      intro a324 ha324; clear ha323 a323
      refine wl_val ha324 rfl rfl rfl (op_len_sl ha324 rfl Try.underlying69 rfl (hf319.rds pos_shI64)) ?_
      intro a325 ha325; clear ha324 a324
      refine wl_val ha325 rfl rfl rfl (op_lss ha325 rfl rfl rfl) ?_
      intro a326 ha326; clear ha325 a325
      refine wl_val ha326 rfl rfl rfl (op_move ha326 rfl rfl) ?_
      intro a327 ha327; clear ha326 a326
      by_cases c328 : ((j : Nat) : Int) < ((os.length : Nat) : Int)
      ·
       rw [decide_eq_true c328] at ha327
       refine wl_val ha327 rfl rfl rfl (op_move ha327 rfl rfl) ?_
       intro a329 ha329; clear ha327 a327
       refine wl_val ha329 rfl rfl rfl (op_move ha329 rfl rfl) ?_
       intro a330 ha330; clear ha329 a329
       refine wl_val ha330 rfl rfl rfl (op_lss ha330 rfl rfl rfl) ?_
       intro a331 ha331; clear ha330 a330
       refine wl_val ha331 rfl rfl rfl (op_pick_t ha331 rfl rfl rfl) ?_
       intro a332 ha332; clear ha331 a331
       refine wpList_nil ?_
       refine then_n ?_
       by_cases c333 : ((j : Nat) : Int) < most
       ·
        rw [decide_eq_true c333] at ha332
        refine cond_t ha332 rfl ?_
        refine wp_skip ?_
        refine then_n ?_
        refine wp_seq ?_
        refine wp_block ?_
        refine wp_region_lit ?_
        refine wl_val ha332 rfl rfl rfl (op_move ha332 rfl rfl) ?_
        intro a334 ha334; clear ha332 a332
        refine wl_val ha334 rfl rfl rfl (op_move ha334 rfl rfl) ?_
        intro a335 ha335; clear ha334 a334
        refine wl_val ha335 rfl rfl rfl (op_move ha335 rfl rfl) ?_
        intro a336 ha336; clear ha335 a335
        refine wl_val ha336 rfl rfl rfl (op_move ha336 rfl rfl) ?_
        intro a337 ha337; clear ha336 a336
        obtain ⟨x338, hx338⟩ := get_ex (xs := os) (j := j) (by first | omega | (simp only [List.length_set, List.length_append, List.length_take, List.length_drop, List.length_singleton]; omega))
        obtain ⟨p339, c340, hi341, hc342, hr343, hs344⟩ := Rds.at_ (hf319.rds pos_shI64) hx338
        obtain ⟨rfl, b345⟩ := inv_shI64 hr343
        obtain ⟨_, _⟩ : _ ∧ _ := hs344
        have hobx338 := hB _ (List.mem_of_getElem? hx338)
        refine wl_val ha337 rfl rfl rfl (op_indexAddr ha337 rfl Try.underlying69 ti2 rfl rfl (by omega) hi341) ?_
        intro a346 ha346; clear ha337 a337
        refine wl_val ha346 rfl rfl rfl (op_loadH ha346 rfl Try.underlying2 rfl rfl hc342 rfl) ?_
        intro a347 ha347; clear ha346 a346
        obtain ⟨x348, hx348⟩ := get_ex (xs := list) (j := x338.toNat) (by first | omega | (simp only [List.length_set, List.length_append, List.length_take, List.length_drop, List.length_singleton]; omega))
        obtain ⟨p349, c350, hi351, hc352, hr353, hs354⟩ := Rds.at_ h_list hx348
        obtain ⟨v355, rfl, b356, b357, b358⟩ := inv_shCust hr353
        have hlb358 := b358.length_le
        have hbx348 := cuOk_bd (hcuc10 _ (List.mem_of_getElem? hx348))
        refine wl_val ha347 rfl rfl rfl (op_indexAddr ha347 rfl Try.underlying25 ti55 rfl rfl (by omega) hi351) ?_
        intro a359 ha359; clear ha347 a347
        refine wl_val ha359 rfl rfl rfl (op_fieldAddr (sz := 0) ha359 rfl Try.underlying55 rfl rfl ti9 rfl) ?_
        intro a360 ha360; clear ha359 a359
        refine wl_val ha360 rfl rfl rfl (op_loadF (off := 0) ha360 rfl Try.underlying9 rfl rfl (hc352.ext hx318) rfl) ?_
        intro a361 ha361; clear ha360 a360
        refine wl_eff ha361 rfl rfl rfl (op_buildSlice (s := shStr) (xs := [x348.1]) (cs := [St x348.1]) (vs := [(0, St x348.1)]) (S := fun _ => False) (le := w317.heap.size) ha361 rfl pos_shStr Try.underlying34 ti9 rfl rfl (by decide) (by kernel_rfl) (Els.single (mk_shStr x348.1 (by first | assumption | omega | exact ⟨by omega, by omega⟩))) (fun _ h => h.elim)) ?_
        rintro v362 w363 ⟨ho364, he365, hob366⟩ a367 ha367; clear ha361 a361
        have hx368 := hx318.trans' he365
        have hzhx368 := he365.size
        replace hf319 := hf319.ext he365
        replace hf320 := hf320.ext he365
        replace hc342 := hc342.ext he365
        refine wl_eff ha367 rfl rfl rfl (op_append (ts := #[]) (s := shStr) ha367 rfl Try.underlying34 ti9 rfl pos_shStr rfl rfl hf320 (ho364.rds pos_shStr) (by omega) (by omega) (by first | omega | (simp; omega) | (simp only [List.length_append, List.length_take, List.length_drop, List.length_singleton] at *; omega)) (by first | omega | (simp; omega) | (simp only [List.length_append, List.length_take, List.length_drop, List.length_singleton] at *; omega)) (.inl flat_shStr)) ?_
        rintro v369 w370 ⟨ho371, hst372, hob373⟩ a374 ha374; clear ha367 a367
        have hx375 := hx368.stp hst372 (by intro q hq; have hq0 := hf320.lt q hq; omega)
        have hzhx375 := hst372.size
        replace hf319 := hf319.stp hst372 (by intro q hq; have hq0 := hf320.lt q hq; omega)
        replace ho364 := ho364.stp hst372 (by intro q hq; have hq0 := hf320.lt q hq; omega)
        have hsp376 : ∀ q, Value.ownBlock v369 = some q → Value.ownBlock v362 ≠ some q := by intro q hq hb; have hq0 := ho364.lt q hb; rcases hob373 with h | h; (rw [h] at hq; first | (have hq1 := hf320.lt q hq; omega)); (rw [h] at hq; cases hq; omega)
        have hlaq377 : ((acc ++ [x348.1])).length = acc.length + 1 := by simp
        refine wl_val ha374 rfl rfl rfl (op_assign ha374 rfl rfl) ?_
        intro a378 ha378; clear ha374 a374
        refine wpList_nil ?_
        refine block_n ?_
        refine then_n ?_
        refine wp_region_lit ?_
        refine wl_val ha378 rfl rfl rfl (op_move ha378 rfl rfl) ?_
        intro a379 ha379; clear ha378 a378
        refine wl_val ha379 rfl rfl rfl ((op_add ha379 rfl rfl rfl).int (IntWalk.i64_in _ (by omega))) ?_
        intro a380 ha380; clear ha379 a379
        refine wl_val ha380 rfl rfl rfl (op_assign ha380 rfl rfl) ?_
        intro a381 ha381; clear ha380 a380
        refine wpList_nil ?_
        refine round_end (x := (j, v2, acc)) ((j + 1), v369, (acc ++ [x348.1])) ?_ ?_
        ·
         refine ⟨(Sl.cons_ ha381 rfl rfl (Sl.cons_ ha381 rfl rfl (Sl.cons_ ha381 rfl rfl (Sl.cons_ ha381 rfl rfl (Sl.cons_ ha381 rfl (int_eq (by omega)) (Sl.nil_ ha381)))))), hx375, hf319, (ho371.fin (by omega) (by omega) (by omega)), (by omega), (by omega), (by first | omega | (simp; omega)), (by exact hE), (by have hoe : (ordS list)[j]? = some x348 := (by rw [← hE, List.getElem?_map, hx338]; show some (getC list x338) = _; unfold getC; rw [hx348]; rfl); exact lsL_step (by omega) hoe hG (by omega))⟩
        ·show (os.length - ((j + 1)) : Nat) < os.length - j; omega
       ·
        rw [decide_eq_false c333] at ha332
        refine cond_f ha332 rfl ?_
        refine wp_exit ?_
        refine then_e ?_
        refine then_e ?_
        refine block_hit ?_
        refine then_n ?_
        refine wp_seq ?_
        refine wp_region_lit ?_
        refine wl_val ha332 rfl rfl rfl (op_move ha332 rfl rfl) ?_
        intro a382 ha382; clear ha332 a332
        refine wl_val ha382 rfl rfl rfl (op_assign ha382 rfl rfl) ?_
        intro a383 ha383; clear ha382 a382
        refine wl_val ha383 rfl rfl rfl (op_assign ha383 rfl rfl) ?_
        intro a384 ha384; clear ha383 a383
        refine wpList_nil ?_
        refine then_n ?_
        refine wp_ret ?_
        refine ret2 ha384 rfl rfl rfl ?_
        clear ha384 a384
        have hr := codeL_ok c10 c18
        have hr2 := ls_ok hr
        refine ret_mk hx318 ⟨v2, (tup2_eq rfl (int_eq (by exact hr.symm))), ?_⟩
        ·refine (hf320.fin (by omega) (by omega) (by omega)).cast ?_
         rw [hr2]; exact lsL_end hG (by first | (left; have := congrArg List.length hE; simp at this; omega) | (right; omega))
      ·
       rw [decide_eq_false c328] at ha327
       refine wl_skip ha327 rfl rfl rfl ?_
       intro a385 ha385; clear ha327 a327
       refine wl_skip ha385 rfl rfl rfl ?_
       intro a386 ha386; clear ha385 a385
       refine wl_skip ha386 rfl rfl rfl ?_
       intro a387 ha387; clear ha386 a386
       refine wl_val ha387 rfl rfl rfl (op_pick_f ha387 rfl rfl rfl) ?_
       intro a388 ha388; clear ha387 a387
       refine wpList_nil ?_
       refine then_n ?_
       refine cond_f ha388 rfl ?_
       refine wp_exit ?_
       refine then_e ?_
       refine then_e ?_
       refine block_hit ?_
       refine then_n ?_
       refine wp_seq ?_
       refine wp_region_lit ?_
       refine wl_val ha388 rfl rfl rfl (op_move ha388 rfl rfl) ?_
       intro a389 ha389; clear ha388 a388
       refine wl_val ha389 rfl rfl rfl (op_assign ha389 rfl rfl) ?_
       intro a390 ha390; clear ha389 a389
       refine wl_val ha390 rfl rfl rfl (op_assign ha390 rfl rfl) ?_
       intro a391 ha391; clear ha390 a390
       refine wpList_nil ?_
       refine then_n ?_
       refine wp_ret ?_
       refine ret2 ha391 rfl rfl rfl ?_
       clear ha391 a391
       have hr := codeL_ok c10 c18
       have hr2 := ls_ok hr
       refine ret_mk hx318 ⟨v2, (tup2_eq rfl (int_eq (by exact hr.symm))), ?_⟩
       ·refine (hf320.fin (by omega) (by omega) (by omega)).cast ?_
        rw [hr2]; exact lsL_end hG (by first | (left; have := congrArg List.length hE; simp at this; omega) | (right; omega))
  ·
   rw [c18] at ha17
   refine cond_t ha17 rfl ?_
   refine wp_seq ?_
   refine wp_region_lit ?_
   refine wl_val ha17 rfl rfl rfl (op_assign ha17 rfl rfl) ?_
   intro a392 ha392; clear ha17 a17
   refine wl_val ha392 rfl rfl rfl (op_assign ha392 rfl rfl) ?_
   intro a393 ha393; clear ha392 a392
   refine wpList_nil ?_
   refine then_n ?_
   refine wp_ret ?_
   refine then_r ?_
   refine ret2 ha393 rfl rfl rfl ?_
   clear ha393 a393
   have hr := codeL_2 c10 c18
   have hr2 := ls_bad (by rw [hr]; decide)
   refine ret_mk hx16 ⟨.slice none 0 0, (tup2_eq rfl (int_eq (by exact hr.symm))), ?_⟩
   ·refine Own.nil_ _ _ _ _ _ _ ?_
    rw [hr2]
 ·
  rw [c10] at ha9
  refine cond_t ha9 rfl ?_
  refine wp_seq ?_
  refine wp_region_lit ?_
  refine wl_val ha9 rfl rfl rfl (op_assign ha9 rfl rfl) ?_
  intro a394 ha394; clear ha9 a9
  refine wl_val ha394 rfl rfl rfl (op_assign ha394 rfl rfl) ?_
  intro a395 ha395; clear ha394 a394
  refine wpList_nil ?_
  refine then_n ?_
  refine wp_ret ?_
  refine then_r ?_
  refine ret2 ha395 rfl rfl rfl ?_
  clear ha395 a395
  have hr := codeL_1 (xs := list) (m := most) c10
  have hr2 := ls_bad (by rw [hr]; decide)
  refine ret_mk hx8 ⟨.slice none 0 0, (tup2_eq rfl (int_eq (by exact hr.symm))), ?_⟩
  ·refine Own.nil_ _ _ _ _ _ _ ?_
   rw [hr2]


end Go.Proofs.Ythbkedflhmeohaa
