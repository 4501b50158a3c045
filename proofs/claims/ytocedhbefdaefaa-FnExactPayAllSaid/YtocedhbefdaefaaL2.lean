/- The helpers of the laws that mark memory. -/
import Derived.Test.YtocedhbefdaefaaL1
namespace Go.Proofs.Ytocedhbefdaefaa
open Go Go.RowKit

theorem c_laws_markText (w0 : World) (k : Int) (g0 : k ≤ 9223372036854775807) :
    Calls Try.prog 67 #[.int .i64 k] w0 (Ret w0 (fun v _ => v = St (mkT k))) := by
  refine enter (N := 20) Try.func67 rfl rfl rfl ?_
  intro a0 ha0
  have hx0 := Ext.rfl' w0
  refine wp_seq ?_
  refine wp_region_lit ?_
  refine wl_val ha0 rfl rfl rfl (op_assign ha0 rfl rfl) ?_
  intro a1 ha1; clear ha0 a0
  refine wpList_nil ?_
  refine then_n ?_
  refine wp_seq ?_
  refine wp_seq ?_
  refine wp_region_lit ?_
  refine wl_val ha1 rfl rfl rfl (op_move ha1 rfl rfl) ?_
  intro a2 ha2; clear ha1 a1
  refine wl_val ha2 rfl rfl rfl (op_leq ha2 rfl rfl rfl) ?_
  intro a3 ha3; clear ha2 a2
  refine wpList_nil ?_
  refine then_n ?_
  by_cases c4 : k ≤ (0 : Int)
  ·
    rw [decide_eq_true c4] at ha3
    refine cond_t ha3 rfl ?_
    refine wp_seq ?_
    refine wp_region_lit ?_
    refine wl_val ha3 rfl rfl rfl (op_assign ha3 rfl rfl) ?_
    intro a5 ha5; clear ha3 a3
    refine wpList_nil ?_
    refine then_n ?_
    refine wp_ret ?_
    refine then_r ?_
    refine ret1 ha5 rfl rfl ?_
    clear ha5 a5
    exact ret_mk hx0 (congrArg St (by (unfold mkT; rw [if_pos (by omega)])))
  ·
    rw [decide_eq_false c4] at ha3
    refine cond_f ha3 rfl ?_
    refine wp_skip ?_
    refine then_n ?_
    refine wp_seq ?_
    refine wp_region_lit ?_
    refine wl_val ha3 rfl rfl rfl (op_assign ha3 rfl rfl) ?_
    intro a6 ha6; clear ha3 a3
    refine wpList_nil ?_
    refine then_n ?_
    refine wp_seq ?_
    refine wp_block ?_
    refine loop_inv (X := Int × Str) (fun (⟨m, t⟩ : Int × Str) fr wl => Sl 20 fr [(0, .int .i64 m), (3, St t)] ∧ Ext w0 wl ∧ w0.heap.size ≤ wl.heap.size ∧ (0 ≤ m) ∧ (m ≤ 9223372036854775807) ∧ ((if 0 < m then digs m.toNat else []) ++ t = digs k.toNat) ∧ (0 < k)) (fun (⟨m, t⟩ : Int × Str) => m.toNat) (k, ([] : Str)) ?_ ?_
    ·
      exact ⟨(Sl.cons_ ha6 rfl (int_eq (by omega)) (Sl.cons_ ha6 rfl rfl (Sl.nil_ ha6))), hx0, (by omega), (by omega), (by omega), (by rw [if_pos (by omega)]; simp), (by omega)⟩
    ·
      clear ha6 a6
      rintro ⟨m, t⟩ a9 w7 ⟨ha9, hx8, hzl10, hm0, hm1, hF, hn⟩
      have hzhx8 := hx8.size
      refine wp_seq ?_
      refine wp_seq ?_
      refine wp_region_lit ?_
      refine wl_val ha9 rfl rfl rfl (op_move ha9 rfl rfl) ?_
      intro a11 ha11; clear ha9 a9
      refine wl_val ha11 rfl rfl rfl (op_gtr ha11 rfl rfl rfl) ?_
      intro a12 ha12; clear ha11 a11
      refine wpList_nil ?_
      refine then_n ?_
      by_cases c13 : (0 : Int) < m
      ·
        rw [decide_eq_true c13] at ha12
        refine cond_t ha12 rfl ?_
        refine wp_skip ?_
        refine then_n ?_
        refine wp_block ?_
        refine wp_seq ?_
        refine wp_region_lit ?_
        refine wl_val ha12 rfl rfl rfl (op_move ha12 rfl rfl) ?_
        intro a14 ha14; clear ha12 a12
        refine wl_val ha14 rfl rfl rfl ((op_rem ha14 rfl rfl rfl (by omega)).int (Int.tmod_eq_emod_of_nonneg (by omega))) ?_
        intro a15 ha15; clear ha14 a14
        refine wl_val ha15 rfl rfl rfl ((op_add ha15 rfl rfl rfl).int (IntWalk.i64_in _ (by omega))) ?_
        intro a16 ha16; clear ha15 a15
        refine wl_val ha16 rfl rfl rfl ((op_conv_int ha16 rfl Try.underlying3 Try.underlying5 rfl).int (IntWalk.u8_in _ (by omega))) ?_
        intro a17 ha17; clear ha16 a16
        refine wl_eff ha17 rfl rfl rfl (op_buildSlice (s := shU8) (xs := [UInt8.ofNat ((48 + (m.toNat % 10)))]) (cs := [.int .u8 ((48 : Int) + (m % (10 : Int)))]) (vs := [(0, .int .u8 ((48 : Int) + (m % (10 : Int))))]) (S := fun _ => False) (le := w7.heap.size) ha17 rfl pos_shU8 Try.underlying57 ti5 rfl rfl (by decide) (by kernel_rfl) (Els.single (mk_shU8i ((48 + (m.toNat % 10))) (by omega) (by omega))) (fun _ h => h.elim)) ?_
        rintro v18 w19 ⟨ho20, he21, hob22⟩ a23 ha23; clear ha17 a17
        have hx24 := hx8.trans' he21
        have hzhx24 := he21.size
        refine wl_val ha23 rfl rfl rfl (op_conv_str ha23 rfl Try.underlying57 Try.underlying5 Try.underlying9 rfl (ho20.rds pos_shU8)) ?_
        intro a25 ha25; clear ha23 a23
        refine wl_val ha25 rfl rfl rfl (op_move ha25 rfl rfl) ?_
        intro a26 ha26; clear ha25 a25
        refine wl_val ha26 rfl rfl rfl (op_sadd ha26 rfl rfl rfl (by have h1 := digs_len19 (n := k.toNat) (by omega); rw [← hF, List.length_append] at h1; have h2 := digs_pos m.toNat; first | (rw [if_pos (by omega)] at h1; simp <;> omega) | (rw [if_neg (by omega)] at h1; simp at h1; simp <;> omega))) ?_
        intro a27 ha27; clear ha26 a26
        refine wl_val ha27 rfl rfl rfl (op_assign ha27 rfl rfl) ?_
        intro a28 ha28; clear ha27 a27
        refine wpList_nil ?_
        refine then_n ?_
        refine wp_region_lit ?_
        refine wl_val ha28 rfl rfl rfl (op_move ha28 rfl rfl) ?_
        intro a29 ha29; clear ha28 a28
        refine wl_val ha29 rfl rfl rfl ((op_quo ha29 rfl rfl rfl (by omega)).int (IntWalk.i64_quo _ _ (by omega))) ?_
        intro a30 ha30; clear ha29 a29
        refine wl_val ha30 rfl rfl rfl (op_assign ha30 rfl rfl) ?_
        intro a31 ha31; clear ha30 a30
        refine wpList_nil ?_
        refine block_n ?_
        refine round_end (x := (m, t)) ((m / (10 : Int)), ([UInt8.ofNat ((48 + (m.toNat % 10)))]) ++ t) ?_ ?_
        ·
          refine ⟨(Sl.cons_ ha31 rfl (int_eq (by omega)) (Sl.cons_ ha31 rfl rfl (Sl.nil_ ha31))), hx24, (by omega), (by omega), (by omega), (by rw [if_pos (by omega), ← mkT_step (by omega), List.append_assoc] at hF; exact hF), (by omega)⟩
        · show (((m / (10 : Int))).toNat : Nat) < m.toNat; omega
      ·
        rw [decide_eq_false c13] at ha12
        refine cond_f ha12 rfl ?_
        refine wp_exit ?_
        refine then_e ?_
        refine then_e ?_
        refine block_hit ?_
        refine then_n ?_
        refine wp_seq ?_
        refine wp_region_lit ?_
        refine wl_val ha12 rfl rfl rfl (op_move ha12 rfl rfl) ?_
        intro a32 ha32; clear ha12 a12
        refine wl_val ha32 rfl rfl rfl (op_sadd ha32 rfl rfl rfl (by have h1 := digs_len19 (n := k.toNat) (by omega); rw [← hF, List.length_append] at h1; have h2 := digs_pos m.toNat; first | (rw [if_pos (by omega)] at h1; simp <;> omega) | (rw [if_neg (by omega)] at h1; simp at h1; simp <;> omega))) ?_
        intro a33 ha33; clear ha32 a32
        refine wl_val ha33 rfl rfl rfl (op_assign ha33 rfl rfl) ?_
        intro a34 ha34; clear ha33 a33
        refine wpList_nil ?_
        refine then_n ?_
        refine wp_ret ?_
        refine ret1 ha34 rfl rfl ?_
        clear ha34 a34
        exact ret_mk hx8 (congrArg St (by (unfold mkT; rw [if_neg (by omega), ← hF]; rw [if_neg (by omega)]; rfl)))

theorem c_laws_markEntryS (w0 : World) (v_a : Value) (a : List (Int × Int × Str × Int)) {lo_a le_a hi_a : Nat} (k : Int) (h_a : Own shEnt 41 lo_a le_a hi_a w0 v_a a) (g0 : 0 ≤ k) (g1 : k ≤ 4611686018427387904) (g2 : a.length ≤ 4611686018427) :
    Calls Try.prog 32 #[v_a, .int .i64 k] w0 (RetS w0 v_a.ownBlock (fun v w1 => v = .int .i64 (k + 4 * (a.length : Nat)) ∧ Own shEnt 41 lo_a le_a hi_a w1 v_a (mkN mkEnt 4 a.length k))) := by
  refine enter (N := 42) Try.func32 rfl rfl rfl ?_
  intro a0 ha0
  have hx0 := Stp.rfl' w0 v_a.ownBlock
  have hl_a := (h_a.rds pos_shEnt).length_le
  refine wp_seq ?_
  refine wp_region_lit ?_
  refine wl_val ha0 rfl rfl rfl (op_assign ha0 rfl rfl) ?_
  intro a1 ha1; clear ha0 a0
  refine wpList_nil ?_
  refine then_n ?_
  refine wp_seq ?_
  refine wp_seq ?_
  refine wp_region_lit ?_
  refine wl_val ha1 rfl rfl rfl (op_assign ha1 rfl rfl) ?_
  intro a2 ha2; clear ha1 a1
  refine wpList_nil ?_
  refine then_n ?_
  refine wp_block ?_
  refine loop_inv (X := Nat × Int × (List (Int × Int × Str × Int))) (fun (⟨i, q, acc⟩ : Nat × Int × (List (Int × Int × Str × Int))) fr wl => Sl 42 fr [(0, v_a), (1, .int .i64 q), (5, .int .i64 ((i : Nat) : Int))] ∧ Stp w0 wl v_a.ownBlock ∧ Own shEnt 41 lo_a le_a hi_a wl v_a acc ∧ w0.heap.size ≤ wl.heap.size ∧ (i ≤ a.length) ∧ (q = k + 4 * (i : Int)) ∧ (acc = mkN mkEnt 4 i k ++ a.drop i) ∧ (acc.length = a.length)) (fun (⟨i, q, acc⟩ : Nat × Int × (List (Int × Int × Str × Int))) => a.length - i) (0, k, a) ?_ ?_
  ·
    exact ⟨(Sl.cons_ ha2 rfl rfl (Sl.cons_ ha2 rfl (int_eq (by omega)) (Sl.cons_ ha2 rfl (int_eq (by omega)) (Sl.nil_ ha2)))), hx0, h_a, (by omega), (by omega), (by simp), (by simp [mkN]), (by rfl)⟩
  ·
    clear ha2 a2
    rintro ⟨i, q, acc⟩ a6 w3 ⟨ha6, hx4, hf5, hzl7, hi, hq, hF, hl⟩
    have hzhx4 := hx4.size
    refine wp_seq ?_
    refine wp_seq ?_
    refine wp_region_lit ?_
    refine wl_val ha6 rfl rfl rfl (op_move ha6 rfl rfl) ?_
    intro a8 ha8; clear ha6 a6
    refine wl_val ha8 rfl rfl rfl (op_move ha8 rfl rfl) ?_
    intro a9 ha9; clear ha8 a8
    refine wl_val ha9 rfl rfl rfl (op_len_sl ha9 rfl Try.underlying25 rfl (hf5.rds pos_shEnt)) ?_
    intro a10 ha10; clear ha9 a9
    refine wl_val ha10 rfl rfl rfl (op_lss ha10 rfl rfl rfl) ?_
    intro a11 ha11; clear ha10 a10
    refine wpList_nil ?_
    refine then_n ?_
    by_cases c12 : ((i : Nat) : Int) < ((acc.length : Nat) : Int)
    ·
      rw [decide_eq_true c12] at ha11
      refine cond_t ha11 rfl ?_
      refine wp_skip ?_
      refine then_n ?_
      refine wp_seq ?_
      refine wp_block ?_
      refine wp_seq ?_
      refine wp_region_lit ?_
      refine wl_val ha11 rfl rfl rfl (op_move ha11 rfl rfl) ?_
      intro a13 ha13; clear ha11 a11
      refine wl_val ha13 rfl rfl rfl (op_move ha13 rfl rfl) ?_
      intro a14 ha14; clear ha13 a13
      refine wl_val ha14 rfl rfl rfl (op_move ha14 rfl rfl) ?_
      intro a15 ha15; clear ha14 a14
      obtain ⟨x16, hx16⟩ := get_ex (xs := acc) (j := i) (by omega)
      obtain ⟨p17, c18, hi19, hc20, hr21, hs22⟩ := Rds.at_ (hf5.rds pos_shEnt) hx16
      obtain ⟨rfl, b23, b24, b25, b26⟩ := inv_shEnt hr21
      obtain ⟨_, _⟩ : _ ∧ _ := hs22
      refine wl_val ha15 rfl rfl rfl (op_indexAddr ha15 rfl Try.underlying25 ti41 rfl rfl (by omega) hi19) ?_
      intro a27 ha27; clear ha15 a15
      refine wl_val ha27 rfl rfl rfl (op_fieldAddr (sz := 0) ha27 rfl Try.underlying41 rfl rfl ti2 rfl) ?_
      intro a28 ha28; clear ha27 a27
      refine wl_effS ha28 rfl rfl (op_setCells (s := shEnt) (off := 0) (ds := [.int .i64 q]) (S' := fun _ => False) ha28 rfl ti2 rfl rfl rfl rfl (by simp [Value.oneCell']) hf5 hi19 (by omega) (Nat.le_of_ble_eq_true rfl) hc20 rfl (mk_shEnt ((q, x16.2.1, x16.2.2.1, x16.2.2.2)) (by first | assumption | omega | (dsimp only; omega) | exact Nat.le_trans (mkT_len (by omega)) (by omega)) (by first | assumption | omega | (dsimp only; omega) | exact Nat.le_trans (mkT_len (by omega)) (by omega)) (by first | assumption | omega | (dsimp only; omega) | exact Nat.le_trans (mkT_len (by omega)) (by omega)) (by first | assumption | omega | (dsimp only; omega) | exact Nat.le_trans (mkT_len (by omega)) (by omega))) (fun _ h => h.elim)) ?_
      rintro w29 ⟨ho31, hst30, hz32⟩
      have hx33 := hx4.trans' hst30
      have hzhx33 := hst30.size
      clear hf5
      have hlsho31 : ((acc.set i ((q, x16.2.1, x16.2.2.1, x16.2.2.2)))).length = acc.length := List.length_set
      refine wpList_nil ?_
      refine then_n ?_
      refine wp_seq ?_
      refine wp_region_lit ?_
      refine wl_val ha28 rfl rfl rfl (op_move ha28 rfl rfl) ?_
      intro a34 ha34; clear ha28 a28
      refine wl_val ha34 rfl rfl rfl ((op_add ha34 rfl rfl rfl).int (IntWalk.i64_in _ (by omega))) ?_
      intro a35 ha35; clear ha34 a34
      refine wl_val ha35 rfl rfl rfl (op_assign ha35 rfl rfl) ?_
      intro a36 ha36; clear ha35 a35
      refine wpList_nil ?_
      refine then_n ?_
      refine wp_seq ?_
      refine wp_region_lit ?_
      refine wl_val ha36 rfl rfl rfl (op_move ha36 rfl rfl) ?_
      intro a37 ha37; clear ha36 a36
      refine wl_val ha37 rfl rfl rfl (op_move ha37 rfl rfl) ?_
      intro a38 ha38; clear ha37 a37
      refine wl_val ha38 rfl rfl rfl (op_move ha38 rfl rfl) ?_
      intro a39 ha39; clear ha38 a38
      obtain ⟨x40, hx40⟩ := get_ex (xs := (acc.set i ((q, x16.2.1, x16.2.2.1, x16.2.2.2)))) (j := i) (by omega)
      obtain ⟨p41, c42, hi43, hc44, hr45, hs46⟩ := Rds.at_ (ho31.rds pos_shEnt) hx40
      obtain ⟨rfl, b47, b48, b49, b50⟩ := inv_shEnt hr45
      obtain ⟨_, _⟩ : _ ∧ _ := hs46
      refine wl_val ha39 rfl rfl rfl (op_indexAddr ha39 rfl Try.underlying25 ti41 rfl rfl (by omega) hi43) ?_
      intro a51 ha51; clear ha39 a39
      refine wl_val ha51 rfl rfl rfl (op_fieldAddr (sz := 0) ha51 rfl Try.underlying41 rfl rfl ti2 rfl) ?_
      intro a52 ha52; clear ha51 a51
      refine wl_effS ha52 rfl rfl (op_setCells (s := shEnt) (off := 1) (ds := [.int .i64 (q + (1 : Int))]) (S' := fun _ => False) ha52 rfl ti2 rfl rfl rfl rfl (by simp [Value.oneCell']) ho31 hi43 (by omega) (Nat.le_of_ble_eq_true rfl) hc44 rfl (mk_shEnt ((x40.1, (q + (1 : Int)), x40.2.2.1, x40.2.2.2)) (by first | assumption | omega | (dsimp only; omega) | exact Nat.le_trans (mkT_len (by omega)) (by omega)) (by first | assumption | omega | (dsimp only; omega) | exact Nat.le_trans (mkT_len (by omega)) (by omega)) (by first | assumption | omega | (dsimp only; omega) | exact Nat.le_trans (mkT_len (by omega)) (by omega)) (by first | assumption | omega | (dsimp only; omega) | exact Nat.le_trans (mkT_len (by omega)) (by omega))) (fun _ h => h.elim)) ?_
      rintro w53 ⟨ho55, hst54, hz56⟩
      have hx57 := hx33.trans' hst54
      have hzhx57 := hst54.size
      clear ho31
      have hlsho55 : ((((acc.set i ((q, x16.2.1, x16.2.2.1, x16.2.2.2)))).set i ((x40.1, (q + (1 : Int)), x40.2.2.1, x40.2.2.2)))).length = ((acc.set i ((q, x16.2.1, x16.2.2.1, x16.2.2.2)))).length := List.length_set
      refine wpList_nil ?_
      refine then_n ?_
      refine wp_seq ?_
      refine wp_region_lit ?_
      refine wl_val ha52 rfl rfl rfl (op_move ha52 rfl rfl) ?_
      intro a58 ha58; clear ha52 a52
      refine wl_val ha58 rfl rfl rfl ((op_add ha58 rfl rfl rfl).int (IntWalk.i64_in _ (by omega))) ?_
      intro a59 ha59; clear ha58 a58
      refine wl_val ha59 rfl rfl rfl (op_assign ha59 rfl rfl) ?_
      intro a60 ha60; clear ha59 a59
      refine wpList_nil ?_
      refine then_n ?_
      refine wp_seq ?_
      refine wp_region_lit ?_
      refine wl_val ha60 rfl rfl rfl (op_move ha60 rfl rfl) ?_
      intro a61 ha61; clear ha60 a60
      refine wl_val ha61 rfl rfl rfl (op_move ha61 rfl rfl) ?_
      intro a62 ha62; clear ha61 a61
      refine wl_val ha62 rfl rfl rfl (op_move ha62 rfl rfl) ?_
      intro a63 ha63; clear ha62 a62
      refine wl_callR ha63 rfl rfl rfl (op_call ha63 rfl cb67 rfl) (c_laws_markText _ ((q + (1 : Int)) + (1 : Int)) (by first | assumption | omega | (simp; omega) | (simp [mkN_length]; omega))) ?_
      rintro v64 w65 he66 rfl a67 ha67; clear ha63 a63
      have hx68 := hx57.trans' (Stp.of_ext he66 _)
      have hzhx68 := he66.size
      replace ho55 := ho55.ext he66
      obtain ⟨x69, hx69⟩ := get_ex (xs := (((acc.set i ((q, x16.2.1, x16.2.2.1, x16.2.2.2)))).set i ((x40.1, (q + (1 : Int)), x40.2.2.1, x40.2.2.2)))) (j := i) (by omega)
      obtain ⟨p70, c71, hi72, hc73, hr74, hs75⟩ := Rds.at_ (ho55.rds pos_shEnt) hx69
      obtain ⟨rfl, b76, b77, b78, b79⟩ := inv_shEnt hr74
      obtain ⟨_, _⟩ : _ ∧ _ := hs75
      refine wl_val ha67 rfl rfl rfl (op_indexAddr ha67 rfl Try.underlying25 ti41 rfl rfl (by omega) hi72) ?_
      intro a80 ha80; clear ha67 a67
      refine wl_val ha80 rfl rfl rfl (op_fieldAddr (sz := 0) ha80 rfl Try.underlying41 rfl rfl ti9 rfl) ?_
      intro a81 ha81; clear ha80 a80
      refine wl_effS ha81 rfl rfl (op_setCells (s := shEnt) (off := 2) (ds := [St ((mkT ((q + (1 : Int)) + (1 : Int))))]) (S' := fun _ => False) ha81 rfl ti9 rfl rfl rfl rfl (by simp [Value.oneCell']) ho55 hi72 (by omega) (Nat.le_of_ble_eq_true rfl) hc73 rfl (mk_shEnt ((x69.1, x69.2.1, (mkT ((q + (1 : Int)) + (1 : Int))), x69.2.2.2)) (by first | assumption | omega | (dsimp only; omega) | exact Nat.le_trans (mkT_len (by omega)) (by omega)) (by first | assumption | omega | (dsimp only; omega) | exact Nat.le_trans (mkT_len (by omega)) (by omega)) (by first | assumption | omega | (dsimp only; omega) | exact Nat.le_trans (mkT_len (by omega)) (by omega)) (by first | assumption | omega | (dsimp only; omega) | exact Nat.le_trans (mkT_len (by omega)) (by omega))) (fun _ h => h.elim)) ?_
      rintro w82 ⟨ho84, hst83, hz85⟩
      have hx86 := hx68.trans' hst83
      have hzhx86 := hst83.size
      clear ho55
      have hlsho84 : ((((((acc.set i ((q, x16.2.1, x16.2.2.1, x16.2.2.2)))).set i ((x40.1, (q + (1 : Int)), x40.2.2.1, x40.2.2.2)))).set i ((x69.1, x69.2.1, (mkT ((q + (1 : Int)) + (1 : Int))), x69.2.2.2)))).length = ((((acc.set i ((q, x16.2.1, x16.2.2.1, x16.2.2.2)))).set i ((x40.1, (q + (1 : Int)), x40.2.2.1, x40.2.2.2)))).length := List.length_set
      refine wpList_nil ?_
      refine then_n ?_
      refine wp_seq ?_
      refine wp_region_lit ?_
      refine wl_val ha81 rfl rfl rfl (op_move ha81 rfl rfl) ?_
      intro a87 ha87; clear ha81 a81
      refine wl_val ha87 rfl rfl rfl ((op_add ha87 rfl rfl rfl).int (IntWalk.i64_in _ (by omega))) ?_
      intro a88 ha88; clear ha87 a87
      refine wl_val ha88 rfl rfl rfl (op_assign ha88 rfl rfl) ?_
      intro a89 ha89; clear ha88 a88
      refine wpList_nil ?_
      refine then_n ?_
      refine wp_seq ?_
      refine wp_region_lit ?_
      refine wl_val ha89 rfl rfl rfl (op_move ha89 rfl rfl) ?_
      intro a90 ha90; clear ha89 a89
      refine wl_val ha90 rfl rfl rfl (op_move ha90 rfl rfl) ?_
      intro a91 ha91; clear ha90 a90
      refine wl_val ha91 rfl rfl rfl (op_move ha91 rfl rfl) ?_
      intro a92 ha92; clear ha91 a91
      obtain ⟨x93, hx93⟩ := get_ex (xs := (((((acc.set i ((q, x16.2.1, x16.2.2.1, x16.2.2.2)))).set i ((x40.1, (q + (1 : Int)), x40.2.2.1, x40.2.2.2)))).set i ((x69.1, x69.2.1, (mkT ((q + (1 : Int)) + (1 : Int))), x69.2.2.2)))) (j := i) (by omega)
      obtain ⟨p94, c95, hi96, hc97, hr98, hs99⟩ := Rds.at_ (ho84.rds pos_shEnt) hx93
      obtain ⟨rfl, b100, b101, b102, b103⟩ := inv_shEnt hr98
      obtain ⟨_, _⟩ : _ ∧ _ := hs99
      refine wl_val ha92 rfl rfl rfl (op_indexAddr ha92 rfl Try.underlying25 ti41 rfl rfl (by omega) hi96) ?_
      intro a104 ha104; clear ha92 a92
      refine wl_val ha104 rfl rfl rfl (op_fieldAddr (sz := 0) ha104 rfl Try.underlying41 rfl rfl ti2 rfl) ?_
      intro a105 ha105; clear ha104 a104
      refine wl_effS ha105 rfl rfl (op_setCells (s := shEnt) (off := 3) (ds := [.int .i64 (((q + (1 : Int)) + (1 : Int)) + (1 : Int))]) (S' := fun _ => False) ha105 rfl ti2 rfl rfl rfl rfl (by simp [Value.oneCell']) ho84 hi96 (by omega) (Nat.le_of_ble_eq_true rfl) hc97 rfl (mk_shEnt ((x93.1, x93.2.1, x93.2.2.1, (((q + (1 : Int)) + (1 : Int)) + (1 : Int)))) (by first | assumption | omega | (dsimp only; omega) | exact Nat.le_trans (mkT_len (by omega)) (by omega)) (by first | assumption | omega | (dsimp only; omega) | exact Nat.le_trans (mkT_len (by omega)) (by omega)) (by first | assumption | omega | (dsimp only; omega) | exact Nat.le_trans (mkT_len (by omega)) (by omega)) (by first | assumption | omega | (dsimp only; omega) | exact Nat.le_trans (mkT_len (by omega)) (by omega))) (fun _ h => h.elim)) ?_
      rintro w106 ⟨ho108, hst107, hz109⟩
      have hx110 := hx86.trans' hst107
      have hzhx110 := hst107.size
      clear ho84
      have hlsho108 : ((((((((acc.set i ((q, x16.2.1, x16.2.2.1, x16.2.2.2)))).set i ((x40.1, (q + (1 : Int)), x40.2.2.1, x40.2.2.2)))).set i ((x69.1, x69.2.1, (mkT ((q + (1 : Int)) + (1 : Int))), x69.2.2.2)))).set i ((x93.1, x93.2.1, x93.2.2.1, (((q + (1 : Int)) + (1 : Int)) + (1 : Int)))))).length = ((((((acc.set i ((q, x16.2.1, x16.2.2.1, x16.2.2.2)))).set i ((x40.1, (q + (1 : Int)), x40.2.2.1, x40.2.2.2)))).set i ((x69.1, x69.2.1, (mkT ((q + (1 : Int)) + (1 : Int))), x69.2.2.2)))).length := List.length_set
      refine wpList_nil ?_
      refine then_n ?_
      refine wp_region_lit ?_
      refine wl_val ha105 rfl rfl rfl (op_move ha105 rfl rfl) ?_
      intro a111 ha111; clear ha105 a105
      refine wl_val ha111 rfl rfl rfl ((op_add ha111 rfl rfl rfl).int (IntWalk.i64_in _ (by omega))) ?_
      intro a112 ha112; clear ha111 a111
      refine wl_val ha112 rfl rfl rfl (op_assign ha112 rfl rfl) ?_
      intro a113 ha113; clear ha112 a112
      refine wpList_nil ?_
      refine block_n ?_
      refine then_n ?_
      refine wp_region_lit ?_
      refine wl_val ha113 rfl rfl rfl (op_move ha113 rfl rfl) ?_
      intro a114 ha114; clear ha113 a113
      refine wl_val ha114 rfl rfl rfl ((op_add ha114 rfl rfl rfl).int (IntWalk.i64_in _ (by omega))) ?_
      intro a115 ha115; clear ha114 a114
      refine wl_val ha115 rfl rfl rfl (op_assign ha115 rfl rfl) ?_
      intro a116 ha116; clear ha115 a115
      refine wpList_nil ?_
      refine round_end (x := (i, q, acc)) ((i + 1), ((((q + (1 : Int)) + (1 : Int)) + (1 : Int)) + (1 : Int)), (((((((acc.set i ((q, x16.2.1, x16.2.2.1, x16.2.2.2)))).set i ((x40.1, (q + (1 : Int)), x40.2.2.1, x40.2.2.2)))).set i ((x69.1, x69.2.1, (mkT ((q + (1 : Int)) + (1 : Int))), x69.2.2.2)))).set i ((x93.1, x93.2.1, x93.2.2.1, (((q + (1 : Int)) + (1 : Int)) + (1 : Int)))))) ?_ ?_
      ·
        refine ⟨(Sl.cons_ ha116 rfl rfl (Sl.cons_ ha116 rfl (int_eq (by omega)) (Sl.cons_ ha116 rfl (int_eq (by omega)) (Sl.nil_ ha116)))), hx110, ho108, (by omega), (by omega), (by omega), (by have e5 := hset_self hx40 (by first | omega | (simp only [List.length_set]; omega)); subst e5; have e5 := hset_self hx69 (by first | omega | (simp only [List.length_set]; omega)); subst e5; have e5 := hset_self hx93 (by first | omega | (simp only [List.length_set]; omega)); subst e5; simp only [List.set_set]; exact mkN_step hF (by omega) (by rfl) hq), (by simp only [List.length_set]; exact hl)⟩
      · show (a.length - ((i + 1)) : Nat) < a.length - i; omega
    ·
      rw [decide_eq_false c12] at ha11
      refine cond_f ha11 rfl ?_
      refine wp_exit ?_
      refine then_e ?_
      refine then_e ?_
      refine block_hit ?_
      refine then_n ?_
      refine wp_seq ?_
      refine wp_region_lit ?_
      refine wl_val ha11 rfl rfl rfl (op_move ha11 rfl rfl) ?_
      intro a117 ha117; clear ha11 a11
      refine wl_val ha117 rfl rfl rfl (op_assign ha117 rfl rfl) ?_
      intro a118 ha118; clear ha117 a117
      refine wpList_nil ?_
      refine then_n ?_
      refine wp_ret ?_
      refine ret1 ha118 rfl rfl ?_
      clear ha118 a118
      exact ret_mkS hx4 ⟨int_eq (by omega), hf5.cast (by rw [hF, drop_nil (by omega), List.append_nil]; congr 1; omega)⟩

theorem c_laws_heldEntryS (w0 : World) (v_a : Value) (a : List (Int × Int × Str × Int)) {S_a : Nat → Prop} (k : Int) (h_a : Rds shEnt S_a w0 v_a a) (g0 : 0 ≤ k) (g1 : k ≤ 4611686018427387904) (g2 : a.length ≤ 4611686018427) :
    Calls Try.prog 33 #[v_a, .int .i64 k] w0 (Ret w0 (fun v _ => v = .int .i64 (heldG okEnt 4 a k))) := by
  refine enter (N := 50) Try.func33 rfl rfl rfl ?_
  intro a0 ha0
  have hx0 := Ext.rfl' w0
  have hl_a := h_a.length_le
  refine wp_seq ?_
  refine wp_region_lit ?_
  refine wl_val ha0 rfl rfl rfl (op_assign ha0 rfl rfl) ?_
  intro a1 ha1; clear ha0 a0
  refine wpList_nil ?_
  refine then_n ?_
  refine wp_seq ?_
  refine wp_seq ?_
  refine wp_region_lit ?_
  refine wl_val ha1 rfl rfl rfl (op_assign ha1 rfl rfl) ?_
  intro a2 ha2; clear ha1 a1
  refine wpList_nil ?_
  refine then_n ?_
  refine wp_block ?_
  refine loop_inv (X := Nat × Int) (fun (⟨i, q⟩ : Nat × Int) fr wl => Sl 50 fr [(0, v_a), (1, .int .i64 q), (5, .int .i64 ((i : Nat) : Int))] ∧ Ext w0 wl ∧ w0.heap.size ≤ wl.heap.size ∧ (i ≤ a.length) ∧ (q = k + 4 * (i : Int)) ∧ (heldG okEnt 4 (a.drop i) q = heldG okEnt 4 a k)) (fun (⟨i, q⟩ : Nat × Int) => a.length - i) (0, k) ?_ ?_
  ·
    exact ⟨(Sl.cons_ ha2 rfl rfl (Sl.cons_ ha2 rfl (int_eq (by omega)) (Sl.cons_ ha2 rfl (int_eq (by omega)) (Sl.nil_ ha2)))), hx0, (by omega), (by omega), (by simp), (by rfl)⟩
  ·
    clear ha2 a2
    rintro ⟨i, q⟩ a5 w3 ⟨ha5, hx4, hzl6, hi, hq, hF⟩
    have hzhx4 := hx4.size
    refine wp_seq ?_
    refine wp_seq ?_
    refine wp_region_lit ?_
    refine wl_val ha5 rfl rfl rfl (op_move ha5 rfl rfl) ?_
    intro a7 ha7; clear ha5 a5
    refine wl_val ha7 rfl rfl rfl (op_move ha7 rfl rfl) ?_
    intro a8 ha8; clear ha7 a7
    refine wl_val ha8 rfl rfl rfl (op_len_sl ha8 rfl Try.underlying25 rfl h_a) ?_
    intro a9 ha9; clear ha8 a8
    refine wl_val ha9 rfl rfl rfl (op_lss ha9 rfl rfl rfl) ?_
    intro a10 ha10; clear ha9 a9
    refine wpList_nil ?_
    refine then_n ?_
    by_cases c11 : ((i : Nat) : Int) < ((a.length : Nat) : Int)
    ·
      rw [decide_eq_true c11] at ha10
      refine cond_t ha10 rfl ?_
      refine wp_skip ?_
      refine then_n ?_
      refine wp_seq ?_
      refine wp_block ?_
      refine wp_seq ?_
      refine wp_seq ?_
      refine wp_region_lit ?_
      refine wl_val ha10 rfl rfl rfl (op_move ha10 rfl rfl) ?_
      intro a12 ha12; clear ha10 a10
      refine wl_val ha12 rfl rfl rfl (op_move ha12 rfl rfl) ?_
      intro a13 ha13; clear ha12 a12
      obtain ⟨x14, hx14⟩ := get_ex (xs := a) (j := i) (by omega)
      obtain ⟨p15, c16, hi17, hc18, hr19, hs20⟩ := Rds.at_ h_a hx14
      obtain ⟨rfl, b21, b22, b23, b24⟩ := inv_shEnt hr19
      refine wl_val ha13 rfl rfl rfl (op_indexAddr ha13 rfl Try.underlying25 ti41 rfl rfl (by omega) hi17) ?_
      intro a25 ha25; clear ha13 a13
      refine wl_val ha25 rfl rfl rfl (op_fieldAddr (sz := 0) ha25 rfl Try.underlying41 rfl rfl ti2 rfl) ?_
      intro a26 ha26; clear ha25 a25
      refine wl_val ha26 rfl rfl rfl (op_loadF (off := 0) ha26 rfl Try.underlying2 rfl rfl (hc18.ext hx4) rfl) ?_
      intro a27 ha27; clear ha26 a26
      refine wl_val ha27 rfl rfl rfl (op_move ha27 rfl rfl) ?_
      intro a28 ha28; clear ha27 a27
      refine wl_val ha28 rfl rfl rfl ((op_neq ha28 rfl rfl rfl).to (congrArg Value.bool decide_not)) ?_
      intro a29 ha29; clear ha28 a28
      refine wpList_nil ?_
      refine then_n ?_
      by_cases c30 : x14.1 = q
      ·
        rw [decide_eq_true c30] at ha29
        refine cond_f ha29 rfl ?_
        refine wp_skip ?_
        refine then_n ?_
        refine wp_seq ?_
        refine wp_region_lit ?_
        refine wl_val ha29 rfl rfl rfl (op_move ha29 rfl rfl) ?_
        intro a31 ha31; clear ha29 a29
        refine wl_val ha31 rfl rfl rfl ((op_add ha31 rfl rfl rfl).int (IntWalk.i64_in _ (by omega))) ?_
        intro a32 ha32; clear ha31 a31
        refine wl_val ha32 rfl rfl rfl (op_assign ha32 rfl rfl) ?_
        intro a33 ha33; clear ha32 a32
        refine wpList_nil ?_
        refine then_n ?_
        refine wp_seq ?_
        refine wp_seq ?_
        refine wp_region_lit ?_
        refine wl_val ha33 rfl rfl rfl (op_move ha33 rfl rfl) ?_
        intro a34 ha34; clear ha33 a33
        refine wl_val ha34 rfl rfl rfl (op_move ha34 rfl rfl) ?_
        intro a35 ha35; clear ha34 a34
        refine wl_val ha35 rfl rfl rfl (op_indexAddr ha35 rfl Try.underlying25 ti41 rfl rfl (by omega) hi17) ?_
        intro a36 ha36; clear ha35 a35
        refine wl_val ha36 rfl rfl rfl (op_fieldAddr (sz := 0) ha36 rfl Try.underlying41 rfl rfl ti2 rfl) ?_
        intro a37 ha37; clear ha36 a36
        refine wl_val ha37 rfl rfl rfl (op_loadF (off := 1) ha37 rfl Try.underlying2 rfl rfl (hc18.ext hx4) rfl) ?_
        intro a38 ha38; clear ha37 a37
        refine wl_val ha38 rfl rfl rfl (op_move ha38 rfl rfl) ?_
        intro a39 ha39; clear ha38 a38
        refine wl_val ha39 rfl rfl rfl ((op_neq ha39 rfl rfl rfl).to (congrArg Value.bool decide_not)) ?_
        intro a40 ha40; clear ha39 a39
        refine wpList_nil ?_
        refine then_n ?_
        by_cases c41 : x14.2.1 = (q + (1 : Int))
        ·
          rw [decide_eq_true c41] at ha40
          refine cond_f ha40 rfl ?_
          refine wp_skip ?_
          refine then_n ?_
          refine wp_seq ?_
          refine wp_region_lit ?_
          refine wl_val ha40 rfl rfl rfl (op_move ha40 rfl rfl) ?_
          intro a42 ha42; clear ha40 a40
          refine wl_val ha42 rfl rfl rfl ((op_add ha42 rfl rfl rfl).int (IntWalk.i64_in _ (by omega))) ?_
          intro a43 ha43; clear ha42 a42
          refine wl_val ha43 rfl rfl rfl (op_assign ha43 rfl rfl) ?_
          intro a44 ha44; clear ha43 a43
          refine wpList_nil ?_
          refine then_n ?_
          refine wp_seq ?_
          refine wp_seq ?_
          refine dr_enter Ext follows_mixed ?_
          intro w45 he46
          have hx47 := hx4.trans' he46
          have hzhx47 := he46.size
          have hs48 : Ext w45 w45 := Ext.rfl' _
          refine dr_val (i := 0) ha44 rfl (by kernel_rfl) (by kernel_rfl) (by kernel_rfl) rfl rfl rfl hs48 (fun w' hw' => op_move ha44 rfl rfl) ?_
          intro a49 ha49; clear ha44 a44
          refine dr_val (i := 1) ha49 rfl (by kernel_rfl) (by kernel_rfl) (by kernel_rfl) rfl rfl rfl hs48 (fun w' hw' => op_move ha49 rfl rfl) ?_
          intro a50 ha50; clear ha49 a49
          refine dr_val (i := 2) ha50 rfl (by kernel_rfl) (by kernel_rfl) (by kernel_rfl) rfl rfl rfl hs48 (fun w' hw' => op_indexAddr ha50 rfl Try.underlying25 ti41 rfl rfl (by omega) hi17) ?_
          intro a51 ha51; clear ha50 a50
          refine dr_val (i := 3) ha51 rfl (by kernel_rfl) (by kernel_rfl) (by kernel_rfl) rfl rfl rfl hs48 (fun w' hw' => op_fieldAddr (sz := 0) ha51 rfl Try.underlying41 rfl rfl ti9 rfl) ?_
          intro a52 ha52; clear ha51 a51
          refine dr_val (i := 4) ha52 rfl (by kernel_rfl) (by kernel_rfl) (by kernel_rfl) rfl rfl rfl hs48 (fun w' hw' => op_loadF (off := 2) ha52 rfl Try.underlying9 rfl rfl (hc18.ext (hx47.trans' hw')) rfl) ?_
          intro a53 ha53; clear ha52 a52
          refine dr_val (i := 5) ha53 rfl (by kernel_rfl) (by kernel_rfl) (by kernel_rfl) rfl rfl rfl hs48 (fun w' hw' => op_move ha53 rfl rfl) ?_
          intro a54 ha54; clear ha53 a53
          refine dr_one (i := 6) (by kernel_rfl) ?_
          refine po_callR ha54 rfl rfl rfl rfl (op_call ha54 rfl cb67 rfl) (c_laws_markText _ ((q + (1 : Int)) + (1 : Int)) (by first | assumption | omega | (simp; omega) | (simp [mkN_length]; omega))) ?_
          rintro v55 w56 he57 rfl a58 ha58; clear ha54 a54
          have hs59 := hs48.trans' he57
          have hx60 := hx47.trans' he57
          have hzhx60 := he57.size
          refine ⟨hs59, ?_⟩
          refine dr_val (i := 7) ha58 rfl (by kernel_rfl) (by kernel_rfl) (by kernel_rfl) rfl rfl rfl hs59 (fun w' hw' => (op_sneq ha58 rfl rfl rfl).to (congrArg Value.bool decide_not)) ?_
          intro a61 ha61; clear ha58 a58
          refine dr_end (by kernel_rfl) ?_
          refine then_n ?_
          by_cases c62 : x14.2.2.1 = (mkT ((q + (1 : Int)) + (1 : Int)))
          ·
            rw [decide_eq_true c62] at ha61
            refine cond_f ha61 rfl ?_
            refine wp_skip ?_
            refine then_n ?_
            refine wp_seq ?_
            refine wp_region_lit ?_
            refine wl_val ha61 rfl rfl rfl (op_move ha61 rfl rfl) ?_
            intro a63 ha63; clear ha61 a61
            refine wl_val ha63 rfl rfl rfl ((op_add ha63 rfl rfl rfl).int (IntWalk.i64_in _ (by omega))) ?_
            intro a64 ha64; clear ha63 a63
            refine wl_val ha64 rfl rfl rfl (op_assign ha64 rfl rfl) ?_
            intro a65 ha65; clear ha64 a64
            refine wpList_nil ?_
            refine then_n ?_
            refine wp_seq ?_
            refine wp_seq ?_
            refine wp_region_lit ?_
            refine wl_val ha65 rfl rfl rfl (op_move ha65 rfl rfl) ?_
            intro a66 ha66; clear ha65 a65
            refine wl_val ha66 rfl rfl rfl (op_move ha66 rfl rfl) ?_
            intro a67 ha67; clear ha66 a66
            refine wl_val ha67 rfl rfl rfl (op_indexAddr ha67 rfl Try.underlying25 ti41 rfl rfl (by omega) hi17) ?_
            intro a68 ha68; clear ha67 a67
            refine wl_val ha68 rfl rfl rfl (op_fieldAddr (sz := 0) ha68 rfl Try.underlying41 rfl rfl ti2 rfl) ?_
            intro a69 ha69; clear ha68 a68
            refine wl_val ha69 rfl rfl rfl (op_loadF (off := 3) ha69 rfl Try.underlying2 rfl rfl (hc18.ext hx60) rfl) ?_
            intro a70 ha70; clear ha69 a69
            refine wl_val ha70 rfl rfl rfl (op_move ha70 rfl rfl) ?_
            intro a71 ha71; clear ha70 a70
            refine wl_val ha71 rfl rfl rfl ((op_neq ha71 rfl rfl rfl).to (congrArg Value.bool decide_not)) ?_
            intro a72 ha72; clear ha71 a71
            refine wpList_nil ?_
            refine then_n ?_
            by_cases c73 : x14.2.2.2 = (((q + (1 : Int)) + (1 : Int)) + (1 : Int))
            ·
              rw [decide_eq_true c73] at ha72
              refine cond_f ha72 rfl ?_
              refine wp_skip ?_
              refine then_n ?_
              refine wp_region_lit ?_
              refine wl_val ha72 rfl rfl rfl (op_move ha72 rfl rfl) ?_
              intro a74 ha74; clear ha72 a72
              refine wl_val ha74 rfl rfl rfl ((op_add ha74 rfl rfl rfl).int (IntWalk.i64_in _ (by omega))) ?_
              intro a75 ha75; clear ha74 a74
              refine wl_val ha75 rfl rfl rfl (op_assign ha75 rfl rfl) ?_
              intro a76 ha76; clear ha75 a75
              refine wpList_nil ?_
              refine block_n ?_
              refine then_n ?_
              refine wp_region_lit ?_
              refine wl_val ha76 rfl rfl rfl (op_move ha76 rfl rfl) ?_
              intro a77 ha77; clear ha76 a76
              refine wl_val ha77 rfl rfl rfl ((op_add ha77 rfl rfl rfl).int (IntWalk.i64_in _ (by omega))) ?_
              intro a78 ha78; clear ha77 a77
              refine wl_val ha78 rfl rfl rfl (op_assign ha78 rfl rfl) ?_
              intro a79 ha79; clear ha78 a78
              refine wpList_nil ?_
              refine round_end (x := (i, q)) ((i + 1), ((((q + (1 : Int)) + (1 : Int)) + (1 : Int)) + (1 : Int))) ?_ ?_
              ·
                refine ⟨(Sl.cons_ ha79 rfl rfl (Sl.cons_ ha79 rfl (int_eq (by omega)) (Sl.cons_ ha79 rfl (int_eq (by omega)) (Sl.nil_ ha79)))), hx60, (by omega), (by omega), (by omega), (by rw [drop_cons hx14] at hF; simp only [heldG] at hF; rw [if_pos (by simp [okEnt, mkEnt, Prod.ext_iff, c11, c30, c41, c62, c73] <;> omega)] at hF; rw [← hF] <;> (congr 1 <;> omega))⟩
              · show (a.length - ((i + 1)) : Nat) < a.length - i; omega
            ·
              rw [decide_eq_false c73] at ha72
              refine cond_t ha72 rfl ?_
              refine wp_seq ?_
              refine wp_region_lit ?_
              refine wl_val ha72 rfl rfl rfl (op_assign ha72 rfl rfl) ?_
              intro a80 ha80; clear ha72 a72
              refine wpList_nil ?_
              refine then_n ?_
              refine wp_ret ?_
              refine then_r ?_
              refine block_r ?_
              refine then_r ?_
              refine then_r ?_
              refine block_r ?_
              refine then_r ?_
              refine ret1 ha80 rfl rfl ?_
              clear ha80 a80
              rw [drop_cons hx14] at hF
              simp only [heldG] at hF
              rw [if_neg (by simp [okEnt, mkEnt, Prod.ext_iff, c11, c30, c41, c62, c73])] at hF
              exact ret_mk hx60 (int_eq (by exact hF))
          ·
            rw [decide_eq_false c62] at ha61
            refine cond_t ha61 rfl ?_
            refine wp_seq ?_
            refine wp_region_lit ?_
            refine wl_val ha61 rfl rfl rfl (op_assign ha61 rfl rfl) ?_
            intro a81 ha81; clear ha61 a61
            refine wpList_nil ?_
            refine then_n ?_
            refine wp_ret ?_
            refine then_r ?_
            refine block_r ?_
            refine then_r ?_
            refine then_r ?_
            refine block_r ?_
            refine then_r ?_
            refine ret1 ha81 rfl rfl ?_
            clear ha81 a81
            rw [drop_cons hx14] at hF
            simp only [heldG] at hF
            rw [if_neg (by simp [okEnt, mkEnt, Prod.ext_iff, c11, c30, c41, c62])] at hF
            exact ret_mk hx60 (int_eq (by exact hF))
        ·
          rw [decide_eq_false c41] at ha40
          refine cond_t ha40 rfl ?_
          refine wp_seq ?_
          refine wp_region_lit ?_
          refine wl_val ha40 rfl rfl rfl (op_assign ha40 rfl rfl) ?_
          intro a82 ha82; clear ha40 a40
          refine wpList_nil ?_
          refine then_n ?_
          refine wp_ret ?_
          refine then_r ?_
          refine block_r ?_
          refine then_r ?_
          refine then_r ?_
          refine block_r ?_
          refine then_r ?_
          refine ret1 ha82 rfl rfl ?_
          clear ha82 a82
          rw [drop_cons hx14] at hF
          simp only [heldG] at hF
          rw [if_neg (by simp [okEnt, mkEnt, Prod.ext_iff, c11, c30, c41])] at hF
          exact ret_mk hx4 (int_eq (by exact hF))
      ·
        rw [decide_eq_false c30] at ha29
        refine cond_t ha29 rfl ?_
        refine wp_seq ?_
        refine wp_region_lit ?_
        refine wl_val ha29 rfl rfl rfl (op_assign ha29 rfl rfl) ?_
        intro a83 ha83; clear ha29 a29
        refine wpList_nil ?_
        refine then_n ?_
        refine wp_ret ?_
        refine then_r ?_
        refine block_r ?_
        refine then_r ?_
        refine then_r ?_
        refine block_r ?_
        refine then_r ?_
        refine ret1 ha83 rfl rfl ?_
        clear ha83 a83
        rw [drop_cons hx14] at hF
        simp only [heldG] at hF
        rw [if_neg (by simp [okEnt, mkEnt, Prod.ext_iff, c11, c30])] at hF
        exact ret_mk hx4 (int_eq (by exact hF))
    ·
      rw [decide_eq_false c11] at ha10
      refine cond_f ha10 rfl ?_
      refine wp_exit ?_
      refine then_e ?_
      refine then_e ?_
      refine block_hit ?_
      refine then_n ?_
      refine wp_seq ?_
      refine wp_region_lit ?_
      refine wl_val ha10 rfl rfl rfl (op_move ha10 rfl rfl) ?_
      intro a84 ha84; clear ha10 a10
      refine wl_val ha84 rfl rfl rfl (op_assign ha84 rfl rfl) ?_
      intro a85 ha85; clear ha84 a84
      refine wpList_nil ?_
      refine then_n ?_
      refine wp_ret ?_
      refine ret1 ha85 rfl rfl ?_
      clear ha85 a85
      rw [drop_nil (by omega)] at hF
      simp only [heldG] at hF
      exact ret_mk hx4 (int_eq (by exact hF))

theorem c_laws_markInt64S (w0 : World) (v_a : Value) (a : List Int) {lo_a le_a hi_a : Nat} (k : Int) (h_a : Own shI64 2 lo_a le_a hi_a w0 v_a a) (g0 : 0 ≤ k) (g1 : k ≤ 4611686018427387904) (g2 : a.length ≤ 4611686018427) :
    Calls Try.prog 37 #[v_a, .int .i64 k] w0 (RetS w0 v_a.ownBlock (fun v w1 => v = .int .i64 (k + 1 * (a.length : Nat)) ∧ Own shI64 2 lo_a le_a hi_a w1 v_a (mkN mkI 1 a.length k))) := by
  refine enter (N := 19) Try.func37 rfl rfl rfl ?_
  intro a0 ha0
  have hx0 := Stp.rfl' w0 v_a.ownBlock
  have hl_a := (h_a.rds pos_shI64).length_le
  refine wp_seq ?_
  refine wp_region_lit ?_
  refine wl_val ha0 rfl rfl rfl (op_assign ha0 rfl rfl) ?_
  intro a1 ha1; clear ha0 a0
  refine wpList_nil ?_
  refine then_n ?_
  refine wp_seq ?_
  refine wp_seq ?_
  refine wp_region_lit ?_
  refine wl_val ha1 rfl rfl rfl (op_assign ha1 rfl rfl) ?_
  intro a2 ha2; clear ha1 a1
  refine wpList_nil ?_
  refine then_n ?_
  refine wp_block ?_
  refine loop_inv (X := Nat × Int × (List Int)) (fun (⟨i, q, acc⟩ : Nat × Int × (List Int)) fr wl => Sl 19 fr [(0, v_a), (1, .int .i64 q), (5, .int .i64 ((i : Nat) : Int))] ∧ Stp w0 wl v_a.ownBlock ∧ Own shI64 2 lo_a le_a hi_a wl v_a acc ∧ w0.heap.size ≤ wl.heap.size ∧ (i ≤ a.length) ∧ (q = k + 1 * (i : Int)) ∧ (acc = mkN mkI 1 i k ++ a.drop i) ∧ (acc.length = a.length)) (fun (⟨i, q, acc⟩ : Nat × Int × (List Int)) => a.length - i) (0, k, a) ?_ ?_
  ·
    exact ⟨(Sl.cons_ ha2 rfl rfl (Sl.cons_ ha2 rfl (int_eq (by omega)) (Sl.cons_ ha2 rfl (int_eq (by omega)) (Sl.nil_ ha2)))), hx0, h_a, (by omega), (by omega), (by simp), (by simp [mkN]), (by rfl)⟩
  ·
    clear ha2 a2
    rintro ⟨i, q, acc⟩ a6 w3 ⟨ha6, hx4, hf5, hzl7, hi, hq, hF, hl⟩
    have hzhx4 := hx4.size
    refine wp_seq ?_
    refine wp_seq ?_
    refine wp_region_lit ?_
    refine wl_val ha6 rfl rfl rfl (op_move ha6 rfl rfl) ?_
    intro a8 ha8; clear ha6 a6
    refine wl_val ha8 rfl rfl rfl (op_move ha8 rfl rfl) ?_
    intro a9 ha9; clear ha8 a8
    refine wl_val ha9 rfl rfl rfl (op_len_sl ha9 rfl Try.underlying45 rfl (hf5.rds pos_shI64)) ?_
    intro a10 ha10; clear ha9 a9
    refine wl_val ha10 rfl rfl rfl (op_lss ha10 rfl rfl rfl) ?_
    intro a11 ha11; clear ha10 a10
    refine wpList_nil ?_
    refine then_n ?_
    by_cases c12 : ((i : Nat) : Int) < ((acc.length : Nat) : Int)
    ·
      rw [decide_eq_true c12] at ha11
      refine cond_t ha11 rfl ?_
      refine wp_skip ?_
      refine then_n ?_
      refine wp_seq ?_
      refine wp_block ?_
      refine wp_seq ?_
      refine wp_region_lit ?_
      refine wl_val ha11 rfl rfl rfl (op_move ha11 rfl rfl) ?_
      intro a13 ha13; clear ha11 a11
      refine wl_val ha13 rfl rfl rfl (op_move ha13 rfl rfl) ?_
      intro a14 ha14; clear ha13 a13
      refine wl_val ha14 rfl rfl rfl (op_move ha14 rfl rfl) ?_
      intro a15 ha15; clear ha14 a14
      obtain ⟨x16, hx16⟩ := get_ex (xs := acc) (j := i) (by omega)
      obtain ⟨p17, c18, hi19, hc20, hr21, hs22⟩ := Rds.at_ (hf5.rds pos_shI64) hx16
      obtain ⟨rfl, b23⟩ := inv_shI64 hr21
      obtain ⟨_, _⟩ : _ ∧ _ := hs22
      refine wl_val ha15 rfl rfl rfl (op_indexAddr ha15 rfl Try.underlying45 ti2 rfl rfl (by omega) hi19) ?_
      intro a24 ha24; clear ha15 a15
      refine wl_effS ha24 rfl rfl (op_setElem (s := shI64) (ds := [.int .i64 q]) (S' := fun _ => False) ha24 rfl ti2 rfl rfl rfl hf5 pos_shI64 hi19 (by omega) (mk_shI64 q (by first | assumption | omega | (dsimp only; omega) | exact Nat.le_trans (mkT_len (by omega)) (by omega))) (fun _ h => h.elim)) ?_
      rintro w25 ⟨ho27, hst26, hz28⟩
      have hx29 := hx4.trans' hst26
      have hzhx29 := hst26.size
      clear hf5
      have hlsho27 : ((acc.set i q)).length = acc.length := List.length_set
      refine wpList_nil ?_
      refine then_n ?_
      refine wp_region_lit ?_
      refine wl_val ha24 rfl rfl rfl (op_move ha24 rfl rfl) ?_
      intro a30 ha30; clear ha24 a24
      refine wl_val ha30 rfl rfl rfl ((op_add ha30 rfl rfl rfl).int (IntWalk.i64_in _ (by omega))) ?_
      intro a31 ha31; clear ha30 a30
      refine wl_val ha31 rfl rfl rfl (op_assign ha31 rfl rfl) ?_
      intro a32 ha32; clear ha31 a31
      refine wpList_nil ?_
      refine block_n ?_
      refine then_n ?_
      refine wp_region_lit ?_
      refine wl_val ha32 rfl rfl rfl (op_move ha32 rfl rfl) ?_
      intro a33 ha33; clear ha32 a32
      refine wl_val ha33 rfl rfl rfl ((op_add ha33 rfl rfl rfl).int (IntWalk.i64_in _ (by omega))) ?_
      intro a34 ha34; clear ha33 a33
      refine wl_val ha34 rfl rfl rfl (op_assign ha34 rfl rfl) ?_
      intro a35 ha35; clear ha34 a34
      refine wpList_nil ?_
      refine round_end (x := (i, q, acc)) ((i + 1), (q + (1 : Int)), (acc.set i q)) ?_ ?_
      ·
        refine ⟨(Sl.cons_ ha35 rfl rfl (Sl.cons_ ha35 rfl (int_eq (by omega)) (Sl.cons_ ha35 rfl (int_eq (by omega)) (Sl.nil_ ha35)))), hx29, ho27, (by omega), (by omega), (by omega), (by exact mkN_step hF (by omega) (by rfl) hq), (by simp only [List.length_set]; exact hl)⟩
      · show (a.length - ((i + 1)) : Nat) < a.length - i; omega
    ·
      rw [decide_eq_false c12] at ha11
      refine cond_f ha11 rfl ?_
      refine wp_exit ?_
      refine then_e ?_
      refine then_e ?_
      refine block_hit ?_
      refine then_n ?_
      refine wp_seq ?_
      refine wp_region_lit ?_
      refine wl_val ha11 rfl rfl rfl (op_move ha11 rfl rfl) ?_
      intro a36 ha36; clear ha11 a11
      refine wl_val ha36 rfl rfl rfl (op_assign ha36 rfl rfl) ?_
      intro a37 ha37; clear ha36 a36
      refine wpList_nil ?_
      refine then_n ?_
      refine wp_ret ?_
      refine ret1 ha37 rfl rfl ?_
      clear ha37 a37
      exact ret_mkS hx4 ⟨int_eq (by omega), hf5.cast (by rw [hF, drop_nil (by omega), List.append_nil]; congr 1; omega)⟩

theorem c_laws_heldInt64S (w0 : World) (v_a : Value) (a : List Int) {S_a : Nat → Prop} (k : Int) (h_a : Rds shI64 S_a w0 v_a a) (g0 : 0 ≤ k) (g1 : k ≤ 4611686018427387904) (g2 : a.length ≤ 4611686018427) :
    Calls Try.prog 38 #[v_a, .int .i64 k] w0 (Ret w0 (fun v _ => v = .int .i64 (heldG okI 1 a k))) := by
  refine enter (N := 21) Try.func38 rfl rfl rfl ?_
  intro a0 ha0
  have hx0 := Ext.rfl' w0
  have hl_a := h_a.length_le
  refine wp_seq ?_
  refine wp_region_lit ?_
  refine wl_val ha0 rfl rfl rfl (op_assign ha0 rfl rfl) ?_
  intro a1 ha1; clear ha0 a0
  refine wpList_nil ?_
  refine then_n ?_
  refine wp_seq ?_
  refine wp_seq ?_
  refine wp_region_lit ?_
  refine wl_val ha1 rfl rfl rfl (op_assign ha1 rfl rfl) ?_
  intro a2 ha2; clear ha1 a1
  refine wpList_nil ?_
  refine then_n ?_
  refine wp_block ?_
  refine loop_inv (X := Nat × Int) (fun (⟨i, q⟩ : Nat × Int) fr wl => Sl 21 fr [(0, v_a), (1, .int .i64 q), (5, .int .i64 ((i : Nat) : Int))] ∧ Ext w0 wl ∧ w0.heap.size ≤ wl.heap.size ∧ (i ≤ a.length) ∧ (q = k + 1 * (i : Int)) ∧ (heldG okI 1 (a.drop i) q = heldG okI 1 a k)) (fun (⟨i, q⟩ : Nat × Int) => a.length - i) (0, k) ?_ ?_
  ·
    exact ⟨(Sl.cons_ ha2 rfl rfl (Sl.cons_ ha2 rfl (int_eq (by omega)) (Sl.cons_ ha2 rfl (int_eq (by omega)) (Sl.nil_ ha2)))), hx0, (by omega), (by omega), (by simp), (by rfl)⟩
  ·
    clear ha2 a2
    rintro ⟨i, q⟩ a5 w3 ⟨ha5, hx4, hzl6, hi, hq, hF⟩
    have hzhx4 := hx4.size
    refine wp_seq ?_
    refine wp_seq ?_
    refine wp_region_lit ?_
    refine wl_val ha5 rfl rfl rfl (op_move ha5 rfl rfl) ?_
    intro a7 ha7; clear ha5 a5
    refine wl_val ha7 rfl rfl rfl (op_move ha7 rfl rfl) ?_
    intro a8 ha8; clear ha7 a7
    refine wl_val ha8 rfl rfl rfl (op_len_sl ha8 rfl Try.underlying45 rfl h_a) ?_
    intro a9 ha9; clear ha8 a8
    refine wl_val ha9 rfl rfl rfl (op_lss ha9 rfl rfl rfl) ?_
    intro a10 ha10; clear ha9 a9
    refine wpList_nil ?_
    refine then_n ?_
    by_cases c11 : ((i : Nat) : Int) < ((a.length : Nat) : Int)
    ·
      rw [decide_eq_true c11] at ha10
      refine cond_t ha10 rfl ?_
      refine wp_skip ?_
      refine then_n ?_
      refine wp_seq ?_
      refine wp_block ?_
      refine wp_seq ?_
      refine wp_seq ?_
      refine wp_region_lit ?_
      refine wl_val ha10 rfl rfl rfl (op_move ha10 rfl rfl) ?_
      intro a12 ha12; clear ha10 a10
      refine wl_val ha12 rfl rfl rfl (op_move ha12 rfl rfl) ?_
      intro a13 ha13; clear ha12 a12
      obtain ⟨x14, hx14⟩ := get_ex (xs := a) (j := i) (by omega)
      obtain ⟨p15, c16, hi17, hc18, hr19, hs20⟩ := Rds.at_ h_a hx14
      obtain ⟨rfl, b21⟩ := inv_shI64 hr19
      refine wl_val ha13 rfl rfl rfl (op_indexAddr ha13 rfl Try.underlying45 ti2 rfl rfl (by omega) hi17) ?_
      intro a22 ha22; clear ha13 a13
      refine wl_val ha22 rfl rfl rfl (op_loadH ha22 rfl Try.underlying2 rfl rfl (hc18.ext hx4) rfl) ?_
      intro a23 ha23; clear ha22 a22
      refine wl_val ha23 rfl rfl rfl (op_move ha23 rfl rfl) ?_
      intro a24 ha24; clear ha23 a23
      refine wl_val ha24 rfl rfl rfl ((op_neq ha24 rfl rfl rfl).to (congrArg Value.bool decide_not)) ?_
      intro a25 ha25; clear ha24 a24
      refine wpList_nil ?_
      refine then_n ?_
      by_cases c26 : x14 = q
      ·
        rw [decide_eq_true c26] at ha25
        refine cond_f ha25 rfl ?_
        refine wp_skip ?_
        refine then_n ?_
        refine wp_region_lit ?_
        refine wl_val ha25 rfl rfl rfl (op_move ha25 rfl rfl) ?_
        intro a27 ha27; clear ha25 a25
        refine wl_val ha27 rfl rfl rfl ((op_add ha27 rfl rfl rfl).int (IntWalk.i64_in _ (by omega))) ?_
        intro a28 ha28; clear ha27 a27
        refine wl_val ha28 rfl rfl rfl (op_assign ha28 rfl rfl) ?_
        intro a29 ha29; clear ha28 a28
        refine wpList_nil ?_
        refine block_n ?_
        refine then_n ?_
        refine wp_region_lit ?_
        refine wl_val ha29 rfl rfl rfl (op_move ha29 rfl rfl) ?_
        intro a30 ha30; clear ha29 a29
        refine wl_val ha30 rfl rfl rfl ((op_add ha30 rfl rfl rfl).int (IntWalk.i64_in _ (by omega))) ?_
        intro a31 ha31; clear ha30 a30
        refine wl_val ha31 rfl rfl rfl (op_assign ha31 rfl rfl) ?_
        intro a32 ha32; clear ha31 a31
        refine wpList_nil ?_
        refine round_end (x := (i, q)) ((i + 1), (q + (1 : Int))) ?_ ?_
        ·
          refine ⟨(Sl.cons_ ha32 rfl rfl (Sl.cons_ ha32 rfl (int_eq (by omega)) (Sl.cons_ ha32 rfl (int_eq (by omega)) (Sl.nil_ ha32)))), hx4, (by omega), (by omega), (by omega), (by rw [drop_cons hx14] at hF; simp only [heldG] at hF; rw [if_pos (by simp [okI, Prod.ext_iff, c11, c26] <;> omega)] at hF; rw [← hF] <;> (congr 1 <;> omega))⟩
        · show (a.length - ((i + 1)) : Nat) < a.length - i; omega
      ·
        rw [decide_eq_false c26] at ha25
        refine cond_t ha25 rfl ?_
        refine wp_seq ?_
        refine wp_region_lit ?_
        refine wl_val ha25 rfl rfl rfl (op_assign ha25 rfl rfl) ?_
        intro a33 ha33; clear ha25 a25
        refine wpList_nil ?_
        refine then_n ?_
        refine wp_ret ?_
        refine then_r ?_
        refine block_r ?_
        refine then_r ?_
        refine then_r ?_
        refine block_r ?_
        refine then_r ?_
        refine ret1 ha33 rfl rfl ?_
        clear ha33 a33
        rw [drop_cons hx14] at hF
        simp only [heldG] at hF
        rw [if_neg (by simp [okI, Prod.ext_iff, c11, c26])] at hF
        exact ret_mk hx4 (int_eq (by exact hF))
    ·
      rw [decide_eq_false c11] at ha10
      refine cond_f ha10 rfl ?_
      refine wp_exit ?_
      refine then_e ?_
      refine then_e ?_
      refine block_hit ?_
      refine then_n ?_
      refine wp_seq ?_
      refine wp_region_lit ?_
      refine wl_val ha10 rfl rfl rfl (op_move ha10 rfl rfl) ?_
      intro a34 ha34; clear ha10 a10
      refine wl_val ha34 rfl rfl rfl (op_assign ha34 rfl rfl) ?_
      intro a35 ha35; clear ha34 a34
      refine wpList_nil ?_
      refine then_n ?_
      refine wp_ret ?_
      refine ret1 ha35 rfl rfl ?_
      clear ha35 a35
      rw [drop_nil (by omega)] at hF
      simp only [heldG] at hF
      exact ret_mk hx4 (int_eq (by exact hF))

theorem c_laws_eqInt64S (w0 : World) (v_a : Value) (a : List Int) {S_a : Nat → Prop} (v_b : Value) (b : List Int) {S_b : Nat → Prop} (h_a : Rds shI64 S_a w0 v_a a) (h_b : Rds shI64 S_b w0 v_b b) :
    Calls Try.prog 36 #[v_a, v_b] w0 (Ret w0 (fun v _ => v = .bool (eqL a b))) := by
  refine enter (N := 26) Try.func36 rfl rfl rfl ?_
  intro a0 ha0
  have hx0 := Ext.rfl' w0
  have hl_a := h_a.length_le
  have hl_b := h_b.length_le
  refine wp_seq ?_
  refine wp_region_lit ?_
  refine wl_val ha0 rfl rfl rfl (op_assign ha0 rfl rfl) ?_
  intro a1 ha1; clear ha0 a0
  refine wpList_nil ?_
  refine then_n ?_
  refine wp_seq ?_
  refine wp_seq ?_
  refine wp_region_lit ?_
  refine wl_val ha1 rfl rfl rfl (op_move ha1 rfl rfl) ?_
  intro a2 ha2; clear ha1 a1
  refine wl_val ha2 rfl rfl rfl (op_len_sl ha2 rfl Try.underlying45 rfl h_a) ?_
  intro a3 ha3; clear ha2 a2
  refine wl_val ha3 rfl rfl rfl (op_move ha3 rfl rfl) ?_
  intro a4 ha4; clear ha3 a3
  refine wl_val ha4 rfl rfl rfl (op_len_sl ha4 rfl Try.underlying45 rfl h_b) ?_
  intro a5 ha5; clear ha4 a4
  refine wl_val ha5 rfl rfl rfl ((op_neq ha5 rfl rfl rfl).to (congrArg Value.bool decide_not)) ?_
  intro a6 ha6; clear ha5 a5
  refine wpList_nil ?_
  refine then_n ?_
  by_cases c7 : ((a.length : Nat) : Int) = ((b.length : Nat) : Int)
  ·
    rw [decide_eq_true c7] at ha6
    refine cond_f ha6 rfl ?_
    refine wp_skip ?_
    refine then_n ?_
    refine wp_seq ?_
    refine wp_seq ?_
    refine wp_region_lit ?_
    refine wl_val ha6 rfl rfl rfl (op_assign ha6 rfl rfl) ?_
    intro a8 ha8; clear ha6 a6
    refine wpList_nil ?_
    refine then_n ?_
    refine wp_block ?_
    refine loop_inv (X := Nat) (fun (i : Nat) fr wl => Sl 26 fr [(0, v_a), (1, v_b), (5, .int .i64 ((i : Nat) : Int))] ∧ Ext w0 wl ∧ w0.heap.size ≤ wl.heap.size ∧ (i ≤ a.length) ∧ (a.length = b.length) ∧ (eqL (a.drop i) (b.drop i) = eqL a b)) (fun (i : Nat) => a.length - i) (0) ?_ ?_
    ·
      exact ⟨(Sl.cons_ ha8 rfl rfl (Sl.cons_ ha8 rfl rfl (Sl.cons_ ha8 rfl (int_eq (by omega)) (Sl.nil_ ha8)))), hx0, (by omega), (by omega), (by omega), (by simp)⟩
    ·
      clear ha8 a8
      rintro i a11 w9 ⟨ha11, hx10, hzl12, hi, hl, hF⟩
      have hzhx10 := hx10.size
      refine wp_seq ?_
      refine wp_seq ?_
      refine wp_region_lit ?_
      refine wl_val ha11 rfl rfl rfl (op_move ha11 rfl rfl) ?_
      intro a13 ha13; clear ha11 a11
      refine wl_val ha13 rfl rfl rfl (op_move ha13 rfl rfl) ?_
      intro a14 ha14; clear ha13 a13
      refine wl_val ha14 rfl rfl rfl (op_len_sl ha14 rfl Try.underlying45 rfl h_a) ?_
      intro a15 ha15; clear ha14 a14
      refine wl_val ha15 rfl rfl rfl (op_lss ha15 rfl rfl rfl) ?_
      intro a16 ha16; clear ha15 a15
      refine wpList_nil ?_
      refine then_n ?_
      by_cases c17 : ((i : Nat) : Int) < ((a.length : Nat) : Int)
      ·
        rw [decide_eq_true c17] at ha16
        refine cond_t ha16 rfl ?_
        refine wp_skip ?_
        refine then_n ?_
        refine wp_seq ?_
        refine wp_block ?_
        refine wp_seq ?_
        refine dr_enter Ext follows_mixed ?_
        intro w18 he19
        have hx20 := hx10.trans' he19
        have hzhx20 := he19.size
        have hs21 : Ext w18 w18 := Ext.rfl' _
        refine dr_val (i := 0) ha16 rfl (by kernel_rfl) (by kernel_rfl) (by kernel_rfl) rfl rfl rfl hs21 (fun w' hw' => op_move ha16 rfl rfl) ?_
        intro a22 ha22; clear ha16 a16
        refine dr_val (i := 1) ha22 rfl (by kernel_rfl) (by kernel_rfl) (by kernel_rfl) rfl rfl rfl hs21 (fun w' hw' => op_move ha22 rfl rfl) ?_
        intro a23 ha23; clear ha22 a22
        obtain ⟨x24, hx24⟩ := get_ex (xs := a) (j := i) (by omega)
        obtain ⟨p25, c26, hi27, hc28, hr29, hs30⟩ := Rds.at_ h_a hx24
        obtain ⟨rfl, b31⟩ := inv_shI64 hr29
        refine dr_val (i := 2) ha23 rfl (by kernel_rfl) (by kernel_rfl) (by kernel_rfl) rfl rfl rfl hs21 (fun w' hw' => op_indexAddr ha23 rfl Try.underlying45 ti2 rfl rfl (by omega) hi27) ?_
        intro a32 ha32; clear ha23 a23
        refine dr_val (i := 3) ha32 rfl (by kernel_rfl) (by kernel_rfl) (by kernel_rfl) rfl rfl rfl hs21 (fun w' hw' => op_loadH ha32 rfl Try.underlying2 rfl rfl (hc28.ext (hx20.trans' hw')) rfl) ?_
        intro a33 ha33; clear ha32 a32
        refine dr_val (i := 4) ha33 rfl (by kernel_rfl) (by kernel_rfl) (by kernel_rfl) rfl rfl rfl hs21 (fun w' hw' => op_move ha33 rfl rfl) ?_
        intro a34 ha34; clear ha33 a33
        refine dr_val (i := 5) ha34 rfl (by kernel_rfl) (by kernel_rfl) (by kernel_rfl) rfl rfl rfl hs21 (fun w' hw' => op_move ha34 rfl rfl) ?_
        intro a35 ha35; clear ha34 a34
        obtain ⟨x36, hx36⟩ := get_ex (xs := b) (j := i) (by omega)
        obtain ⟨p37, c38, hi39, hc40, hr41, hs42⟩ := Rds.at_ h_b hx36
        obtain ⟨rfl, b43⟩ := inv_shI64 hr41
        refine dr_val (i := 6) ha35 rfl (by kernel_rfl) (by kernel_rfl) (by kernel_rfl) rfl rfl rfl hs21 (fun w' hw' => op_indexAddr ha35 rfl Try.underlying45 ti2 rfl rfl (by omega) hi39) ?_
        intro a44 ha44; clear ha35 a35
        refine dr_val (i := 7) ha44 rfl (by kernel_rfl) (by kernel_rfl) (by kernel_rfl) rfl rfl rfl hs21 (fun w' hw' => op_loadH ha44 rfl Try.underlying2 rfl rfl (hc40.ext (hx20.trans' hw')) rfl) ?_
        intro a45 ha45; clear ha44 a44
        refine dr_val (i := 8) ha45 rfl (by kernel_rfl) (by kernel_rfl) (by kernel_rfl) rfl rfl rfl hs21 (fun w' hw' => (op_neq ha45 rfl rfl rfl).to (congrArg Value.bool decide_not)) ?_
        intro a46 ha46; clear ha45 a45
        refine dr_end (by kernel_rfl) ?_
        refine then_n ?_
        by_cases c47 : x24 = x36
        ·
          rw [decide_eq_true c47] at ha46
          refine cond_f ha46 rfl ?_
          refine wp_skip ?_
          refine block_n ?_
          refine then_n ?_
          refine wp_region_lit ?_
          refine wl_val ha46 rfl rfl rfl (op_move ha46 rfl rfl) ?_
          intro a48 ha48; clear ha46 a46
          refine wl_val ha48 rfl rfl rfl ((op_add ha48 rfl rfl rfl).int (IntWalk.i64_in _ (by omega))) ?_
          intro a49 ha49; clear ha48 a48
          refine wl_val ha49 rfl rfl rfl (op_assign ha49 rfl rfl) ?_
          intro a50 ha50; clear ha49 a49
          refine wpList_nil ?_
          refine round_end (x := i) ((i + 1)) ?_ ?_
          ·
            refine ⟨(Sl.cons_ ha50 rfl rfl (Sl.cons_ ha50 rfl rfl (Sl.cons_ ha50 rfl (int_eq (by omega)) (Sl.nil_ ha50)))), hx20, (by omega), (by omega), (by exact hl), (by rw [eqL_step hx24 hx36] at hF; simpa [c7, c17, c47] using hF)⟩
          · show (a.length - ((i + 1)) : Nat) < a.length - i; omega
        ·
          rw [decide_eq_false c47] at ha46
          refine cond_t ha46 rfl ?_
          refine wp_seq ?_
          refine wp_region_lit ?_
          refine wl_val ha46 rfl rfl rfl (op_assign ha46 rfl rfl) ?_
          intro a51 ha51; clear ha46 a46
          refine wpList_nil ?_
          refine then_n ?_
          refine wp_ret ?_
          refine block_r ?_
          refine then_r ?_
          refine then_r ?_
          refine block_r ?_
          refine then_r ?_
          refine ret1 ha51 rfl rfl ?_
          clear ha51 a51
          rw [eqL_step hx24 hx36] at hF
          exact ret_mk hx20 (congrArg Value.bool (by first | (simp [← hF, c7, c17, c47]; done) | (simp [← hF, c7, c17, c47]; omega) | (rw [Bool.eq_iff_iff]; simp [← hF, c7, c17, c47]; done) | (rw [Bool.eq_iff_iff]; simp [← hF, c7, c17, c47]; omega)))
      ·
        rw [decide_eq_false c17] at ha16
        refine cond_f ha16 rfl ?_
        refine wp_exit ?_
        refine then_e ?_
        refine then_e ?_
        refine block_hit ?_
        refine then_n ?_
        refine wp_seq ?_
        refine wp_region_lit ?_
        refine wl_val ha16 rfl rfl rfl (op_assign ha16 rfl rfl) ?_
        intro a52 ha52; clear ha16 a16
        refine wpList_nil ?_
        refine then_n ?_
        refine wp_ret ?_
        refine ret1 ha52 rfl rfl ?_
        clear ha52 a52
        rw [drop_nil (by omega), drop_nil (by omega), eqL_nil] at hF
        exact ret_mk hx10 (congrArg Value.bool (by first | (simp [← hF, c7, c17]; done) | (simp [← hF, c7, c17]; omega) | (rw [Bool.eq_iff_iff]; simp [← hF, c7, c17]; done) | (rw [Bool.eq_iff_iff]; simp [← hF, c7, c17]; omega)))
  ·
    rw [decide_eq_false c7] at ha6
    refine cond_t ha6 rfl ?_
    refine wp_seq ?_
    refine wp_region_lit ?_
    refine wl_val ha6 rfl rfl rfl (op_assign ha6 rfl rfl) ?_
    intro a53 ha53; clear ha6 a6
    refine wpList_nil ?_
    refine then_n ?_
    refine wp_ret ?_
    refine then_r ?_
    refine ret1 ha53 rfl rfl ?_
    clear ha53 a53
    
    exact ret_mk hx0 (congrArg Value.bool (by rw [eqL_len (by omega)]))

theorem c_laws_markStringS (w0 : World) (v_a : Value) (a : List Str) {lo_a le_a hi_a : Nat} (k : Int) (h_a : Own shStr 9 lo_a le_a hi_a w0 v_a a) (g0 : 0 ≤ k) (g1 : k ≤ 4611686018427387904) (g2 : a.length ≤ 4611686018427) :
    Calls Try.prog 46 #[v_a, .int .i64 k] w0 (RetS w0 v_a.ownBlock (fun v w1 => v = .int .i64 (k + 1 * (a.length : Nat)) ∧ Own shStr 9 lo_a le_a hi_a w1 v_a (mkN mkS 1 a.length k))) := by
  refine enter (N := 20) Try.func46 rfl rfl rfl ?_
  intro a0 ha0
  have hx0 := Stp.rfl' w0 v_a.ownBlock
  have hl_a := (h_a.rds pos_shStr).length_le
  refine wp_seq ?_
  refine wp_region_lit ?_
  refine wl_val ha0 rfl rfl rfl (op_assign ha0 rfl rfl) ?_
  intro a1 ha1; clear ha0 a0
  refine wpList_nil ?_
  refine then_n ?_
  refine wp_seq ?_
  refine wp_seq ?_
  refine wp_region_lit ?_
  refine wl_val ha1 rfl rfl rfl (op_assign ha1 rfl rfl) ?_
  intro a2 ha2; clear ha1 a1
  refine wpList_nil ?_
  refine then_n ?_
  refine wp_block ?_
  refine loop_inv (X := Nat × Int × (List Str)) (fun (⟨i, q, acc⟩ : Nat × Int × (List Str)) fr wl => Sl 20 fr [(0, v_a), (1, .int .i64 q), (5, .int .i64 ((i : Nat) : Int))] ∧ Stp w0 wl v_a.ownBlock ∧ Own shStr 9 lo_a le_a hi_a wl v_a acc ∧ w0.heap.size ≤ wl.heap.size ∧ (i ≤ a.length) ∧ (q = k + 1 * (i : Int)) ∧ (acc = mkN mkS 1 i k ++ a.drop i) ∧ (acc.length = a.length)) (fun (⟨i, q, acc⟩ : Nat × Int × (List Str)) => a.length - i) (0, k, a) ?_ ?_
  ·
    exact ⟨(Sl.cons_ ha2 rfl rfl (Sl.cons_ ha2 rfl (int_eq (by omega)) (Sl.cons_ ha2 rfl (int_eq (by omega)) (Sl.nil_ ha2)))), hx0, h_a, (by omega), (by omega), (by simp), (by simp [mkN]), (by rfl)⟩
  ·
    clear ha2 a2
    rintro ⟨i, q, acc⟩ a6 w3 ⟨ha6, hx4, hf5, hzl7, hi, hq, hF, hl⟩
    have hzhx4 := hx4.size
    refine wp_seq ?_
    refine wp_seq ?_
    refine wp_region_lit ?_
    refine wl_val ha6 rfl rfl rfl (op_move ha6 rfl rfl) ?_
    intro a8 ha8; clear ha6 a6
    refine wl_val ha8 rfl rfl rfl (op_move ha8 rfl rfl) ?_
    intro a9 ha9; clear ha8 a8
    refine wl_val ha9 rfl rfl rfl (op_len_sl ha9 rfl Try.underlying52 rfl (hf5.rds pos_shStr)) ?_
    intro a10 ha10; clear ha9 a9
    refine wl_val ha10 rfl rfl rfl (op_lss ha10 rfl rfl rfl) ?_
    intro a11 ha11; clear ha10 a10
    refine wpList_nil ?_
    refine then_n ?_
    by_cases c12 : ((i : Nat) : Int) < ((acc.length : Nat) : Int)
    ·
      rw [decide_eq_true c12] at ha11
      refine cond_t ha11 rfl ?_
      refine wp_skip ?_
      refine then_n ?_
      refine wp_seq ?_
      refine wp_block ?_
      refine wp_seq ?_
      refine wp_region_lit ?_
      refine wl_val ha11 rfl rfl rfl (op_move ha11 rfl rfl) ?_
      intro a13 ha13; clear ha11 a11
      refine wl_val ha13 rfl rfl rfl (op_move ha13 rfl rfl) ?_
      intro a14 ha14; clear ha13 a13
      refine wl_val ha14 rfl rfl rfl (op_move ha14 rfl rfl) ?_
      intro a15 ha15; clear ha14 a14
      refine wl_callR ha15 rfl rfl rfl (op_call ha15 rfl cb67 rfl) (c_laws_markText _ q (by first | assumption | omega | (simp; omega) | (simp [mkN_length]; omega))) ?_
      rintro v16 w17 he18 rfl a19 ha19; clear ha15 a15
      have hx20 := hx4.trans' (Stp.of_ext he18 _)
      have hzhx20 := he18.size
      replace hf5 := hf5.ext he18
      obtain ⟨x21, hx21⟩ := get_ex (xs := acc) (j := i) (by omega)
      obtain ⟨p22, c23, hi24, hc25, hr26, hs27⟩ := Rds.at_ (hf5.rds pos_shStr) hx21
      obtain ⟨rfl, b28⟩ := inv_shStr hr26
      obtain ⟨_, _⟩ : _ ∧ _ := hs27
      refine wl_val ha19 rfl rfl rfl (op_indexAddr ha19 rfl Try.underlying52 ti9 rfl rfl (by omega) hi24) ?_
      intro a29 ha29; clear ha19 a19
      refine wl_effS ha29 rfl rfl (op_setElem (s := shStr) (ds := [St ((mkT q))]) (S' := fun _ => False) ha29 rfl ti9 rfl rfl rfl hf5 pos_shStr hi24 (by omega) (mk_shStr ((mkT q)) (by first | assumption | omega | (dsimp only; omega) | exact Nat.le_trans (mkT_len (by omega)) (by omega))) (fun _ h => h.elim)) ?_
      rintro w30 ⟨ho32, hst31, hz33⟩
      have hx34 := hx20.trans' hst31
      have hzhx34 := hst31.size
      clear hf5
      have hlsho32 : ((acc.set i ((mkT q)))).length = acc.length := List.length_set
      refine wpList_nil ?_
      refine then_n ?_
      refine wp_region_lit ?_
      refine wl_val ha29 rfl rfl rfl (op_move ha29 rfl rfl) ?_
      intro a35 ha35; clear ha29 a29
      refine wl_val ha35 rfl rfl rfl ((op_add ha35 rfl rfl rfl).int (IntWalk.i64_in _ (by omega))) ?_
      intro a36 ha36; clear ha35 a35
      refine wl_val ha36 rfl rfl rfl (op_assign ha36 rfl rfl) ?_
      intro a37 ha37; clear ha36 a36
      refine wpList_nil ?_
      refine block_n ?_
      refine then_n ?_
      refine wp_region_lit ?_
      refine wl_val ha37 rfl rfl rfl (op_move ha37 rfl rfl) ?_
      intro a38 ha38; clear ha37 a37
      refine wl_val ha38 rfl rfl rfl ((op_add ha38 rfl rfl rfl).int (IntWalk.i64_in _ (by omega))) ?_
      intro a39 ha39; clear ha38 a38
      refine wl_val ha39 rfl rfl rfl (op_assign ha39 rfl rfl) ?_
      intro a40 ha40; clear ha39 a39
      refine wpList_nil ?_
      refine round_end (x := (i, q, acc)) ((i + 1), (q + (1 : Int)), (acc.set i ((mkT q)))) ?_ ?_
      ·
        refine ⟨(Sl.cons_ ha40 rfl rfl (Sl.cons_ ha40 rfl (int_eq (by omega)) (Sl.cons_ ha40 rfl (int_eq (by omega)) (Sl.nil_ ha40)))), hx34, ho32, (by omega), (by omega), (by omega), (by exact mkN_step hF (by omega) (by rfl) hq), (by simp only [List.length_set]; exact hl)⟩
      · show (a.length - ((i + 1)) : Nat) < a.length - i; omega
    ·
      rw [decide_eq_false c12] at ha11
      refine cond_f ha11 rfl ?_
      refine wp_exit ?_
      refine then_e ?_
      refine then_e ?_
      refine block_hit ?_
      refine then_n ?_
      refine wp_seq ?_
      refine wp_region_lit ?_
      refine wl_val ha11 rfl rfl rfl (op_move ha11 rfl rfl) ?_
      intro a41 ha41; clear ha11 a11
      refine wl_val ha41 rfl rfl rfl (op_assign ha41 rfl rfl) ?_
      intro a42 ha42; clear ha41 a41
      refine wpList_nil ?_
      refine then_n ?_
      refine wp_ret ?_
      refine ret1 ha42 rfl rfl ?_
      clear ha42 a42
      exact ret_mkS hx4 ⟨int_eq (by omega), hf5.cast (by rw [hF, drop_nil (by omega), List.append_nil]; congr 1; omega)⟩

theorem c_laws_heldStringS (w0 : World) (v_a : Value) (a : List Str) {S_a : Nat → Prop} (k : Int) (h_a : Rds shStr S_a w0 v_a a) (g0 : 0 ≤ k) (g1 : k ≤ 4611686018427387904) (g2 : a.length ≤ 4611686018427) :
    Calls Try.prog 47 #[v_a, .int .i64 k] w0 (Ret w0 (fun v _ => v = .int .i64 (heldG okS 1 a k))) := by
  refine enter (N := 22) Try.func47 rfl rfl rfl ?_
  intro a0 ha0
  have hx0 := Ext.rfl' w0
  have hl_a := h_a.length_le
  refine wp_seq ?_
  refine wp_region_lit ?_
  refine wl_val ha0 rfl rfl rfl (op_assign ha0 rfl rfl) ?_
  intro a1 ha1; clear ha0 a0
  refine wpList_nil ?_
  refine then_n ?_
  refine wp_seq ?_
  refine wp_seq ?_
  refine wp_region_lit ?_
  refine wl_val ha1 rfl rfl rfl (op_assign ha1 rfl rfl) ?_
  intro a2 ha2; clear ha1 a1
  refine wpList_nil ?_
  refine then_n ?_
  refine wp_block ?_
  refine loop_inv (X := Nat × Int) (fun (⟨i, q⟩ : Nat × Int) fr wl => Sl 22 fr [(0, v_a), (1, .int .i64 q), (5, .int .i64 ((i : Nat) : Int))] ∧ Ext w0 wl ∧ w0.heap.size ≤ wl.heap.size ∧ (i ≤ a.length) ∧ (q = k + 1 * (i : Int)) ∧ (heldG okS 1 (a.drop i) q = heldG okS 1 a k)) (fun (⟨i, q⟩ : Nat × Int) => a.length - i) (0, k) ?_ ?_
  ·
    exact ⟨(Sl.cons_ ha2 rfl rfl (Sl.cons_ ha2 rfl (int_eq (by omega)) (Sl.cons_ ha2 rfl (int_eq (by omega)) (Sl.nil_ ha2)))), hx0, (by omega), (by omega), (by simp), (by rfl)⟩
  ·
    clear ha2 a2
    rintro ⟨i, q⟩ a5 w3 ⟨ha5, hx4, hzl6, hi, hq, hF⟩
    have hzhx4 := hx4.size
    refine wp_seq ?_
    refine wp_seq ?_
    refine wp_region_lit ?_
    refine wl_val ha5 rfl rfl rfl (op_move ha5 rfl rfl) ?_
    intro a7 ha7; clear ha5 a5
    refine wl_val ha7 rfl rfl rfl (op_move ha7 rfl rfl) ?_
    intro a8 ha8; clear ha7 a7
    refine wl_val ha8 rfl rfl rfl (op_len_sl ha8 rfl Try.underlying52 rfl h_a) ?_
    intro a9 ha9; clear ha8 a8
    refine wl_val ha9 rfl rfl rfl (op_lss ha9 rfl rfl rfl) ?_
    intro a10 ha10; clear ha9 a9
    refine wpList_nil ?_
    refine then_n ?_
    by_cases c11 : ((i : Nat) : Int) < ((a.length : Nat) : Int)
    ·
      rw [decide_eq_true c11] at ha10
      refine cond_t ha10 rfl ?_
      refine wp_skip ?_
      refine then_n ?_
      refine wp_seq ?_
      refine wp_block ?_
      refine wp_seq ?_
      refine wp_seq ?_
      refine dr_enter Ext follows_mixed ?_
      intro w12 he13
      have hx14 := hx4.trans' he13
      have hzhx14 := he13.size
      have hs15 : Ext w12 w12 := Ext.rfl' _
      refine dr_val (i := 0) ha10 rfl (by kernel_rfl) (by kernel_rfl) (by kernel_rfl) rfl rfl rfl hs15 (fun w' hw' => op_move ha10 rfl rfl) ?_
      intro a16 ha16; clear ha10 a10
      refine dr_val (i := 1) ha16 rfl (by kernel_rfl) (by kernel_rfl) (by kernel_rfl) rfl rfl rfl hs15 (fun w' hw' => op_move ha16 rfl rfl) ?_
      intro a17 ha17; clear ha16 a16
      obtain ⟨x18, hx18⟩ := get_ex (xs := a) (j := i) (by omega)
      obtain ⟨p19, c20, hi21, hc22, hr23, hs24⟩ := Rds.at_ h_a hx18
      obtain ⟨rfl, b25⟩ := inv_shStr hr23
      refine dr_val (i := 2) ha17 rfl (by kernel_rfl) (by kernel_rfl) (by kernel_rfl) rfl rfl rfl hs15 (fun w' hw' => op_indexAddr ha17 rfl Try.underlying52 ti9 rfl rfl (by omega) hi21) ?_
      intro a26 ha26; clear ha17 a17
      refine dr_val (i := 3) ha26 rfl (by kernel_rfl) (by kernel_rfl) (by kernel_rfl) rfl rfl rfl hs15 (fun w' hw' => op_loadH ha26 rfl Try.underlying9 rfl rfl (hc22.ext (hx14.trans' hw')) rfl) ?_
      intro a27 ha27; clear ha26 a26
      refine dr_val (i := 4) ha27 rfl (by kernel_rfl) (by kernel_rfl) (by kernel_rfl) rfl rfl rfl hs15 (fun w' hw' => op_move ha27 rfl rfl) ?_
      intro a28 ha28; clear ha27 a27
      refine dr_one (i := 5) (by kernel_rfl) ?_
      refine po_callR ha28 rfl rfl rfl rfl (op_call ha28 rfl cb67 rfl) (c_laws_markText _ q (by first | assumption | omega | (simp; omega) | (simp [mkN_length]; omega))) ?_
      rintro v29 w30 he31 rfl a32 ha32; clear ha28 a28
      have hs33 := hs15.trans' he31
      have hx34 := hx14.trans' he31
      have hzhx34 := he31.size
      refine ⟨hs33, ?_⟩
      refine dr_val (i := 6) ha32 rfl (by kernel_rfl) (by kernel_rfl) (by kernel_rfl) rfl rfl rfl hs33 (fun w' hw' => (op_sneq ha32 rfl rfl rfl).to (congrArg Value.bool decide_not)) ?_
      intro a35 ha35; clear ha32 a32
      refine dr_end (by kernel_rfl) ?_
      refine then_n ?_
      by_cases c36 : x18 = (mkT q)
      ·
        rw [decide_eq_true c36] at ha35
        refine cond_f ha35 rfl ?_
        refine wp_skip ?_
        refine then_n ?_
        refine wp_region_lit ?_
        refine wl_val ha35 rfl rfl rfl (op_move ha35 rfl rfl) ?_
        intro a37 ha37; clear ha35 a35
        refine wl_val ha37 rfl rfl rfl ((op_add ha37 rfl rfl rfl).int (IntWalk.i64_in _ (by omega))) ?_
        intro a38 ha38; clear ha37 a37
        refine wl_val ha38 rfl rfl rfl (op_assign ha38 rfl rfl) ?_
        intro a39 ha39; clear ha38 a38
        refine wpList_nil ?_
        refine block_n ?_
        refine then_n ?_
        refine wp_region_lit ?_
        refine wl_val ha39 rfl rfl rfl (op_move ha39 rfl rfl) ?_
        intro a40 ha40; clear ha39 a39
        refine wl_val ha40 rfl rfl rfl ((op_add ha40 rfl rfl rfl).int (IntWalk.i64_in _ (by omega))) ?_
        intro a41 ha41; clear ha40 a40
        refine wl_val ha41 rfl rfl rfl (op_assign ha41 rfl rfl) ?_
        intro a42 ha42; clear ha41 a41
        refine wpList_nil ?_
        refine round_end (x := (i, q)) ((i + 1), (q + (1 : Int))) ?_ ?_
        ·
          refine ⟨(Sl.cons_ ha42 rfl rfl (Sl.cons_ ha42 rfl (int_eq (by omega)) (Sl.cons_ ha42 rfl (int_eq (by omega)) (Sl.nil_ ha42)))), hx34, (by omega), (by omega), (by omega), (by rw [drop_cons hx18] at hF; simp only [heldG] at hF; rw [if_pos (by simp [okS, Prod.ext_iff, c11, c36] <;> omega)] at hF; rw [← hF] <;> (congr 1 <;> omega))⟩
        · show (a.length - ((i + 1)) : Nat) < a.length - i; omega
      ·
        rw [decide_eq_false c36] at ha35
        refine cond_t ha35 rfl ?_
        refine wp_seq ?_
        refine wp_region_lit ?_
        refine wl_val ha35 rfl rfl rfl (op_assign ha35 rfl rfl) ?_
        intro a43 ha43; clear ha35 a35
        refine wpList_nil ?_
        refine then_n ?_
        refine wp_ret ?_
        refine then_r ?_
        refine block_r ?_
        refine then_r ?_
        refine then_r ?_
        refine block_r ?_
        refine then_r ?_
        refine ret1 ha43 rfl rfl ?_
        clear ha43 a43
        rw [drop_cons hx18] at hF
        simp only [heldG] at hF
        rw [if_neg (by simp [okS, Prod.ext_iff, c11, c36])] at hF
        exact ret_mk hx34 (int_eq (by exact hF))
    ·
      rw [decide_eq_false c11] at ha10
      refine cond_f ha10 rfl ?_
      refine wp_exit ?_
      refine then_e ?_
      refine then_e ?_
      refine block_hit ?_
      refine then_n ?_
      refine wp_seq ?_
      refine wp_region_lit ?_
      refine wl_val ha10 rfl rfl rfl (op_move ha10 rfl rfl) ?_
      intro a44 ha44; clear ha10 a10
      refine wl_val ha44 rfl rfl rfl (op_assign ha44 rfl rfl) ?_
      intro a45 ha45; clear ha44 a44
      refine wpList_nil ?_
      refine then_n ?_
      refine wp_ret ?_
      refine ret1 ha45 rfl rfl ?_
      clear ha45 a45
      rw [drop_nil (by omega)] at hF
      simp only [heldG] at hF
      exact ret_mk hx4 (int_eq (by exact hF))

theorem c_laws_eqStringS (w0 : World) (v_a : Value) (a : List Str) {S_a : Nat → Prop} (v_b : Value) (b : List Str) {S_b : Nat → Prop} (h_a : Rds shStr S_a w0 v_a a) (h_b : Rds shStr S_b w0 v_b b) :
    Calls Try.prog 45 #[v_a, v_b] w0 (Ret w0 (fun v _ => v = .bool (eqL a b))) := by
  refine enter (N := 26) Try.func45 rfl rfl rfl ?_
  intro a0 ha0
  have hx0 := Ext.rfl' w0
  have hl_a := h_a.length_le
  have hl_b := h_b.length_le
  refine wp_seq ?_
  refine wp_region_lit ?_
  refine wl_val ha0 rfl rfl rfl (op_assign ha0 rfl rfl) ?_
  intro a1 ha1; clear ha0 a0
  refine wpList_nil ?_
  refine then_n ?_
  refine wp_seq ?_
  refine wp_seq ?_
  refine wp_region_lit ?_
  refine wl_val ha1 rfl rfl rfl (op_move ha1 rfl rfl) ?_
  intro a2 ha2; clear ha1 a1
  refine wl_val ha2 rfl rfl rfl (op_len_sl ha2 rfl Try.underlying52 rfl h_a) ?_
  intro a3 ha3; clear ha2 a2
  refine wl_val ha3 rfl rfl rfl (op_move ha3 rfl rfl) ?_
  intro a4 ha4; clear ha3 a3
  refine wl_val ha4 rfl rfl rfl (op_len_sl ha4 rfl Try.underlying52 rfl h_b) ?_
  intro a5 ha5; clear ha4 a4
  refine wl_val ha5 rfl rfl rfl ((op_neq ha5 rfl rfl rfl).to (congrArg Value.bool decide_not)) ?_
  intro a6 ha6; clear ha5 a5
  refine wpList_nil ?_
  refine then_n ?_
  by_cases c7 : ((a.length : Nat) : Int) = ((b.length : Nat) : Int)
  ·
    rw [decide_eq_true c7] at ha6
    refine cond_f ha6 rfl ?_
    refine wp_skip ?_
    refine then_n ?_
    refine wp_seq ?_
    refine wp_seq ?_
    refine wp_region_lit ?_
    refine wl_val ha6 rfl rfl rfl (op_assign ha6 rfl rfl) ?_
    intro a8 ha8; clear ha6 a6
    refine wpList_nil ?_
    refine then_n ?_
    refine wp_block ?_
    refine loop_inv (X := Nat) (fun (i : Nat) fr wl => Sl 26 fr [(0, v_a), (1, v_b), (5, .int .i64 ((i : Nat) : Int))] ∧ Ext w0 wl ∧ w0.heap.size ≤ wl.heap.size ∧ (i ≤ a.length) ∧ (a.length = b.length) ∧ (eqL (a.drop i) (b.drop i) = eqL a b)) (fun (i : Nat) => a.length - i) (0) ?_ ?_
    ·
      exact ⟨(Sl.cons_ ha8 rfl rfl (Sl.cons_ ha8 rfl rfl (Sl.cons_ ha8 rfl (int_eq (by omega)) (Sl.nil_ ha8)))), hx0, (by omega), (by omega), (by omega), (by simp)⟩
    ·
      clear ha8 a8
      rintro i a11 w9 ⟨ha11, hx10, hzl12, hi, hl, hF⟩
      have hzhx10 := hx10.size
      refine wp_seq ?_
      refine wp_seq ?_
      refine wp_region_lit ?_
      refine wl_val ha11 rfl rfl rfl (op_move ha11 rfl rfl) ?_
      intro a13 ha13; clear ha11 a11
      refine wl_val ha13 rfl rfl rfl (op_move ha13 rfl rfl) ?_
      intro a14 ha14; clear ha13 a13
      refine wl_val ha14 rfl rfl rfl (op_len_sl ha14 rfl Try.underlying52 rfl h_a) ?_
      intro a15 ha15; clear ha14 a14
      refine wl_val ha15 rfl rfl rfl (op_lss ha15 rfl rfl rfl) ?_
      intro a16 ha16; clear ha15 a15
      refine wpList_nil ?_
      refine then_n ?_
      by_cases c17 : ((i : Nat) : Int) < ((a.length : Nat) : Int)
      ·
        rw [decide_eq_true c17] at ha16
        refine cond_t ha16 rfl ?_
        refine wp_skip ?_
        refine then_n ?_
        refine wp_seq ?_
        refine wp_block ?_
        refine wp_seq ?_
        refine dr_enter Ext follows_mixed ?_
        intro w18 he19
        have hx20 := hx10.trans' he19
        have hzhx20 := he19.size
        have hs21 : Ext w18 w18 := Ext.rfl' _
        refine dr_val (i := 0) ha16 rfl (by kernel_rfl) (by kernel_rfl) (by kernel_rfl) rfl rfl rfl hs21 (fun w' hw' => op_move ha16 rfl rfl) ?_
        intro a22 ha22; clear ha16 a16
        refine dr_val (i := 1) ha22 rfl (by kernel_rfl) (by kernel_rfl) (by kernel_rfl) rfl rfl rfl hs21 (fun w' hw' => op_move ha22 rfl rfl) ?_
        intro a23 ha23; clear ha22 a22
        obtain ⟨x24, hx24⟩ := get_ex (xs := a) (j := i) (by omega)
        obtain ⟨p25, c26, hi27, hc28, hr29, hs30⟩ := Rds.at_ h_a hx24
        obtain ⟨rfl, b31⟩ := inv_shStr hr29
        refine dr_val (i := 2) ha23 rfl (by kernel_rfl) (by kernel_rfl) (by kernel_rfl) rfl rfl rfl hs21 (fun w' hw' => op_indexAddr ha23 rfl Try.underlying52 ti9 rfl rfl (by omega) hi27) ?_
        intro a32 ha32; clear ha23 a23
        refine dr_val (i := 3) ha32 rfl (by kernel_rfl) (by kernel_rfl) (by kernel_rfl) rfl rfl rfl hs21 (fun w' hw' => op_loadH ha32 rfl Try.underlying9 rfl rfl (hc28.ext (hx20.trans' hw')) rfl) ?_
        intro a33 ha33; clear ha32 a32
        refine dr_val (i := 4) ha33 rfl (by kernel_rfl) (by kernel_rfl) (by kernel_rfl) rfl rfl rfl hs21 (fun w' hw' => op_move ha33 rfl rfl) ?_
        intro a34 ha34; clear ha33 a33
        refine dr_val (i := 5) ha34 rfl (by kernel_rfl) (by kernel_rfl) (by kernel_rfl) rfl rfl rfl hs21 (fun w' hw' => op_move ha34 rfl rfl) ?_
        intro a35 ha35; clear ha34 a34
        obtain ⟨x36, hx36⟩ := get_ex (xs := b) (j := i) (by omega)
        obtain ⟨p37, c38, hi39, hc40, hr41, hs42⟩ := Rds.at_ h_b hx36
        obtain ⟨rfl, b43⟩ := inv_shStr hr41
        refine dr_val (i := 6) ha35 rfl (by kernel_rfl) (by kernel_rfl) (by kernel_rfl) rfl rfl rfl hs21 (fun w' hw' => op_indexAddr ha35 rfl Try.underlying52 ti9 rfl rfl (by omega) hi39) ?_
        intro a44 ha44; clear ha35 a35
        refine dr_val (i := 7) ha44 rfl (by kernel_rfl) (by kernel_rfl) (by kernel_rfl) rfl rfl rfl hs21 (fun w' hw' => op_loadH ha44 rfl Try.underlying9 rfl rfl (hc40.ext (hx20.trans' hw')) rfl) ?_
        intro a45 ha45; clear ha44 a44
        refine dr_val (i := 8) ha45 rfl (by kernel_rfl) (by kernel_rfl) (by kernel_rfl) rfl rfl rfl hs21 (fun w' hw' => (op_sneq ha45 rfl rfl rfl).to (congrArg Value.bool decide_not)) ?_
        intro a46 ha46; clear ha45 a45
        refine dr_end (by kernel_rfl) ?_
        refine then_n ?_
        by_cases c47 : x24 = x36
        ·
          rw [decide_eq_true c47] at ha46
          refine cond_f ha46 rfl ?_
          refine wp_skip ?_
          refine block_n ?_
          refine then_n ?_
          refine wp_region_lit ?_
          refine wl_val ha46 rfl rfl rfl (op_move ha46 rfl rfl) ?_
          intro a48 ha48; clear ha46 a46
          refine wl_val ha48 rfl rfl rfl ((op_add ha48 rfl rfl rfl).int (IntWalk.i64_in _ (by omega))) ?_
          intro a49 ha49; clear ha48 a48
          refine wl_val ha49 rfl rfl rfl (op_assign ha49 rfl rfl) ?_
          intro a50 ha50; clear ha49 a49
          refine wpList_nil ?_
          refine round_end (x := i) ((i + 1)) ?_ ?_
          ·
            refine ⟨(Sl.cons_ ha50 rfl rfl (Sl.cons_ ha50 rfl rfl (Sl.cons_ ha50 rfl (int_eq (by omega)) (Sl.nil_ ha50)))), hx20, (by omega), (by omega), (by exact hl), (by rw [eqL_step hx24 hx36] at hF; simpa [c7, c17, c47] using hF)⟩
          · show (a.length - ((i + 1)) : Nat) < a.length - i; omega
        ·
          rw [decide_eq_false c47] at ha46
          refine cond_t ha46 rfl ?_
          refine wp_seq ?_
          refine wp_region_lit ?_
          refine wl_val ha46 rfl rfl rfl (op_assign ha46 rfl rfl) ?_
          intro a51 ha51; clear ha46 a46
          refine wpList_nil ?_
          refine then_n ?_
          refine wp_ret ?_
          refine block_r ?_
          refine then_r ?_
          refine then_r ?_
          refine block_r ?_
          refine then_r ?_
          refine ret1 ha51 rfl rfl ?_
          clear ha51 a51
          rw [eqL_step hx24 hx36] at hF
          exact ret_mk hx20 (congrArg Value.bool (by first | (simp [← hF, c7, c17, c47]; done) | (simp [← hF, c7, c17, c47]; omega) | (rw [Bool.eq_iff_iff]; simp [← hF, c7, c17, c47]; done) | (rw [Bool.eq_iff_iff]; simp [← hF, c7, c17, c47]; omega)))
      ·
        rw [decide_eq_false c17] at ha16
        refine cond_f ha16 rfl ?_
        refine wp_exit ?_
        refine then_e ?_
        refine then_e ?_
        refine block_hit ?_
        refine then_n ?_
        refine wp_seq ?_
        refine wp_region_lit ?_
        refine wl_val ha16 rfl rfl rfl (op_assign ha16 rfl rfl) ?_
        intro a52 ha52; clear ha16 a16
        refine wpList_nil ?_
        refine then_n ?_
        refine wp_ret ?_
        refine ret1 ha52 rfl rfl ?_
        clear ha52 a52
        rw [drop_nil (by omega), drop_nil (by omega), eqL_nil] at hF
        exact ret_mk hx10 (congrArg Value.bool (by first | (simp [← hF, c7, c17]; done) | (simp [← hF, c7, c17]; omega) | (rw [Bool.eq_iff_iff]; simp [← hF, c7, c17]; done) | (rw [Bool.eq_iff_iff]; simp [← hF, c7, c17]; omega)))
  ·
    rw [decide_eq_false c7] at ha6
    refine cond_t ha6 rfl ?_
    refine wp_seq ?_
    refine wp_region_lit ?_
    refine wl_val ha6 rfl rfl rfl (op_assign ha6 rfl rfl) ?_
    intro a53 ha53; clear ha6 a6
    refine wpList_nil ?_
    refine then_n ?_
    refine wp_ret ?_
    refine then_r ?_
    refine ret1 ha53 rfl rfl ?_
    clear ha53 a53
    
    exact ret_mk hx0 (congrArg Value.bool (by rw [eqL_len (by omega)]))


end Go.Proofs.Ytocedhbefdaefaa
