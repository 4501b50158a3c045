/- Commands. -/
import Derived.Test.YthbehhhblchhhaaK1
namespace Go.Proofs.Ythbehhhblchhhaa
open Go Go.RowKit

set_option maxHeartbeats 4000000 in
theorem c_impl_commandOf (w0 : World) (line : Str) (g0 : line.length ≤ 1048576) :
    Calls Try.prog 13 #[St line] w0 (Ret w0 (fun v w1 => ∃ r0 r1, v = .tuple #[r0, r1, .bool ((pcO line).isSome)] ∧ Own shStr 9 w0.heap.size w0.heap.size w1.heap.size w1 r0 (pcW line) ∧ Own shI64 2 w0.heap.size w0.heap.size w1.heap.size w1 r1 (pcN line))) := by
  refine enter (N := 69) Try.func13 rfl rfl rfl ?_
  intro a0 ha0
  have hx0 := Ext.rfl' w0
  have hsp := spl_pos 32 line []
  have hsl := spl_len 32 line []
  refine wp_seq ?_
  refine wp_region_lit ?_
  refine wl_val ha0 rfl rfl rfl (op_assign ha0 rfl rfl) ?_
  intro a1 ha1; clear ha0 a0
  refine wl_val ha1 rfl rfl rfl (op_assign ha1 rfl rfl) ?_
  intro a2 ha2; clear ha1 a1
  refine wl_val ha2 rfl rfl rfl (op_assign ha2 rfl rfl) ?_
  intro a3 ha3; clear ha2 a2
  refine wpList_nil ?_
  refine then_n ?_
  refine wp_seq ?_
  refine wp_region_lit ?_
  refine wl_val ha3 rfl rfl rfl (op_move ha3 rfl rfl) ?_
  intro a4 ha4; clear ha3 a3
  refine wl_callR ha4 rfl rfl rfl (op_call ha4 rfl cb32 rfl) (c_impl_splitAt _ line (32 : UInt8) (by first | assumption | omega | (simp; omega))) ?_
  rintro v5 w6 he7 ho8 a9 ha9; clear ha4 a4
  have hx10 := hx0.trans' he7
  have hzhx10 := he7.size
  refine wl_val ha9 rfl rfl rfl (op_assign ha9 rfl rfl) ?_
  intro a11 ha11; clear ha9 a9
  refine wpList_nil ?_
  refine then_n ?_
  refine wp_seq ?_
  refine wp_region_lit ?_
  refine wl_val ha11 rfl rfl rfl (op_move ha11 rfl rfl) ?_
  intro a12 ha12; clear ha11 a11
  obtain ⟨x13, hx13⟩ := get_ex (xs := (spl (32 : UInt8) [] line)) (j := 0) (by omega)
  obtain ⟨p14, c15, hi16, hc17, hr18, hs19⟩ := Rds.at_ (ho8.rds pos_shStr) hx13
  obtain ⟨rfl, b20⟩ := inv_shStr hr18
  obtain ⟨_, _⟩ : _ ∧ _ := hs19
  have hrbx13 := rdV_bd x13
  have hlbx13 := l01V_bd x13
  have hk1x13 := kdL_len x13
  have hk2x13 := kdS_len 116 105 x13
  have hk3x13 := kdP_len x13
  refine wl_val ha12 rfl rfl rfl (op_indexAddr ha12 rfl Try.underlying38 ti9 rfl rfl (by omega) hi16) ?_
  intro a21 ha21; clear ha12 a12
  refine wl_val ha21 rfl rfl rfl (op_loadH ha21 rfl Try.underlying9 rfl rfl hc17 rfl) ?_
  intro a22 ha22; clear ha21 a21
  refine wl_callR ha22 rfl rfl rfl (op_call ha22 rfl cb33 rfl) (c_impl_commandShape _ x13 ) ?_
  rintro v23 w24 he25 rfl a26 ha26; clear ha22 a22
  have hx27 := hx10.trans' he25
  have hzhx27 := he25.size
  replace ho8 := ho8.ext he25
  replace hc17 := hc17.ext he25
  refine wl_val ha26 rfl rfl rfl (op_move ha26 rfl rfl) ?_
  intro a28 ha28; clear ha26 a26
  refine wl_val ha28 rfl rfl rfl (op_extract ha28 rfl rfl rfl) ?_
  intro a29 ha29; clear ha28 a28
  refine wl_val ha29 rfl rfl rfl (op_extract ha29 rfl rfl rfl) ?_
  intro a30 ha30; clear ha29 a29
  refine wl_val ha30 rfl rfl rfl (op_assign ha30 rfl rfl) ?_
  intro a31 ha31; clear ha30 a30
  refine wl_val ha31 rfl rfl rfl (op_assign ha31 rfl rfl) ?_
  intro a32 ha32; clear ha31 a31
  refine wpList_nil ?_
  refine then_n ?_
  refine wp_seq ?_
  refine wp_seq ?_
  refine wp_region_lit ?_
  refine wl_val ha32 rfl rfl rfl (op_move ha32 rfl rfl) ?_
  intro a33 ha33; clear ha32 a32
  refine wl_val ha33 rfl rfl rfl (op_not ha33 rfl rfl) ?_
  intro a34 ha34; clear ha33 a33
  refine wl_val ha34 rfl rfl rfl (op_move ha34 rfl rfl) ?_
  intro a35 ha35; clear ha34 a34
  rcases Bool.eq_false_or_eq_true ((kdO x13).isSome) with c36 | c36
  ·
    rw [c36] at ha35
    refine wl_val ha35 rfl rfl rfl (op_move ha35 rfl rfl) ?_
    intro a37 ha37; clear ha35 a35
    refine wl_val ha37 rfl rfl rfl (op_len_sl ha37 rfl Try.underlying38 rfl (ho8.rds pos_shStr)) ?_
    intro a38 ha38; clear ha37 a37
    refine wl_val ha38 rfl rfl rfl (op_move ha38 rfl rfl) ?_
    intro a39 ha39; clear ha38 a38
    refine wl_val ha39 rfl rfl rfl (op_len_str ha39 rfl Try.underlying9 rfl) ?_
    intro a40 ha40; clear ha39 a39
    refine wl_val ha40 rfl rfl rfl ((op_add ha40 rfl rfl rfl).int (IntWalk.i64_in _ (by omega))) ?_
    intro a41 ha41; clear ha40 a40
    refine wl_val ha41 rfl rfl rfl ((op_neq ha41 rfl rfl rfl).to (congrArg Value.bool decide_not)) ?_
    intro a42 ha42; clear ha41 a41
    refine wl_val ha42 rfl rfl rfl (op_pick_f ha42 rfl rfl rfl) ?_
    intro a43 ha43; clear ha42 a42
    refine wpList_nil ?_
    refine then_n ?_
    by_cases c44 : ((((spl (32 : UInt8) [] line)).length : Nat) : Int) = (((((kdS 116 105 x13)).length : Nat) : Int) + (1 : Int))
    ·
      rw [decide_eq_true c44] at ha43
      refine cond_f ha43 rfl ?_
      refine wp_skip ?_
      refine then_n ?_
      refine wp_seq ?_
      refine wp_region_lit ?_
      refine wl_val ha43 rfl rfl rfl (op_assign ha43 rfl rfl) ?_
      intro a45 ha45; clear ha43 a43
      refine wpList_nil ?_
      refine then_n ?_
      refine wp_seq ?_
      refine wp_seq ?_
      refine wp_region_lit ?_
      refine wl_val ha45 rfl rfl rfl (op_assign ha45 rfl rfl) ?_
      intro a46 ha46; clear ha45 a45
      refine wpList_nil ?_
      refine then_n ?_
      refine wp_block ?_
      refine loop_inv (X := Nat × Value × (List Int)) (fun (⟨i, v, acc⟩ : Nat × Value × (List Int)) fr wl => Sl 69 fr [(5, v5), (6, St ((kdS 116 105 x13))), (8, v), (9, .int .i64 ((i : Nat) : Int))] ∧ Ext w0 wl ∧ Own shStr 9 w0.heap.size w0.heap.size w6.heap.size wl v5 ((spl (32 : UInt8) [] line)) ∧ Own shI64 2 w24.heap.size w24.heap.size wl.heap.size wl v acc ∧ w24.heap.size ≤ wl.heap.size ∧ (i ≤ (kdL x13).length) ∧ (acc.length ≤ i) ∧ ((nmO ((kdL x13).drop i) ((spl 32 [] line).drop (i + 1))).map (acc ++ ·) = pcO line) ∧ (((kdS 116 105 x13)).length = (kdL x13).length) ∧ ((spl 32 [] line).length = (kdL x13).length + 1) ∧ ((kdL x13).length ≤ 3)) (fun (⟨i, v, acc⟩ : Nat × Value × (List Int)) => (kdL x13).length - i) (0, (.slice none 0 0), []) ?_ ?_
      ·
        exact ⟨(Sl.cons_ ha46 rfl rfl (Sl.cons_ ha46 rfl rfl (Sl.cons_ ha46 rfl rfl (Sl.cons_ ha46 rfl (int_eq (by omega)) (Sl.nil_ ha46))))), hx27, ho8, (Own.nil _ _ _ _ _ _), (by omega), (by omega), (by exact Nat.zero_le _), (by rw [pcO_go hx13 c36 (by have h9 := kdS_len 116 105 x13; omega)]; simp), (by exact kdS_len _ _ _), (by have h9 := kdS_len 116 105 x13; omega), (by exact kdL_len _)⟩
      ·
        clear ha46 a46
        rintro ⟨i, v, acc⟩ a51 w47 ⟨ha51, hx48, hf49, hf50, hzl52, hi, hl, hF, hk1, hk2, hk3⟩
        have hzhx48 := hx48.size
        refine wp_seq ?_
        refine wp_seq ?_
        refine wp_region_lit ?_
        refine wl_val ha51 rfl rfl rfl (op_move ha51 rfl rfl) ?_
        intro a53 ha53; clear ha51 a51
        refine wl_val ha53 rfl rfl rfl (op_move ha53 rfl rfl) ?_
        intro a54 ha54; clear ha53 a53
        refine wl_val ha54 rfl rfl rfl (op_len_str ha54 rfl Try.underlying9 rfl) ?_
        intro a55 ha55; clear ha54 a54
        refine wl_val ha55 rfl rfl rfl (op_lss ha55 rfl rfl rfl) ?_
        intro a56 ha56; clear ha55 a55
        refine wpList_nil ?_
        refine then_n ?_
        by_cases c57 : ((i : Nat) : Int) < ((((kdS 116 105 x13)).length : Nat) : Int)
        ·
          rw [decide_eq_true c57] at ha56
          refine cond_t ha56 rfl ?_
          refine wp_skip ?_
          refine then_n ?_
          refine wp_seq ?_
          refine wp_block ?_
          refine wp_seq ?_
          refine wp_seq ?_
          refine wp_region_lit ?_
          refine wl_val ha56 rfl rfl rfl (op_move ha56 rfl rfl) ?_
          intro a58 ha58; clear ha56 a56
          refine wl_val ha58 rfl rfl rfl (op_move ha58 rfl rfl) ?_
          intro a59 ha59; clear ha58 a58
          obtain ⟨b60, hb60⟩ := get_ex (xs := (kdS 116 105 x13)) (j := i) (by omega)
          have b60_lt := b60.toNat_lt
          refine wl_val ha59 rfl rfl rfl (op_index_str ha59 rfl Try.underlying9 rfl rfl (by omega) hb60) ?_
          intro a61 ha61; clear ha59 a59
          refine wl_val ha61 rfl rfl rfl (op_eql ha61 rfl rfl rfl) ?_
          intro a62 ha62; clear ha61 a61
          refine wpList_nil ?_
          refine then_n ?_
          by_cases c63 : (b60.toNat : Int) = (116 : Int)
          ·
            rw [decide_eq_true c63] at ha62
            refine cond_t ha62 rfl ?_
            refine wp_exit ?_
            refine then_e ?_
            refine block_hit ?_
            refine then_n ?_
            refine wp_region_lit ?_
            refine wl_val ha62 rfl rfl rfl (op_move ha62 rfl rfl) ?_
            intro a64 ha64; clear ha62 a62
            refine wl_val ha64 rfl rfl rfl ((op_add ha64 rfl rfl rfl).int (IntWalk.i64_in _ (by omega))) ?_
            intro a65 ha65; clear ha64 a64
            refine wl_val ha65 rfl rfl rfl (op_assign ha65 rfl rfl) ?_
            intro a66 ha66; clear ha65 a65
            refine wpList_nil ?_
            refine round_end (x := (i, v, acc)) ((i + 1), v, acc) ?_ ?_
            ·
              refine ⟨(Sl.cons_ ha66 rfl rfl (Sl.cons_ ha66 rfl rfl (Sl.cons_ ha66 rfl rfl (Sl.cons_ ha66 rfl (int_eq (by omega)) (Sl.nil_ ha66))))), hx48, hf49, (hf50.fin (by omega) (by omega) (by omega)), (by omega), (by omega), (by first | omega | (simp; omega)), (by obtain ⟨wz, hwz⟩ := get_ex (xs := spl 32 [] line) (j := i + 1) (by omega); rw [nmO_t (kd_t (t := 116) (i := 105) (by decide) hb60 c63) hwz] at hF; exact hF), (by exact hk1), (by exact hk2), (by exact hk3)⟩
            · show ((kdL x13).length - ((i + 1)) : Nat) < (kdL x13).length - i; omega
          ·
            rw [decide_eq_false c63] at ha62
            refine cond_f ha62 rfl ?_
            refine wp_skip ?_
            refine then_n ?_
            refine wp_seq ?_
            refine wp_region_lit ?_
            refine wl_val ha62 rfl rfl rfl (op_move ha62 rfl rfl) ?_
            intro a67 ha67; clear ha62 a62
            refine wl_val ha67 rfl rfl rfl (op_move ha67 rfl rfl) ?_
            intro a68 ha68; clear ha67 a67
            refine wl_val ha68 rfl rfl rfl ((op_add ha68 rfl rfl rfl).int (IntWalk.i64_in _ (by omega))) ?_
            intro a69 ha69; clear ha68 a68
            obtain ⟨x70, hx70⟩ := get_ex (xs := (spl (32 : UInt8) [] line)) (j := (i + 1)) (by omega)
            obtain ⟨p71, c72, hi73, hc74, hr75, hs76⟩ := Rds.at_ (hf49.rds pos_shStr) hx70
            obtain ⟨rfl, b77⟩ := inv_shStr hr75
            obtain ⟨_, _⟩ : _ ∧ _ := hs76
            have hrbx70 := rdV_bd x70
            have hlbx70 := l01V_bd x70
            have hk1x70 := kdL_len x70
            have hk2x70 := kdS_len 116 105 x70
            have hk3x70 := kdP_len x70
            refine wl_val ha69 rfl rfl rfl (op_indexAddr ha69 rfl Try.underlying38 ti9 rfl rfl (by omega) hi73) ?_
            intro a78 ha78; clear ha69 a69
            refine wl_val ha78 rfl rfl rfl (op_loadH ha78 rfl Try.underlying9 rfl rfl hc74 rfl) ?_
            intro a79 ha79; clear ha78 a78
            refine wl_val ha79 rfl rfl rfl (op_assign ha79 rfl rfl) ?_
            intro a80 ha80; clear ha79 a79
            refine wpList_nil ?_
            refine then_n ?_
            refine wp_seq ?_
            refine wp_region_lit ?_
            refine wl_val ha80 rfl rfl rfl (op_move ha80 rfl rfl) ?_
            intro a81 ha81; clear ha80 a80
            refine wl_callR ha81 rfl rfl rfl (op_call ha81 rfl cb34 rfl) (c_impl_readDecimal _ x70 (by first | assumption | omega | (simp; omega))) ?_
            rintro v82 w83 he84 rfl a85 ha85; clear ha81 a81
            have hx86 := hx48.trans' he84
            have hzhx86 := he84.size
            replace hf49 := hf49.ext he84
            replace hf50 := hf50.ext he84
            replace hc74 := hc74.ext he84
            refine wl_val ha85 rfl rfl rfl (op_move ha85 rfl rfl) ?_
            intro a87 ha87; clear ha85 a85
            refine wl_val ha87 rfl rfl rfl (op_extract ha87 rfl rfl rfl) ?_
            intro a88 ha88; clear ha87 a87
            refine wl_val ha88 rfl rfl rfl (op_extract ha88 rfl rfl rfl) ?_
            intro a89 ha89; clear ha88 a88
            refine wl_val ha89 rfl rfl rfl (op_assign ha89 rfl rfl) ?_
            intro a90 ha90; clear ha89 a89
            refine wl_val ha90 rfl rfl rfl (op_assign ha90 rfl rfl) ?_
            intro a91 ha91; clear ha90 a90
            refine wpList_nil ?_
            refine then_n ?_
            refine wp_seq ?_
            refine wp_seq ?_
            refine wp_region_lit ?_
            refine wl_val ha91 rfl rfl rfl (op_move ha91 rfl rfl) ?_
            intro a92 ha92; clear ha91 a91
            refine wl_val ha92 rfl rfl rfl (op_not ha92 rfl rfl) ?_
            intro a93 ha93; clear ha92 a92
            refine wl_val ha93 rfl rfl rfl (op_move ha93 rfl rfl) ?_
            intro a94 ha94; clear ha93 a93
            rcases Bool.eq_false_or_eq_true ((rdV x70).2) with c95 | c95
            ·
              rw [c95] at ha94
              refine wl_val ha94 rfl rfl rfl (op_move ha94 rfl rfl) ?_
              intro a96 ha96; clear ha94 a94
              refine wl_val ha96 rfl rfl rfl (op_lss ha96 rfl rfl rfl) ?_
              intro a97 ha97; clear ha96 a96
              refine wl_val ha97 rfl rfl rfl (op_pick_f ha97 rfl rfl rfl) ?_
              intro a98 ha98; clear ha97 a97
              refine wl_val ha98 rfl rfl rfl (op_move ha98 rfl rfl) ?_
              intro a99 ha99; clear ha98 a98
              by_cases c100 : ((rdV x70).1 : Int) < (0 : Int)
              ·
                rw [decide_eq_true c100] at ha99
                refine wl_skip ha99 rfl rfl rfl ?_
                intro a101 ha101; clear ha99 a99
                refine wl_skip ha101 rfl rfl rfl ?_
                intro a102 ha102; clear ha101 a101
                refine wl_skip ha102 rfl rfl rfl ?_
                intro a103 ha103; clear ha102 a102
                refine wl_val ha103 rfl rfl rfl (op_pick_t ha103 rfl rfl rfl) ?_
                intro a104 ha104; clear ha103 a103
                refine wpList_nil ?_
                refine then_n ?_
                refine cond_t ha104 rfl ?_
                refine wp_seq ?_
                refine wp_region_lit ?_
                refine wl_val ha104 rfl rfl rfl (op_assign ha104 rfl rfl) ?_
                intro a105 ha105; clear ha104 a104
                refine wl_val ha105 rfl rfl rfl (op_assign ha105 rfl rfl) ?_
                intro a106 ha106; clear ha105 a105
                refine wl_val ha106 rfl rfl rfl (op_assign ha106 rfl rfl) ?_
                intro a107 ha107; clear ha106 a106
                refine wpList_nil ?_
                refine then_n ?_
                refine wp_ret ?_
                refine then_r ?_
                refine block_r ?_
                refine then_r ?_
                refine then_r ?_
                refine block_r ?_
                refine then_r ?_
                refine ret3 ha107 rfl rfl rfl rfl ?_
                clear ha107 a107
                rw [nmO_x (kd_i (t := 116) (i := 105) hb60 c63) hx70 (l01V_no (by first | (left; assumption) | (right; left; assumption) | (right; right; omega)))] at hF
                have hr : pcO line = none := hF.symm
                refine ret_mk hx86 ⟨.slice none 0 0, .slice none 0 0, (tup3_eq rfl rfl (congrArg Value.bool (by rw [hr]; rfl))), ?_, ?_⟩
                · refine Own.nil_ _ _ _ _ _ _ ?_
                  first | exact (pcO_nn hr).1.symm | exact (pcO_sm hr).1.symm
                · refine Own.nil_ _ _ _ _ _ _ ?_
                  first | exact (pcO_nn hr).2.symm | exact (pcO_sm hr).2.symm
              ·
                rw [decide_eq_false c100] at ha99
                refine wl_val ha99 rfl rfl rfl (op_move ha99 rfl rfl) ?_
                intro a108 ha108; clear ha99 a99
                refine wl_val ha108 rfl rfl rfl (op_len_str ha108 rfl Try.underlying9 rfl) ?_
                intro a109 ha109; clear ha108 a108
                refine wl_val ha109 rfl rfl rfl (op_gtr ha109 rfl rfl rfl) ?_
                intro a110 ha110; clear ha109 a109
                refine wl_val ha110 rfl rfl rfl (op_pick_f ha110 rfl rfl rfl) ?_
                intro a111 ha111; clear ha110 a110
                refine wpList_nil ?_
                refine then_n ?_
                by_cases c112 : (13 : Int) < ((x70.length : Nat) : Int)
                ·
                  rw [decide_eq_true c112] at ha111
                  refine cond_t ha111 rfl ?_
                  refine wp_seq ?_
                  refine wp_region_lit ?_
                  refine wl_val ha111 rfl rfl rfl (op_assign ha111 rfl rfl) ?_
                  intro a113 ha113; clear ha111 a111
                  refine wl_val ha113 rfl rfl rfl (op_assign ha113 rfl rfl) ?_
                  intro a114 ha114; clear ha113 a113
                  refine wl_val ha114 rfl rfl rfl (op_assign ha114 rfl rfl) ?_
                  intro a115 ha115; clear ha114 a114
                  refine wpList_nil ?_
                  refine then_n ?_
                  refine wp_ret ?_
                  refine then_r ?_
                  refine block_r ?_
                  refine then_r ?_
                  refine then_r ?_
                  refine block_r ?_
                  refine then_r ?_
                  refine ret3 ha115 rfl rfl rfl rfl ?_
                  clear ha115 a115
                  rw [nmO_x (kd_i (t := 116) (i := 105) hb60 c63) hx70 (l01V_no (by first | (left; assumption) | (right; left; assumption) | (right; right; omega)))] at hF
                  have hr : pcO line = none := hF.symm
                  refine ret_mk hx86 ⟨.slice none 0 0, .slice none 0 0, (tup3_eq rfl rfl (congrArg Value.bool (by rw [hr]; rfl))), ?_, ?_⟩
                  · refine Own.nil_ _ _ _ _ _ _ ?_
                    first | exact (pcO_nn hr).1.symm | exact (pcO_sm hr).1.symm
                  · refine Own.nil_ _ _ _ _ _ _ ?_
                    first | exact (pcO_nn hr).2.symm | exact (pcO_sm hr).2.symm
                ·
                  rw [decide_eq_false c112] at ha111
                  refine cond_f ha111 rfl ?_
                  refine wp_skip ?_
                  refine then_n ?_
                  refine wp_region_lit ?_
                  refine wl_val ha111 rfl rfl rfl (op_move ha111 rfl rfl) ?_
                  intro a116 ha116; clear ha111 a111
                  refine wl_val ha116 rfl rfl rfl (op_move ha116 rfl rfl) ?_
                  intro a117 ha117; clear ha116 a116
                  refine wl_eff ha117 rfl rfl rfl (op_buildSlice (s := shI64) (xs := [((rdV x70).1 : Int)]) (cs := [.int .i64 ((rdV x70).1 : Int)]) (vs := [(0, .int .i64 ((rdV x70).1 : Int))]) (S := fun _ => False) (le := w83.heap.size) ha117 rfl pos_shI64 Try.underlying39 ti2 rfl rfl (by decide) (by kernel_rfl) (Els.single (mk_shI64 (((rdV x70).1 : Int)) (by first | assumption | omega | (simp; done)))) (fun _ h => h.elim)) ?_
                  rintro v118 w119 ⟨ho120, he121, hob122⟩ a123 ha123; clear ha117 a117
                  have hx124 := hx86.trans' he121
                  have hzhx124 := he121.size
                  replace hf49 := hf49.ext he121
                  replace hf50 := hf50.ext he121
                  replace hc74 := hc74.ext he121
                  refine wl_eff ha123 rfl rfl rfl (op_append (ts := #[]) (s := shI64) ha123 rfl Try.underlying39 ti2 rfl pos_shI64 rfl rfl hf50 (ho120.rds pos_shI64) (by omega) (by omega) (by first | omega | (simp; omega)) (by first | omega | (simp; omega)) (.inl flat_shI64)) ?_
                  rintro v125 w126 ⟨ho127, hst128, hob129⟩ a130 ha130; clear ha123 a123
                  have hx131 := hx124.stp hst128 (by intro q hq; have hq0 := hf50.lt q hq; omega)
                  have hzhx131 := hst128.size
                  replace hf49 : Own shStr 9 w0.heap.size w0.heap.size w6.heap.size w126 v5 ((spl (32 : UInt8) [] line)) := by first | exact hf49.stp hst128 (by intro q hq; have hq0 := hf50.lt q hq; omega) | exact hf49.stpF flat_shStr hst128 (hf49.ne hf50 rfl)
                  replace ho120 : Own shI64 2 w83.heap.size w83.heap.size w119.heap.size w126 v118 ([((rdV x70).1 : Int)]) := by first | exact ho120.stp hst128 (by intro q hq; have hq0 := hf50.lt q hq; omega)
                  have hsp132 : ∀ q, Value.ownBlock v125 = some q → Value.ownBlock v118 ≠ some q := by intro q hq hb; have hq0 := ho120.lt q hb; rcases hob129 with h | h; (rw [h] at hq; first | (have hq1 := hf50.lt q hq; omega)); (rw [h] at hq; cases hq; omega)
                  refine wl_val ha130 rfl rfl rfl (op_assign ha130 rfl rfl) ?_
                  intro a133 ha133; clear ha130 a130
                  refine wpList_nil ?_
                  refine block_n ?_
                  refine then_n ?_
                  refine wp_region_lit ?_
                  refine wl_val ha133 rfl rfl rfl (op_move ha133 rfl rfl) ?_
                  intro a134 ha134; clear ha133 a133
                  refine wl_val ha134 rfl rfl rfl ((op_add ha134 rfl rfl rfl).int (IntWalk.i64_in _ (by omega))) ?_
                  intro a135 ha135; clear ha134 a134
                  refine wl_val ha135 rfl rfl rfl (op_assign ha135 rfl rfl) ?_
                  intro a136 ha136; clear ha135 a135
                  refine wpList_nil ?_
                  refine round_end (x := (i, v, acc)) ((i + 1), v125, (acc ++ [((rdV x70).1 : Int)])) ?_ ?_
                  ·
                    refine ⟨(Sl.cons_ ha136 rfl rfl (Sl.cons_ ha136 rfl rfl (Sl.cons_ ha136 rfl rfl (Sl.cons_ ha136 rfl (int_eq (by omega)) (Sl.nil_ ha136))))), hx131, hf49, (ho127.fin (by omega) (by omega) (by omega)), (by omega), (by omega), (by first | omega | (simp; omega)), (by rw [nmO_f (kd_i (t := 116) (i := 105) hb60 c63) hx70 ((l01V_yes (by assumption) (by omega) (by omega)).1), map_app, (l01V_yes (by assumption) (by omega) (by omega)).2] at hF; exact hF), (by exact hk1), (by exact hk2), (by exact hk3)⟩
                  · show ((kdL x13).length - ((i + 1)) : Nat) < (kdL x13).length - i; omega
            ·
              rw [c95] at ha94
              refine wl_skip ha94 rfl rfl rfl ?_
              intro a137 ha137; clear ha94 a94
              refine wl_skip ha137 rfl rfl rfl ?_
              intro a138 ha138; clear ha137 a137
              refine wl_val ha138 rfl rfl rfl (op_pick_t ha138 rfl rfl rfl) ?_
              intro a139 ha139; clear ha138 a138
              refine wl_val ha139 rfl rfl rfl (op_move ha139 rfl rfl) ?_
              intro a140 ha140; clear ha139 a139
              refine wl_skip ha140 rfl rfl rfl ?_
              intro a141 ha141; clear ha140 a140
              refine wl_skip ha141 rfl rfl rfl ?_
              intro a142 ha142; clear ha141 a141
              refine wl_skip ha142 rfl rfl rfl ?_
              intro a143 ha143; clear ha142 a142
              refine wl_val ha143 rfl rfl rfl (op_pick_t ha143 rfl rfl rfl) ?_
              intro a144 ha144; clear ha143 a143
              refine wpList_nil ?_
              refine then_n ?_
              refine cond_t ha144 rfl ?_
              refine wp_seq ?_
              refine wp_region_lit ?_
              refine wl_val ha144 rfl rfl rfl (op_assign ha144 rfl rfl) ?_
              intro a145 ha145; clear ha144 a144
              refine wl_val ha145 rfl rfl rfl (op_assign ha145 rfl rfl) ?_
              intro a146 ha146; clear ha145 a145
              refine wl_val ha146 rfl rfl rfl (op_assign ha146 rfl rfl) ?_
              intro a147 ha147; clear ha146 a146
              refine wpList_nil ?_
              refine then_n ?_
              refine wp_ret ?_
              refine then_r ?_
              refine block_r ?_
              refine then_r ?_
              refine then_r ?_
              refine block_r ?_
              refine then_r ?_
              refine ret3 ha147 rfl rfl rfl rfl ?_
              clear ha147 a147
              rw [nmO_x (kd_i (t := 116) (i := 105) hb60 c63) hx70 (l01V_no (by first | (left; assumption) | (right; left; assumption) | (right; right; omega)))] at hF
              have hr : pcO line = none := hF.symm
              refine ret_mk hx86 ⟨.slice none 0 0, .slice none 0 0, (tup3_eq rfl rfl (congrArg Value.bool (by rw [hr]; rfl))), ?_, ?_⟩
              · refine Own.nil_ _ _ _ _ _ _ ?_
                first | exact (pcO_nn hr).1.symm | exact (pcO_sm hr).1.symm
              · refine Own.nil_ _ _ _ _ _ _ ?_
                first | exact (pcO_nn hr).2.symm | exact (pcO_sm hr).2.symm
        ·
          rw [decide_eq_false c57] at ha56
          refine cond_f ha56 rfl ?_
          refine wp_exit ?_
          refine then_e ?_
          refine then_e ?_
          refine block_hit ?_
          refine then_n ?_
          refine wp_seq ?_
          refine wp_region_lit ?_
          refine wl_val ha56 rfl rfl rfl (op_move ha56 rfl rfl) ?_
          intro a148 ha148; clear ha56 a56
          refine wl_val ha148 rfl rfl rfl (op_move ha148 rfl rfl) ?_
          intro a149 ha149; clear ha148 a148
          refine wl_val ha149 rfl rfl rfl (op_assign ha149 rfl rfl) ?_
          intro a150 ha150; clear ha149 a149
          refine wl_val ha150 rfl rfl rfl (op_assign ha150 rfl rfl) ?_
          intro a151 ha151; clear ha150 a150
          refine wl_val ha151 rfl rfl rfl (op_assign ha151 rfl rfl) ?_
          intro a152 ha152; clear ha151 a151
          refine wpList_nil ?_
          refine then_n ?_
          refine wp_ret ?_
          refine ret3 ha152 rfl rfl rfl rfl ?_
          clear ha152 a152
          rw [drop_nil (xs := kdL x13) (by omega), nmO] at hF
          have hr : pcO line = some acc := by rw [← hF]; simp
          refine ret_mk hx48 ⟨v5, v, (tup3_eq rfl rfl (congrArg Value.bool (by rw [hr]; rfl))), ?_, ?_⟩
          · refine (hf49.fin (by omega) (by omega) (by omega)).cast ?_
            first | exact (pcO_nn hr).1.symm | exact (pcO_sm hr).1.symm
          · refine (hf50.fin (by omega) (by omega) (by omega)).cast ?_
            first | exact (pcO_nn hr).2.symm | exact (pcO_sm hr).2.symm
    ·
      rw [decide_eq_false c44] at ha43
      refine cond_t ha43 rfl ?_
      refine wp_seq ?_
      refine wp_region_lit ?_
      refine wl_val ha43 rfl rfl rfl (op_assign ha43 rfl rfl) ?_
      intro a153 ha153; clear ha43 a43
      refine wl_val ha153 rfl rfl rfl (op_assign ha153 rfl rfl) ?_
      intro a154 ha154; clear ha153 a153
      refine wl_val ha154 rfl rfl rfl (op_assign ha154 rfl rfl) ?_
      intro a155 ha155; clear ha154 a154
      refine wpList_nil ?_
      refine then_n ?_
      refine wp_ret ?_
      refine then_r ?_
      refine ret3 ha155 rfl rfl rfl rfl ?_
      clear ha155 a155
      have hr : pcO line = none := pcO_no hx13 (.inr (by have h9 := kdS_len 116 105 x13; omega))
      refine ret_mk hx27 ⟨.slice none 0 0, .slice none 0 0, (tup3_eq rfl rfl (congrArg Value.bool (by rw [hr]; rfl))), ?_, ?_⟩
      · refine Own.nil_ _ _ _ _ _ _ ?_
        first | exact (pcO_nn hr).1.symm | exact (pcO_sm hr).1.symm
      · refine Own.nil_ _ _ _ _ _ _ ?_
        first | exact (pcO_nn hr).2.symm | exact (pcO_sm hr).2.symm
  ·
    rw [c36] at ha35
    refine wl_skip ha35 rfl rfl rfl ?_
    intro a156 ha156; clear ha35 a35
    refine wl_skip ha156 rfl rfl rfl ?_
    intro a157 ha157; clear ha156 a156
    refine wl_skip ha157 rfl rfl rfl ?_
    intro a158 ha158; clear ha157 a157
    refine wl_skip ha158 rfl rfl rfl ?_
    intro a159 ha159; clear ha158 a158
    refine wl_skip ha159 rfl rfl rfl ?_
    intro a160 ha160; clear ha159 a159
    refine wl_skip ha160 rfl rfl rfl ?_
    intro a161 ha161; clear ha160 a160
    refine wl_val ha161 rfl rfl rfl (op_pick_t ha161 rfl rfl rfl) ?_
    intro a162 ha162; clear ha161 a161
    refine wpList_nil ?_
    refine then_n ?_
    refine cond_t ha162 rfl ?_
    refine wp_seq ?_
    refine wp_region_lit ?_
    refine wl_val ha162 rfl rfl rfl (op_assign ha162 rfl rfl) ?_
    intro a163 ha163; clear ha162 a162
    refine wl_val ha163 rfl rfl rfl (op_assign ha163 rfl rfl) ?_
    intro a164 ha164; clear ha163 a163
    refine wl_val ha164 rfl rfl rfl (op_assign ha164 rfl rfl) ?_
    intro a165 ha165; clear ha164 a164
    refine wpList_nil ?_
    refine then_n ?_
    refine wp_ret ?_
    refine then_r ?_
    refine ret3 ha165 rfl rfl rfl rfl ?_
    clear ha165 a165
    have hr : pcO line = none := pcO_no hx13 (.inl (by simpa using c36))
    refine ret_mk hx27 ⟨.slice none 0 0, .slice none 0 0, (tup3_eq rfl rfl (congrArg Value.bool (by rw [hr]; rfl))), ?_, ?_⟩
    · refine Own.nil_ _ _ _ _ _ _ ?_
      first | exact (pcO_nn hr).1.symm | exact (pcO_sm hr).1.symm
    · refine Own.nil_ _ _ _ _ _ _ ?_
      first | exact (pcO_nn hr).2.symm | exact (pcO_sm hr).2.symm

set_option maxHeartbeats 4000000 in
theorem c_spec_l34Parse (w0 : World) (line : Str) (g0 : line.length ≤ 1048576) :
    Calls Try.prog 12 #[St line] w0 (Ret w0 (fun v w1 => ∃ r0 r1, v = .tuple #[r0, r1, .bool ((pcO line).isSome)] ∧ Own shStr 9 w0.heap.size w0.heap.size w1.heap.size w1 r0 (pcW line) ∧ Own shI64 2 w0.heap.size w0.heap.size w1.heap.size w1 r1 (pcN line))) := by
  refine enter (N := 55) Try.func12 rfl rfl rfl ?_
  intro a0 ha0
  have hx0 := Ext.rfl' w0
  have hsp := spl_pos 32 line []
  have hsl := spl_len 32 line []
  refine wp_seq ?_
  refine wp_region_lit ?_
  refine wl_val ha0 rfl rfl rfl (op_assign ha0 rfl rfl) ?_
  intro a1 ha1; clear ha0 a0
  refine wl_val ha1 rfl rfl rfl (op_assign ha1 rfl rfl) ?_
  intro a2 ha2; clear ha1 a1
  refine wl_val ha2 rfl rfl rfl (op_assign ha2 rfl rfl) ?_
  intro a3 ha3; clear ha2 a2
  refine wpList_nil ?_
  refine then_n ?_
  refine wp_seq ?_
  refine wp_region_lit ?_
  refine wl_val ha3 rfl rfl rfl (op_move ha3 rfl rfl) ?_
  intro a4 ha4; clear ha3 a3
  refine wl_callR ha4 rfl rfl rfl (op_call ha4 rfl cb29 rfl) (c_spec_l01Split _ line (32 : UInt8) (by first | assumption | omega | (simp; omega))) ?_
  rintro v5 w6 he7 ho8 a9 ha9; clear ha4 a4
  have hx10 := hx0.trans' he7
  have hzhx10 := he7.size
  refine wl_val ha9 rfl rfl rfl (op_assign ha9 rfl rfl) ?_
  intro a11 ha11; clear ha9 a9
  refine wpList_nil ?_
  refine then_n ?_
  refine wp_seq ?_
  refine wp_region_lit ?_
  refine wl_val ha11 rfl rfl rfl (op_move ha11 rfl rfl) ?_
  intro a12 ha12; clear ha11 a11
  obtain ⟨x13, hx13⟩ := get_ex (xs := (spl (32 : UInt8) [] line)) (j := 0) (by omega)
  obtain ⟨p14, c15, hi16, hc17, hr18, hs19⟩ := Rds.at_ (ho8.rds pos_shStr) hx13
  obtain ⟨rfl, b20⟩ := inv_shStr hr18
  obtain ⟨_, _⟩ : _ ∧ _ := hs19
  have hrbx13 := rdV_bd x13
  have hlbx13 := l01V_bd x13
  have hk1x13 := kdL_len x13
  have hk2x13 := kdS_len 116 105 x13
  have hk3x13 := kdP_len x13
  refine wl_val ha12 rfl rfl rfl (op_indexAddr ha12 rfl Try.underlying38 ti9 rfl rfl (by omega) hi16) ?_
  intro a21 ha21; clear ha12 a12
  refine wl_val ha21 rfl rfl rfl (op_loadH ha21 rfl Try.underlying9 rfl rfl hc17 rfl) ?_
  intro a22 ha22; clear ha21 a21
  refine wl_callR ha22 rfl rfl rfl (op_call ha22 rfl cb30 rfl) (c_spec_l34Kind _ x13 ) ?_
  rintro v23 w24 he25 rfl a26 ha26; clear ha22 a22
  have hx27 := hx10.trans' he25
  have hzhx27 := he25.size
  replace ho8 := ho8.ext he25
  replace hc17 := hc17.ext he25
  refine wl_val ha26 rfl rfl rfl (op_assign ha26 rfl rfl) ?_
  intro a28 ha28; clear ha26 a26
  refine wpList_nil ?_
  refine then_n ?_
  refine wp_seq ?_
  refine wp_seq ?_
  refine wp_region_lit ?_
  refine wl_val ha28 rfl rfl rfl (op_move ha28 rfl rfl) ?_
  intro a29 ha29; clear ha28 a28
  refine wl_val ha29 rfl rfl rfl (op_seql ha29 rfl rfl rfl) ?_
  intro a30 ha30; clear ha29 a29
  refine wl_val ha30 rfl rfl rfl (op_move ha30 rfl rfl) ?_
  intro a31 ha31; clear ha30 a30
  by_cases c32 : (kdP x13) = ([45] : Str)
  ·
    rw [decide_eq_true c32] at ha31
    refine wl_skip ha31 rfl rfl rfl ?_
    intro a33 ha33; clear ha31 a31
    refine wl_skip ha33 rfl rfl rfl ?_
    intro a34 ha34; clear ha33 a33
    refine wl_skip ha34 rfl rfl rfl ?_
    intro a35 ha35; clear ha34 a34
    refine wl_skip ha35 rfl rfl rfl ?_
    intro a36 ha36; clear ha35 a35
    refine wl_skip ha36 rfl rfl rfl ?_
    intro a37 ha37; clear ha36 a36
    refine wl_skip ha37 rfl rfl rfl ?_
    intro a38 ha38; clear ha37 a37
    refine wl_val ha38 rfl rfl rfl (op_pick_t ha38 rfl rfl rfl) ?_
    intro a39 ha39; clear ha38 a38
    refine wpList_nil ?_
    refine then_n ?_
    refine cond_t ha39 rfl ?_
    refine wp_seq ?_
    refine wp_region_lit ?_
    refine wl_val ha39 rfl rfl rfl (op_assign ha39 rfl rfl) ?_
    intro a40 ha40; clear ha39 a39
    refine wl_val ha40 rfl rfl rfl (op_assign ha40 rfl rfl) ?_
    intro a41 ha41; clear ha40 a40
    refine wl_val ha41 rfl rfl rfl (op_assign ha41 rfl rfl) ?_
    intro a42 ha42; clear ha41 a41
    refine wpList_nil ?_
    refine then_n ?_
    refine wp_ret ?_
    refine then_r ?_
    refine ret3 ha42 rfl rfl rfl rfl ?_
    clear ha42 a42
    have hr : pcO line = none := pcO_no hx13 (.inl (kdP_no c32))
    refine ret_mk hx27 ⟨.slice none 0 0, .slice none 0 0, (tup3_eq rfl rfl (congrArg Value.bool (by rw [hr]; rfl))), ?_, ?_⟩
    · refine Own.nil_ _ _ _ _ _ _ ?_
      first | exact (pcO_nn hr).1.symm | exact (pcO_sm hr).1.symm
    · refine Own.nil_ _ _ _ _ _ _ ?_
      first | exact (pcO_nn hr).2.symm | exact (pcO_sm hr).2.symm
  ·
    rw [decide_eq_false c32] at ha31
    refine wl_val ha31 rfl rfl rfl (op_move ha31 rfl rfl) ?_
    intro a43 ha43; clear ha31 a31
    refine wl_val ha43 rfl rfl rfl (op_len_sl ha43 rfl Try.underlying38 rfl (ho8.rds pos_shStr)) ?_
    intro a44 ha44; clear ha43 a43
    refine wl_val ha44 rfl rfl rfl (op_move ha44 rfl rfl) ?_
    intro a45 ha45; clear ha44 a44
    refine wl_val ha45 rfl rfl rfl (op_len_str ha45 rfl Try.underlying9 rfl) ?_
    intro a46 ha46; clear ha45 a45
    refine wl_val ha46 rfl rfl rfl ((op_add ha46 rfl rfl rfl).int (IntWalk.i64_in _ (by omega))) ?_
    intro a47 ha47; clear ha46 a46
    refine wl_val ha47 rfl rfl rfl ((op_neq ha47 rfl rfl rfl).to (congrArg Value.bool decide_not)) ?_
    intro a48 ha48; clear ha47 a47
    refine wl_val ha48 rfl rfl rfl (op_pick_f ha48 rfl rfl rfl) ?_
    intro a49 ha49; clear ha48 a48
    refine wpList_nil ?_
    refine then_n ?_
    by_cases c50 : ((((spl (32 : UInt8) [] line)).length : Nat) : Int) = (((((kdP x13)).length : Nat) : Int) + (1 : Int))
    ·
      rw [decide_eq_true c50] at ha49
      refine cond_f ha49 rfl ?_
      refine wp_skip ?_
      refine then_n ?_
      refine wp_seq ?_
      refine wp_region_lit ?_
      refine wl_eff ha49 rfl rfl rfl (op_buildSlice (s := shI64) (xs := ([] : List Int)) (cs := []) (vs := []) (S := fun _ => False) (le := w24.heap.size) ha49 rfl pos_shI64 Try.underlying39 ti2 rfl rfl (by decide) (by kernel_rfl) rfl (fun _ h => h.elim)) ?_
      rintro v51 w52 ⟨ho53, he54, hob55⟩ a56 ha56; clear ha49 a49
      have hx57 := hx27.trans' he54
      have hzhx57 := he54.size
      replace ho8 := ho8.ext he54
      replace hc17 := hc17.ext he54
      refine wl_val ha56 rfl rfl rfl (op_assign ha56 rfl rfl) ?_
      intro a58 ha58; clear ha56 a56
      refine wpList_nil ?_
      refine then_n ?_
      refine wp_seq ?_
      refine wp_seq ?_
      refine wp_region_lit ?_
      refine wl_val ha58 rfl rfl rfl (op_assign ha58 rfl rfl) ?_
      intro a59 ha59; clear ha58 a58
      refine wpList_nil ?_
      refine then_n ?_
      refine wp_block ?_
      refine loop_inv (X := Nat × Value × (List Int)) (fun (⟨i, v, acc⟩ : Nat × Value × (List Int)) fr wl => Sl 55 fr [(5, v5), (6, St ((kdP x13))), (7, v), (8, .int .i64 ((i : Nat) : Int))] ∧ Ext w0 wl ∧ Own shStr 9 w0.heap.size w0.heap.size w6.heap.size wl v5 ((spl (32 : UInt8) [] line)) ∧ Own shI64 2 w24.heap.size w24.heap.size wl.heap.size wl v acc ∧ w52.heap.size ≤ wl.heap.size ∧ (i ≤ (kdL x13).length) ∧ (acc.length ≤ i) ∧ ((nmO ((kdL x13).drop i) ((spl 32 [] line).drop (i + 1))).map (acc ++ ·) = pcO line) ∧ (((kdP x13)).length = (kdL x13).length) ∧ ((spl 32 [] line).length = (kdL x13).length + 1) ∧ ((kdL x13).length ≤ 3)) (fun (⟨i, v, acc⟩ : Nat × Value × (List Int)) => (kdL x13).length - i) (0, v51, ([] : List Int)) ?_ ?_
      ·
        exact ⟨(Sl.cons_ ha59 rfl rfl (Sl.cons_ ha59 rfl rfl (Sl.cons_ ha59 rfl rfl (Sl.cons_ ha59 rfl (int_eq (by omega)) (Sl.nil_ ha59))))), hx57, ho8, (ho53.fin (by omega) (by omega) (by omega)), (by omega), (by omega), (by exact Nat.zero_le _), (by rw [pcO_go hx13 (kdP_ok c32).1 (by have h9 := kdS_len 84 73 x13; rw [← (kdP_ok c32).2] at h9; omega)]; simp), (by rw [(kdP_ok c32).2]; exact kdS_len _ _ _), (by have h9 := kdS_len 84 73 x13; rw [← (kdP_ok c32).2] at h9; omega), (by exact kdL_len _)⟩
      ·
        clear ha59 a59
        rintro ⟨i, v, acc⟩ a64 w60 ⟨ha64, hx61, hf62, hf63, hzl65, hi, hl, hF, hk1, hk2, hk3⟩
        have hzhx61 := hx61.size
        refine wp_seq ?_
        refine wp_seq ?_
        refine wp_region_lit ?_
        refine wl_val ha64 rfl rfl rfl (op_move ha64 rfl rfl) ?_
        intro a66 ha66; clear ha64 a64
        refine wl_val ha66 rfl rfl rfl (op_move ha66 rfl rfl) ?_
        intro a67 ha67; clear ha66 a66
        refine wl_val ha67 rfl rfl rfl (op_len_str ha67 rfl Try.underlying9 rfl) ?_
        intro a68 ha68; clear ha67 a67
        refine wl_val ha68 rfl rfl rfl (op_lss ha68 rfl rfl rfl) ?_
        intro a69 ha69; clear ha68 a68
        refine wpList_nil ?_
        refine then_n ?_
        by_cases c70 : ((i : Nat) : Int) < ((((kdP x13)).length : Nat) : Int)
        ·
          rw [decide_eq_true c70] at ha69
          refine cond_t ha69 rfl ?_
          refine wp_skip ?_
          refine then_n ?_
          refine wp_seq ?_
          refine wp_block ?_
          refine wp_seq ?_
          refine wp_seq ?_
          refine wp_region_lit ?_
          refine wl_val ha69 rfl rfl rfl (op_move ha69 rfl rfl) ?_
          intro a71 ha71; clear ha69 a69
          refine wl_val ha71 rfl rfl rfl (op_move ha71 rfl rfl) ?_
          intro a72 ha72; clear ha71 a71
          obtain ⟨b73, hb73⟩ := get_ex (xs := (kdP x13)) (j := i) (by omega)
          have b73_lt := b73.toNat_lt
          refine wl_val ha72 rfl rfl rfl (op_index_str ha72 rfl Try.underlying9 rfl rfl (by omega) hb73) ?_
          intro a74 ha74; clear ha72 a72
          refine wl_val ha74 rfl rfl rfl (op_eql ha74 rfl rfl rfl) ?_
          intro a75 ha75; clear ha74 a74
          refine wpList_nil ?_
          refine then_n ?_
          by_cases c76 : (b73.toNat : Int) = (84 : Int)
          ·
            rw [decide_eq_true c76] at ha75
            refine cond_t ha75 rfl ?_
            refine wp_exit ?_
            refine then_e ?_
            refine block_hit ?_
            refine then_n ?_
            refine wp_region_lit ?_
            refine wl_val ha75 rfl rfl rfl (op_move ha75 rfl rfl) ?_
            intro a77 ha77; clear ha75 a75
            refine wl_val ha77 rfl rfl rfl ((op_add ha77 rfl rfl rfl).int (IntWalk.i64_in _ (by omega))) ?_
            intro a78 ha78; clear ha77 a77
            refine wl_val ha78 rfl rfl rfl (op_assign ha78 rfl rfl) ?_
            intro a79 ha79; clear ha78 a78
            refine wpList_nil ?_
            refine round_end (x := (i, v, acc)) ((i + 1), v, acc) ?_ ?_
            ·
              refine ⟨(Sl.cons_ ha79 rfl rfl (Sl.cons_ ha79 rfl rfl (Sl.cons_ ha79 rfl rfl (Sl.cons_ ha79 rfl (int_eq (by omega)) (Sl.nil_ ha79))))), hx61, hf62, (hf63.fin (by omega) (by omega) (by omega)), (by omega), (by omega), (by first | omega | (simp; omega)), (by obtain ⟨wz, hwz⟩ := get_ex (xs := spl 32 [] line) (j := i + 1) (by omega); rw [nmO_t (kd_t (t := 84) (i := 73) (by decide) ((kdP_ok c32).2 ▸ hb73) c76) hwz] at hF; exact hF), (by exact hk1), (by exact hk2), (by exact hk3)⟩
            · show ((kdL x13).length - ((i + 1)) : Nat) < (kdL x13).length - i; omega
          ·
            rw [decide_eq_false c76] at ha75
            refine cond_f ha75 rfl ?_
            refine wp_skip ?_
            refine then_n ?_
            refine wp_seq ?_
            refine wp_region_lit ?_
            refine wl_val ha75 rfl rfl rfl (op_move ha75 rfl rfl) ?_
            intro a80 ha80; clear ha75 a75
            refine wl_val ha80 rfl rfl rfl (op_move ha80 rfl rfl) ?_
            intro a81 ha81; clear ha80 a80
            refine wl_val ha81 rfl rfl rfl ((op_add ha81 rfl rfl rfl).int (IntWalk.i64_in _ (by omega))) ?_
            intro a82 ha82; clear ha81 a81
            obtain ⟨x83, hx83⟩ := get_ex (xs := (spl (32 : UInt8) [] line)) (j := (i + 1)) (by omega)
            obtain ⟨p84, c85, hi86, hc87, hr88, hs89⟩ := Rds.at_ (hf62.rds pos_shStr) hx83
            obtain ⟨rfl, b90⟩ := inv_shStr hr88
            obtain ⟨_, _⟩ : _ ∧ _ := hs89
            have hrbx83 := rdV_bd x83
            have hlbx83 := l01V_bd x83
            have hk1x83 := kdL_len x83
            have hk2x83 := kdS_len 116 105 x83
            have hk3x83 := kdP_len x83
            refine wl_val ha82 rfl rfl rfl (op_indexAddr ha82 rfl Try.underlying38 ti9 rfl rfl (by omega) hi86) ?_
            intro a91 ha91; clear ha82 a82
            refine wl_val ha91 rfl rfl rfl (op_loadH ha91 rfl Try.underlying9 rfl rfl hc87 rfl) ?_
            intro a92 ha92; clear ha91 a91
            refine wl_callR ha92 rfl rfl rfl (op_call ha92 rfl cb31 rfl) (c_spec_l01Value _ x83 ) ?_
            rintro v93 w94 he95 rfl a96 ha96; clear ha92 a92
            have hx97 := hx61.trans' he95
            have hzhx97 := he95.size
            replace hf62 := hf62.ext he95
            replace hf63 := hf63.ext he95
            replace hc87 := hc87.ext he95
            refine wl_val ha96 rfl rfl rfl (op_move ha96 rfl rfl) ?_
            intro a98 ha98; clear ha96 a96
            refine wl_val ha98 rfl rfl rfl (op_extract ha98 rfl rfl rfl) ?_
            intro a99 ha99; clear ha98 a98
            refine wl_val ha99 rfl rfl rfl (op_extract ha99 rfl rfl rfl) ?_
            intro a100 ha100; clear ha99 a99
            refine wl_val ha100 rfl rfl rfl (op_assign ha100 rfl rfl) ?_
            intro a101 ha101; clear ha100 a100
            refine wl_val ha101 rfl rfl rfl (op_assign ha101 rfl rfl) ?_
            intro a102 ha102; clear ha101 a101
            refine wpList_nil ?_
            refine then_n ?_
            refine wp_seq ?_
            refine wp_seq ?_
            refine wp_region_lit ?_
            refine wl_val ha102 rfl rfl rfl (op_move ha102 rfl rfl) ?_
            intro a103 ha103; clear ha102 a102
            refine wl_val ha103 rfl rfl rfl (op_not ha103 rfl rfl) ?_
            intro a104 ha104; clear ha103 a103
            refine wpList_nil ?_
            refine then_n ?_
            rcases Bool.eq_false_or_eq_true ((l01V x83).2) with c105 | c105
            ·
              rw [c105] at ha104
              refine cond_f ha104 rfl ?_
              refine wp_skip ?_
              refine then_n ?_
              refine wp_region_lit ?_
              refine wl_val ha104 rfl rfl rfl (op_move ha104 rfl rfl) ?_
              intro a106 ha106; clear ha104 a104
              refine wl_val ha106 rfl rfl rfl (op_move ha106 rfl rfl) ?_
              intro a107 ha107; clear ha106 a106
              refine wl_eff ha107 rfl rfl rfl (op_buildSlice (s := shI64) (xs := [((l01V x83).1 : Int)]) (cs := [.int .i64 ((l01V x83).1 : Int)]) (vs := [(0, .int .i64 ((l01V x83).1 : Int))]) (S := fun _ => False) (le := w94.heap.size) ha107 rfl pos_shI64 Try.underlying39 ti2 rfl rfl (by decide) (by kernel_rfl) (Els.single (mk_shI64 (((l01V x83).1 : Int)) (by first | assumption | omega | (simp; done)))) (fun _ h => h.elim)) ?_
              rintro v108 w109 ⟨ho110, he111, hob112⟩ a113 ha113; clear ha107 a107
              have hx114 := hx97.trans' he111
              have hzhx114 := he111.size
              replace hf62 := hf62.ext he111
              replace hf63 := hf63.ext he111
              replace hc87 := hc87.ext he111
              refine wl_eff ha113 rfl rfl rfl (op_append (ts := #[]) (s := shI64) ha113 rfl Try.underlying39 ti2 rfl pos_shI64 rfl rfl hf63 (ho110.rds pos_shI64) (by omega) (by omega) (by first | omega | (simp; omega)) (by first | omega | (simp; omega)) (.inl flat_shI64)) ?_
              rintro v115 w116 ⟨ho117, hst118, hob119⟩ a120 ha120; clear ha113 a113
              have hx121 := hx114.stp hst118 (by intro q hq; have hq0 := hf63.lt q hq; omega)
              have hzhx121 := hst118.size
              replace hf62 : Own shStr 9 w0.heap.size w0.heap.size w6.heap.size w116 v5 ((spl (32 : UInt8) [] line)) := by first | exact hf62.stp hst118 (by intro q hq; have hq0 := hf63.lt q hq; omega) | exact hf62.stpF flat_shStr hst118 (hf62.ne hf63 rfl)
              replace ho110 : Own shI64 2 w94.heap.size w94.heap.size w109.heap.size w116 v108 ([((l01V x83).1 : Int)]) := by first | exact ho110.stp hst118 (by intro q hq; have hq0 := hf63.lt q hq; omega)
              have hsp122 : ∀ q, Value.ownBlock v115 = some q → Value.ownBlock v108 ≠ some q := by intro q hq hb; have hq0 := ho110.lt q hb; rcases hob119 with h | h; (rw [h] at hq; first | (have hq1 := hf63.lt q hq; omega)); (rw [h] at hq; cases hq; omega)
              refine wl_val ha120 rfl rfl rfl (op_assign ha120 rfl rfl) ?_
              intro a123 ha123; clear ha120 a120
              refine wpList_nil ?_
              refine block_n ?_
              refine then_n ?_
              refine wp_region_lit ?_
              refine wl_val ha123 rfl rfl rfl (op_move ha123 rfl rfl) ?_
              intro a124 ha124; clear ha123 a123
              refine wl_val ha124 rfl rfl rfl ((op_add ha124 rfl rfl rfl).int (IntWalk.i64_in _ (by omega))) ?_
              intro a125 ha125; clear ha124 a124
              refine wl_val ha125 rfl rfl rfl (op_assign ha125 rfl rfl) ?_
              intro a126 ha126; clear ha125 a125
              refine wpList_nil ?_
              refine round_end (x := (i, v, acc)) ((i + 1), v115, (acc ++ [((l01V x83).1 : Int)])) ?_ ?_
              ·
                refine ⟨(Sl.cons_ ha126 rfl rfl (Sl.cons_ ha126 rfl rfl (Sl.cons_ ha126 rfl rfl (Sl.cons_ ha126 rfl (int_eq (by omega)) (Sl.nil_ ha126))))), hx121, hf62, (ho117.fin (by omega) (by omega) (by omega)), (by omega), (by omega), (by first | omega | (simp; omega)), (by rw [nmO_f (kd_i (t := 84) (i := 73) ((kdP_ok c32).2 ▸ hb73) c76) hx83 (by assumption), map_app] at hF; exact hF), (by exact hk1), (by exact hk2), (by exact hk3)⟩
              · show ((kdL x13).length - ((i + 1)) : Nat) < (kdL x13).length - i; omega
            ·
              rw [c105] at ha104
              refine cond_t ha104 rfl ?_
              refine wp_seq ?_
              refine wp_region_lit ?_
              refine wl_val ha104 rfl rfl rfl (op_assign ha104 rfl rfl) ?_
              intro a127 ha127; clear ha104 a104
              refine wl_val ha127 rfl rfl rfl (op_assign ha127 rfl rfl) ?_
              intro a128 ha128; clear ha127 a127
              refine wl_val ha128 rfl rfl rfl (op_assign ha128 rfl rfl) ?_
              intro a129 ha129; clear ha128 a128
              refine wpList_nil ?_
              refine then_n ?_
              refine wp_ret ?_
              refine then_r ?_
              refine block_r ?_
              refine then_r ?_
              refine then_r ?_
              refine block_r ?_
              refine then_r ?_
              refine ret3 ha129 rfl rfl rfl rfl ?_
              clear ha129 a129
              rw [nmO_x (kd_i (t := 84) (i := 73) ((kdP_ok c32).2 ▸ hb73) c76) hx83 (by assumption)] at hF
              have hr : pcO line = none := hF.symm
              refine ret_mk hx97 ⟨.slice none 0 0, .slice none 0 0, (tup3_eq rfl rfl (congrArg Value.bool (by rw [hr]; rfl))), ?_, ?_⟩
              · refine Own.nil_ _ _ _ _ _ _ ?_
                first | exact (pcO_nn hr).1.symm | exact (pcO_sm hr).1.symm
              · refine Own.nil_ _ _ _ _ _ _ ?_
                first | exact (pcO_nn hr).2.symm | exact (pcO_sm hr).2.symm
        ·
          rw [decide_eq_false c70] at ha69
          refine cond_f ha69 rfl ?_
          refine wp_exit ?_
          refine then_e ?_
          refine then_e ?_
          refine block_hit ?_
          refine then_n ?_
          refine wp_seq ?_
          refine wp_region_lit ?_
          refine wl_val ha69 rfl rfl rfl (op_move ha69 rfl rfl) ?_
          intro a130 ha130; clear ha69 a69
          refine wl_val ha130 rfl rfl rfl (op_move ha130 rfl rfl) ?_
          intro a131 ha131; clear ha130 a130
          refine wl_val ha131 rfl rfl rfl (op_assign ha131 rfl rfl) ?_
          intro a132 ha132; clear ha131 a131
          refine wl_val ha132 rfl rfl rfl (op_assign ha132 rfl rfl) ?_
          intro a133 ha133; clear ha132 a132
          refine wl_val ha133 rfl rfl rfl (op_assign ha133 rfl rfl) ?_
          intro a134 ha134; clear ha133 a133
          refine wpList_nil ?_
          refine then_n ?_
          refine wp_ret ?_
          refine ret3 ha134 rfl rfl rfl rfl ?_
          clear ha134 a134
          rw [drop_nil (xs := kdL x13) (by omega), nmO] at hF
          have hr : pcO line = some acc := by rw [← hF]; simp
          refine ret_mk hx61 ⟨v5, v, (tup3_eq rfl rfl (congrArg Value.bool (by rw [hr]; rfl))), ?_, ?_⟩
          · refine (hf62.fin (by omega) (by omega) (by omega)).cast ?_
            first | exact (pcO_nn hr).1.symm | exact (pcO_sm hr).1.symm
          · refine (hf63.fin (by omega) (by omega) (by omega)).cast ?_
            first | exact (pcO_nn hr).2.symm | exact (pcO_sm hr).2.symm
    ·
      rw [decide_eq_false c50] at ha49
      refine cond_t ha49 rfl ?_
      refine wp_seq ?_
      refine wp_region_lit ?_
      refine wl_val ha49 rfl rfl rfl (op_assign ha49 rfl rfl) ?_
      intro a135 ha135; clear ha49 a49
      refine wl_val ha135 rfl rfl rfl (op_assign ha135 rfl rfl) ?_
      intro a136 ha136; clear ha135 a135
      refine wl_val ha136 rfl rfl rfl (op_assign ha136 rfl rfl) ?_
      intro a137 ha137; clear ha136 a136
      refine wpList_nil ?_
      refine then_n ?_
      refine wp_ret ?_
      refine then_r ?_
      refine ret3 ha137 rfl rfl rfl rfl ?_
      clear ha137 a137
      have hr : pcO line = none := pcO_no hx13 (.inr (by have h9 := kdS_len 84 73 x13; rw [← (kdP_ok c32).2] at h9; omega))
      refine ret_mk hx27 ⟨.slice none 0 0, .slice none 0 0, (tup3_eq rfl rfl (congrArg Value.bool (by rw [hr]; rfl))), ?_, ?_⟩
      · refine Own.nil_ _ _ _ _ _ _ ?_
        first | exact (pcO_nn hr).1.symm | exact (pcO_sm hr).1.symm
      · refine Own.nil_ _ _ _ _ _ _ ?_
        first | exact (pcO_nn hr).2.symm | exact (pcO_sm hr).2.symm

theorem c_impl_IsConsoleLine (w0 : World) (line : Str) (g0 : line.length ≤ 1048576) :
    Calls Try.prog 6 #[St line] w0 (Ret w0 (fun v _ => v = .bool ((pcO line).isSome))) := by
  refine enter (N := 13) Try.func6 rfl rfl rfl ?_
  intro a0 ha0
  have hx0 := Ext.rfl' w0
  refine wp_seq ?_
  refine wp_region_lit ?_
  refine wl_val ha0 rfl rfl rfl (op_assign ha0 rfl rfl) ?_
  intro a1 ha1; clear ha0 a0
  refine wpList_nil ?_
  refine then_n ?_
  refine wp_seq ?_
  refine wp_region_lit ?_
  refine wl_val ha1 rfl rfl rfl (op_move ha1 rfl rfl) ?_
  intro a2 ha2; clear ha1 a1
  refine wl_callR ha2 rfl rfl rfl (op_call ha2 rfl cb13 rfl) (c_impl_commandOf _ line (by first | assumption | omega | (simp; omega) | (simp [mkN_length]; omega))) ?_
  rintro v3 w4 he5 ⟨v6, v8, rfl, ho7, ho9⟩ a10 ha10; clear ha2 a2
  have hx11 := hx0.trans' he5
  have hzhx11 := he5.size
  refine wl_val ha10 rfl rfl rfl (op_move ha10 rfl rfl) ?_
  intro a12 ha12; clear ha10 a10
  refine wl_val ha12 rfl rfl rfl (op_extract ha12 rfl rfl rfl) ?_
  intro a13 ha13; clear ha12 a12
  refine wl_val ha13 rfl rfl rfl (op_extract ha13 rfl rfl rfl) ?_
  intro a14 ha14; clear ha13 a13
  refine wl_val ha14 rfl rfl rfl (op_extract ha14 rfl rfl rfl) ?_
  intro a15 ha15; clear ha14 a14
  refine wl_val ha15 rfl rfl rfl (op_assign ha15 rfl rfl) ?_
  intro a16 ha16; clear ha15 a15
  refine wl_val ha16 rfl rfl rfl (op_assign ha16 rfl rfl) ?_
  intro a17 ha17; clear ha16 a16
  refine wl_val ha17 rfl rfl rfl (op_assign ha17 rfl rfl) ?_
  intro a18 ha18; clear ha17 a17
  refine wpList_nil ?_
  refine then_n ?_
  refine wp_seq ?_
  refine wp_region_lit ?_
  refine wl_val ha18 rfl rfl rfl (op_move ha18 rfl rfl) ?_
  intro a19 ha19; clear ha18 a18
  refine wl_val ha19 rfl rfl rfl (op_assign ha19 rfl rfl) ?_
  intro a20 ha20; clear ha19 a19
  refine wpList_nil ?_
  refine then_n ?_
  refine wp_ret ?_
  refine ret1 ha20 rfl rfl ?_
  clear ha20 a20
  exact ret_mk hx11 (congrArg Value.bool (by rfl))

theorem c_spec_IsConsoleLine (w0 : World) (line : Str) (g0 : line.length ≤ 1048576) :
    Calls Try.prog 5 #[St line] w0 (Ret w0 (fun v _ => v = .bool ((pcO line).isSome))) := by
  refine enter (N := 13) Try.func5 rfl rfl rfl ?_
  intro a0 ha0
  have hx0 := Ext.rfl' w0
  refine wp_seq ?_
  refine wp_region_lit ?_
  refine wl_val ha0 rfl rfl rfl (op_assign ha0 rfl rfl) ?_
  intro a1 ha1; clear ha0 a0
  refine wpList_nil ?_
  refine then_n ?_
  refine wp_seq ?_
  refine wp_region_lit ?_
  refine wl_val ha1 rfl rfl rfl (op_move ha1 rfl rfl) ?_
  intro a2 ha2; clear ha1 a1
  refine wl_callR ha2 rfl rfl rfl (op_call ha2 rfl cb12 rfl) (c_spec_l34Parse _ line (by first | assumption | omega | (simp; omega) | (simp [mkN_length]; omega))) ?_
  rintro v3 w4 he5 ⟨v6, v8, rfl, ho7, ho9⟩ a10 ha10; clear ha2 a2
  have hx11 := hx0.trans' he5
  have hzhx11 := he5.size
  refine wl_val ha10 rfl rfl rfl (op_move ha10 rfl rfl) ?_
  intro a12 ha12; clear ha10 a10
  refine wl_val ha12 rfl rfl rfl (op_extract ha12 rfl rfl rfl) ?_
  intro a13 ha13; clear ha12 a12
  refine wl_val ha13 rfl rfl rfl (op_extract ha13 rfl rfl rfl) ?_
  intro a14 ha14; clear ha13 a13
  refine wl_val ha14 rfl rfl rfl (op_extract ha14 rfl rfl rfl) ?_
  intro a15 ha15; clear ha14 a14
  refine wl_val ha15 rfl rfl rfl (op_assign ha15 rfl rfl) ?_
  intro a16 ha16; clear ha15 a15
  refine wl_val ha16 rfl rfl rfl (op_assign ha16 rfl rfl) ?_
  intro a17 ha17; clear ha16 a16
  refine wl_val ha17 rfl rfl rfl (op_assign ha17 rfl rfl) ?_
  intro a18 ha18; clear ha17 a17
  refine wpList_nil ?_
  refine then_n ?_
  refine wp_seq ?_
  refine wp_region_lit ?_
  refine wl_val ha18 rfl rfl rfl (op_move ha18 rfl rfl) ?_
  intro a19 ha19; clear ha18 a18
  refine wl_val ha19 rfl rfl rfl (op_assign ha19 rfl rfl) ?_
  intro a20 ha20; clear ha19 a19
  refine wpList_nil ?_
  refine then_n ?_
  refine wp_ret ?_
  refine ret1 ha20 rfl rfl ?_
  clear ha20 a20
  exact ret_mk hx11 (congrArg Value.bool (by rfl))


end Go.Proofs.Ythbehhhblchhhaa
