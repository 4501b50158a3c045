/- Values set, versions added, by the program. -/
import Derived.Test.YtllpdkidaldkiaaW8
import Derived.Test.YtllpdkidaldkiaaNarrow
namespace Go.Proofs.Ytllpdkidaldkiaa
open Go Go.RowKit

set_option maxHeartbeats 4000000 in
theorem c_impl_SetValue (w0 : World) (v_list : Value) (list : List (Int × List (Str × Int))) {S_list : Nat → Prop} (version : Int) (key : Str) (value : Int) (h_list : Rds shVer S_list w0 v_list list) (g0 : key.length ≤ 1048576) (g1 : I64 value) (g2 : I64 version) :
  Calls Try.prog 26 #[v_list, .int .i64 version, St key, .int .i64 value] w0 (Ret w0 (fun v w1 => ∃ r0 z0, v = .tuple #[r0, .int .i64 (sdC list version key value)] ∧ Own shVerN 56 w0.heap.size w0.heap.size w1.heap.size w1 r0 z0 ∧ Nst shLine 83 (fun x : Int × List (Str × Int) => x.2) w0.heap.size w1.heap.size w1 z0 ∧ z0.map (·.1) = (sdL list version key value))) := by
 refine enter (N := 93) Try.func26 rfl rfl rfl ?_
 intro a0 ha0
 have hx0 := Ext.rfl' w0
 have hl_list := h_list.length_le
 refine wp_seq ?_
 refine wp_region_lit ?_
 refine wl_val ha0 rfl rfl rfl (op_assign ha0 rfl rfl) ?_
 intro a1 ha1; clear ha0 a0
 refine wl_val ha1 rfl rfl rfl (op_assign ha1 rfl rfl) ?_
 intro a2 ha2; clear ha1 a1
 refine wpList_nil ?_
 refine then_n ?_
 refine wp_seq ?_
 refine wp_seq ?_
 refine wp_region_lit ?_
 refine wl_val ha2 rfl rfl rfl (op_move ha2 rfl rfl) ?_
 intro a3 ha3; clear ha2 a2
 refine wl_callR ha3 rfl rfl rfl (op_call ha3 rfl cb38 rfl) (c_impl_AreVersions _ v_list list (h_list.ext pos_shVer hx0)) ?_
 rintro v4 w5 he6 rfl a7 ha7; clear ha3 a3
 have hx8 := hx0.trans' he6
 have hzhx8 := he6.size
 refine wl_val ha7 rfl rfl rfl (op_not ha7 rfl rfl) ?_
 intro a9 ha9; clear ha7 a7
 refine wl_val ha9 rfl rfl rfl (op_move ha9 rfl rfl) ?_
 intro a10 ha10; clear ha9 a9
 rcases Bool.eq_false_or_eq_true (veB list) with c11 | c11
 ·
  rw [c11] at ha10
  have hv1 := c11
  have hlen := veB_len hv1
  refine wl_val ha10 rfl rfl rfl (op_move ha10 rfl rfl) ?_
  intro a12 ha12; clear ha10 a10
  refine wl_callR ha12 rfl rfl rfl (op_call ha12 rfl cb66 rfl) (c_impl_IsWord _ key (by first | assumption | omega | (simp; omega))) ?_
  rintro v13 w14 he15 rfl a16 ha16; clear ha12 a12
  have hx17 := hx8.trans' he15
  have hzhx17 := he15.size
  refine wl_val ha16 rfl rfl rfl (op_not ha16 rfl rfl) ?_
  intro a18 ha18; clear ha16 a16
  refine wl_val ha18 rfl rfl rfl (op_pick_f ha18 rfl rfl rfl) ?_
  intro a19 ha19; clear ha18 a18
  refine wpList_nil ?_
  refine then_n ?_
  rcases Bool.eq_false_or_eq_true (wordB key) with c20 | c20
  ·
   rw [c20] at ha19
   refine cond_f ha19 rfl ?_
   refine wp_skip ?_
   refine then_n ?_
   refine wp_seq ?_
   refine wp_seq ?_
   refine wp_region_lit ?_
   refine wl_val ha19 rfl rfl rfl (op_move ha19 rfl rfl) ?_
   intro a21 ha21; clear ha19 a19
   refine wl_val ha21 rfl rfl rfl (op_move ha21 rfl rfl) ?_
   intro a22 ha22; clear ha21 a21
   refine wl_callR ha22 rfl rfl rfl (op_call ha22 rfl cb67 rfl) (c_impl_isVersion _ v_list list version (h_list.ext pos_shVer hx17)) ?_
   rintro v23 w24 he25 rfl a26 ha26; clear ha22 a22
   have hx27 := hx17.trans' he25
   have hzhx27 := he25.size
   refine wl_val ha26 rfl rfl rfl (op_not ha26 rfl rfl) ?_
   intro a28 ha28; clear ha26 a26
   refine wl_val ha28 rfl rfl rfl (op_move ha28 rfl rfl) ?_
   intro a29 ha29; clear ha28 a28
   rcases Bool.eq_false_or_eq_true (inV list version) with c30 | c30
   ·
    rw [c30] at ha29
    have hia := in_bd c30
    refine wl_val ha29 rfl rfl rfl (op_move ha29 rfl rfl) ?_
    intro a31 ha31; clear ha29 a29
    refine wl_val ha31 rfl rfl rfl ((op_neq ha31 rfl rfl rfl).to (congrArg Value.bool decide_not)) ?_
    intro a32 ha32; clear ha31 a31
    refine wl_val ha32 rfl rfl rfl (op_move ha32 rfl rfl) ?_
    intro a33 ha33; clear ha32 a32
    by_cases c34 : value = (-1 : Int)
    ·
     rw [decide_eq_true c34] at ha33
     refine wl_skip ha33 rfl rfl rfl ?_
     intro a35 ha35; clear ha33 a33
     refine wl_skip ha35 rfl rfl rfl ?_
     intro a36 ha36; clear ha35 a35
     refine wl_skip ha36 rfl rfl rfl ?_
     intro a37 ha37; clear ha36 a36
     refine wl_val ha37 rfl rfl rfl (op_pick_f ha37 rfl rfl rfl) ?_
     intro a38 ha38; clear ha37 a37
     refine wl_val ha38 rfl rfl rfl (op_pick_f ha38 rfl rfl rfl) ?_
     intro a39 ha39; clear ha38 a38
     refine wpList_nil ?_
     refine then_n ?_
     refine cond_f ha39 rfl ?_
     refine wp_skip ?_
     refine then_n ?_
     refine wp_seq ?_
     refine wp_region_lit ?_
     refine wl_val ha39 rfl rfl rfl (op_assign ha39 rfl rfl) ?_
     intro a40 ha40; clear ha39 a39
     refine wpList_nil ?_
     refine then_n ?_
     refine wp_seq ?_
     refine wp_region_lit ?_
     refine wl_val ha40 rfl rfl rfl (op_move ha40 rfl rfl) ?_
     intro a41 ha41; clear ha40 a40
     refine wl_val ha41 rfl rfl rfl (op_eql ha41 rfl rfl rfl) ?_
     intro a42 ha42; clear ha41 a41
     refine wl_val ha42 rfl rfl rfl (op_assign ha42 rfl rfl) ?_
     intro a43 ha43; clear ha42 a42
     refine wpList_nil ?_
     refine then_n ?_
     refine wp_seq ?_
     refine wp_seq ?_
     refine wp_region_lit ?_
     refine wl_val ha43 rfl rfl rfl (op_move ha43 rfl rfl) ?_
     intro a44 ha44; clear ha43 a43
     refine wl_val ha44 rfl rfl rfl (op_move ha44 rfl rfl) ?_
     intro a45 ha45; clear ha44 a44
     obtain ⟨x46, hx46⟩ := get_ex (xs := list) (j := version.toNat) (by omega)
     obtain ⟨p47, c48, hi49, hc50, hr51, hs52⟩ := Rds.at_ h_list hx46
     obtain ⟨v53, rfl, b54, b55⟩ := inv_shVer hr51
     have hlb55 := b55.length_le
     have hvex46 := veB_at hv1 hx46
     have hlex46 := lnV_eq hx46
     have hlxx46 := shB_len hvex46.1
     have hshx46 := hvex46.1
     refine wl_val ha45 rfl rfl rfl (op_indexAddr ha45 rfl Try.underlying27 ti56 rfl rfl (by omega) hi49) ?_
     intro a56 ha56; clear ha45 a45
     refine wl_val ha56 rfl rfl rfl (op_fieldAddr (sz := 0) ha56 rfl Try.underlying56 rfl rfl ti34 rfl) ?_
     intro a57 ha57; clear ha56 a56
     refine wl_val ha57 rfl rfl rfl (op_loadF (off := 1) ha57 rfl Try.underlying34 rfl rfl (hc50.ext hx27) rfl) ?_
     intro a58 ha58; clear ha57 a57
     refine wl_val ha58 rfl rfl rfl (op_len_sl ha58 rfl Try.underlying34 rfl b55) ?_
     intro a59 ha59; clear ha58 a58
     refine wl_val ha59 rfl rfl rfl (op_move ha59 rfl rfl) ?_
     intro a60 ha60; clear ha59 a59
     refine wpList_nil ?_
     refine then_n ?_
     refine wp_block ?_
     refine loop_inv (X := Nat × Bool × Value × (List (Str × Int))) (fun (⟨i, p, v, acc⟩ : Nat × Bool × Value × (List (Str × Int))) fr wl => Sl 93 fr [(0, v_list), (1, .int .i64 version), (2, St key), (3, .int .i64 value), (10, v), (11, .bool (p)), (41, v53), (42, .int .i64 ((x46.2.length : Nat) : Int)), (43, .int .i64 ((i : Nat) : Int))] ∧ Ext w0 wl ∧ Own shLine 83 w24.heap.size w24.heap.size wl.heap.size wl v acc ∧ w24.heap.size ≤ wl.heap.size ∧ (i ≤ x46.2.length) ∧ (acc.length ≤ 2 * i) ∧ (acc ++ stG key value (x46.2.drop i) p = stL key value x46.2)) (fun (⟨i, p, v, acc⟩ : Nat × Bool × Value × (List (Str × Int))) => x46.2.length - i) (0, decide (value = (-1 : Int)), (.slice none 0 0), []) ?_ ?_
     ·
      exact ⟨(Sl.cons_ ha60 rfl rfl (Sl.cons_ ha60 rfl rfl (Sl.cons_ ha60 rfl rfl (Sl.cons_ ha60 rfl rfl (Sl.cons_ ha60 rfl rfl (Sl.cons_ ha60 rfl rfl (Sl.cons_ ha60 rfl rfl (Sl.cons_ ha60 rfl rfl (Sl.cons_ ha60 rfl (int_eq (by omega)) (Sl.nil_ ha60)))))))))), hx27, (Own.nil _ _ _ _ _ _), (by omega), (by omega), (by exact Nat.zero_le _), (by rfl)⟩
     ·
      clear ha60 a60
      rintro ⟨i, p, v, acc⟩ a64 w61 ⟨ha64, hx62, hf63, hzl65, hi, hl, hF⟩
      have hzhx62 := hx62.size
      refine wp_seq ?_
      refine wp_region_lit ?_
      refine wl_val ha64 rfl rfl rfl (op_lss ha64 rfl rfl rfl) ?_
      intro a66 ha66; clear ha64 a64
      refine wpList_nil ?_
      refine then_n ?_
      refine wp_seq ?_
      by_cases c67 : ((i : Nat) : Int) < ((x46.2.length : Nat) : Int)
      ·
       rw [decide_eq_true c67] at ha66
       refine cond_t ha66 rfl ?_
       refine wp_skip ?_
       refine then_n ?_
       refine wp_seq ?_
       refine wp_block ?_
       refine wp_seq ?_
       refine wp_region_lit ?_
       obtain ⟨x68, hx68⟩ := get_ex (xs := x46.2) (j := i) (by omega)
       obtain ⟨p69, c70, hi71, hc72, hr73, hs74⟩ := Rds.at_ b55 hx68
       obtain ⟨rfl, b75, b76⟩ := inv_shLine hr73
       refine wl_val ha66 rfl rfl rfl (op_indexAddr ha66 rfl Try.underlying34 ti83 rfl rfl (by omega) hi71) ?_
       intro a77 ha77; clear ha66 a66
       refine wl_val ha77 rfl rfl rfl (op_loadS ha77 rfl Try.underlying83 ti83 rfl rfl (hc72.ext hx62)) ?_
       intro a78 ha78; clear ha77 a77
       refine wl_eff ha78 rfl rfl rfl (op_alloc' rfl ti83 rfl) ?_
       rintro _ w80 ⟨rfl, he81, hb82, hz83⟩ a84 ha84; clear ha78 a78
       have hx85 := hx62.trans' he81
       have hzhx85 := he81.size
       replace hf63 := hf63.ext he81
       refine wl_effS ha84 rfl rfl (op_storeAll' ha84 rfl ti83 rfl rfl hb82 rfl rfl (by simp [Value.oneCell']) rfl) ?_
       rintro w86 ⟨hb88, hst87, hz89⟩
       have hx90 := hx85.stp hst87 (by intro q hq; cases hq; exact (by omega))
       have hzhx90 := hst87.size
       replace hf63 := hf63.stp hst87 (by intro q hq; cases hq; omega)
       clear hb82
       refine wpList_nil ?_
       refine then_n ?_
       refine wp_seq ?_
       refine wp_seq ?_
       refine wp_region_lit ?_
       refine wl_val ha84 rfl rfl rfl (op_move ha84 rfl rfl) ?_
       intro a91 ha91; clear ha84 a84
       refine wl_val ha91 rfl rfl rfl (op_not ha91 rfl rfl) ?_
       intro a92 ha92; clear ha91 a91
       refine wl_val ha92 rfl rfl rfl (op_move ha92 rfl rfl) ?_
       intro a93 ha93; clear ha92 a92
       rcases Bool.eq_false_or_eq_true (p) with c94 | c94
       ·
        rw [c94] at ha93
        refine wl_skip ha93 rfl rfl rfl ?_
        intro a95 ha95; clear ha93 a93
        refine wl_skip ha95 rfl rfl rfl ?_
        intro a96 ha96; clear ha95 a95
        refine wl_skip ha96 rfl rfl rfl ?_
        intro a97 ha97; clear ha96 a96
        refine wl_skip ha97 rfl rfl rfl ?_
        intro a98 ha98; clear ha97 a97
        refine wl_val ha98 rfl rfl rfl (op_pick_f ha98 rfl rfl rfl) ?_
        intro a99 ha99; clear ha98 a98
        refine wpList_nil ?_
        refine then_n ?_
        refine cond_f ha99 rfl ?_
        refine wp_skip ?_
        refine then_n ?_
        refine wp_seq ?_
        refine wp_region_lit ?_
        refine wl_val ha99 rfl rfl rfl (op_fieldAddr (sz := 0) ha99 rfl Try.underlying83 rfl rfl ti9 rfl) ?_
        intro a100 ha100; clear ha99 a99
        refine wl_val ha100 rfl rfl rfl (op_loadF (off := 0) ha100 rfl Try.underlying9 rfl rfl hb88.cells rfl) ?_
        intro a101 ha101; clear ha100 a100
        refine wl_val ha101 rfl rfl rfl (op_move ha101 rfl rfl) ?_
        intro a102 ha102; clear ha101 a101
        refine wl_val ha102 rfl rfl rfl ((op_sneq ha102 rfl rfl rfl).to (congrArg Value.bool decide_not)) ?_
        intro a103 ha103; clear ha102 a102
        refine wpList_nil ?_
        refine then_n ?_
        by_cases c104 : x68.1 = key
        ·
         rw [decide_eq_true c104] at ha103
         refine cond_f ha103 rfl ?_
         refine wp_skip ?_
         refine block_n ?_
         refine then_n ?_
         refine wp_region_lit ?_
         refine wl_val ha103 rfl rfl rfl ((op_add ha103 rfl rfl rfl).int (IntWalk.i64_in _ (by omega))) ?_
         intro a105 ha105; clear ha103 a103
         refine wl_val ha105 rfl rfl rfl (op_move ha105 rfl rfl) ?_
         intro a106 ha106; clear ha105 a105
         refine wpList_nil ?_
         refine round_end (x := (i, p, v, acc)) ((i + 1), true, v, acc) ?_ ?_
         ·
          refine ⟨(Sl.cons_ ha106 rfl rfl (Sl.cons_ ha106 rfl rfl (Sl.cons_ ha106 rfl rfl (Sl.cons_ ha106 rfl rfl (Sl.cons_ ha106 rfl rfl (Sl.cons_ ha106 rfl rfl (Sl.cons_ ha106 rfl rfl (Sl.cons_ ha106 rfl rfl (Sl.cons_ ha106 rfl (int_eq (by omega)) (Sl.nil_ ha106)))))))))), hx90, (hf63.fin (by omega) (by omega) (by omega)), (by omega), (by omega), (by first | omega | (simp; omega)), (by rw [c94, drop_cons hx68, st_no (.inl rfl)] at hF; rw [if_pos (by assumption)] at hF; rw [← hF]; simp)⟩
         ·show (x46.2.length - ((i + 1)) : Nat) < x46.2.length - i; omega
        ·
         rw [decide_eq_false c104] at ha103
         refine cond_t ha103 rfl ?_
         refine wp_region_lit ?_
         refine wl_val ha103 rfl rfl rfl (op_move ha103 rfl rfl) ?_
         intro a107 ha107; clear ha103 a103
         refine wl_val ha107 rfl rfl rfl (op_loadS ha107 rfl Try.underlying83 ti83 rfl rfl hb88.cells) ?_
         intro a108 ha108; clear ha107 a107
         refine wl_eff ha108 rfl rfl rfl (op_buildSlice (s := shLine) (xs := [x68]) (cs := [St x68.1, .int .i64 x68.2]) (vs := [(0, .agg #[St x68.1, .int .i64 x68.2])]) (S := fun _ => False) (le := w86.heap.size) ha108 rfl pos_shLine Try.underlying34 ti83 rfl rfl (by decide) (by kernel_rfl) (Els.single (mk_shLine x68 (by first | assumption | omega | (simp only []; omega) | (simp; omega)) (by first | assumption | omega | (simp only []; omega) | (simp; omega)))) (fun _ h => h.elim)) ?_
         rintro v109 w110 ⟨ho111, he112, hob113⟩ a114 ha114; clear ha108 a108
         have hx115 := hx90.trans' he112
         have hzhx115 := he112.size
         replace hf63 := hf63.ext he112
         replace hb88 := hb88.ext he112
         refine wl_eff ha114 rfl rfl rfl (op_append (ts := #[]) (s := shLine) ha114 rfl Try.underlying34 ti83 rfl pos_shLine rfl rfl hf63 (ho111.rds pos_shLine) (by omega) (by omega) (by first | omega | (simp; omega)) (by first | omega | (simp; omega)) (.inl flat_shLine)) ?_
         rintro v116 w117 ⟨ho118, hst119, hob120⟩ a121 ha121; clear ha114 a114
         have hx122 := hx115.stp hst119 (by intro q hq; have hq0 := hf63.lt q hq; omega)
         have hzhx122 := hst119.size
         replace hb88 := hb88.stp hst119 (by intro q hq; have hq0 := hf63.lt q hq; omega)
         replace ho111 := ho111.stp hst119 (by intro q hq; have hq0 := hf63.lt q hq; omega)
         have hsp123 : ∀ q, Value.ownBlock v116 = some q → q ≠ w61.heap.size := by intro q hq; have hq0 := hb88.lt; rcases hob120 with h | h; (rw [h] at hq; first | (have hq1 := hf63.lt q hq; omega)); (rw [h] at hq; cases hq; omega)
         have hsp124 : ∀ q, Value.ownBlock v116 = some q → Value.ownBlock v109 ≠ some q := by intro q hq hb; have hq0 := ho111.lt q hb; rcases hob120 with h | h; (rw [h] at hq; first | (have hq1 := hf63.lt q hq; omega)); (rw [h] at hq; cases hq; omega)
         refine wl_val ha121 rfl rfl rfl (op_assign ha121 rfl rfl) ?_
         intro a125 ha125; clear ha121 a121
         refine wpList_nil ?_
         refine block_n ?_
         refine then_n ?_
         refine wp_region_lit ?_
         refine wl_val ha125 rfl rfl rfl ((op_add ha125 rfl rfl rfl).int (IntWalk.i64_in _ (by omega))) ?_
         intro a126 ha126; clear ha125 a125
         refine wl_val ha126 rfl rfl rfl (op_move ha126 rfl rfl) ?_
         intro a127 ha127; clear ha126 a126
         refine wpList_nil ?_
         refine round_end (x := (i, p, v, acc)) ((i + 1), true, v116, (acc ++ [x68])) ?_ ?_
         ·
          refine ⟨(Sl.cons_ ha127 rfl rfl (Sl.cons_ ha127 rfl rfl (Sl.cons_ ha127 rfl rfl (Sl.cons_ ha127 rfl rfl (Sl.cons_ ha127 rfl rfl (Sl.cons_ ha127 rfl rfl (Sl.cons_ ha127 rfl rfl (Sl.cons_ ha127 rfl rfl (Sl.cons_ ha127 rfl (int_eq (by omega)) (Sl.nil_ ha127)))))))))), hx122, (ho118.fin (by omega) (by omega) (by omega)), (by omega), (by omega), (by first | omega | (simp; omega)), (by rw [c94, drop_cons hx68, st_no (.inl rfl)] at hF; rw [if_neg (by assumption)] at hF; rw [← hF]; simp)⟩
         ·show (x46.2.length - ((i + 1)) : Nat) < x46.2.length - i; omega
       ·
        rw [c94] at ha93
        refine wl_val ha93 rfl rfl rfl (op_move ha93 rfl rfl) ?_
        intro a128 ha128; clear ha93 a93
        refine wl_val ha128 rfl rfl rfl (op_fieldAddr (sz := 0) ha128 rfl Try.underlying83 rfl rfl ti9 rfl) ?_
        intro a129 ha129; clear ha128 a128
        refine wl_val ha129 rfl rfl rfl (op_loadF (off := 0) ha129 rfl Try.underlying9 rfl rfl hb88.cells rfl) ?_
        intro a130 ha130; clear ha129 a129
        refine wl_val ha130 rfl rfl rfl ((op_sleq ha130 rfl rfl rfl).to (congrArg Value.bool (str_leq _ _))) ?_
        intro a131 ha131; clear ha130 a130
        refine wl_val ha131 rfl rfl rfl (op_pick_t ha131 rfl rfl rfl) ?_
        intro a132 ha132; clear ha131 a131
        refine wpList_nil ?_
        refine then_n ?_
        by_cases c133 : x68.1 < key
        ·
         rw [decide_eq_true c133] at ha132
         refine cond_f ha132 rfl ?_
         refine wp_skip ?_
         refine then_n ?_
         refine wp_seq ?_
         refine wp_region_lit ?_
         refine wl_val ha132 rfl rfl rfl (op_fieldAddr (sz := 0) ha132 rfl Try.underlying83 rfl rfl ti9 rfl) ?_
         intro a134 ha134; clear ha132 a132
         refine wl_val ha134 rfl rfl rfl (op_loadF (off := 0) ha134 rfl Try.underlying9 rfl rfl hb88.cells rfl) ?_
         intro a135 ha135; clear ha134 a134
         refine wl_val ha135 rfl rfl rfl (op_move ha135 rfl rfl) ?_
         intro a136 ha136; clear ha135 a135
         refine wl_val ha136 rfl rfl rfl ((op_sneq ha136 rfl rfl rfl).to (congrArg Value.bool decide_not)) ?_
         intro a137 ha137; clear ha136 a136
         refine wpList_nil ?_
         refine then_n ?_
         by_cases c138 : x68.1 = key
         ·
          rw [decide_eq_true c138] at ha137
          refine cond_f ha137 rfl ?_
          refine wp_skip ?_
          refine block_n ?_
          refine then_n ?_
          refine wp_region_lit ?_
          refine wl_val ha137 rfl rfl rfl ((op_add ha137 rfl rfl rfl).int (IntWalk.i64_in _ (by omega))) ?_
          intro a139 ha139; clear ha137 a137
          refine wl_val ha139 rfl rfl rfl (op_move ha139 rfl rfl) ?_
          intro a140 ha140; clear ha139 a139
          refine wpList_nil ?_
          refine round_end (x := (i, p, v, acc)) ((i + 1), false, v, acc) ?_ ?_
          ·
           refine ⟨(Sl.cons_ ha140 rfl rfl (Sl.cons_ ha140 rfl rfl (Sl.cons_ ha140 rfl rfl (Sl.cons_ ha140 rfl rfl (Sl.cons_ ha140 rfl rfl (Sl.cons_ ha140 rfl rfl (Sl.cons_ ha140 rfl rfl (Sl.cons_ ha140 rfl rfl (Sl.cons_ ha140 rfl (int_eq (by omega)) (Sl.nil_ ha140)))))))))), hx90, (hf63.fin (by omega) (by omega) (by omega)), (by omega), (by omega), (by first | omega | (simp; omega)), (by rw [c94, drop_cons hx68, st_no (.inr (by assumption))] at hF; rw [if_pos (by assumption)] at hF; rw [← hF]; simp)⟩
          ·show (x46.2.length - ((i + 1)) : Nat) < x46.2.length - i; omega
         ·
          rw [decide_eq_false c138] at ha137
          refine cond_t ha137 rfl ?_
          refine wp_region_lit ?_
          refine wl_val ha137 rfl rfl rfl (op_move ha137 rfl rfl) ?_
          intro a141 ha141; clear ha137 a137
          refine wl_val ha141 rfl rfl rfl (op_loadS ha141 rfl Try.underlying83 ti83 rfl rfl hb88.cells) ?_
          intro a142 ha142; clear ha141 a141
          refine wl_eff ha142 rfl rfl rfl (op_buildSlice (s := shLine) (xs := [x68]) (cs := [St x68.1, .int .i64 x68.2]) (vs := [(0, .agg #[St x68.1, .int .i64 x68.2])]) (S := fun _ => False) (le := w86.heap.size) ha142 rfl pos_shLine Try.underlying34 ti83 rfl rfl (by decide) (by kernel_rfl) (Els.single (mk_shLine x68 (by first | assumption | omega | (simp only []; omega) | (simp; omega)) (by first | assumption | omega | (simp only []; omega) | (simp; omega)))) (fun _ h => h.elim)) ?_
          rintro v143 w144 ⟨ho145, he146, hob147⟩ a148 ha148; clear ha142 a142
          have hx149 := hx90.trans' he146
          have hzhx149 := he146.size
          replace hf63 := hf63.ext he146
          replace hb88 := hb88.ext he146
          refine wl_eff ha148 rfl rfl rfl (op_append (ts := #[]) (s := shLine) ha148 rfl Try.underlying34 ti83 rfl pos_shLine rfl rfl hf63 (ho145.rds pos_shLine) (by omega) (by omega) (by first | omega | (simp; omega)) (by first | omega | (simp; omega)) (.inl flat_shLine)) ?_
          rintro v150 w151 ⟨ho152, hst153, hob154⟩ a155 ha155; clear ha148 a148
          have hx156 := hx149.stp hst153 (by intro q hq; have hq0 := hf63.lt q hq; omega)
          have hzhx156 := hst153.size
          replace hb88 := hb88.stp hst153 (by intro q hq; have hq0 := hf63.lt q hq; omega)
          replace ho145 := ho145.stp hst153 (by intro q hq; have hq0 := hf63.lt q hq; omega)
          have hsp157 : ∀ q, Value.ownBlock v150 = some q → q ≠ w61.heap.size := by intro q hq; have hq0 := hb88.lt; rcases hob154 with h | h; (rw [h] at hq; first | (have hq1 := hf63.lt q hq; omega)); (rw [h] at hq; cases hq; omega)
          have hsp158 : ∀ q, Value.ownBlock v150 = some q → Value.ownBlock v143 ≠ some q := by intro q hq hb; have hq0 := ho145.lt q hb; rcases hob154 with h | h; (rw [h] at hq; first | (have hq1 := hf63.lt q hq; omega)); (rw [h] at hq; cases hq; omega)
          refine wl_val ha155 rfl rfl rfl (op_assign ha155 rfl rfl) ?_
          intro a159 ha159; clear ha155 a155
          refine wpList_nil ?_
          refine block_n ?_
          refine then_n ?_
          refine wp_region_lit ?_
          refine wl_val ha159 rfl rfl rfl ((op_add ha159 rfl rfl rfl).int (IntWalk.i64_in _ (by omega))) ?_
          intro a160 ha160; clear ha159 a159
          refine wl_val ha160 rfl rfl rfl (op_move ha160 rfl rfl) ?_
          intro a161 ha161; clear ha160 a160
          refine wpList_nil ?_
          refine round_end (x := (i, p, v, acc)) ((i + 1), false, v150, (acc ++ [x68])) ?_ ?_
          ·
           refine ⟨(Sl.cons_ ha161 rfl rfl (Sl.cons_ ha161 rfl rfl (Sl.cons_ ha161 rfl rfl (Sl.cons_ ha161 rfl rfl (Sl.cons_ ha161 rfl rfl (Sl.cons_ ha161 rfl rfl (Sl.cons_ ha161 rfl rfl (Sl.cons_ ha161 rfl rfl (Sl.cons_ ha161 rfl (int_eq (by omega)) (Sl.nil_ ha161)))))))))), hx156, (ho152.fin (by omega) (by omega) (by omega)), (by omega), (by omega), (by first | omega | (simp; omega)), (by rw [c94, drop_cons hx68, st_no (.inr (by assumption))] at hF; rw [if_neg (by assumption)] at hF; rw [← hF]; simp)⟩
          ·show (x46.2.length - ((i + 1)) : Nat) < x46.2.length - i; omega
        ·
         rw [decide_eq_false c133] at ha132
         refine cond_t ha132 rfl ?_
         refine wp_seq ?_
         refine wp_region_lit ?_
         refine wl_val ha132 rfl rfl rfl (op_move ha132 rfl rfl) ?_
         intro a162 ha162; clear ha132 a132
         refine wl_val ha162 rfl rfl rfl (op_move ha162 rfl rfl) ?_
         intro a163 ha163; clear ha162 a162
         refine wl_val ha163 rfl rfl rfl (op_move ha163 rfl rfl) ?_
         intro a164 ha164; clear ha163 a163
         refine wl_val ha164 rfl rfl rfl (op_build (vs := [(0, St key), (1, .int .i64 value)]) (cs := #[St key, .int .i64 value]) ha164 rfl Try.underlying83 ti83 bp83 rfl rfl) ?_
         intro a165 ha165; clear ha164 a164
         refine wl_eff ha165 rfl rfl rfl (op_buildSlice (s := shLine) (xs := [(key, value)]) (cs := [St key, .int .i64 value]) (vs := [(0, .agg #[St key, .int .i64 value])]) (S := fun _ => False) (le := w86.heap.size) ha165 rfl pos_shLine Try.underlying34 ti83 rfl rfl (by decide) (by kernel_rfl) (Els.single (mk_shLine ((key, value)) (by first | assumption | omega | (simp only []; omega) | (simp; omega)) (by first | assumption | omega | (simp only []; omega) | (simp; omega)))) (fun _ h => h.elim)) ?_
         rintro v166 w167 ⟨ho168, he169, hob170⟩ a171 ha171; clear ha165 a165
         have hx172 := hx90.trans' he169
         have hzhx172 := he169.size
         replace hf63 := hf63.ext he169
         replace hb88 := hb88.ext he169
         refine wl_eff ha171 rfl rfl rfl (op_append (ts := #[]) (s := shLine) ha171 rfl Try.underlying34 ti83 rfl pos_shLine rfl rfl hf63 (ho168.rds pos_shLine) (by omega) (by omega) (by first | omega | (simp; omega)) (by first | omega | (simp; omega)) (.inl flat_shLine)) ?_
         rintro v173 w174 ⟨ho175, hst176, hob177⟩ a178 ha178; clear ha171 a171
         have hx179 := hx172.stp hst176 (by intro q hq; have hq0 := hf63.lt q hq; omega)
         have hzhx179 := hst176.size
         replace hb88 := hb88.stp hst176 (by intro q hq; have hq0 := hf63.lt q hq; omega)
         replace ho168 := ho168.stp hst176 (by intro q hq; have hq0 := hf63.lt q hq; omega)
         have hsp180 : ∀ q, Value.ownBlock v173 = some q → q ≠ w61.heap.size := by intro q hq; have hq0 := hb88.lt; rcases hob177 with h | h; (rw [h] at hq; first | (have hq1 := hf63.lt q hq; omega)); (rw [h] at hq; cases hq; omega)
         have hsp181 : ∀ q, Value.ownBlock v173 = some q → Value.ownBlock v166 ≠ some q := by intro q hq hb; have hq0 := ho168.lt q hb; rcases hob177 with h | h; (rw [h] at hq; first | (have hq1 := hf63.lt q hq; omega)); (rw [h] at hq; cases hq; omega)
         refine wl_val ha178 rfl rfl rfl (op_assign ha178 rfl rfl) ?_
         intro a182 ha182; clear ha178 a178
         refine wpList_nil ?_
         refine then_n ?_
         refine wp_region_lit ?_
         refine wl_val ha182 rfl rfl rfl (op_assign ha182 rfl rfl) ?_
         intro a183 ha183; clear ha182 a182
         refine wpList_nil ?_
         refine then_n ?_
         refine wp_seq ?_
         refine wp_region_lit ?_
         refine wl_val ha183 rfl rfl rfl (op_fieldAddr (sz := 0) ha183 rfl Try.underlying83 rfl rfl ti9 rfl) ?_
         intro a184 ha184; clear ha183 a183
         refine wl_val ha184 rfl rfl rfl (op_loadF (off := 0) ha184 rfl Try.underlying9 rfl rfl hb88.cells rfl) ?_
         intro a185 ha185; clear ha184 a184
         refine wl_val ha185 rfl rfl rfl (op_move ha185 rfl rfl) ?_
         intro a186 ha186; clear ha185 a185
         refine wl_val ha186 rfl rfl rfl ((op_sneq ha186 rfl rfl rfl).to (congrArg Value.bool decide_not)) ?_
         intro a187 ha187; clear ha186 a186
         refine wpList_nil ?_
         refine then_n ?_
         by_cases c188 : x68.1 = key
         ·
          rw [decide_eq_true c188] at ha187
          refine cond_f ha187 rfl ?_
          refine wp_skip ?_
          refine block_n ?_
          refine then_n ?_
          refine wp_region_lit ?_
          refine wl_val ha187 rfl rfl rfl ((op_add ha187 rfl rfl rfl).int (IntWalk.i64_in _ (by omega))) ?_
          intro a189 ha189; clear ha187 a187
          refine wl_val ha189 rfl rfl rfl (op_move ha189 rfl rfl) ?_
          intro a190 ha190; clear ha189 a189
          refine wpList_nil ?_
          refine round_end (x := (i, p, v, acc)) ((i + 1), true, v173, (acc ++ [(key, value)])) ?_ ?_
          ·
           refine ⟨(Sl.cons_ ha190 rfl rfl (Sl.cons_ ha190 rfl rfl (Sl.cons_ ha190 rfl rfl (Sl.cons_ ha190 rfl rfl (Sl.cons_ ha190 rfl rfl (Sl.cons_ ha190 rfl rfl (Sl.cons_ ha190 rfl rfl (Sl.cons_ ha190 rfl rfl (Sl.cons_ ha190 rfl (int_eq (by omega)) (Sl.nil_ ha190)))))))))), hx179, (ho175.fin (by omega) (by omega) (by omega)), (by omega), (by omega), (by first | omega | (simp; omega)), (by rw [c94, drop_cons hx68, st_put (by assumption)] at hF; rw [if_pos (by assumption)] at hF; rw [← hF]; simp)⟩
          ·show (x46.2.length - ((i + 1)) : Nat) < x46.2.length - i; omega
         ·
          rw [decide_eq_false c188] at ha187
          refine cond_t ha187 rfl ?_
          refine wp_region_lit ?_
          refine wl_val ha187 rfl rfl rfl (op_move ha187 rfl rfl) ?_
          intro a191 ha191; clear ha187 a187
          refine wl_val ha191 rfl rfl rfl (op_loadS ha191 rfl Try.underlying83 ti83 rfl rfl hb88.cells) ?_
          intro a192 ha192; clear ha191 a191
          refine wl_eff ha192 rfl rfl rfl (op_buildSlice (s := shLine) (xs := [x68]) (cs := [St x68.1, .int .i64 x68.2]) (vs := [(0, .agg #[St x68.1, .int .i64 x68.2])]) (S := fun _ => False) (le := w174.heap.size) ha192 rfl pos_shLine Try.underlying34 ti83 rfl rfl (by decide) (by kernel_rfl) (Els.single (mk_shLine x68 (by first | assumption | omega | (simp only []; omega) | (simp; omega)) (by first | assumption | omega | (simp only []; omega) | (simp; omega)))) (fun _ h => h.elim)) ?_
          rintro v193 w194 ⟨ho195, he196, hob197⟩ a198 ha198; clear ha192 a192
          have hx199 := hx179.trans' he196
          have hzhx199 := he196.size
          replace hb88 := hb88.ext he196
          replace ho168 := ho168.ext he196
          replace ho175 := ho175.ext he196
          refine wl_eff ha198 rfl rfl rfl (op_append (ts := #[]) (s := shLine) ha198 rfl Try.underlying34 ti83 rfl pos_shLine rfl rfl ho175 (ho195.rds pos_shLine) (by omega) (by omega) (by first | omega | (simp; omega)) (by first | omega | (simp; omega)) (.inl flat_shLine)) ?_
          rintro v200 w201 ⟨ho202, hst203, hob204⟩ a205 ha205; clear ha198 a198
          have hx206 := hx199.stp hst203 (by intro q hq; have hq0 := ho175.lt q hq; omega)
          have hzhx206 := hst203.size
          first | replace hb88 := hb88.stp hst203 (by intro q hq; have hq0 := ho175.lt q hq; omega) | replace hb88 := hb88.stp hst203 (fun q hq e => hsp180 q hq e.symm)
          first | replace ho168 := ho168.stp hst203 (by intro q hq; have hq0 := ho175.lt q hq; omega) | replace ho168 := ho168.stpF flat_shLine hst203 (fun q hq => hsp181 q hq)
          replace ho195 := ho195.stp hst203 (by intro q hq; have hq0 := ho175.lt q hq; omega)
          have hsp207 : ∀ q, Value.ownBlock v200 = some q → q ≠ w61.heap.size := by intro q hq; have hq0 := hb88.lt; rcases hob204 with h | h; (rw [h] at hq; first | (have hq1 := ho175.lt q hq; omega) | exact hsp180 q hq); (rw [h] at hq; cases hq; omega)
          have hsp208 : ∀ q, Value.ownBlock v200 = some q → Value.ownBlock v166 ≠ some q := by intro q hq hb; have hq0 := ho168.lt q hb; rcases hob204 with h | h; (rw [h] at hq; first | (have hq1 := ho175.lt q hq; omega) | exact hsp181 q hq hb); (rw [h] at hq; cases hq; omega)
          have hsp209 : ∀ q, Value.ownBlock v200 = some q → Value.ownBlock v193 ≠ some q := by intro q hq hb; have hq0 := ho195.lt q hb; rcases hob204 with h | h; (rw [h] at hq; first | (have hq1 := ho175.lt q hq; omega)); (rw [h] at hq; cases hq; omega)
          refine wl_val ha205 rfl rfl rfl (op_assign ha205 rfl rfl) ?_
          intro a210 ha210; clear ha205 a205
          refine wpList_nil ?_
          refine block_n ?_
          refine then_n ?_
          refine wp_region_lit ?_
          refine wl_val ha210 rfl rfl rfl ((op_add ha210 rfl rfl rfl).int (IntWalk.i64_in _ (by omega))) ?_
          intro a211 ha211; clear ha210 a210
          refine wl_val ha211 rfl rfl rfl (op_move ha211 rfl rfl) ?_
          intro a212 ha212; clear ha211 a211
          refine wpList_nil ?_
          refine round_end (x := (i, p, v, acc)) ((i + 1), true, v200, ((acc ++ [(key, value)]) ++ [x68])) ?_ ?_
          ·
           refine ⟨(Sl.cons_ ha212 rfl rfl (Sl.cons_ ha212 rfl rfl (Sl.cons_ ha212 rfl rfl (Sl.cons_ ha212 rfl rfl (Sl.cons_ ha212 rfl rfl (Sl.cons_ ha212 rfl rfl (Sl.cons_ ha212 rfl rfl (Sl.cons_ ha212 rfl rfl (Sl.cons_ ha212 rfl (int_eq (by omega)) (Sl.nil_ ha212)))))))))), hx206, (ho202.fin (by omega) (by omega) (by omega)), (by omega), (by omega), (by first | omega | (simp; omega)), (by rw [c94, drop_cons hx68, st_put (by assumption)] at hF; rw [if_neg (by assumption)] at hF; rw [← hF]; simp)⟩
          ·show (x46.2.length - ((i + 1)) : Nat) < x46.2.length - i; omega
      ·
       rw [decide_eq_false c67] at ha66
       refine cond_f ha66 rfl ?_
       refine wp_exit ?_
       refine then_e ?_
       refine then_e ?_
       refine block_hit ?_
       refine then_n ?_
       refine wp_seq ?_
       refine wp_seq ?_
       refine wp_region_lit ?_
       refine wl_val ha66 rfl rfl rfl (op_move ha66 rfl rfl) ?_
       intro a213 ha213; clear ha66 a66
       refine wl_val ha213 rfl rfl rfl (op_not ha213 rfl rfl) ?_
       intro a214 ha214; clear ha213 a213
       refine wpList_nil ?_
       refine then_n ?_
       rcases Bool.eq_false_or_eq_true (p) with c215 | c215
       ·
        rw [c215] at ha214
        refine cond_f ha214 rfl ?_
        refine wp_skip ?_
        refine then_n ?_
        refine wp_seq ?_
        refine wp_seq ?_
        refine wp_region_lit ?_
        refine wl_val ha214 rfl rfl rfl (op_move ha214 rfl rfl) ?_
        intro a216 ha216; clear ha214 a214
        refine wl_val ha216 rfl rfl rfl (op_len_sl ha216 rfl Try.underlying27 rfl h_list) ?_
        intro a217 ha217; clear ha216 a216
        refine wl_val ha217 rfl rfl rfl (op_eql ha217 rfl rfl rfl) ?_
        intro a218 ha218; clear ha217 a217
        refine wl_val ha218 rfl rfl rfl (op_move ha218 rfl rfl) ?_
        intro a219 ha219; clear ha218 a218
        by_cases c220 : ((list.length : Nat) : Int) = (20 : Int)
        ·
         rw [decide_eq_true c220] at ha219
         refine wl_skip ha219 rfl rfl rfl ?_
         intro a221 ha221; clear ha219 a219
         refine wl_skip ha221 rfl rfl rfl ?_
         intro a222 ha222; clear ha221 a221
         refine wl_skip ha222 rfl rfl rfl ?_
         intro a223 ha223; clear ha222 a222
         refine wl_val ha223 rfl rfl rfl (op_pick_t ha223 rfl rfl rfl) ?_
         intro a224 ha224; clear ha223 a223
         refine wpList_nil ?_
         refine then_n ?_
         refine cond_t ha224 rfl ?_
         refine wp_seq ?_
         refine wp_region_lit ?_
         refine wl_val ha224 rfl rfl rfl (op_assign ha224 rfl rfl) ?_
         intro a225 ha225; clear ha224 a224
         refine wl_val ha225 rfl rfl rfl (op_assign ha225 rfl rfl) ?_
         intro a226 ha226; clear ha225 a225
         refine wpList_nil ?_
         refine then_n ?_
         refine wp_ret ?_
         refine then_r ?_
         refine ret2 ha226 rfl rfl rfl ?_
         clear ha226 a226
         have hst := stL_sh (k := key) (v := value) hshx46 (by assumption) (by first | assumption | omega | simp_all)
         rw [← hlex46] at hst
         rw [c215, drop_nil (by omega), stG] at hF
         rw [if_pos rfl, List.append_nil] at hF
         have hln := congrArg List.length hF
         rw [← hlex46] at hF hln
         have hr : sdC list version key value = (3 : Int) := (by unfold sdC; first | (simp_all [cdV]; done) | (simp_all [cdV]; omega) | (simp [c11, c20, c30, c34, c220]; done) | (simp [cdV, c11, c20, c30, c34, c220]; done))
         refine ret_mk hx62 ⟨(.slice none 0 0), [], (tup2_eq rfl (int_eq (by first | exact hr.symm | omega))), Own.nil _ _ _ _ _ _, Nst.nil _ _ _ _ _ _, ?_⟩
         ·
          unfold sdL; first | (rw [if_neg (show ¬ sdC list version key value = 0 by rw [hr]; first | decide | assumption)]; done) | (rw [if_neg (show ¬ sdC list version key value = 0 by rw [hr]; first | decide | assumption)]; rfl) | (rw [if_pos hr, hlex46]; done) | (rw [if_pos hr, hlex46]; assumption)
        ·
         rw [decide_eq_false c220] at ha219
         refine wl_val ha219 rfl rfl rfl (op_move ha219 rfl rfl) ?_
         intro a227 ha227; clear ha219 a219
         refine wl_val ha227 rfl rfl rfl (op_len_sl ha227 rfl Try.underlying34 rfl (hf63.rds pos_shLine)) ?_
         intro a228 ha228; clear ha227 a227
         refine wl_val ha228 rfl rfl rfl (op_gtr ha228 rfl rfl rfl) ?_
         intro a229 ha229; clear ha228 a228
         refine wl_val ha229 rfl rfl rfl (op_pick_f ha229 rfl rfl rfl) ?_
         intro a230 ha230; clear ha229 a229
         refine wpList_nil ?_
         refine then_n ?_
         by_cases c231 : (8 : Int) < ((acc.length : Nat) : Int)
         ·
          rw [decide_eq_true c231] at ha230
          refine cond_t ha230 rfl ?_
          refine wp_seq ?_
          refine wp_region_lit ?_
          refine wl_val ha230 rfl rfl rfl (op_assign ha230 rfl rfl) ?_
          intro a232 ha232; clear ha230 a230
          refine wl_val ha232 rfl rfl rfl (op_assign ha232 rfl rfl) ?_
          intro a233 ha233; clear ha232 a232
          refine wpList_nil ?_
          refine then_n ?_
          refine wp_ret ?_
          refine then_r ?_
          refine ret2 ha233 rfl rfl rfl ?_
          clear ha233 a233
          have hst := stL_sh (k := key) (v := value) hshx46 (by assumption) (by first | assumption | omega | simp_all)
          rw [← hlex46] at hst
          rw [c215, drop_nil (by omega), stG] at hF
          rw [if_pos rfl, List.append_nil] at hF
          have hln := congrArg List.length hF
          rw [← hlex46] at hF hln
          have hr : sdC list version key value = (3 : Int) := (by unfold sdC; first | (simp_all [cdV]; done) | (simp_all [cdV]; omega) | (simp [c11, c20, c30, c34, c220]; done) | (simp [cdV, c11, c20, c30, c34, c220]; done))
          refine ret_mk hx62 ⟨(.slice none 0 0), [], (tup2_eq rfl (int_eq (by first | exact hr.symm | omega))), Own.nil _ _ _ _ _ _, Nst.nil _ _ _ _ _ _, ?_⟩
          ·
           unfold sdL; first | (rw [if_neg (show ¬ sdC list version key value = 0 by rw [hr]; first | decide | assumption)]; done) | (rw [if_neg (show ¬ sdC list version key value = 0 by rw [hr]; first | decide | assumption)]; rfl) | (rw [if_pos hr, hlex46]; done) | (rw [if_pos hr, hlex46]; assumption)
         ·
          rw [decide_eq_false c231] at ha230
          refine cond_f ha230 rfl ?_
          refine wp_skip ?_
          refine then_n ?_
          refine wp_seq ?_
          refine wp_region_lit ?_
          refine wl_val ha230 rfl rfl rfl (op_move ha230 rfl rfl) ?_
          intro a234 ha234; clear ha230 a230
          refine wl_callR ha234 rfl rfl rfl (op_call ha234 rfl cb69 rfl) (c_impl_copyVersions _ v_list list (h_list.ext pos_shVer hx62) (by first | assumption | omega | (simp; omega)) (by intro c hc; obtain ⟨j9, hj9⟩ := List.getElem?_of_mem hc; exact Nat.le_trans (shB_len (veB_at hv1 hj9).1) (by decide))) ?_
          rintro v235 w236 he237 ⟨z239, ho238, hN240, hE241⟩ a242 ha242; clear ha234 a234
          have hx243 := hx62.trans' he237
          have hzhx243 := he237.size
          replace hf63 := hf63.ext he237
          have hlhE241 := absLen hE241
          refine wl_val ha242 rfl rfl rfl (op_move ha242 rfl rfl) ?_
          intro a244 ha244; clear ha242 a242
          refine wl_val ha244 rfl rfl rfl (op_move ha244 rfl rfl) ?_
          intro a245 ha245; clear ha244 a244
          refine wl_val ha245 rfl rfl rfl (op_build (vs := [(0, .int .i64 version), (1, v)]) (cs := #[.int .i64 version, v]) ha245 rfl Try.underlying56 ti56 bp56 rfl ((fill_one rfl rfl rfl).trans ((fill_one hf63.cells1 rfl rfl).trans rfl))) ?_
          intro a246 ha246; clear ha245 a245
          refine wl_eff ha246 rfl rfl rfl (op_buildSlice (s := shVerN) (xs := [(((version, acc) : Int × List (Str × Int)), (v : Value))]) (cs := [.int .i64 version, v]) (vs := [(0, .agg #[.int .i64 version, v])]) (S := fun _ => False) (le := w236.heap.size) ha246 rfl pos_shVerN Try.underlying27 ti56 rfl rfl (by decide) (by kernel_rfl) (Els.single (mk_shVerN ((((version, acc) : Int × List (Str × Int)), (v : Value))) (by first | assumption | omega | (simp only []; omega) | (simp; omega)) hf63.one)) (fun _ h => h.elim)) ?_
          rintro v247 w248 ⟨ho249, he250, hob251⟩ a252 ha252; clear ha246 a246
          have hx253 := hx243.trans' he250
          have hzhx253 := he250.size
          replace hf63 := hf63.ext he250
          replace ho238 := ho238.ext he250
          replace hN240 := hN240.ext he250
          have hN254 : Nst shLine 83 (fun x : Int × List (Str × Int) => x.2) w24.heap.size w61.heap.size w248 ([(((version, acc) : Int × List (Str × Int)), (v : Value))]) := Nst.one (hf63.fin (by omega) (by omega) (by omega))
          refine wl_eff ha252 rfl rfl rfl (op_append (ts := #[]) (s := shVerN) ha252 rfl Try.underlying27 ti56 rfl pos_shVerN rfl rfl ho238 (ho249.rds pos_shVerN) (by omega) (by omega) (by first | omega | (simp; omega)) (by first | omega | (simp; omega)) (.inl flat_shVerN)) ?_
          rintro v255 w256 ⟨ho257, hst258, hob259⟩ a260 ha260; clear ha252 a252
          have hx261 := hx253.stp hst258 (by intro q hq; have hq0 := ho238.lt q hq; omega)
          have hzhx261 := hst258.size
          replace hf63 := hf63.stp hst258 (by intro q hq; have hq0 := ho238.lt q hq; omega)
          first | replace hN240 := hN240.stpF flat_shLine hst258 ho238 rfl | replace hN240 := hN240.stp hst258 (by intro q hq; have hq0 := ho238.lt q hq; omega)
          replace ho249 := ho249.stp hst258 (by intro q hq; have hq0 := ho238.lt q hq; omega)
          replace hN254 := hN254.stp hst258 (by intro q hq; have hq0 := ho238.lt q hq; omega)
          have hsp262 : ∀ q, Value.ownBlock v255 = some q → Value.ownBlock v247 ≠ some q := by intro q hq hb; have hq0 := ho249.lt q hb; rcases hob259 with h | h; (rw [h] at hq; first | (have hq1 := ho238.lt q hq; omega)); (rw [h] at hq; cases hq; omega)
          have hN263 : Nst shLine 83 (fun x : Int × List (Str × Int) => x.2) w24.heap.size w256.heap.size w256 ((z239 ++ [(((version, acc) : Int × List (Str × Int)), (v : Value))])) := (hN240.appL hN254 (by omega) (by omega) (by omega)).fin (by omega) (by omega)
          refine wl_val ha260 rfl rfl rfl (op_assign ha260 rfl rfl) ?_
          intro a264 ha264; clear ha260 a260
          refine wl_val ha264 rfl rfl rfl (op_assign ha264 rfl rfl) ?_
          intro a265 ha265; clear ha264 a264
          refine wpList_nil ?_
          refine then_n ?_
          refine wp_ret ?_
          refine ret2 ha265 rfl rfl rfl ?_
          clear ha265 a265
          have hst := stL_sh (k := key) (v := value) hshx46 (by assumption) (by first | assumption | omega | simp_all)
          rw [← hlex46] at hst
          rw [c215, drop_nil (by omega), stG] at hF
          rw [if_pos rfl, List.append_nil] at hF
          have hln := congrArg List.length hF
          rw [← hlex46] at hF hln
          have hr : sdC list version key value = (0 : Int) := (by unfold sdC; first | (simp_all [cdV]; done) | (simp_all [cdV]; omega) | (simp [c11, c20, c30, c34, c220]; done) | (simp [cdV, c11, c20, c30, c34, c220]; done))
          refine ret_mk hx261 ⟨v255, (z239 ++ [(((version, acc) : Int × List (Str × Int)), (v : Value))]), (tup2_eq rfl (int_eq (by first | exact hr.symm | omega))), ho257.fin (by omega) (by omega) (by omega), hN263.fin (by omega) (by omega), ?_⟩
          ·
           unfold sdL; first | (rw [if_neg (show ¬ sdC list version key value = 0 by rw [hr]; first | decide | assumption)]; done) | (rw [if_neg (show ¬ sdC list version key value = 0 by rw [hr]; first | decide | assumption)]; rfl) | (rw [if_pos hr, hlex46]; done) | (rw [if_pos hr, hlex46]; assumption) | (rw [if_pos hr, ← hF, List.map_append, hE241]; rfl)
       ·
        rw [c215] at ha214
        refine cond_t ha214 rfl ?_
        refine wp_region_lit ?_
        refine wl_val ha214 rfl rfl rfl (op_move ha214 rfl rfl) ?_
        intro a266 ha266; clear ha214 a214
        refine wl_val ha266 rfl rfl rfl (op_move ha266 rfl rfl) ?_
        intro a267 ha267; clear ha266 a266
        refine wl_val ha267 rfl rfl rfl (op_move ha267 rfl rfl) ?_
        intro a268 ha268; clear ha267 a267
        refine wl_val ha268 rfl rfl rfl (op_build (vs := [(0, St key), (1, .int .i64 value)]) (cs := #[St key, .int .i64 value]) ha268 rfl Try.underlying83 ti83 bp83 rfl rfl) ?_
        intro a269 ha269; clear ha268 a268
        refine wl_eff ha269 rfl rfl rfl (op_buildSlice (s := shLine) (xs := [(key, value)]) (cs := [St key, .int .i64 value]) (vs := [(0, .agg #[St key, .int .i64 value])]) (S := fun _ => False) (le := w61.heap.size) ha269 rfl pos_shLine Try.underlying34 ti83 rfl rfl (by decide) (by kernel_rfl) (Els.single (mk_shLine ((key, value)) (by first | assumption | omega | (simp only []; omega) | (simp; omega)) (by first | assumption | omega | (simp only []; omega) | (simp; omega)))) (fun _ h => h.elim)) ?_
        rintro v270 w271 ⟨ho272, he273, hob274⟩ a275 ha275; clear ha269 a269
        have hx276 := hx62.trans' he273
        have hzhx276 := he273.size
        replace hf63 := hf63.ext he273
        refine wl_eff ha275 rfl rfl rfl (op_append (ts := #[]) (s := shLine) ha275 rfl Try.underlying34 ti83 rfl pos_shLine rfl rfl hf63 (ho272.rds pos_shLine) (by omega) (by omega) (by first | omega | (simp; omega)) (by first | omega | (simp; omega)) (.inl flat_shLine)) ?_
        rintro v277 w278 ⟨ho279, hst280, hob281⟩ a282 ha282; clear ha275 a275
        have hx283 := hx276.stp hst280 (by intro q hq; have hq0 := hf63.lt q hq; omega)
        have hzhx283 := hst280.size
        replace ho272 := ho272.stp hst280 (by intro q hq; have hq0 := hf63.lt q hq; omega)
        have hsp284 : ∀ q, Value.ownBlock v277 = some q → Value.ownBlock v270 ≠ some q := by intro q hq hb; have hq0 := ho272.lt q hb; rcases hob281 with h | h; (rw [h] at hq; first | (have hq1 := hf63.lt q hq; omega)); (rw [h] at hq; cases hq; omega)
        refine wl_val ha282 rfl rfl rfl (op_assign ha282 rfl rfl) ?_
        intro a285 ha285; clear ha282 a282
        refine wpList_nil ?_
        refine then_n ?_
        refine wp_seq ?_
        refine wp_seq ?_
        refine wp_region_lit ?_
        refine wl_val ha285 rfl rfl rfl (op_move ha285 rfl rfl) ?_
        intro a286 ha286; clear ha285 a285
        refine wl_val ha286 rfl rfl rfl (op_len_sl ha286 rfl Try.underlying27 rfl h_list) ?_
        intro a287 ha287; clear ha286 a286
        refine wl_val ha287 rfl rfl rfl (op_eql ha287 rfl rfl rfl) ?_
        intro a288 ha288; clear ha287 a287
        refine wl_val ha288 rfl rfl rfl (op_move ha288 rfl rfl) ?_
        intro a289 ha289; clear ha288 a288
        by_cases c290 : ((list.length : Nat) : Int) = (20 : Int)
        ·
         rw [decide_eq_true c290] at ha289
         refine wl_skip ha289 rfl rfl rfl ?_
         intro a291 ha291; clear ha289 a289
         refine wl_skip ha291 rfl rfl rfl ?_
         intro a292 ha292; clear ha291 a291
         refine wl_skip ha292 rfl rfl rfl ?_
         intro a293 ha293; clear ha292 a292
         refine wl_val ha293 rfl rfl rfl (op_pick_t ha293 rfl rfl rfl) ?_
         intro a294 ha294; clear ha293 a293
         refine wpList_nil ?_
         refine then_n ?_
         refine cond_t ha294 rfl ?_
         refine wp_seq ?_
         refine wp_region_lit ?_
         refine wl_val ha294 rfl rfl rfl (op_assign ha294 rfl rfl) ?_
         intro a295 ha295; clear ha294 a294
         refine wl_val ha295 rfl rfl rfl (op_assign ha295 rfl rfl) ?_
         intro a296 ha296; clear ha295 a295
         refine wpList_nil ?_
         refine then_n ?_
         refine wp_ret ?_
         refine then_r ?_
         refine ret2 ha296 rfl rfl rfl ?_
         clear ha296 a296
         have hst := stL_sh (k := key) (v := value) hshx46 (by assumption) (by first | assumption | omega | simp_all)
         rw [← hlex46] at hst
         rw [c215, drop_nil (by omega), stG] at hF
         rw [if_neg (by decide)] at hF
         have hln := congrArg List.length hF
         rw [← hlex46] at hF hln
         rw [List.length_append, List.length_singleton] at hln
         have hr : sdC list version key value = (3 : Int) := (by unfold sdC; first | (simp_all [cdV]; done) | (simp_all [cdV]; omega) | (simp [c11, c20, c30, c34, c290]; done) | (simp [cdV, c11, c20, c30, c34, c290]; done))
         refine ret_mk hx283 ⟨(.slice none 0 0), [], (tup2_eq rfl (int_eq (by first | exact hr.symm | omega))), Own.nil _ _ _ _ _ _, Nst.nil _ _ _ _ _ _, ?_⟩
         ·
          unfold sdL; first | (rw [if_neg (show ¬ sdC list version key value = 0 by rw [hr]; first | decide | assumption)]; done) | (rw [if_neg (show ¬ sdC list version key value = 0 by rw [hr]; first | decide | assumption)]; rfl) | (rw [if_pos hr, hlex46]; done) | (rw [if_pos hr, hlex46]; assumption)
        ·
         rw [decide_eq_false c290] at ha289
         refine wl_val ha289 rfl rfl rfl (op_move ha289 rfl rfl) ?_
         intro a297 ha297; clear ha289 a289
         refine wl_val ha297 rfl rfl rfl (op_len_sl ha297 rfl Try.underlying34 rfl (ho279.rds pos_shLine)) ?_
         intro a298 ha298; clear ha297 a297
         refine wl_val ha298 rfl rfl rfl (op_gtr ha298 rfl rfl rfl) ?_
         intro a299 ha299; clear ha298 a298
         refine wl_val ha299 rfl rfl rfl (op_pick_f ha299 rfl rfl rfl) ?_
         intro a300 ha300; clear ha299 a299
         refine wpList_nil ?_
         refine then_n ?_
         by_cases c301 : (8 : Int) < ((((acc ++ [(key, value)])).length : Nat) : Int)
         ·
          rw [decide_eq_true c301] at ha300
          refine cond_t ha300 rfl ?_
          refine wp_seq ?_
          refine wp_region_lit ?_
          refine wl_val ha300 rfl rfl rfl (op_assign ha300 rfl rfl) ?_
          intro a302 ha302; clear ha300 a300
          refine wl_val ha302 rfl rfl rfl (op_assign ha302 rfl rfl) ?_
          intro a303 ha303; clear ha302 a302
          refine wpList_nil ?_
          refine then_n ?_
          refine wp_ret ?_
          refine then_r ?_
          refine ret2 ha303 rfl rfl rfl ?_
          clear ha303 a303
          have hst := stL_sh (k := key) (v := value) hshx46 (by assumption) (by first | assumption | omega | simp_all)
          rw [← hlex46] at hst
          rw [c215, drop_nil (by omega), stG] at hF
          rw [if_neg (by decide)] at hF
          have hln := congrArg List.length hF
          rw [← hlex46] at hF hln
          rw [List.length_append, List.length_singleton] at hln
          have hr : sdC list version key value = (3 : Int) := (by unfold sdC; first | (simp_all [cdV]; done) | (simp_all [cdV]; omega) | (simp [c11, c20, c30, c34, c290]; done) | (simp [cdV, c11, c20, c30, c34, c290]; done))
          refine ret_mk hx283 ⟨(.slice none 0 0), [], (tup2_eq rfl (int_eq (by first | exact hr.symm | omega))), Own.nil _ _ _ _ _ _, Nst.nil _ _ _ _ _ _, ?_⟩
          ·
           unfold sdL; first | (rw [if_neg (show ¬ sdC list version key value = 0 by rw [hr]; first | decide | assumption)]; done) | (rw [if_neg (show ¬ sdC list version key value = 0 by rw [hr]; first | decide | assumption)]; rfl) | (rw [if_pos hr, hlex46]; done) | (rw [if_pos hr, hlex46]; assumption)
         ·
          rw [decide_eq_false c301] at ha300
          refine cond_f ha300 rfl ?_
          refine wp_skip ?_
          refine then_n ?_
          refine wp_seq ?_
          refine wp_region_lit ?_
          refine wl_val ha300 rfl rfl rfl (op_move ha300 rfl rfl) ?_
          intro a304 ha304; clear ha300 a300
          refine wl_callR ha304 rfl rfl rfl (op_call ha304 rfl cb69 rfl) (c_impl_copyVersions _ v_list list (h_list.ext pos_shVer hx283) (by first | assumption | omega | (simp; omega)) (by intro c hc; obtain ⟨j9, hj9⟩ := List.getElem?_of_mem hc; exact Nat.le_trans (shB_len (veB_at hv1 hj9).1) (by decide))) ?_
          rintro v305 w306 he307 ⟨z309, ho308, hN310, hE311⟩ a312 ha312; clear ha304 a304
          have hx313 := hx283.trans' he307
          have hzhx313 := he307.size
          replace ho272 := ho272.ext he307
          replace ho279 := ho279.ext he307
          have hlhE311 := absLen hE311
          refine wl_val ha312 rfl rfl rfl (op_move ha312 rfl rfl) ?_
          intro a314 ha314; clear ha312 a312
          refine wl_val ha314 rfl rfl rfl (op_move ha314 rfl rfl) ?_
          intro a315 ha315; clear ha314 a314
          refine wl_val ha315 rfl rfl rfl (op_build (vs := [(0, .int .i64 version), (1, v277)]) (cs := #[.int .i64 version, v277]) ha315 rfl Try.underlying56 ti56 bp56 rfl ((fill_one rfl rfl rfl).trans ((fill_one ho279.cells1 rfl rfl).trans rfl))) ?_
          intro a316 ha316; clear ha315 a315
          refine wl_eff ha316 rfl rfl rfl (op_buildSlice (s := shVerN) (xs := [(((version, (acc ++ [(key, value)])) : Int × List (Str × Int)), (v277 : Value))]) (cs := [.int .i64 version, v277]) (vs := [(0, .agg #[.int .i64 version, v277])]) (S := fun _ => False) (le := w306.heap.size) ha316 rfl pos_shVerN Try.underlying27 ti56 rfl rfl (by decide) (by kernel_rfl) (Els.single (mk_shVerN ((((version, (acc ++ [(key, value)])) : Int × List (Str × Int)), (v277 : Value))) (by first | assumption | omega | (simp only []; omega) | (simp; omega)) ho279.one)) (fun _ h => h.elim)) ?_
          rintro v317 w318 ⟨ho319, he320, hob321⟩ a322 ha322; clear ha316 a316
          have hx323 := hx313.trans' he320
          have hzhx323 := he320.size
          replace ho272 := ho272.ext he320
          replace ho279 := ho279.ext he320
          replace ho308 := ho308.ext he320
          replace hN310 := hN310.ext he320
          have hN324 : Nst shLine 83 (fun x : Int × List (Str × Int) => x.2) w24.heap.size w278.heap.size w318 ([(((version, (acc ++ [(key, value)])) : Int × List (Str × Int)), (v277 : Value))]) := Nst.one (ho279.fin (by omega) (by omega) (by omega))
          refine wl_eff ha322 rfl rfl rfl (op_append (ts := #[]) (s := shVerN) ha322 rfl Try.underlying27 ti56 rfl pos_shVerN rfl rfl ho308 (ho319.rds pos_shVerN) (by omega) (by omega) (by first | omega | (simp; omega)) (by first | omega | (simp; omega)) (.inl flat_shVerN)) ?_
          rintro v325 w326 ⟨ho327, hst328, hob329⟩ a330 ha330; clear ha322 a322
          have hx331 := hx323.stp hst328 (by intro q hq; have hq0 := ho308.lt q hq; omega)
          have hzhx331 := hst328.size
          replace ho272 := ho272.stp hst328 (by intro q hq; have hq0 := ho308.lt q hq; omega)
          replace ho279 := ho279.stp hst328 (by intro q hq; have hq0 := ho308.lt q hq; omega)
          first | replace hN310 := hN310.stpF flat_shLine hst328 ho308 rfl | replace hN310 := hN310.stp hst328 (by intro q hq; have hq0 := ho308.lt q hq; omega)
          replace ho319 := ho319.stp hst328 (by intro q hq; have hq0 := ho308.lt q hq; omega)
          replace hN324 := hN324.stp hst328 (by intro q hq; have hq0 := ho308.lt q hq; omega)
          have hsp332 : ∀ q, Value.ownBlock v325 = some q → Value.ownBlock v317 ≠ some q := by intro q hq hb; have hq0 := ho319.lt q hb; rcases hob329 with h | h; (rw [h] at hq; first | (have hq1 := ho308.lt q hq; omega)); (rw [h] at hq; cases hq; omega)
          have hN333 : Nst shLine 83 (fun x : Int × List (Str × Int) => x.2) w24.heap.size w326.heap.size w326 ((z309 ++ [(((version, (acc ++ [(key, value)])) : Int × List (Str × Int)), (v277 : Value))])) := (hN310.appL hN324 (by omega) (by omega) (by omega)).fin (by omega) (by omega)
          refine wl_val ha330 rfl rfl rfl (op_assign ha330 rfl rfl) ?_
          intro a334 ha334; clear ha330 a330
          refine wl_val ha334 rfl rfl rfl (op_assign ha334 rfl rfl) ?_
          intro a335 ha335; clear ha334 a334
          refine wpList_nil ?_
          refine then_n ?_
          refine wp_ret ?_
          refine ret2 ha335 rfl rfl rfl ?_
          clear ha335 a335
          have hst := stL_sh (k := key) (v := value) hshx46 (by assumption) (by first | assumption | omega | simp_all)
          rw [← hlex46] at hst
          rw [c215, drop_nil (by omega), stG] at hF
          rw [if_neg (by decide)] at hF
          have hln := congrArg List.length hF
          rw [← hlex46] at hF hln
          rw [List.length_append, List.length_singleton] at hln
          have hr : sdC list version key value = (0 : Int) := (by unfold sdC; first | (simp_all [cdV]; done) | (simp_all [cdV]; omega) | (simp [c11, c20, c30, c34, c290]; done) | (simp [cdV, c11, c20, c30, c34, c290]; done))
          refine ret_mk hx331 ⟨v325, (z309 ++ [(((version, (acc ++ [(key, value)])) : Int × List (Str × Int)), (v277 : Value))]), (tup2_eq rfl (int_eq (by first | exact hr.symm | omega))), ho327.fin (by omega) (by omega) (by omega), hN333.fin (by omega) (by omega), ?_⟩
          ·
           unfold sdL; first | (rw [if_neg (show ¬ sdC list version key value = 0 by rw [hr]; first | decide | assumption)]; done) | (rw [if_neg (show ¬ sdC list version key value = 0 by rw [hr]; first | decide | assumption)]; rfl) | (rw [if_pos hr, hlex46]; done) | (rw [if_pos hr, hlex46]; assumption) | (rw [if_pos hr, ← hF, List.map_append, hE311]; rfl)
    ·
     rw [decide_eq_false c34] at ha33
     refine wl_val ha33 rfl rfl rfl (op_move ha33 rfl rfl) ?_
     intro a336 ha336; clear ha33 a33
     refine wl_callR ha336 rfl rfl rfl (op_call ha336 rfl cb68 rfl) (c_impl_isSheetValue _ value ) ?_
     rintro v337 w338 he339 rfl a340 ha340; clear ha336 a336
     have hx341 := hx27.trans' he339
     have hzhx341 := he339.size
     refine wl_val ha340 rfl rfl rfl (op_not ha340 rfl rfl) ?_
     intro a342 ha342; clear ha340 a340
     refine wl_val ha342 rfl rfl rfl (op_pick_t ha342 rfl rfl rfl) ?_
     intro a343 ha343; clear ha342 a342
     refine wl_val ha343 rfl rfl rfl (op_pick_f ha343 rfl rfl rfl) ?_
     intro a344 ha344; clear ha343 a343
     refine wpList_nil ?_
     refine then_n ?_
     rcases Bool.eq_false_or_eq_true (svB value) with c345 | c345
     ·
      rw [c345] at ha344
      have hsv := sv_bd c345
      refine cond_f ha344 rfl ?_
      refine wp_skip ?_
      refine then_n ?_
      refine wp_seq ?_
      refine wp_region_lit ?_
      refine wl_val ha344 rfl rfl rfl (op_assign ha344 rfl rfl) ?_
      intro a346 ha346; clear ha344 a344
      refine wpList_nil ?_
      refine then_n ?_
      refine wp_seq ?_
      refine wp_region_lit ?_
      refine wl_val ha346 rfl rfl rfl (op_move ha346 rfl rfl) ?_
      intro a347 ha347; clear ha346 a346
      refine wl_val ha347 rfl rfl rfl (op_eql ha347 rfl rfl rfl) ?_
      intro a348 ha348; clear ha347 a347
      refine wl_val ha348 rfl rfl rfl (op_assign ha348 rfl rfl) ?_
      intro a349 ha349; clear ha348 a348
      refine wpList_nil ?_
      refine then_n ?_
      refine wp_seq ?_
      refine wp_seq ?_
      refine wp_region_lit ?_
      refine wl_val ha349 rfl rfl rfl (op_move ha349 rfl rfl) ?_
      intro a350 ha350; clear ha349 a349
      refine wl_val ha350 rfl rfl rfl (op_move ha350 rfl rfl) ?_
      intro a351 ha351; clear ha350 a350
      obtain ⟨x352, hx352⟩ := get_ex (xs := list) (j := version.toNat) (by omega)
      obtain ⟨p353, c354, hi355, hc356, hr357, hs358⟩ := Rds.at_ h_list hx352
      obtain ⟨v359, rfl, b360, b361⟩ := inv_shVer hr357
      have hlb361 := b361.length_le
      have hvex352 := veB_at hv1 hx352
      have hlex352 := lnV_eq hx352
      have hlxx352 := shB_len hvex352.1
      have hshx352 := hvex352.1
      refine wl_val ha351 rfl rfl rfl (op_indexAddr ha351 rfl Try.underlying27 ti56 rfl rfl (by omega) hi355) ?_
      intro a362 ha362; clear ha351 a351
      refine wl_val ha362 rfl rfl rfl (op_fieldAddr (sz := 0) ha362 rfl Try.underlying56 rfl rfl ti34 rfl) ?_
      intro a363 ha363; clear ha362 a362
      refine wl_val ha363 rfl rfl rfl (op_loadF (off := 1) ha363 rfl Try.underlying34 rfl rfl (hc356.ext hx341) rfl) ?_
      intro a364 ha364; clear ha363 a363
      refine wl_val ha364 rfl rfl rfl (op_len_sl ha364 rfl Try.underlying34 rfl b361) ?_
      intro a365 ha365; clear ha364 a364
      refine wl_val ha365 rfl rfl rfl (op_move ha365 rfl rfl) ?_
      intro a366 ha366; clear ha365 a365
      refine wpList_nil ?_
      refine then_n ?_
      refine wp_block ?_
      refine loop_inv (X := Nat × Bool × Value × (List (Str × Int))) (fun (⟨i, p, v, acc⟩ : Nat × Bool × Value × (List (Str × Int))) fr wl => Sl 93 fr [(0, v_list), (1, .int .i64 version), (2, St key), (3, .int .i64 value), (10, v), (11, .bool (p)), (41, v359), (42, .int .i64 ((x352.2.length : Nat) : Int)), (43, .int .i64 ((i : Nat) : Int))] ∧ Ext w0 wl ∧ Own shLine 83 w338.heap.size w338.heap.size wl.heap.size wl v acc ∧ w338.heap.size ≤ wl.heap.size ∧ (i ≤ x352.2.length) ∧ (acc.length ≤ 2 * i) ∧ (acc ++ stG key value (x352.2.drop i) p = stL key value x352.2)) (fun (⟨i, p, v, acc⟩ : Nat × Bool × Value × (List (Str × Int))) => x352.2.length - i) (0, decide (value = (-1 : Int)), (.slice none 0 0), []) ?_ ?_
      ·
       exact ⟨(Sl.cons_ ha366 rfl rfl (Sl.cons_ ha366 rfl rfl (Sl.cons_ ha366 rfl rfl (Sl.cons_ ha366 rfl rfl (Sl.cons_ ha366 rfl rfl (Sl.cons_ ha366 rfl rfl (Sl.cons_ ha366 rfl rfl (Sl.cons_ ha366 rfl rfl (Sl.cons_ ha366 rfl (int_eq (by omega)) (Sl.nil_ ha366)))))))))), hx341, (Own.nil _ _ _ _ _ _), (by omega), (by omega), (by exact Nat.zero_le _), (by rfl)⟩
      ·
       clear ha366 a366
       rintro ⟨i, p, v, acc⟩ a370 w367 ⟨ha370, hx368, hf369, hzl371, hi, hl, hF⟩
       have hzhx368 := hx368.size
       refine wp_seq ?_
       refine wp_region_lit ?_
       refine wl_val ha370 rfl rfl rfl (op_lss ha370 rfl rfl rfl) ?_
       intro a372 ha372; clear ha370 a370
       refine wpList_nil ?_
       refine then_n ?_
       refine wp_seq ?_
       by_cases c373 : ((i : Nat) : Int) < ((x352.2.length : Nat) : Int)
       ·
        rw [decide_eq_true c373] at ha372
        refine cond_t ha372 rfl ?_
        refine wp_skip ?_
        refine then_n ?_
        refine wp_seq ?_
        refine wp_block ?_
        refine wp_seq ?_
        refine wp_region_lit ?_
        obtain ⟨x374, hx374⟩ := get_ex (xs := x352.2) (j := i) (by omega)
        obtain ⟨p375, c376, hi377, hc378, hr379, hs380⟩ := Rds.at_ b361 hx374
        obtain ⟨rfl, b381, b382⟩ := inv_shLine hr379
        refine wl_val ha372 rfl rfl rfl (op_indexAddr ha372 rfl Try.underlying34 ti83 rfl rfl (by omega) hi377) ?_
        intro a383 ha383; clear ha372 a372
        refine wl_val ha383 rfl rfl rfl (op_loadS ha383 rfl Try.underlying83 ti83 rfl rfl (hc378.ext hx368)) ?_
        intro a384 ha384; clear ha383 a383
        refine wl_eff ha384 rfl rfl rfl (op_alloc' rfl ti83 rfl) ?_
        rintro _ w386 ⟨rfl, he387, hb388, hz389⟩ a390 ha390; clear ha384 a384
        have hx391 := hx368.trans' he387
        have hzhx391 := he387.size
        replace hf369 := hf369.ext he387
        refine wl_effS ha390 rfl rfl (op_storeAll' ha390 rfl ti83 rfl rfl hb388 rfl rfl (by simp [Value.oneCell']) rfl) ?_
        rintro w392 ⟨hb394, hst393, hz395⟩
        have hx396 := hx391.stp hst393 (by intro q hq; cases hq; exact (by omega))
        have hzhx396 := hst393.size
        replace hf369 := hf369.stp hst393 (by intro q hq; cases hq; omega)
        clear hb388
        refine wpList_nil ?_
        refine then_n ?_
        refine wp_seq ?_
        refine wp_seq ?_
        refine wp_region_lit ?_
        refine wl_val ha390 rfl rfl rfl (op_move ha390 rfl rfl) ?_
        intro a397 ha397; clear ha390 a390
        refine wl_val ha397 rfl rfl rfl (op_not ha397 rfl rfl) ?_
        intro a398 ha398; clear ha397 a397
        refine wl_val ha398 rfl rfl rfl (op_move ha398 rfl rfl) ?_
        intro a399 ha399; clear ha398 a398
        rcases Bool.eq_false_or_eq_true (p) with c400 | c400
        ·
         rw [c400] at ha399
         refine wl_skip ha399 rfl rfl rfl ?_
         intro a401 ha401; clear ha399 a399
         refine wl_skip ha401 rfl rfl rfl ?_
         intro a402 ha402; clear ha401 a401
         refine wl_skip ha402 rfl rfl rfl ?_
         intro a403 ha403; clear ha402 a402
         refine wl_skip ha403 rfl rfl rfl ?_
         intro a404 ha404; clear ha403 a403
         refine wl_val ha404 rfl rfl rfl (op_pick_f ha404 rfl rfl rfl) ?_
         intro a405 ha405; clear ha404 a404
         refine wpList_nil ?_
         refine then_n ?_
         refine cond_f ha405 rfl ?_
         refine wp_skip ?_
         refine then_n ?_
         refine wp_seq ?_
         refine wp_region_lit ?_
         refine wl_val ha405 rfl rfl rfl (op_fieldAddr (sz := 0) ha405 rfl Try.underlying83 rfl rfl ti9 rfl) ?_
         intro a406 ha406; clear ha405 a405
         refine wl_val ha406 rfl rfl rfl (op_loadF (off := 0) ha406 rfl Try.underlying9 rfl rfl hb394.cells rfl) ?_
         intro a407 ha407; clear ha406 a406
         refine wl_val ha407 rfl rfl rfl (op_move ha407 rfl rfl) ?_
         intro a408 ha408; clear ha407 a407
         refine wl_val ha408 rfl rfl rfl ((op_sneq ha408 rfl rfl rfl).to (congrArg Value.bool decide_not)) ?_
         intro a409 ha409; clear ha408 a408
         refine wpList_nil ?_
         refine then_n ?_
         by_cases c410 : x374.1 = key
         ·
          rw [decide_eq_true c410] at ha409
          refine cond_f ha409 rfl ?_
          refine wp_skip ?_
          refine block_n ?_
          refine then_n ?_
          refine wp_region_lit ?_
          refine wl_val ha409 rfl rfl rfl ((op_add ha409 rfl rfl rfl).int (IntWalk.i64_in _ (by omega))) ?_
          intro a411 ha411; clear ha409 a409
          refine wl_val ha411 rfl rfl rfl (op_move ha411 rfl rfl) ?_
          intro a412 ha412; clear ha411 a411
          refine wpList_nil ?_
          refine round_end (x := (i, p, v, acc)) ((i + 1), true, v, acc) ?_ ?_
          ·
           refine ⟨(Sl.cons_ ha412 rfl rfl (Sl.cons_ ha412 rfl rfl (Sl.cons_ ha412 rfl rfl (Sl.cons_ ha412 rfl rfl (Sl.cons_ ha412 rfl rfl (Sl.cons_ ha412 rfl rfl (Sl.cons_ ha412 rfl rfl (Sl.cons_ ha412 rfl rfl (Sl.cons_ ha412 rfl (int_eq (by omega)) (Sl.nil_ ha412)))))))))), hx396, (hf369.fin (by omega) (by omega) (by omega)), (by omega), (by omega), (by first | omega | (simp; omega)), (by rw [c400, drop_cons hx374, st_no (.inl rfl)] at hF; rw [if_pos (by assumption)] at hF; rw [← hF]; simp)⟩
          ·show (x352.2.length - ((i + 1)) : Nat) < x352.2.length - i; omega
         ·
          rw [decide_eq_false c410] at ha409
          refine cond_t ha409 rfl ?_
          refine wp_region_lit ?_
          refine wl_val ha409 rfl rfl rfl (op_move ha409 rfl rfl) ?_
          intro a413 ha413; clear ha409 a409
          refine wl_val ha413 rfl rfl rfl (op_loadS ha413 rfl Try.underlying83 ti83 rfl rfl hb394.cells) ?_
          intro a414 ha414; clear ha413 a413
          refine wl_eff ha414 rfl rfl rfl (op_buildSlice (s := shLine) (xs := [x374]) (cs := [St x374.1, .int .i64 x374.2]) (vs := [(0, .agg #[St x374.1, .int .i64 x374.2])]) (S := fun _ => False) (le := w392.heap.size) ha414 rfl pos_shLine Try.underlying34 ti83 rfl rfl (by decide) (by kernel_rfl) (Els.single (mk_shLine x374 (by first | assumption | omega | (simp only []; omega) | (simp; omega)) (by first | assumption | omega | (simp only []; omega) | (simp; omega)))) (fun _ h => h.elim)) ?_
          rintro v415 w416 ⟨ho417, he418, hob419⟩ a420 ha420; clear ha414 a414
          have hx421 := hx396.trans' he418
          have hzhx421 := he418.size
          replace hf369 := hf369.ext he418
          replace hb394 := hb394.ext he418
          refine wl_eff ha420 rfl rfl rfl (op_append (ts := #[]) (s := shLine) ha420 rfl Try.underlying34 ti83 rfl pos_shLine rfl rfl hf369 (ho417.rds pos_shLine) (by omega) (by omega) (by first | omega | (simp; omega)) (by first | omega | (simp; omega)) (.inl flat_shLine)) ?_
          rintro v422 w423 ⟨ho424, hst425, hob426⟩ a427 ha427; clear ha420 a420
          have hx428 := hx421.stp hst425 (by intro q hq; have hq0 := hf369.lt q hq; omega)
          have hzhx428 := hst425.size
          replace hb394 := hb394.stp hst425 (by intro q hq; have hq0 := hf369.lt q hq; omega)
          replace ho417 := ho417.stp hst425 (by intro q hq; have hq0 := hf369.lt q hq; omega)
          have hsp429 : ∀ q, Value.ownBlock v422 = some q → q ≠ w367.heap.size := by intro q hq; have hq0 := hb394.lt; rcases hob426 with h | h; (rw [h] at hq; first | (have hq1 := hf369.lt q hq; omega)); (rw [h] at hq; cases hq; omega)
          have hsp430 : ∀ q, Value.ownBlock v422 = some q → Value.ownBlock v415 ≠ some q := by intro q hq hb; have hq0 := ho417.lt q hb; rcases hob426 with h | h; (rw [h] at hq; first | (have hq1 := hf369.lt q hq; omega)); (rw [h] at hq; cases hq; omega)
          refine wl_val ha427 rfl rfl rfl (op_assign ha427 rfl rfl) ?_
          intro a431 ha431; clear ha427 a427
          refine wpList_nil ?_
          refine block_n ?_
          refine then_n ?_
          refine wp_region_lit ?_
          refine wl_val ha431 rfl rfl rfl ((op_add ha431 rfl rfl rfl).int (IntWalk.i64_in _ (by omega))) ?_
          intro a432 ha432; clear ha431 a431
          refine wl_val ha432 rfl rfl rfl (op_move ha432 rfl rfl) ?_
          intro a433 ha433; clear ha432 a432
          refine wpList_nil ?_
          refine round_end (x := (i, p, v, acc)) ((i + 1), true, v422, (acc ++ [x374])) ?_ ?_
          ·
           refine ⟨(Sl.cons_ ha433 rfl rfl (Sl.cons_ ha433 rfl rfl (Sl.cons_ ha433 rfl rfl (Sl.cons_ ha433 rfl rfl (Sl.cons_ ha433 rfl rfl (Sl.cons_ ha433 rfl rfl (Sl.cons_ ha433 rfl rfl (Sl.cons_ ha433 rfl rfl (Sl.cons_ ha433 rfl (int_eq (by omega)) (Sl.nil_ ha433)))))))))), hx428, (ho424.fin (by omega) (by omega) (by omega)), (by omega), (by omega), (by first | omega | (simp; omega)), (by rw [c400, drop_cons hx374, st_no (.inl rfl)] at hF; rw [if_neg (by assumption)] at hF; rw [← hF]; simp)⟩
          ·show (x352.2.length - ((i + 1)) : Nat) < x352.2.length - i; omega
        ·
         rw [c400] at ha399
         refine wl_val ha399 rfl rfl rfl (op_move ha399 rfl rfl) ?_
         intro a434 ha434; clear ha399 a399
         refine wl_val ha434 rfl rfl rfl (op_fieldAddr (sz := 0) ha434 rfl Try.underlying83 rfl rfl ti9 rfl) ?_
         intro a435 ha435; clear ha434 a434
         refine wl_val ha435 rfl rfl rfl (op_loadF (off := 0) ha435 rfl Try.underlying9 rfl rfl hb394.cells rfl) ?_
         intro a436 ha436; clear ha435 a435
         refine wl_val ha436 rfl rfl rfl ((op_sleq ha436 rfl rfl rfl).to (congrArg Value.bool (str_leq _ _))) ?_
         intro a437 ha437; clear ha436 a436
         refine wl_val ha437 rfl rfl rfl (op_pick_t ha437 rfl rfl rfl) ?_
         intro a438 ha438; clear ha437 a437
         refine wpList_nil ?_
         refine then_n ?_
         by_cases c439 : x374.1 < key
         ·
          rw [decide_eq_true c439] at ha438
          refine cond_f ha438 rfl ?_
          refine wp_skip ?_
          refine then_n ?_
          refine wp_seq ?_
          refine wp_region_lit ?_
          refine wl_val ha438 rfl rfl rfl (op_fieldAddr (sz := 0) ha438 rfl Try.underlying83 rfl rfl ti9 rfl) ?_
          intro a440 ha440; clear ha438 a438
          refine wl_val ha440 rfl rfl rfl (op_loadF (off := 0) ha440 rfl Try.underlying9 rfl rfl hb394.cells rfl) ?_
          intro a441 ha441; clear ha440 a440
          refine wl_val ha441 rfl rfl rfl (op_move ha441 rfl rfl) ?_
          intro a442 ha442; clear ha441 a441
          refine wl_val ha442 rfl rfl rfl ((op_sneq ha442 rfl rfl rfl).to (congrArg Value.bool decide_not)) ?_
          intro a443 ha443; clear ha442 a442
          refine wpList_nil ?_
          refine then_n ?_
          by_cases c444 : x374.1 = key
          ·
           rw [decide_eq_true c444] at ha443
           refine cond_f ha443 rfl ?_
           refine wp_skip ?_
           refine block_n ?_
           refine then_n ?_
           refine wp_region_lit ?_
           refine wl_val ha443 rfl rfl rfl ((op_add ha443 rfl rfl rfl).int (IntWalk.i64_in _ (by omega))) ?_
           intro a445 ha445; clear ha443 a443
           refine wl_val ha445 rfl rfl rfl (op_move ha445 rfl rfl) ?_
           intro a446 ha446; clear ha445 a445
           refine wpList_nil ?_
           refine round_end (x := (i, p, v, acc)) ((i + 1), false, v, acc) ?_ ?_
           ·
            refine ⟨(Sl.cons_ ha446 rfl rfl (Sl.cons_ ha446 rfl rfl (Sl.cons_ ha446 rfl rfl (Sl.cons_ ha446 rfl rfl (Sl.cons_ ha446 rfl rfl (Sl.cons_ ha446 rfl rfl (Sl.cons_ ha446 rfl rfl (Sl.cons_ ha446 rfl rfl (Sl.cons_ ha446 rfl (int_eq (by omega)) (Sl.nil_ ha446)))))))))), hx396, (hf369.fin (by omega) (by omega) (by omega)), (by omega), (by omega), (by first | omega | (simp; omega)), (by rw [c400, drop_cons hx374, st_no (.inr (by assumption))] at hF; rw [if_pos (by assumption)] at hF; rw [← hF]; simp)⟩
           ·show (x352.2.length - ((i + 1)) : Nat) < x352.2.length - i; omega
          ·
           rw [decide_eq_false c444] at ha443
           refine cond_t ha443 rfl ?_
           refine wp_region_lit ?_
           refine wl_val ha443 rfl rfl rfl (op_move ha443 rfl rfl) ?_
           intro a447 ha447; clear ha443 a443
           refine wl_val ha447 rfl rfl rfl (op_loadS ha447 rfl Try.underlying83 ti83 rfl rfl hb394.cells) ?_
           intro a448 ha448; clear ha447 a447
           refine wl_eff ha448 rfl rfl rfl (op_buildSlice (s := shLine) (xs := [x374]) (cs := [St x374.1, .int .i64 x374.2]) (vs := [(0, .agg #[St x374.1, .int .i64 x374.2])]) (S := fun _ => False) (le := w392.heap.size) ha448 rfl pos_shLine Try.underlying34 ti83 rfl rfl (by decide) (by kernel_rfl) (Els.single (mk_shLine x374 (by first | assumption | omega | (simp only []; omega) | (simp; omega)) (by first | assumption | omega | (simp only []; omega) | (simp; omega)))) (fun _ h => h.elim)) ?_
           rintro v449 w450 ⟨ho451, he452, hob453⟩ a454 ha454; clear ha448 a448
           have hx455 := hx396.trans' he452
           have hzhx455 := he452.size
           replace hf369 := hf369.ext he452
           replace hb394 := hb394.ext he452
           refine wl_eff ha454 rfl rfl rfl (op_append (ts := #[]) (s := shLine) ha454 rfl Try.underlying34 ti83 rfl pos_shLine rfl rfl hf369 (ho451.rds pos_shLine) (by omega) (by omega) (by first | omega | (simp; omega)) (by first | omega | (simp; omega)) (.inl flat_shLine)) ?_
           rintro v456 w457 ⟨ho458, hst459, hob460⟩ a461 ha461; clear ha454 a454
           have hx462 := hx455.stp hst459 (by intro q hq; have hq0 := hf369.lt q hq; omega)
           have hzhx462 := hst459.size
           replace hb394 := hb394.stp hst459 (by intro q hq; have hq0 := hf369.lt q hq; omega)
           replace ho451 := ho451.stp hst459 (by intro q hq; have hq0 := hf369.lt q hq; omega)
           have hsp463 : ∀ q, Value.ownBlock v456 = some q → q ≠ w367.heap.size := by intro q hq; have hq0 := hb394.lt; rcases hob460 with h | h; (rw [h] at hq; first | (have hq1 := hf369.lt q hq; omega)); (rw [h] at hq; cases hq; omega)
           have hsp464 : ∀ q, Value.ownBlock v456 = some q → Value.ownBlock v449 ≠ some q := by intro q hq hb; have hq0 := ho451.lt q hb; rcases hob460 with h | h; (rw [h] at hq; first | (have hq1 := hf369.lt q hq; omega)); (rw [h] at hq; cases hq; omega)
           refine wl_val ha461 rfl rfl rfl (op_assign ha461 rfl rfl) ?_
           intro a465 ha465; clear ha461 a461
           refine wpList_nil ?_
           refine block_n ?_
           refine then_n ?_
           refine wp_region_lit ?_
           refine wl_val ha465 rfl rfl rfl ((op_add ha465 rfl rfl rfl).int (IntWalk.i64_in _ (by omega))) ?_
           intro a466 ha466; clear ha465 a465
           refine wl_val ha466 rfl rfl rfl (op_move ha466 rfl rfl) ?_
           intro a467 ha467; clear ha466 a466
           refine wpList_nil ?_
           refine round_end (x := (i, p, v, acc)) ((i + 1), false, v456, (acc ++ [x374])) ?_ ?_
           ·
            refine ⟨(Sl.cons_ ha467 rfl rfl (Sl.cons_ ha467 rfl rfl (Sl.cons_ ha467 rfl rfl (Sl.cons_ ha467 rfl rfl (Sl.cons_ ha467 rfl rfl (Sl.cons_ ha467 rfl rfl (Sl.cons_ ha467 rfl rfl (Sl.cons_ ha467 rfl rfl (Sl.cons_ ha467 rfl (int_eq (by omega)) (Sl.nil_ ha467)))))))))), hx462, (ho458.fin (by omega) (by omega) (by omega)), (by omega), (by omega), (by first | omega | (simp; omega)), (by rw [c400, drop_cons hx374, st_no (.inr (by assumption))] at hF; rw [if_neg (by assumption)] at hF; rw [← hF]; simp)⟩
           ·show (x352.2.length - ((i + 1)) : Nat) < x352.2.length - i; omega
         ·
          rw [decide_eq_false c439] at ha438
          refine cond_t ha438 rfl ?_
          refine wp_seq ?_
          refine wp_region_lit ?_
          refine wl_val ha438 rfl rfl rfl (op_move ha438 rfl rfl) ?_
          intro a468 ha468; clear ha438 a438
          refine wl_val ha468 rfl rfl rfl (op_move ha468 rfl rfl) ?_
          intro a469 ha469; clear ha468 a468
          refine wl_val ha469 rfl rfl rfl (op_move ha469 rfl rfl) ?_
          intro a470 ha470; clear ha469 a469
          refine wl_val ha470 rfl rfl rfl (op_build (vs := [(0, St key), (1, .int .i64 value)]) (cs := #[St key, .int .i64 value]) ha470 rfl Try.underlying83 ti83 bp83 rfl rfl) ?_
          intro a471 ha471; clear ha470 a470
          refine wl_eff ha471 rfl rfl rfl (op_buildSlice (s := shLine) (xs := [(key, value)]) (cs := [St key, .int .i64 value]) (vs := [(0, .agg #[St key, .int .i64 value])]) (S := fun _ => False) (le := w392.heap.size) ha471 rfl pos_shLine Try.underlying34 ti83 rfl rfl (by decide) (by kernel_rfl) (Els.single (mk_shLine ((key, value)) (by first | assumption | omega | (simp only []; omega) | (simp; omega)) (by first | assumption | omega | (simp only []; omega) | (simp; omega)))) (fun _ h => h.elim)) ?_
          rintro v472 w473 ⟨ho474, he475, hob476⟩ a477 ha477; clear ha471 a471
          have hx478 := hx396.trans' he475
          have hzhx478 := he475.size
          replace hf369 := hf369.ext he475
          replace hb394 := hb394.ext he475
          refine wl_eff ha477 rfl rfl rfl (op_append (ts := #[]) (s := shLine) ha477 rfl Try.underlying34 ti83 rfl pos_shLine rfl rfl hf369 (ho474.rds pos_shLine) (by omega) (by omega) (by first | omega | (simp; omega)) (by first | omega | (simp; omega)) (.inl flat_shLine)) ?_
          rintro v479 w480 ⟨ho481, hst482, hob483⟩ a484 ha484; clear ha477 a477
          have hx485 := hx478.stp hst482 (by intro q hq; have hq0 := hf369.lt q hq; omega)
          have hzhx485 := hst482.size
          replace hb394 := hb394.stp hst482 (by intro q hq; have hq0 := hf369.lt q hq; omega)
          replace ho474 := ho474.stp hst482 (by intro q hq; have hq0 := hf369.lt q hq; omega)
          have hsp486 : ∀ q, Value.ownBlock v479 = some q → q ≠ w367.heap.size := by intro q hq; have hq0 := hb394.lt; rcases hob483 with h | h; (rw [h] at hq; first | (have hq1 := hf369.lt q hq; omega)); (rw [h] at hq; cases hq; omega)
          have hsp487 : ∀ q, Value.ownBlock v479 = some q → Value.ownBlock v472 ≠ some q := by intro q hq hb; have hq0 := ho474.lt q hb; rcases hob483 with h | h; (rw [h] at hq; first | (have hq1 := hf369.lt q hq; omega)); (rw [h] at hq; cases hq; omega)
          refine wl_val ha484 rfl rfl rfl (op_assign ha484 rfl rfl) ?_
          intro a488 ha488; clear ha484 a484
          refine wpList_nil ?_
          refine then_n ?_
          refine wp_region_lit ?_
          refine wl_val ha488 rfl rfl rfl (op_assign ha488 rfl rfl) ?_
          intro a489 ha489; clear ha488 a488
          refine wpList_nil ?_
          refine then_n ?_
          refine wp_seq ?_
          refine wp_region_lit ?_
          refine wl_val ha489 rfl rfl rfl (op_fieldAddr (sz := 0) ha489 rfl Try.underlying83 rfl rfl ti9 rfl) ?_
          intro a490 ha490; clear ha489 a489
          refine wl_val ha490 rfl rfl rfl (op_loadF (off := 0) ha490 rfl Try.underlying9 rfl rfl hb394.cells rfl) ?_
          intro a491 ha491; clear ha490 a490
          refine wl_val ha491 rfl rfl rfl (op_move ha491 rfl rfl) ?_
          intro a492 ha492; clear ha491 a491
          refine wl_val ha492 rfl rfl rfl ((op_sneq ha492 rfl rfl rfl).to (congrArg Value.bool decide_not)) ?_
          intro a493 ha493; clear ha492 a492
          refine wpList_nil ?_
          refine then_n ?_
          by_cases c494 : x374.1 = key
          ·
           rw [decide_eq_true c494] at ha493
           refine cond_f ha493 rfl ?_
           refine wp_skip ?_
           refine block_n ?_
           refine then_n ?_
           refine wp_region_lit ?_
           refine wl_val ha493 rfl rfl rfl ((op_add ha493 rfl rfl rfl).int (IntWalk.i64_in _ (by omega))) ?_
           intro a495 ha495; clear ha493 a493
           refine wl_val ha495 rfl rfl rfl (op_move ha495 rfl rfl) ?_
           intro a496 ha496; clear ha495 a495
           refine wpList_nil ?_
           refine round_end (x := (i, p, v, acc)) ((i + 1), true, v479, (acc ++ [(key, value)])) ?_ ?_
           ·
            refine ⟨(Sl.cons_ ha496 rfl rfl (Sl.cons_ ha496 rfl rfl (Sl.cons_ ha496 rfl rfl (Sl.cons_ ha496 rfl rfl (Sl.cons_ ha496 rfl rfl (Sl.cons_ ha496 rfl rfl (Sl.cons_ ha496 rfl rfl (Sl.cons_ ha496 rfl rfl (Sl.cons_ ha496 rfl (int_eq (by omega)) (Sl.nil_ ha496)))))))))), hx485, (ho481.fin (by omega) (by omega) (by omega)), (by omega), (by omega), (by first | omega | (simp; omega)), (by rw [c400, drop_cons hx374, st_put (by assumption)] at hF; rw [if_pos (by assumption)] at hF; rw [← hF]; simp)⟩
           ·show (x352.2.length - ((i + 1)) : Nat) < x352.2.length - i; omega
          ·
           rw [decide_eq_false c494] at ha493
           refine cond_t ha493 rfl ?_
           refine wp_region_lit ?_
           refine wl_val ha493 rfl rfl rfl (op_move ha493 rfl rfl) ?_
           intro a497 ha497; clear ha493 a493
           refine wl_val ha497 rfl rfl rfl (op_loadS ha497 rfl Try.underlying83 ti83 rfl rfl hb394.cells) ?_
           intro a498 ha498; clear ha497 a497
           refine wl_eff ha498 rfl rfl rfl (op_buildSlice (s := shLine) (xs := [x374]) (cs := [St x374.1, .int .i64 x374.2]) (vs := [(0, .agg #[St x374.1, .int .i64 x374.2])]) (S := fun _ => False) (le := w480.heap.size) ha498 rfl pos_shLine Try.underlying34 ti83 rfl rfl (by decide) (by kernel_rfl) (Els.single (mk_shLine x374 (by first | assumption | omega | (simp only []; omega) | (simp; omega)) (by first | assumption | omega | (simp only []; omega) | (simp; omega)))) (fun _ h => h.elim)) ?_
           rintro v499 w500 ⟨ho501, he502, hob503⟩ a504 ha504; clear ha498 a498
           have hx505 := hx485.trans' he502
           have hzhx505 := he502.size
           replace hb394 := hb394.ext he502
           replace ho474 := ho474.ext he502
           replace ho481 := ho481.ext he502
           refine wl_eff ha504 rfl rfl rfl (op_append (ts := #[]) (s := shLine) ha504 rfl Try.underlying34 ti83 rfl pos_shLine rfl rfl ho481 (ho501.rds pos_shLine) (by omega) (by omega) (by first | omega | (simp; omega)) (by first | omega | (simp; omega)) (.inl flat_shLine)) ?_
           rintro v506 w507 ⟨ho508, hst509, hob510⟩ a511 ha511; clear ha504 a504
           have hx512 := hx505.stp hst509 (by intro q hq; have hq0 := ho481.lt q hq; omega)
           have hzhx512 := hst509.size
           first | replace hb394 := hb394.stp hst509 (by intro q hq; have hq0 := ho481.lt q hq; omega) | replace hb394 := hb394.stp hst509 (fun q hq e => hsp486 q hq e.symm)
           first | replace ho474 := ho474.stp hst509 (by intro q hq; have hq0 := ho481.lt q hq; omega) | replace ho474 := ho474.stpF flat_shLine hst509 (fun q hq => hsp487 q hq)
           replace ho501 := ho501.stp hst509 (by intro q hq; have hq0 := ho481.lt q hq; omega)
           have hsp513 : ∀ q, Value.ownBlock v506 = some q → q ≠ w367.heap.size := by intro q hq; have hq0 := hb394.lt; rcases hob510 with h | h; (rw [h] at hq; first | (have hq1 := ho481.lt q hq; omega) | exact hsp486 q hq); (rw [h] at hq; cases hq; omega)
           have hsp514 : ∀ q, Value.ownBlock v506 = some q → Value.ownBlock v472 ≠ some q := by intro q hq hb; have hq0 := ho474.lt q hb; rcases hob510 with h | h; (rw [h] at hq; first | (have hq1 := ho481.lt q hq; omega) | exact hsp487 q hq hb); (rw [h] at hq; cases hq; omega)
           have hsp515 : ∀ q, Value.ownBlock v506 = some q → Value.ownBlock v499 ≠ some q := by intro q hq hb; have hq0 := ho501.lt q hb; rcases hob510 with h | h; (rw [h] at hq; first | (have hq1 := ho481.lt q hq; omega)); (rw [h] at hq; cases hq; omega)
           refine wl_val ha511 rfl rfl rfl (op_assign ha511 rfl rfl) ?_
           intro a516 ha516; clear ha511 a511
           refine wpList_nil ?_
           refine block_n ?_
           refine then_n ?_
           refine wp_region_lit ?_
           refine wl_val ha516 rfl rfl rfl ((op_add ha516 rfl rfl rfl).int (IntWalk.i64_in _ (by omega))) ?_
           intro a517 ha517; clear ha516 a516
           refine wl_val ha517 rfl rfl rfl (op_move ha517 rfl rfl) ?_
           intro a518 ha518; clear ha517 a517
           refine wpList_nil ?_
           refine round_end (x := (i, p, v, acc)) ((i + 1), true, v506, ((acc ++ [(key, value)]) ++ [x374])) ?_ ?_
           ·
            refine ⟨(Sl.cons_ ha518 rfl rfl (Sl.cons_ ha518 rfl rfl (Sl.cons_ ha518 rfl rfl (Sl.cons_ ha518 rfl rfl (Sl.cons_ ha518 rfl rfl (Sl.cons_ ha518 rfl rfl (Sl.cons_ ha518 rfl rfl (Sl.cons_ ha518 rfl rfl (Sl.cons_ ha518 rfl (int_eq (by omega)) (Sl.nil_ ha518)))))))))), hx512, (ho508.fin (by omega) (by omega) (by omega)), (by omega), (by omega), (by first | omega | (simp; omega)), (by rw [c400, drop_cons hx374, st_put (by assumption)] at hF; rw [if_neg (by assumption)] at hF; rw [← hF]; simp)⟩
           ·show (x352.2.length - ((i + 1)) : Nat) < x352.2.length - i; omega
       ·
        rw [decide_eq_false c373] at ha372
        refine cond_f ha372 rfl ?_
        refine wp_exit ?_
        refine then_e ?_
        refine then_e ?_
        refine block_hit ?_
        refine then_n ?_
        refine wp_seq ?_
        refine wp_seq ?_
        refine wp_region_lit ?_
        refine wl_val ha372 rfl rfl rfl (op_move ha372 rfl rfl) ?_
        intro a519 ha519; clear ha372 a372
        refine wl_val ha519 rfl rfl rfl (op_not ha519 rfl rfl) ?_
        intro a520 ha520; clear ha519 a519
        refine wpList_nil ?_
        refine then_n ?_
        rcases Bool.eq_false_or_eq_true (p) with c521 | c521
        ·
         rw [c521] at ha520
         refine cond_f ha520 rfl ?_
         refine wp_skip ?_
         refine then_n ?_
         refine wp_seq ?_
         refine wp_seq ?_
         refine wp_region_lit ?_
         refine wl_val ha520 rfl rfl rfl (op_move ha520 rfl rfl) ?_
         intro a522 ha522; clear ha520 a520
         refine wl_val ha522 rfl rfl rfl (op_len_sl ha522 rfl Try.underlying27 rfl h_list) ?_
         intro a523 ha523; clear ha522 a522
         refine wl_val ha523 rfl rfl rfl (op_eql ha523 rfl rfl rfl) ?_
         intro a524 ha524; clear ha523 a523
         refine wl_val ha524 rfl rfl rfl (op_move ha524 rfl rfl) ?_
         intro a525 ha525; clear ha524 a524
         by_cases c526 : ((list.length : Nat) : Int) = (20 : Int)
         ·
          rw [decide_eq_true c526] at ha525
          refine wl_skip ha525 rfl rfl rfl ?_
          intro a527 ha527; clear ha525 a525
          refine wl_skip ha527 rfl rfl rfl ?_
          intro a528 ha528; clear ha527 a527
          refine wl_skip ha528 rfl rfl rfl ?_
          intro a529 ha529; clear ha528 a528
          refine wl_val ha529 rfl rfl rfl (op_pick_t ha529 rfl rfl rfl) ?_
          intro a530 ha530; clear ha529 a529
          refine wpList_nil ?_
          refine then_n ?_
          refine cond_t ha530 rfl ?_
          refine wp_seq ?_
          refine wp_region_lit ?_
          refine wl_val ha530 rfl rfl rfl (op_assign ha530 rfl rfl) ?_
          intro a531 ha531; clear ha530 a530
          refine wl_val ha531 rfl rfl rfl (op_assign ha531 rfl rfl) ?_
          intro a532 ha532; clear ha531 a531
          refine wpList_nil ?_
          refine then_n ?_
          refine wp_ret ?_
          refine then_r ?_
          refine ret2 ha532 rfl rfl rfl ?_
          clear ha532 a532
          have hst := stL_sh (k := key) (v := value) hshx352 (by assumption) (by first | assumption | omega | simp_all)
          rw [← hlex352] at hst
          rw [c521, drop_nil (by omega), stG] at hF
          rw [if_pos rfl, List.append_nil] at hF
          have hln := congrArg List.length hF
          rw [← hlex352] at hF hln
          have hr : sdC list version key value = (3 : Int) := (by unfold sdC; first | (simp_all [cdV]; done) | (simp_all [cdV]; omega) | (simp [c11, c20, c30, c34, c345, c526]; done) | (simp [cdV, c11, c20, c30, c34, c345, c526]; done))
          refine ret_mk hx368 ⟨(.slice none 0 0), [], (tup2_eq rfl (int_eq (by first | exact hr.symm | omega))), Own.nil _ _ _ _ _ _, Nst.nil _ _ _ _ _ _, ?_⟩
          ·
           unfold sdL; first | (rw [if_neg (show ¬ sdC list version key value = 0 by rw [hr]; first | decide | assumption)]; done) | (rw [if_neg (show ¬ sdC list version key value = 0 by rw [hr]; first | decide | assumption)]; rfl) | (rw [if_pos hr, hlex352]; done) | (rw [if_pos hr, hlex352]; assumption)
         ·
          rw [decide_eq_false c526] at ha525
          refine wl_val ha525 rfl rfl rfl (op_move ha525 rfl rfl) ?_
          intro a533 ha533; clear ha525 a525
          refine wl_val ha533 rfl rfl rfl (op_len_sl ha533 rfl Try.underlying34 rfl (hf369.rds pos_shLine)) ?_
          intro a534 ha534; clear ha533 a533
          refine wl_val ha534 rfl rfl rfl (op_gtr ha534 rfl rfl rfl) ?_
          intro a535 ha535; clear ha534 a534
          refine wl_val ha535 rfl rfl rfl (op_pick_f ha535 rfl rfl rfl) ?_
          intro a536 ha536; clear ha535 a535
          refine wpList_nil ?_
          refine then_n ?_
          by_cases c537 : (8 : Int) < ((acc.length : Nat) : Int)
          ·
           rw [decide_eq_true c537] at ha536
           refine cond_t ha536 rfl ?_
           refine wp_seq ?_
           refine wp_region_lit ?_
           refine wl_val ha536 rfl rfl rfl (op_assign ha536 rfl rfl) ?_
           intro a538 ha538; clear ha536 a536
           refine wl_val ha538 rfl rfl rfl (op_assign ha538 rfl rfl) ?_
           intro a539 ha539; clear ha538 a538
           refine wpList_nil ?_
           refine then_n ?_
           refine wp_ret ?_
           refine then_r ?_
           refine ret2 ha539 rfl rfl rfl ?_
           clear ha539 a539
           have hst := stL_sh (k := key) (v := value) hshx352 (by assumption) (by first | assumption | omega | simp_all)
           rw [← hlex352] at hst
           rw [c521, drop_nil (by omega), stG] at hF
           rw [if_pos rfl, List.append_nil] at hF
           have hln := congrArg List.length hF
           rw [← hlex352] at hF hln
           have hr : sdC list version key value = (3 : Int) := (by unfold sdC; first | (simp_all [cdV]; done) | (simp_all [cdV]; omega) | (simp [c11, c20, c30, c34, c345, c526]; done) | (simp [cdV, c11, c20, c30, c34, c345, c526]; done))
           refine ret_mk hx368 ⟨(.slice none 0 0), [], (tup2_eq rfl (int_eq (by first | exact hr.symm | omega))), Own.nil _ _ _ _ _ _, Nst.nil _ _ _ _ _ _, ?_⟩
           ·
            unfold sdL; first | (rw [if_neg (show ¬ sdC list version key value = 0 by rw [hr]; first | decide | assumption)]; done) | (rw [if_neg (show ¬ sdC list version key value = 0 by rw [hr]; first | decide | assumption)]; rfl) | (rw [if_pos hr, hlex352]; done) | (rw [if_pos hr, hlex352]; assumption)
          ·
           rw [decide_eq_false c537] at ha536
           refine cond_f ha536 rfl ?_
           refine wp_skip ?_
           refine then_n ?_
           refine wp_seq ?_
           refine wp_region_lit ?_
           refine wl_val ha536 rfl rfl rfl (op_move ha536 rfl rfl) ?_
           intro a540 ha540; clear ha536 a536
           refine wl_callR ha540 rfl rfl rfl (op_call ha540 rfl cb69 rfl) (c_impl_copyVersions _ v_list list (h_list.ext pos_shVer hx368) (by first | assumption | omega | (simp; omega)) (by intro c hc; obtain ⟨j9, hj9⟩ := List.getElem?_of_mem hc; exact Nat.le_trans (shB_len (veB_at hv1 hj9).1) (by decide))) ?_
           rintro v541 w542 he543 ⟨z545, ho544, hN546, hE547⟩ a548 ha548; clear ha540 a540
           have hx549 := hx368.trans' he543
           have hzhx549 := he543.size
           replace hf369 := hf369.ext he543
           have hlhE547 := absLen hE547
           refine wl_val ha548 rfl rfl rfl (op_move ha548 rfl rfl) ?_
           intro a550 ha550; clear ha548 a548
           refine wl_val ha550 rfl rfl rfl (op_move ha550 rfl rfl) ?_
           intro a551 ha551; clear ha550 a550
           refine wl_val ha551 rfl rfl rfl (op_build (vs := [(0, .int .i64 version), (1, v)]) (cs := #[.int .i64 version, v]) ha551 rfl Try.underlying56 ti56 bp56 rfl ((fill_one rfl rfl rfl).trans ((fill_one hf369.cells1 rfl rfl).trans rfl))) ?_
           intro a552 ha552; clear ha551 a551
           refine wl_eff ha552 rfl rfl rfl (op_buildSlice (s := shVerN) (xs := [(((version, acc) : Int × List (Str × Int)), (v : Value))]) (cs := [.int .i64 version, v]) (vs := [(0, .agg #[.int .i64 version, v])]) (S := fun _ => False) (le := w542.heap.size) ha552 rfl pos_shVerN Try.underlying27 ti56 rfl rfl (by decide) (by kernel_rfl) (Els.single (mk_shVerN ((((version, acc) : Int × List (Str × Int)), (v : Value))) (by first | assumption | omega | (simp only []; omega) | (simp; omega)) hf369.one)) (fun _ h => h.elim)) ?_
           rintro v553 w554 ⟨ho555, he556, hob557⟩ a558 ha558; clear ha552 a552
           have hx559 := hx549.trans' he556
           have hzhx559 := he556.size
           replace hf369 := hf369.ext he556
           replace ho544 := ho544.ext he556
           replace hN546 := hN546.ext he556
           have hN560 : Nst shLine 83 (fun x : Int × List (Str × Int) => x.2) w338.heap.size w367.heap.size w554 ([(((version, acc) : Int × List (Str × Int)), (v : Value))]) := Nst.one (hf369.fin (by omega) (by omega) (by omega))
           refine wl_eff ha558 rfl rfl rfl (op_append (ts := #[]) (s := shVerN) ha558 rfl Try.underlying27 ti56 rfl pos_shVerN rfl rfl ho544 (ho555.rds pos_shVerN) (by omega) (by omega) (by first | omega | (simp; omega)) (by first | omega | (simp; omega)) (.inl flat_shVerN)) ?_
           rintro v561 w562 ⟨ho563, hst564, hob565⟩ a566 ha566; clear ha558 a558
           have hx567 := hx559.stp hst564 (by intro q hq; have hq0 := ho544.lt q hq; omega)
           have hzhx567 := hst564.size
           replace hf369 := hf369.stp hst564 (by intro q hq; have hq0 := ho544.lt q hq; omega)
           first | replace hN546 := hN546.stpF flat_shLine hst564 ho544 rfl | replace hN546 := hN546.stp hst564 (by intro q hq; have hq0 := ho544.lt q hq; omega)
           replace ho555 := ho555.stp hst564 (by intro q hq; have hq0 := ho544.lt q hq; omega)
           replace hN560 := hN560.stp hst564 (by intro q hq; have hq0 := ho544.lt q hq; omega)
           have hsp568 : ∀ q, Value.ownBlock v561 = some q → Value.ownBlock v553 ≠ some q := by intro q hq hb; have hq0 := ho555.lt q hb; rcases hob565 with h | h; (rw [h] at hq; first | (have hq1 := ho544.lt q hq; omega)); (rw [h] at hq; cases hq; omega)
           have hN569 : Nst shLine 83 (fun x : Int × List (Str × Int) => x.2) w338.heap.size w562.heap.size w562 ((z545 ++ [(((version, acc) : Int × List (Str × Int)), (v : Value))])) := (hN546.appL hN560 (by omega) (by omega) (by omega)).fin (by omega) (by omega)
           refine wl_val ha566 rfl rfl rfl (op_assign ha566 rfl rfl) ?_
           intro a570 ha570; clear ha566 a566
           refine wl_val ha570 rfl rfl rfl (op_assign ha570 rfl rfl) ?_
           intro a571 ha571; clear ha570 a570
           refine wpList_nil ?_
           refine then_n ?_
           refine wp_ret ?_
           refine ret2 ha571 rfl rfl rfl ?_
           clear ha571 a571
           have hst := stL_sh (k := key) (v := value) hshx352 (by assumption) (by first | assumption | omega | simp_all)
           rw [← hlex352] at hst
           rw [c521, drop_nil (by omega), stG] at hF
           rw [if_pos rfl, List.append_nil] at hF
           have hln := congrArg List.length hF
           rw [← hlex352] at hF hln
           have hr : sdC list version key value = (0 : Int) := (by unfold sdC; first | (simp_all [cdV]; done) | (simp_all [cdV]; omega) | (simp [c11, c20, c30, c34, c345, c526]; done) | (simp [cdV, c11, c20, c30, c34, c345, c526]; done))
           refine ret_mk hx567 ⟨v561, (z545 ++ [(((version, acc) : Int × List (Str × Int)), (v : Value))]), (tup2_eq rfl (int_eq (by first | exact hr.symm | omega))), ho563.fin (by omega) (by omega) (by omega), hN569.fin (by omega) (by omega), ?_⟩
           ·
            unfold sdL; first | (rw [if_neg (show ¬ sdC list version key value = 0 by rw [hr]; first | decide | assumption)]; done) | (rw [if_neg (show ¬ sdC list version key value = 0 by rw [hr]; first | decide | assumption)]; rfl) | (rw [if_pos hr, hlex352]; done) | (rw [if_pos hr, hlex352]; assumption) | (rw [if_pos hr, ← hF, List.map_append, hE547]; rfl)
        ·
         rw [c521] at ha520
         refine cond_t ha520 rfl ?_
         refine wp_region_lit ?_
         refine wl_val ha520 rfl rfl rfl (op_move ha520 rfl rfl) ?_
         intro a572 ha572; clear ha520 a520
         refine wl_val ha572 rfl rfl rfl (op_move ha572 rfl rfl) ?_
         intro a573 ha573; clear ha572 a572
         refine wl_val ha573 rfl rfl rfl (op_move ha573 rfl rfl) ?_
         intro a574 ha574; clear ha573 a573
         refine wl_val ha574 rfl rfl rfl (op_build (vs := [(0, St key), (1, .int .i64 value)]) (cs := #[St key, .int .i64 value]) ha574 rfl Try.underlying83 ti83 bp83 rfl rfl) ?_
         intro a575 ha575; clear ha574 a574
         refine wl_eff ha575 rfl rfl rfl (op_buildSlice (s := shLine) (xs := [(key, value)]) (cs := [St key, .int .i64 value]) (vs := [(0, .agg #[St key, .int .i64 value])]) (S := fun _ => False) (le := w367.heap.size) ha575 rfl pos_shLine Try.underlying34 ti83 rfl rfl (by decide) (by kernel_rfl) (Els.single (mk_shLine ((key, value)) (by first | assumption | omega | (simp only []; omega) | (simp; omega)) (by first | assumption | omega | (simp only []; omega) | (simp; omega)))) (fun _ h => h.elim)) ?_
         rintro v576 w577 ⟨ho578, he579, hob580⟩ a581 ha581; clear ha575 a575
         have hx582 := hx368.trans' he579
         have hzhx582 := he579.size
         replace hf369 := hf369.ext he579
         refine wl_eff ha581 rfl rfl rfl (op_append (ts := #[]) (s := shLine) ha581 rfl Try.underlying34 ti83 rfl pos_shLine rfl rfl hf369 (ho578.rds pos_shLine) (by omega) (by omega) (by first | omega | (simp; omega)) (by first | omega | (simp; omega)) (.inl flat_shLine)) ?_
         rintro v583 w584 ⟨ho585, hst586, hob587⟩ a588 ha588; clear ha581 a581
         have hx589 := hx582.stp hst586 (by intro q hq; have hq0 := hf369.lt q hq; omega)
         have hzhx589 := hst586.size
         replace ho578 := ho578.stp hst586 (by intro q hq; have hq0 := hf369.lt q hq; omega)
         have hsp590 : ∀ q, Value.ownBlock v583 = some q → Value.ownBlock v576 ≠ some q := by intro q hq hb; have hq0 := ho578.lt q hb; rcases hob587 with h | h; (rw [h] at hq; first | (have hq1 := hf369.lt q hq; omega)); (rw [h] at hq; cases hq; omega)
         refine wl_val ha588 rfl rfl rfl (op_assign ha588 rfl rfl) ?_
         intro a591 ha591; clear ha588 a588
         refine wpList_nil ?_
         refine then_n ?_
         refine wp_seq ?_
         refine wp_seq ?_
         refine wp_region_lit ?_
         refine wl_val ha591 rfl rfl rfl (op_move ha591 rfl rfl) ?_
         intro a592 ha592; clear ha591 a591
         refine wl_val ha592 rfl rfl rfl (op_len_sl ha592 rfl Try.underlying27 rfl h_list) ?_
         intro a593 ha593; clear ha592 a592
         refine wl_val ha593 rfl rfl rfl (op_eql ha593 rfl rfl rfl) ?_
         intro a594 ha594; clear ha593 a593
         refine wl_val ha594 rfl rfl rfl (op_move ha594 rfl rfl) ?_
         intro a595 ha595; clear ha594 a594
         by_cases c596 : ((list.length : Nat) : Int) = (20 : Int)
         ·
          rw [decide_eq_true c596] at ha595
          refine wl_skip ha595 rfl rfl rfl ?_
          intro a597 ha597; clear ha595 a595
          refine wl_skip ha597 rfl rfl rfl ?_
          intro a598 ha598; clear ha597 a597
          refine wl_skip ha598 rfl rfl rfl ?_
          intro a599 ha599; clear ha598 a598
          refine wl_val ha599 rfl rfl rfl (op_pick_t ha599 rfl rfl rfl) ?_
          intro a600 ha600; clear ha599 a599
          refine wpList_nil ?_
          refine then_n ?_
          refine cond_t ha600 rfl ?_
          refine wp_seq ?_
          refine wp_region_lit ?_
          refine wl_val ha600 rfl rfl rfl (op_assign ha600 rfl rfl) ?_
          intro a601 ha601; clear ha600 a600
          refine wl_val ha601 rfl rfl rfl (op_assign ha601 rfl rfl) ?_
          intro a602 ha602; clear ha601 a601
          refine wpList_nil ?_
          refine then_n ?_
          refine wp_ret ?_
          refine then_r ?_
          refine ret2 ha602 rfl rfl rfl ?_
          clear ha602 a602
          have hst := stL_sh (k := key) (v := value) hshx352 (by assumption) (by first | assumption | omega | simp_all)
          rw [← hlex352] at hst
          rw [c521, drop_nil (by omega), stG] at hF
          rw [if_neg (by decide)] at hF
          have hln := congrArg List.length hF
          rw [← hlex352] at hF hln
          rw [List.length_append, List.length_singleton] at hln
          have hr : sdC list version key value = (3 : Int) := (by unfold sdC; first | (simp_all [cdV]; done) | (simp_all [cdV]; omega) | (simp [c11, c20, c30, c34, c345, c596]; done) | (simp [cdV, c11, c20, c30, c34, c345, c596]; done))
          refine ret_mk hx589 ⟨(.slice none 0 0), [], (tup2_eq rfl (int_eq (by first | exact hr.symm | omega))), Own.nil _ _ _ _ _ _, Nst.nil _ _ _ _ _ _, ?_⟩
          ·
           unfold sdL; first | (rw [if_neg (show ¬ sdC list version key value = 0 by rw [hr]; first | decide | assumption)]; done) | (rw [if_neg (show ¬ sdC list version key value = 0 by rw [hr]; first | decide | assumption)]; rfl) | (rw [if_pos hr, hlex352]; done) | (rw [if_pos hr, hlex352]; assumption)
         ·
          rw [decide_eq_false c596] at ha595
          refine wl_val ha595 rfl rfl rfl (op_move ha595 rfl rfl) ?_
          intro a603 ha603; clear ha595 a595
          refine wl_val ha603 rfl rfl rfl (op_len_sl ha603 rfl Try.underlying34 rfl (ho585.rds pos_shLine)) ?_
          intro a604 ha604; clear ha603 a603
          refine wl_val ha604 rfl rfl rfl (op_gtr ha604 rfl rfl rfl) ?_
          intro a605 ha605; clear ha604 a604
          refine wl_val ha605 rfl rfl rfl (op_pick_f ha605 rfl rfl rfl) ?_
          intro a606 ha606; clear ha605 a605
          refine wpList_nil ?_
          refine then_n ?_
          by_cases c607 : (8 : Int) < ((((acc ++ [(key, value)])).length : Nat) : Int)
          ·
           rw [decide_eq_true c607] at ha606
           refine cond_t ha606 rfl ?_
           refine wp_seq ?_
           refine wp_region_lit ?_
           refine wl_val ha606 rfl rfl rfl (op_assign ha606 rfl rfl) ?_
           intro a608 ha608; clear ha606 a606
           refine wl_val ha608 rfl rfl rfl (op_assign ha608 rfl rfl) ?_
           intro a609 ha609; clear ha608 a608
           refine wpList_nil ?_
           refine then_n ?_
           refine wp_ret ?_
           refine then_r ?_
           refine ret2 ha609 rfl rfl rfl ?_
           clear ha609 a609
           have hst := stL_sh (k := key) (v := value) hshx352 (by assumption) (by first | assumption | omega | simp_all)
           rw [← hlex352] at hst
           rw [c521, drop_nil (by omega), stG] at hF
           rw [if_neg (by decide)] at hF
           have hln := congrArg List.length hF
           rw [← hlex352] at hF hln
           rw [List.length_append, List.length_singleton] at hln
           have hr : sdC list version key value = (3 : Int) := (by unfold sdC; first | (simp_all [cdV]; done) | (simp_all [cdV]; omega) | (simp [c11, c20, c30, c34, c345, c596]; done) | (simp [cdV, c11, c20, c30, c34, c345, c596]; done))
           refine ret_mk hx589 ⟨(.slice none 0 0), [], (tup2_eq rfl (int_eq (by first | exact hr.symm | omega))), Own.nil _ _ _ _ _ _, Nst.nil _ _ _ _ _ _, ?_⟩
           ·
            unfold sdL; first | (rw [if_neg (show ¬ sdC list version key value = 0 by rw [hr]; first | decide | assumption)]; done) | (rw [if_neg (show ¬ sdC list version key value = 0 by rw [hr]; first | decide | assumption)]; rfl) | (rw [if_pos hr, hlex352]; done) | (rw [if_pos hr, hlex352]; assumption)
          ·
           rw [decide_eq_false c607] at ha606
           refine cond_f ha606 rfl ?_
           refine wp_skip ?_
           refine then_n ?_
           refine wp_seq ?_
           refine wp_region_lit ?_
           refine wl_val ha606 rfl rfl rfl (op_move ha606 rfl rfl) ?_
           intro a610 ha610; clear ha606 a606
           refine wl_callR ha610 rfl rfl rfl (op_call ha610 rfl cb69 rfl) (c_impl_copyVersions _ v_list list (h_list.ext pos_shVer hx589) (by first | assumption | omega | (simp; omega)) (by intro c hc; obtain ⟨j9, hj9⟩ := List.getElem?_of_mem hc; exact Nat.le_trans (shB_len (veB_at hv1 hj9).1) (by decide))) ?_
           rintro v611 w612 he613 ⟨z615, ho614, hN616, hE617⟩ a618 ha618; clear ha610 a610
           have hx619 := hx589.trans' he613
           have hzhx619 := he613.size
           replace ho578 := ho578.ext he613
           replace ho585 := ho585.ext he613
           have hlhE617 := absLen hE617
           refine wl_val ha618 rfl rfl rfl (op_move ha618 rfl rfl) ?_
           intro a620 ha620; clear ha618 a618
           refine wl_val ha620 rfl rfl rfl (op_move ha620 rfl rfl) ?_
           intro a621 ha621; clear ha620 a620
           refine wl_val ha621 rfl rfl rfl (op_build (vs := [(0, .int .i64 version), (1, v583)]) (cs := #[.int .i64 version, v583]) ha621 rfl Try.underlying56 ti56 bp56 rfl ((fill_one rfl rfl rfl).trans ((fill_one ho585.cells1 rfl rfl).trans rfl))) ?_
           intro a622 ha622; clear ha621 a621
           refine wl_eff ha622 rfl rfl rfl (op_buildSlice (s := shVerN) (xs := [(((version, (acc ++ [(key, value)])) : Int × List (Str × Int)), (v583 : Value))]) (cs := [.int .i64 version, v583]) (vs := [(0, .agg #[.int .i64 version, v583])]) (S := fun _ => False) (le := w612.heap.size) ha622 rfl pos_shVerN Try.underlying27 ti56 rfl rfl (by decide) (by kernel_rfl) (Els.single (mk_shVerN ((((version, (acc ++ [(key, value)])) : Int × List (Str × Int)), (v583 : Value))) (by first | assumption | omega | (simp only []; omega) | (simp; omega)) ho585.one)) (fun _ h => h.elim)) ?_
           rintro v623 w624 ⟨ho625, he626, hob627⟩ a628 ha628; clear ha622 a622
           have hx629 := hx619.trans' he626
           have hzhx629 := he626.size
           replace ho578 := ho578.ext he626
           replace ho585 := ho585.ext he626
           replace ho614 := ho614.ext he626
           replace hN616 := hN616.ext he626
           have hN630 : Nst shLine 83 (fun x : Int × List (Str × Int) => x.2) w338.heap.size w584.heap.size w624 ([(((version, (acc ++ [(key, value)])) : Int × List (Str × Int)), (v583 : Value))]) := Nst.one (ho585.fin (by omega) (by omega) (by omega))
           refine wl_eff ha628 rfl rfl rfl (op_append (ts := #[]) (s := shVerN) ha628 rfl Try.underlying27 ti56 rfl pos_shVerN rfl rfl ho614 (ho625.rds pos_shVerN) (by omega) (by omega) (by first | omega | (simp; omega)) (by first | omega | (simp; omega)) (.inl flat_shVerN)) ?_
           rintro v631 w632 ⟨ho633, hst634, hob635⟩ a636 ha636; clear ha628 a628
           have hx637 := hx629.stp hst634 (by intro q hq; have hq0 := ho614.lt q hq; omega)
           have hzhx637 := hst634.size
           replace ho578 := ho578.stp hst634 (by intro q hq; have hq0 := ho614.lt q hq; omega)
           replace ho585 := ho585.stp hst634 (by intro q hq; have hq0 := ho614.lt q hq; omega)
           first | replace hN616 := hN616.stpF flat_shLine hst634 ho614 rfl | replace hN616 := hN616.stp hst634 (by intro q hq; have hq0 := ho614.lt q hq; omega)
           replace ho625 := ho625.stp hst634 (by intro q hq; have hq0 := ho614.lt q hq; omega)
           replace hN630 := hN630.stp hst634 (by intro q hq; have hq0 := ho614.lt q hq; omega)
           have hsp638 : ∀ q, Value.ownBlock v631 = some q → Value.ownBlock v623 ≠ some q := by intro q hq hb; have hq0 := ho625.lt q hb; rcases hob635 with h | h; (rw [h] at hq; first | (have hq1 := ho614.lt q hq; omega)); (rw [h] at hq; cases hq; omega)
           have hN639 : Nst shLine 83 (fun x : Int × List (Str × Int) => x.2) w338.heap.size w632.heap.size w632 ((z615 ++ [(((version, (acc ++ [(key, value)])) : Int × List (Str × Int)), (v583 : Value))])) := (hN616.appL hN630 (by omega) (by omega) (by omega)).fin (by omega) (by omega)
           refine wl_val ha636 rfl rfl rfl (op_assign ha636 rfl rfl) ?_
           intro a640 ha640; clear ha636 a636
           refine wl_val ha640 rfl rfl rfl (op_assign ha640 rfl rfl) ?_
           intro a641 ha641; clear ha640 a640
           refine wpList_nil ?_
           refine then_n ?_
           refine wp_ret ?_
           refine ret2 ha641 rfl rfl rfl ?_
           clear ha641 a641
           have hst := stL_sh (k := key) (v := value) hshx352 (by assumption) (by first | assumption | omega | simp_all)
           rw [← hlex352] at hst
           rw [c521, drop_nil (by omega), stG] at hF
           rw [if_neg (by decide)] at hF
           have hln := congrArg List.length hF
           rw [← hlex352] at hF hln
           rw [List.length_append, List.length_singleton] at hln
           have hr : sdC list version key value = (0 : Int) := (by unfold sdC; first | (simp_all [cdV]; done) | (simp_all [cdV]; omega) | (simp [c11, c20, c30, c34, c345, c596]; done) | (simp [cdV, c11, c20, c30, c34, c345, c596]; done))
           refine ret_mk hx637 ⟨v631, (z615 ++ [(((version, (acc ++ [(key, value)])) : Int × List (Str × Int)), (v583 : Value))]), (tup2_eq rfl (int_eq (by first | exact hr.symm | omega))), ho633.fin (by omega) (by omega) (by omega), hN639.fin (by omega) (by omega), ?_⟩
           ·
            unfold sdL; first | (rw [if_neg (show ¬ sdC list version key value = 0 by rw [hr]; first | decide | assumption)]; done) | (rw [if_neg (show ¬ sdC list version key value = 0 by rw [hr]; first | decide | assumption)]; rfl) | (rw [if_pos hr, hlex352]; done) | (rw [if_pos hr, hlex352]; assumption) | (rw [if_pos hr, ← hF, List.map_append, hE617]; rfl)
     ·
      rw [c345] at ha344
      have hsv : ¬ (0 ≤ value ∧ value ≤ 1000000) := by intro q; unfold svB at c345; simp [q.1, q.2] at c345
      refine cond_t ha344 rfl ?_
      refine wp_seq ?_
      refine wp_region_lit ?_
      refine wl_val ha344 rfl rfl rfl (op_assign ha344 rfl rfl) ?_
      intro a642 ha642; clear ha344 a344
      refine wl_val ha642 rfl rfl rfl (op_assign ha642 rfl rfl) ?_
      intro a643 ha643; clear ha642 a642
      refine wpList_nil ?_
      refine then_n ?_
      refine wp_ret ?_
      refine then_r ?_
      refine ret2 ha643 rfl rfl rfl ?_
      clear ha643 a643
      have hr : sdC list version key value = (2 : Int) := (by unfold sdC; first | (simp [c11, c20, c30, c34, c345]; done) | (simp [cdV, c11, c20, c30, c34, c345]; done) | (simp_all [cdV]; done) | (simp_all [cdV]; omega))
      refine ret_mk hx341 ⟨(.slice none 0 0), [], (tup2_eq rfl (int_eq (by first | exact hr.symm | omega))), Own.nil _ _ _ _ _ _, Nst.nil _ _ _ _ _ _, ?_⟩
      ·
       unfold sdL; first | (rw [if_neg (show ¬ sdC list version key value = 0 by rw [hr]; first | decide | assumption)]; done) | (rw [if_neg (show ¬ sdC list version key value = 0 by rw [hr]; first | decide | assumption)]; rfl)
   ·
    rw [c30] at ha29
    refine wl_skip ha29 rfl rfl rfl ?_
    intro a644 ha644; clear ha29 a29
    refine wl_skip ha644 rfl rfl rfl ?_
    intro a645 ha645; clear ha644 a644
    refine wl_skip ha645 rfl rfl rfl ?_
    intro a646 ha646; clear ha645 a645
    refine wl_skip ha646 rfl rfl rfl ?_
    intro a647 ha647; clear ha646 a646
    refine wl_skip ha647 rfl rfl rfl ?_
    intro a648 ha648; clear ha647 a647
    refine wl_skip ha648 rfl rfl rfl ?_
    intro a649 ha649; clear ha648 a648
    refine wl_skip ha649 rfl rfl rfl ?_
    intro a650 ha650; clear ha649 a649
    refine wl_val ha650 rfl rfl rfl (op_pick_t ha650 rfl rfl rfl) ?_
    intro a651 ha651; clear ha650 a650
    refine wpList_nil ?_
    refine then_n ?_
    refine cond_t ha651 rfl ?_
    refine wp_seq ?_
    refine wp_region_lit ?_
    refine wl_val ha651 rfl rfl rfl (op_assign ha651 rfl rfl) ?_
    intro a652 ha652; clear ha651 a651
    refine wl_val ha652 rfl rfl rfl (op_assign ha652 rfl rfl) ?_
    intro a653 ha653; clear ha652 a652
    refine wpList_nil ?_
    refine then_n ?_
    refine wp_ret ?_
    refine then_r ?_
    refine ret2 ha653 rfl rfl rfl ?_
    clear ha653 a653
    have hr : sdC list version key value = (2 : Int) := (by unfold sdC; first | (simp [c11, c20, c30]; done) | (simp [cdV, c11, c20, c30]; done) | (simp_all [cdV]; done) | (simp_all [cdV]; omega))
    refine ret_mk hx27 ⟨(.slice none 0 0), [], (tup2_eq rfl (int_eq (by first | exact hr.symm | omega))), Own.nil _ _ _ _ _ _, Nst.nil _ _ _ _ _ _, ?_⟩
    ·
     unfold sdL; first | (rw [if_neg (show ¬ sdC list version key value = 0 by rw [hr]; first | decide | assumption)]; done) | (rw [if_neg (show ¬ sdC list version key value = 0 by rw [hr]; first | decide | assumption)]; rfl)
  ·
   rw [c20] at ha19
   refine cond_t ha19 rfl ?_
   refine wp_seq ?_
   refine wp_region_lit ?_
   refine wl_val ha19 rfl rfl rfl (op_assign ha19 rfl rfl) ?_
   intro a654 ha654; clear ha19 a19
   refine wl_val ha654 rfl rfl rfl (op_assign ha654 rfl rfl) ?_
   intro a655 ha655; clear ha654 a654
   refine wpList_nil ?_
   refine then_n ?_
   refine wp_ret ?_
   refine then_r ?_
   refine ret2 ha655 rfl rfl rfl ?_
   clear ha655 a655
   have hr : sdC list version key value = (1 : Int) := (by unfold sdC; first | (simp [c11, c20]; done) | (simp [cdV, c11, c20]; done) | (simp_all [cdV]; done) | (simp_all [cdV]; omega))
   refine ret_mk hx17 ⟨(.slice none 0 0), [], (tup2_eq rfl (int_eq (by first | exact hr.symm | omega))), Own.nil _ _ _ _ _ _, Nst.nil _ _ _ _ _ _, ?_⟩
   ·
    unfold sdL; first | (rw [if_neg (show ¬ sdC list version key value = 0 by rw [hr]; first | decide | assumption)]; done) | (rw [if_neg (show ¬ sdC list version key value = 0 by rw [hr]; first | decide | assumption)]; rfl)
 ·
  rw [c11] at ha10
  refine wl_skip ha10 rfl rfl rfl ?_
  intro a656 ha656; clear ha10 a10
  refine wl_skip ha656 rfl rfl rfl ?_
  intro a657 ha657; clear ha656 a656
  refine wl_skip ha657 rfl rfl rfl ?_
  intro a658 ha658; clear ha657 a657
  refine wl_val ha658 rfl rfl rfl (op_pick_t ha658 rfl rfl rfl) ?_
  intro a659 ha659; clear ha658 a658
  refine wpList_nil ?_
  refine then_n ?_
  refine cond_t ha659 rfl ?_
  refine wp_seq ?_
  refine wp_region_lit ?_
  refine wl_val ha659 rfl rfl rfl (op_assign ha659 rfl rfl) ?_
  intro a660 ha660; clear ha659 a659
  refine wl_val ha660 rfl rfl rfl (op_assign ha660 rfl rfl) ?_
  intro a661 ha661; clear ha660 a660
  refine wpList_nil ?_
  refine then_n ?_
  refine wp_ret ?_
  refine then_r ?_
  refine ret2 ha661 rfl rfl rfl ?_
  clear ha661 a661
  have hr : sdC list version key value = (1 : Int) := (by unfold sdC; first | (simp [c11]; done) | (simp [cdV, c11]; done) | (simp_all [cdV]; done) | (simp_all [cdV]; omega))
  refine ret_mk hx8 ⟨(.slice none 0 0), [], (tup2_eq rfl (int_eq (by first | exact hr.symm | omega))), Own.nil _ _ _ _ _ _, Nst.nil _ _ _ _ _ _, ?_⟩
  ·
   unfold sdL; first | (rw [if_neg (show ¬ sdC list version key value = 0 by rw [hr]; first | decide | assumption)]; done) | (rw [if_neg (show ¬ sdC list version key value = 0 by rw [hr]; first | decide | assumption)]; rfl)


end Go.Proofs.Ytllpdkidaldkiaa
