/- One more column. -/
import Derived.Test.YtjpldgicibnkcaaH0
import Derived.Test.YtjpldgicibnkcaaW6
namespace Go.Proofs.Ytjpldgicibnkcaa
open Go Go.RowKit

set_option maxHeartbeats 4000000 in
theorem c_spec_AddColumn (w0 : World) (v_t0 : Value) (v_t1 : Value) (t : List Str × List (List Int)) {S_t0 : Nat → Prop} {S_t1 : Nat → Prop} (head : Str) (ca : Int) (cb : Int) (m : Int) (h_t0 : Rds shStr S_t0 w0 v_t0 t.1) (h_t1 : Rds shRow S_t1 w0 v_t1 t.2) (g0 : head.length ≤ 1048576) :
  Calls Try.prog 48 #[.agg #[v_t0, v_t1], St head, .int .i64 ca, .int .i64 cb, .int .i64 m] w0 (Ret w0 (fun v w1 => ∃ r0_0 r0_1 z0_1, v = .tuple #[.agg #[r0_0, r0_1], .int .i64 (cdA t head ca cb m)] ∧ Own shStr 9 w0.heap.size w0.heap.size w1.heap.size w1 r0_0 ((acT t head ca cb m).1) ∧ Own shRowN 41 w0.heap.size w0.heap.size w1.heap.size w1 r0_1 z0_1 ∧ Nst shI64 2 (fun x : List Int => x) w0.heap.size w1.heap.size w1 z0_1 ∧ z0_1.map (·.1) = ((acT t head ca cb m).2))) := by
 refine enter (N := 95) Try.func48 rfl rfl rfl ?_
 intro a0 ha0
 have hx0 := Ext.rfl' w0
 have hl_t0 := h_t0.length_le
 have hl_t1 := h_t1.length_le
 refine wp_seq ?_
 refine wp_region_lit ?_
 refine wl_eff ha0 rfl rfl rfl (op_box' ha0 rfl rfl rfl) ?_
 rintro _ w2 ⟨rfl, he3, hb4, hz5⟩ a6 ha6; clear ha0 a0
 have hx7 := hx0.trans' he3
 have hzhx7 := he3.size
 refine wl_eff ha6 rfl rfl rfl (op_alloc' rfl ti28 rfl) ?_
 rintro _ w9 ⟨rfl, he10, hb11, hz12⟩ a13 ha13; clear ha6 a6
 have hx14 := hx7.trans' he10
 have hzhx14 := he10.size
 replace hb4 := hb4.ext he10
 refine wl_val ha13 rfl rfl rfl (op_assign ha13 rfl rfl) ?_
 intro a15 ha15; clear ha13 a13
 refine wpList_nil ?_
 refine then_n ?_
 refine wp_seq ?_
 refine wp_region_lit ?_
 refine wl_val ha15 rfl rfl rfl (op_loadS ha15 rfl Try.underlying28 ti28 rfl rfl hb4.cells) ?_
 intro a16 ha16; clear ha15 a15
 refine wl_val ha16 rfl rfl rfl (op_move ha16 rfl rfl) ?_
 intro a17 ha17; clear ha16 a16
 refine wl_callR ha17 rfl rfl rfl (op_call ha17 rfl cb69 rfl) (c_spec_l31Code _ v_t0 v_t1 t ca (h_t0.ext pos_shStr hx14) (h_t1.ext pos_shRow hx14)) ?_
 rintro v18 w19 he20 rfl a21 ha21; clear ha17 a17
 have hx22 := hx14.trans' he20
 have hzhx22 := he20.size
 replace hb4 := hb4.ext he20
 replace hb11 := hb11.ext he20
 refine wl_val ha21 rfl rfl rfl (op_assign ha21 rfl rfl) ?_
 intro a23 ha23; clear ha21 a21
 refine wpList_nil ?_
 refine then_n ?_
 refine wp_seq ?_
 refine wp_seq ?_
 refine wp_region_lit ?_
 refine wl_val ha23 rfl rfl rfl (op_move ha23 rfl rfl) ?_
 intro a24 ha24; clear ha23 a23
 refine wl_val ha24 rfl rfl rfl (op_eql ha24 rfl rfl rfl) ?_
 intro a25 ha25; clear ha24 a24
 refine wpList_nil ?_
 refine then_n ?_
 by_cases c26 : (cdT t ca : Int) = (0 : Int)
 ·
  rw [decide_eq_true c26] at ha25
  obtain ⟨hk1c26, hk2c26⟩ := cdT_ok c26
  have htbc26 := tab_bd hk1c26
  have htrc26 := tab_rows hk1c26
  have hcbc26 := col_bd hk2c26
  refine cond_t ha25 rfl ?_
  refine wp_region_lit ?_
  refine wl_val ha25 rfl rfl rfl (op_loadS ha25 rfl Try.underlying28 ti28 rfl rfl hb4.cells) ?_
  intro a27 ha27; clear ha25 a25
  refine wl_val ha27 rfl rfl rfl (op_move ha27 rfl rfl) ?_
  intro a28 ha28; clear ha27 a27
  refine wl_callR ha28 rfl rfl rfl (op_call ha28 rfl cb69 rfl) (c_spec_l31Code _ v_t0 v_t1 t cb (h_t0.ext pos_shStr hx22) (h_t1.ext pos_shRow hx22)) ?_
  rintro v29 w30 he31 rfl a32 ha32; clear ha28 a28
  have hx33 := hx22.trans' he31
  have hzhx33 := he31.size
  replace hb4 := hb4.ext he31
  replace hb11 := hb11.ext he31
  refine wl_val ha32 rfl rfl rfl (op_assign ha32 rfl rfl) ?_
  intro a34 ha34; clear ha32 a32
  refine wpList_nil ?_
  refine then_n ?_
  refine wp_seq ?_
  refine wp_block ?_
  refine wp_seq ?_
  refine wp_region_lit ?_
  refine wl_val ha34 rfl rfl rfl (op_move ha34 rfl rfl) ?_
  intro a35 ha35; clear ha34 a34
  refine wl_val ha35 rfl rfl rfl ((op_neq ha35 rfl rfl rfl).to (congrArg Value.bool decide_not)) ?_
  intro a36 ha36; clear ha35 a35
  refine wl_val ha36 rfl rfl rfl (op_assign ha36 rfl rfl) ?_
  intro a37 ha37; clear ha36 a36
  refine wpList_nil ?_
  refine then_n ?_
  by_cases c38 : (cdT t cb : Int) = (0 : Int)
  ·
   rw [decide_eq_true c38] at ha37
   obtain ⟨hk1c38, hk2c38⟩ := cdT_ok c38
   have htbc38 := tab_bd hk1c38
   have htrc38 := tab_rows hk1c38
   have hcbc38 := col_bd hk2c38
   refine cond_f ha37 rfl ?_
   refine wp_seq ?_
   refine wp_region_lit ?_
   refine wl_val ha37 rfl rfl rfl (op_move ha37 rfl rfl) ?_
   intro a39 ha39; clear ha37 a37
   refine wl_callR ha39 rfl rfl rfl (op_call ha39 rfl cb62 rfl) (c_spec_l01In _ m (-1000 : Int) (1000 : Int) ) ?_
   rintro v40 w41 he42 rfl a43 ha43; clear ha39 a39
   have hx44 := hx33.trans' he42
   have hzhx44 := he42.size
   replace hb4 := hb4.ext he42
   replace hb11 := hb11.ext he42
   refine wl_val ha43 rfl rfl rfl (op_not ha43 rfl rfl) ?_
   intro a45 ha45; clear ha43 a43
   refine wl_val ha45 rfl rfl rfl (op_assign ha45 rfl rfl) ?_
   intro a46 ha46; clear ha45 a45
   refine wpList_nil ?_
   refine then_n ?_
   rcases Bool.eq_false_or_eq_true (decide ((-1000 : Int) ≤ m) && decide (m ≤ (1000 : Int))) with c47 | c47
   ·
    rw [c47] at ha46
    refine cond_f ha46 rfl ?_
    refine wp_seq ?_
    refine wp_region_lit ?_
    refine wl_val ha46 rfl rfl rfl (op_move ha46 rfl rfl) ?_
    intro a48 ha48; clear ha46 a46
    refine wl_callR ha48 rfl rfl rfl (op_call ha48 rfl cb60 rfl) (c_spec_IsWord _ head (by first | assumption | omega | (simp; omega))) ?_
    rintro v49 w50 he51 rfl a52 ha52; clear ha48 a48
    have hx53 := hx44.trans' he51
    have hzhx53 := he51.size
    replace hb4 := hb4.ext he51
    replace hb11 := hb11.ext he51
    refine wl_val ha52 rfl rfl rfl (op_not ha52 rfl rfl) ?_
    intro a54 ha54; clear ha52 a52
    refine wl_val ha54 rfl rfl rfl (op_move ha54 rfl rfl) ?_
    intro a55 ha55; clear ha54 a54
    rcases Bool.eq_false_or_eq_true (wordB head) with c56 | c56
    ·
     rw [c56] at ha55
     refine wl_val ha55 rfl rfl rfl (op_loadS ha55 rfl Try.underlying28 ti28 rfl rfl hb4.cells) ?_
     intro a57 ha57; clear ha55 a55
     refine wl_val ha57 rfl rfl rfl (op_move ha57 rfl rfl) ?_
     intro a58 ha58; clear ha57 a57
     refine wl_callR ha58 rfl rfl rfl (op_call ha58 rfl cb85 rfl) (c_spec_l31Head _ v_t0 v_t1 t head (h_t0.ext pos_shStr hx53) (h_t1.ext pos_shRow hx53)) ?_
     rintro v59 w60 he61 rfl a62 ha62; clear ha58 a58
     have hx63 := hx53.trans' he61
     have hzhx63 := he61.size
     replace hb4 := hb4.ext he61
     replace hb11 := hb11.ext he61
     refine wl_val ha62 rfl rfl rfl (op_pick_f ha62 rfl rfl rfl) ?_
     intro a64 ha64; clear ha62 a62
     refine wl_val ha64 rfl rfl rfl (op_assign ha64 rfl rfl) ?_
     intro a65 ha65; clear ha64 a64
     refine wpList_nil ?_
     refine then_n ?_
     rcases Bool.eq_false_or_eq_true (hasB head t.1) with c66 | c66
     ·
      rw [c66] at ha65
      refine cond_t ha65 rfl ?_
      refine wp_seq ?_
      refine wp_region_lit ?_
      refine wl_val ha65 rfl rfl rfl (op_build (vs := []) (cs := #[.slice none 0 0, .slice none 0 0]) ha65 rfl Try.underlying28 ti28 bp28 rfl rfl) ?_
      intro a67 ha67; clear ha65 a65
      refine wl_effS ha67 rfl rfl (op_storeAll' ha67 rfl ti28 rfl rfl hb11 rfl rfl (by simp [Value.oneCell']) rfl) ?_
      rintro w68 ⟨hb70, hst69, hz71⟩
      have hx72 := hx63.stp hst69 (by intro q hq; cases hq; exact (by omega))
      have hzhx72 := hst69.size
      replace hb4 := hb4.stp hst69 (by intro q hq; cases hq; omega)
      clear hb11
      refine wl_val ha67 rfl rfl rfl (op_assign ha67 rfl rfl) ?_
      intro a73 ha73; clear ha67 a67
      refine wpList_nil ?_
      refine then_n ?_
      refine wp_ret ?_
      refine block_r ?_
      refine then_r ?_
      refine retct ha73 rfl rfl rfl Try.underlying28 ti28 rfl hb70.cells ?_
      clear ha73 a73
      have hr : cdA t head ca cb m = _ := cdA_5 c26 c38 c47 (.inr (hasB_ge c66))
      refine ret_mk hx72 ⟨(.slice none 0 0), (.slice none 0 0), [], (tup2_eq (by rfl) (int_eq (by first | exact hr.symm | omega))), ?_, Own.nil _ _ _ _ _ _, Nst.nil _ _ _ _ _ _, ?_⟩
      ·
       refine Own.nil_ _ _ _ _ _ _ ?_
       rw [acT_no (by rw [hr]; first | decide | assumption)]
      ·
       rw [acT_no (by rw [hr]; first | decide | assumption)]; rfl
     ·
      rw [c66] at ha65
      refine cond_f ha65 rfl ?_
      refine wp_skip ?_
      refine block_n ?_
      refine then_n ?_
      refine seq_mid (fun fr wl => ∃ (g74 : Nat) (q75 : Value) (q76 : Value) (q77 : List ((List Int) × Value)), Sl 95 fr [(2, .int .i64 ca), (3, .int .i64 cb), (4, .int .i64 m), (5, .pointer (some (⟨w0.heap.size, 0, none⟩ : Addr))), (10, .pointer (some (⟨w2.heap.size, 0, none⟩ : Addr))), (13, .pointer (some (⟨g74, 0, none⟩ : Addr)))] ∧ Ext w0 wl ∧ Box wl w0.heap.size 28 [v_t0, v_t1] ∧ Box wl w2.heap.size 28 [.slice none 0 0, .slice none 0 0] ∧ Own shStr 9 w60.heap.size w60.heap.size wl.heap.size wl q75 (((((((t.1 ++ [head])), t.2) : Tab)).1)) ∧ Own shRowN 41 w60.heap.size w60.heap.size wl.heap.size wl q76 q77 ∧ Nst shI64 2 (fun x : List Int => x) w60.heap.size wl.heap.size wl q77 ∧ Box wl g74 28 [q75, q76] ∧ q77.map (·.1) = ((((((t.1 ++ [head])), t.2) : Tab)).2) ∧ w60.heap.size ≤ g74 ∧ w60.heap.size ≤ wl.heap.size) ?_ ?_
      ·
       refine dr_enter Ext follows_mixed ?_
       intro w87 he88
       have hx89 := hx63.trans' he88
       have hzhx89 := he88.size
       replace hb4 := hb4.ext he88
       replace hb11 := hb11.ext he88
       have hs90 : Ext w87 w87 := Ext.rfl' _
       refine dr_val (i := 1) ha65 rfl (by kernel_rfl) (by kernel_rfl) (by kernel_rfl) rfl rfl rfl hs90 (fun w' hw' => op_fieldAddr (sz := 0) ha65 rfl Try.underlying28 rfl rfl ti22 rfl) ?_
       intro a91 ha91; clear ha65 a65
       refine dr_val (i := 2) ha91 rfl (by kernel_rfl) (by kernel_rfl) (by kernel_rfl) rfl rfl rfl hs90 (fun w' hw' => op_loadF (off := 0) ha91 rfl Try.underlying22 rfl rfl (hb4.ext hw').cells rfl) ?_
       intro a92 ha92; clear ha91 a91
       refine dr_val (i := 4) ha92 rfl (by kernel_rfl) (by kernel_rfl) (by kernel_rfl) rfl rfl rfl hs90 (fun w' hw' => op_move ha92 rfl rfl) ?_
       intro a93 ha93; clear ha92 a92
       refine dr_val (i := 7) ha93 rfl (by kernel_rfl) (by kernel_rfl) (by kernel_rfl) rfl rfl rfl hs90 (fun w' hw' => op_fieldAddr (sz := 0) ha93 rfl Try.underlying28 rfl rfl ti23 rfl) ?_
       intro a94 ha94; clear ha93 a93
       refine dr_val (i := 8) ha94 rfl (by kernel_rfl) (by kernel_rfl) (by kernel_rfl) rfl rfl rfl hs90 (fun w' hw' => op_loadF (off := 1) ha94 rfl Try.underlying23 rfl rfl (hb4.ext hw').cells rfl) ?_
       intro a95 ha95; clear ha94 a94
       refine dr_three (i := 0) (j := 5) (k := 10) (by kernel_rfl) ?_ ?_ ?_
       ·
        refine po_eff ha95 rfl rfl rfl rfl (op_buildSlice (s := shStr) (xs := ([] : List Str)) (cs := []) (vs := []) (S := fun _ => False) (le := w87.heap.size) ha95 rfl pos_shStr Try.underlying22 ti9 rfl rfl (by decide) (by kernel_rfl) rfl (fun _ h => h.elim)) ?_
        rintro v96 w97 ⟨ho98, he99, hob100⟩ a101 ha101; clear ha95 a95
        have hs102 := hs90.trans' he99
        have hx103 := hx89.trans' he99
        have hzhx103 := he99.size
        refine ⟨hs102, ?_⟩
        refine dr_three (i := 3) (j := 5) (k := 10) (by kernel_rfl) ?_ ?_ ?_
        ·
         refine po_eff ha101 rfl rfl rfl rfl (op_append (ts := #[]) (s := shStr) ha101 rfl Try.underlying22 ti9 rfl pos_shStr rfl rfl ho98 (h_t0.ext pos_shStr (hx89.trans' hs102)) (by omega) (by omega) (by first | omega | (simp; omega)) (by first | omega | (simp; omega)) (.inl flat_shStr)) ?_
         rintro v104 w105 ⟨ho106, hst107, hob108⟩ a109 ha109; clear ha101 a101
         replace ho106 := ho106.cast (List.nil_append _)
         have hs110 := hs102.stp hst107 (by intro q hq; have hq0 := ho98.lt q hq; omega)
         have hx111 := hx103.stp hst107 (by intro q hq; have hq0 := ho98.lt q hq; omega)
         have hzhx111 := hst107.size
         refine ⟨hs110, ?_⟩
         refine dr_two (i := 5) (j := 10) (by kernel_rfl) ?_ ?_
         ·
          refine po_eff ha109 rfl rfl rfl rfl (op_buildSlice (s := shStr) (xs := [head]) (cs := [St head]) (vs := [(0, St head)]) (S := fun _ => False) (le := w105.heap.size) ha109 rfl pos_shStr Try.underlying22 ti9 rfl rfl (by decide) (by kernel_rfl) (Els.single (mk_shStr head (by first | assumption | omega | (simp; omega)))) (fun _ h => h.elim)) ?_
          rintro v112 w113 ⟨ho114, he115, hob116⟩ a117 ha117; clear ha109 a109
          have hs118 := hs110.trans' he115
          have hx119 := hx111.trans' he115
          have hzhx119 := he115.size
          replace ho106 := ho106.ext he115
          refine ⟨hs118, ?_⟩
          refine dr_two (i := 6) (j := 10) (by kernel_rfl) ?_ ?_
          ·
           refine po_eff ha117 rfl rfl rfl rfl (op_append (ts := #[]) (s := shStr) ha117 rfl Try.underlying22 ti9 rfl pos_shStr rfl rfl ho106 (ho114.rds pos_shStr) (by omega) (by omega) (by first | omega | (simp; omega)) (by first | omega | (simp; omega)) (.inl flat_shStr)) ?_
           rintro v120 w121 ⟨ho122, hst123, hob124⟩ a125 ha125; clear ha117 a117
           have hs126 := hs118.stp hst123 (by intro q hq; have hq0 := ho106.lt q hq; omega)
           have hx127 := hx119.stp hst123 (by intro q hq; have hq0 := ho106.lt q hq; omega)
           have hzhx127 := hst123.size
           replace ho114 := ho114.stp hst123 (by intro q hq; have hq0 := ho106.lt q hq; omega)
           have hsp128 : ∀ q, Value.ownBlock v120 = some q → Value.ownBlock v112 ≠ some q := by intro q hq hb; have hq0 := ho114.lt q hb; rcases hob124 with h | h; (rw [h] at hq; first | (have hq1 := ho106.lt q hq; omega)); (rw [h] at hq; cases hq; omega)
           refine ⟨hs126, ?_⟩
           refine dr_two (i := 9) (j := 10) (by kernel_rfl) ?_ ?_
           ·
            refine po_callR ha125 rfl rfl rfl rfl (op_call ha125 rfl cb74 rfl) (c_spec_l31With _ v120 ((t.1 ++ [head])) v_t1 t.2 (ho122.rds pos_shStr) (h_t1.ext pos_shRow (hx89.trans' hs126)) (by first | assumption | omega | (simp; omega)) (by first | assumption | omega | (simp; omega)) (by intro r hr9; have h7 := (htrc26 _ hr9).1; omega)) ?_
            rintro v129 w130 he131 ⟨u132, u134, z136, rfl, ho133, ho135, hN137, hE138⟩ a139 ha139; clear ha125 a125
            have hs140 := hs126.trans' he131
            have hx141 := hx127.trans' he131
            have hzhx141 := he131.size
            replace ho114 := ho114.ext he131
            replace ho122 := ho122.ext he131
            refine ⟨hs140, ?_⟩
            have hlhE138 := absLen hE138
            refine dr_one (i := 10) (by kernel_rfl) ?_
            refine po_eff ha139 rfl rfl rfl rfl (op_alloc' rfl ti28 rfl) ?_
            rintro _ w142 ⟨rfl, he143, hb144, hz145⟩ a146 ha146; clear ha139 a139
            have hs147 := hs140.trans' he143
            have hx148 := hx141.trans' he143
            have hzhx148 := he143.size
            replace ho114 := ho114.ext he143
            replace ho122 := ho122.ext he143
            replace ho133 := ho133.ext he143
            replace ho135 := ho135.ext he143
            replace hN137 := hN137.ext he143
            refine ⟨hs147, ?_⟩
            refine dr_one (i := 11) (by kernel_rfl) ?_
            refine po_effS ha146 rfl rfl rfl (op_storeAll' ha146 rfl ti28 rfl rfl hb144 rfl rfl (by intro u hu; have hu : u ∈ ([u132, u134] : List Value) := hu; simp only [List.mem_cons, List.mem_nil_iff, or_false] at hu; rcases hu with rfl | rfl <;> first | rfl | exact ho133.one | exact ho135.one) rfl) ?_
            rintro w149 ⟨hb151, hst150, hz152⟩
            have hx153 := hx148.stp hst150 (by intro q hq; cases hq; exact (by omega))
            have hzhx153 := hst150.size
            replace ho114 := ho114.stp hst150 (by intro q hq; cases hq; omega)
            replace ho122 := ho122.stp hst150 (by intro q hq; cases hq; omega)
            replace ho133 := ho133.stp hst150 (by intro q hq; cases hq; omega)
            replace ho135 := ho135.stp hst150 (by intro q hq; cases hq; omega)
            replace hN137 := hN137.stp hst150 (by intro q hq; cases hq; omega)
            clear hb144
            have hs154 := hs147.stp hst150 (by intro q hq; cases hq; omega)
            refine ⟨hs154, ?_⟩
            refine dr_end (by kernel_rfl) ?_
            replace hb4 := hb4.ext hs154
            replace hb11 := hb11.ext hs154
            refine then_n ?_
            exact ⟨w130.heap.size, u132, u134, z136, (Sl.cons_ ha146 rfl rfl (Sl.cons_ ha146 rfl rfl (Sl.cons_ ha146 rfl rfl (Sl.cons_ ha146 rfl rfl (Sl.cons_ ha146 rfl rfl (Sl.cons_ ha146 rfl rfl (Sl.nil_ ha146))))))), hx153, hb4, hb11, (ho133.fin (by omega) (by omega) (by omega)), (ho135.fin (by omega) (by omega) (by omega)), (hN137.fin (by omega) (by omega)), hb151, hE138, (by omega), (by omega)⟩
           ·
            refine po_eff ha125 rfl rfl rfl rfl (op_alloc' rfl ti28 rfl) ?_
            rintro _ w155 ⟨rfl, he156, hb157, hz158⟩ a159 ha159; clear ha125 a125
            have hs160 := hs126.trans' he156
            have hx161 := hx127.trans' he156
            have hzhx161 := he156.size
            replace ho114 := ho114.ext he156
            replace ho122 := ho122.ext he156
            refine ⟨hs160, ?_⟩
            refine dr_one (i := 9) (by kernel_rfl) ?_
            refine po_callR ha159 rfl rfl rfl rfl (op_call ha159 rfl cb74 rfl) (c_spec_l31With _ v120 ((t.1 ++ [head])) v_t1 t.2 (ho122.rds pos_shStr) (h_t1.ext pos_shRow (hx89.trans' hs160)) (by first | assumption | omega | (simp; omega)) (by first | assumption | omega | (simp; omega)) (by intro r hr9; have h7 := (htrc26 _ hr9).1; omega)) ?_
            rintro v162 w163 he164 ⟨u165, u167, z169, rfl, ho166, ho168, hN170, hE171⟩ a172 ha172; clear ha159 a159
            have hs173 := hs160.trans' he164
            have hx174 := hx161.trans' he164
            have hzhx174 := he164.size
            replace ho114 := ho114.ext he164
            replace ho122 := ho122.ext he164
            replace hb157 := hb157.ext he164
            refine ⟨hs173, ?_⟩
            have hlhE171 := absLen hE171
            refine dr_one (i := 11) (by kernel_rfl) ?_
            refine po_effS ha172 rfl rfl rfl (op_storeAll' ha172 rfl ti28 rfl rfl hb157 rfl rfl (by intro u hu; have hu : u ∈ ([u165, u167] : List Value) := hu; simp only [List.mem_cons, List.mem_nil_iff, or_false] at hu; rcases hu with rfl | rfl <;> first | rfl | exact ho166.one | exact ho168.one) rfl) ?_
            rintro w175 ⟨hb177, hst176, hz178⟩
            have hx179 := hx174.stp hst176 (by intro q hq; cases hq; exact (by omega))
            have hzhx179 := hst176.size
            replace ho114 := ho114.stp hst176 (by intro q hq; cases hq; omega)
            replace ho122 := ho122.stp hst176 (by intro q hq; cases hq; omega)
            replace ho166 := ho166.stp hst176 (by intro q hq; cases hq; omega)
            replace ho168 := ho168.stp hst176 (by intro q hq; cases hq; omega)
            replace hN170 := hN170.stp hst176 (by intro q hq; cases hq; omega)
            clear hb157
            have hs180 := hs173.stp hst176 (by intro q hq; cases hq; omega)
            refine ⟨hs180, ?_⟩
            refine dr_end (by kernel_rfl) ?_
            replace hb4 := hb4.ext hs180
            replace hb11 := hb11.ext hs180
            refine then_n ?_
            exact ⟨w121.heap.size, u165, u167, z169, (Sl.cons_ ha172 rfl rfl (Sl.cons_ ha172 rfl rfl (Sl.cons_ ha172 rfl rfl (Sl.cons_ ha172 rfl rfl (Sl.cons_ ha172 rfl rfl (Sl.cons_ ha172 rfl rfl (Sl.nil_ ha172))))))), hx179, hb4, hb11, (ho166.fin (by omega) (by omega) (by omega)), (ho168.fin (by omega) (by omega) (by omega)), (hN170.fin (by omega) (by omega)), hb177, hE171, (by omega), (by omega)⟩
          ·
           refine po_eff ha117 rfl rfl rfl rfl (op_alloc' rfl ti28 rfl) ?_
           rintro _ w181 ⟨rfl, he182, hb183, hz184⟩ a185 ha185; clear ha117 a117
           have hs186 := hs118.trans' he182
           have hx187 := hx119.trans' he182
           have hzhx187 := he182.size
           replace ho106 := ho106.ext he182
           replace ho114 := ho114.ext he182
           refine ⟨hs186, ?_⟩
           refine dr_one (i := 6) (by kernel_rfl) ?_
           refine po_eff ha185 rfl rfl rfl rfl (op_append (ts := #[]) (s := shStr) ha185 rfl Try.underlying22 ti9 rfl pos_shStr rfl rfl ho106 (ho114.rds pos_shStr) (by omega) (by omega) (by first | omega | (simp; omega)) (by first | omega | (simp; omega)) (.inl flat_shStr)) ?_
           rintro v188 w189 ⟨ho190, hst191, hob192⟩ a193 ha193; clear ha185 a185
           have hs194 := hs186.stp hst191 (by intro q hq; have hq0 := ho106.lt q hq; omega)
           have hx195 := hx187.stp hst191 (by intro q hq; have hq0 := ho106.lt q hq; omega)
           have hzhx195 := hst191.size
           replace ho114 := ho114.stp hst191 (by intro q hq; have hq0 := ho106.lt q hq; omega)
           replace hb183 := hb183.stp hst191 (by intro q hq; have hq0 := ho106.lt q hq; omega)
           have hsp196 : ∀ q, Value.ownBlock v188 = some q → Value.ownBlock v112 ≠ some q := by intro q hq hb; have hq0 := ho114.lt q hb; rcases hob192 with h | h; (rw [h] at hq; first | (have hq1 := ho106.lt q hq; omega)); (rw [h] at hq; cases hq; omega)
           refine ⟨hs194, ?_⟩
           refine dr_one (i := 9) (by kernel_rfl) ?_
           refine po_callR ha193 rfl rfl rfl rfl (op_call ha193 rfl cb74 rfl) (c_spec_l31With _ v188 ((t.1 ++ [head])) v_t1 t.2 (ho190.rds pos_shStr) (h_t1.ext pos_shRow (hx89.trans' hs194)) (by first | assumption | omega | (simp; omega)) (by first | assumption | omega | (simp; omega)) (by intro r hr9; have h7 := (htrc26 _ hr9).1; omega)) ?_
           rintro v197 w198 he199 ⟨u200, u202, z204, rfl, ho201, ho203, hN205, hE206⟩ a207 ha207; clear ha193 a193
           have hs208 := hs194.trans' he199
           have hx209 := hx195.trans' he199
           have hzhx209 := he199.size
           replace ho114 := ho114.ext he199
           replace hb183 := hb183.ext he199
           replace ho190 := ho190.ext he199
           refine ⟨hs208, ?_⟩
           have hlhE206 := absLen hE206
           refine dr_one (i := 11) (by kernel_rfl) ?_
           refine po_effS ha207 rfl rfl rfl (op_storeAll' ha207 rfl ti28 rfl rfl hb183 rfl rfl (by intro u hu; have hu : u ∈ ([u200, u202] : List Value) := hu; simp only [List.mem_cons, List.mem_nil_iff, or_false] at hu; rcases hu with rfl | rfl <;> first | rfl | exact ho201.one | exact ho203.one) rfl) ?_
           rintro w210 ⟨hb212, hst211, hz213⟩
           have hx214 := hx209.stp hst211 (by intro q hq; cases hq; exact (by omega))
           have hzhx214 := hst211.size
           replace ho114 := ho114.stp hst211 (by intro q hq; cases hq; omega)
           first | replace ho190 := ho190.stp hst211 (by intro q hq; cases hq; omega) | replace ho190 := ho190.stpF flat_shStr hst211 (by intro q hq; cases hq; exact ho190.ne_box (by assumption) rfl)
           replace ho201 := ho201.stp hst211 (by intro q hq; cases hq; omega)
           replace ho203 := ho203.stp hst211 (by intro q hq; cases hq; omega)
           replace hN205 := hN205.stp hst211 (by intro q hq; cases hq; omega)
           clear hb183
           have hs215 := hs208.stp hst211 (by intro q hq; cases hq; omega)
           refine ⟨hs215, ?_⟩
           refine dr_end (by kernel_rfl) ?_
           replace hb4 := hb4.ext hs215
           replace hb11 := hb11.ext hs215
           refine then_n ?_
           exact ⟨w113.heap.size, u200, u202, z204, (Sl.cons_ ha207 rfl rfl (Sl.cons_ ha207 rfl rfl (Sl.cons_ ha207 rfl rfl (Sl.cons_ ha207 rfl rfl (Sl.cons_ ha207 rfl rfl (Sl.cons_ ha207 rfl rfl (Sl.nil_ ha207))))))), hx214, hb4, hb11, (ho201.fin (by omega) (by omega) (by omega)), (ho203.fin (by omega) (by omega) (by omega)), (hN205.fin (by omega) (by omega)), hb212, hE206, (by omega), (by omega)⟩
         ·
          refine po_eff ha109 rfl rfl rfl rfl (op_alloc' rfl ti28 rfl) ?_
          rintro _ w216 ⟨rfl, he217, hb218, hz219⟩ a220 ha220; clear ha109 a109
          have hs221 := hs110.trans' he217
          have hx222 := hx111.trans' he217
          have hzhx222 := he217.size
          replace ho106 := ho106.ext he217
          refine ⟨hs221, ?_⟩
          refine dr_one (i := 5) (by kernel_rfl) ?_
          refine po_eff ha220 rfl rfl rfl rfl (op_buildSlice (s := shStr) (xs := [head]) (cs := [St head]) (vs := [(0, St head)]) (S := fun _ => False) (le := w216.heap.size) ha220 rfl pos_shStr Try.underlying22 ti9 rfl rfl (by decide) (by kernel_rfl) (Els.single (mk_shStr head (by first | assumption | omega | (simp; omega)))) (fun _ h => h.elim)) ?_
          rintro v223 w224 ⟨ho225, he226, hob227⟩ a228 ha228; clear ha220 a220
          have hs229 := hs221.trans' he226
          have hx230 := hx222.trans' he226
          have hzhx230 := he226.size
          replace ho106 := ho106.ext he226
          replace hb218 := hb218.ext he226
          refine ⟨hs229, ?_⟩
          refine dr_one (i := 6) (by kernel_rfl) ?_
          refine po_eff ha228 rfl rfl rfl rfl (op_append (ts := #[]) (s := shStr) ha228 rfl Try.underlying22 ti9 rfl pos_shStr rfl rfl ho106 (ho225.rds pos_shStr) (by omega) (by omega) (by first | omega | (simp; omega)) (by first | omega | (simp; omega)) (.inl flat_shStr)) ?_
          rintro v231 w232 ⟨ho233, hst234, hob235⟩ a236 ha236; clear ha228 a228
          have hs237 := hs229.stp hst234 (by intro q hq; have hq0 := ho106.lt q hq; omega)
          have hx238 := hx230.stp hst234 (by intro q hq; have hq0 := ho106.lt q hq; omega)
          have hzhx238 := hst234.size
          replace hb218 := hb218.stp hst234 (by intro q hq; have hq0 := ho106.lt q hq; omega)
          replace ho225 := ho225.stp hst234 (by intro q hq; have hq0 := ho106.lt q hq; omega)
          have hsp239 : ∀ q, Value.ownBlock v231 = some q → Value.ownBlock v223 ≠ some q := by intro q hq hb; have hq0 := ho225.lt q hb; rcases hob235 with h | h; (rw [h] at hq; first | (have hq1 := ho106.lt q hq; omega)); (rw [h] at hq; cases hq; omega)
          refine ⟨hs237, ?_⟩
          refine dr_one (i := 9) (by kernel_rfl) ?_
          refine po_callR ha236 rfl rfl rfl rfl (op_call ha236 rfl cb74 rfl) (c_spec_l31With _ v231 ((t.1 ++ [head])) v_t1 t.2 (ho233.rds pos_shStr) (h_t1.ext pos_shRow (hx89.trans' hs237)) (by first | assumption | omega | (simp; omega)) (by first | assumption | omega | (simp; omega)) (by intro r hr9; have h7 := (htrc26 _ hr9).1; omega)) ?_
          rintro v240 w241 he242 ⟨u243, u245, z247, rfl, ho244, ho246, hN248, hE249⟩ a250 ha250; clear ha236 a236
          have hs251 := hs237.trans' he242
          have hx252 := hx238.trans' he242
          have hzhx252 := he242.size
          replace hb218 := hb218.ext he242
          replace ho225 := ho225.ext he242
          replace ho233 := ho233.ext he242
          refine ⟨hs251, ?_⟩
          have hlhE249 := absLen hE249
          refine dr_one (i := 11) (by kernel_rfl) ?_
          refine po_effS ha250 rfl rfl rfl (op_storeAll' ha250 rfl ti28 rfl rfl hb218 rfl rfl (by intro u hu; have hu : u ∈ ([u243, u245] : List Value) := hu; simp only [List.mem_cons, List.mem_nil_iff, or_false] at hu; rcases hu with rfl | rfl <;> first | rfl | exact ho244.one | exact ho246.one) rfl) ?_
          rintro w253 ⟨hb255, hst254, hz256⟩
          have hx257 := hx252.stp hst254 (by intro q hq; cases hq; exact (by omega))
          have hzhx257 := hst254.size
          replace ho225 := ho225.stp hst254 (by intro q hq; cases hq; omega)
          first | replace ho233 := ho233.stp hst254 (by intro q hq; cases hq; omega) | replace ho233 := ho233.stpF flat_shStr hst254 (by intro q hq; cases hq; exact ho233.ne_box (by assumption) rfl)
          replace ho244 := ho244.stp hst254 (by intro q hq; cases hq; omega)
          replace ho246 := ho246.stp hst254 (by intro q hq; cases hq; omega)
          replace hN248 := hN248.stp hst254 (by intro q hq; cases hq; omega)
          clear hb218
          have hs258 := hs251.stp hst254 (by intro q hq; cases hq; omega)
          refine ⟨hs258, ?_⟩
          refine dr_end (by kernel_rfl) ?_
          replace hb4 := hb4.ext hs258
          replace hb11 := hb11.ext hs258
          refine then_n ?_
          exact ⟨w105.heap.size, u243, u245, z247, (Sl.cons_ ha250 rfl rfl (Sl.cons_ ha250 rfl rfl (Sl.cons_ ha250 rfl rfl (Sl.cons_ ha250 rfl rfl (Sl.cons_ ha250 rfl rfl (Sl.cons_ ha250 rfl rfl (Sl.nil_ ha250))))))), hx257, hb4, hb11, (ho244.fin (by omega) (by omega) (by omega)), (ho246.fin (by omega) (by omega) (by omega)), (hN248.fin (by omega) (by omega)), hb255, hE249, (by omega), (by omega)⟩
        ·
         refine po_eff ha101 rfl rfl rfl rfl (op_buildSlice (s := shStr) (xs := [head]) (cs := [St head]) (vs := [(0, St head)]) (S := fun _ => False) (le := w97.heap.size) ha101 rfl pos_shStr Try.underlying22 ti9 rfl rfl (by decide) (by kernel_rfl) (Els.single (mk_shStr head (by first | assumption | omega | (simp; omega)))) (fun _ h => h.elim)) ?_
         rintro v259 w260 ⟨ho261, he262, hob263⟩ a264 ha264; clear ha101 a101
         have hs265 := hs102.trans' he262
         have hx266 := hx103.trans' he262
         have hzhx266 := he262.size
         replace ho98 := ho98.ext he262
         refine ⟨hs265, ?_⟩
         refine dr_two (i := 3) (j := 10) (by kernel_rfl) ?_ ?_
         ·
          refine po_eff ha264 rfl rfl rfl rfl (op_append (ts := #[]) (s := shStr) ha264 rfl Try.underlying22 ti9 rfl pos_shStr rfl rfl ho98 (h_t0.ext pos_shStr (hx89.trans' hs265)) (by omega) (by omega) (by first | omega | (simp; omega)) (by first | omega | (simp; omega)) (.inl flat_shStr)) ?_
          rintro v267 w268 ⟨ho269, hst270, hob271⟩ a272 ha272; clear ha264 a264
          replace ho269 := ho269.cast (List.nil_append _)
          have hs273 := hs265.stp hst270 (by intro q hq; have hq0 := ho98.lt q hq; omega)
          have hx274 := hx266.stp hst270 (by intro q hq; have hq0 := ho98.lt q hq; omega)
          have hzhx274 := hst270.size
          replace ho261 := ho261.stp hst270 (by intro q hq; have hq0 := ho98.lt q hq; omega)
          have hsp275 : ∀ q, Value.ownBlock v267 = some q → Value.ownBlock v259 ≠ some q := by intro q hq hb; have hq0 := ho261.lt q hb; rcases hob271 with h | h; (rw [h] at hq; first | (have hq1 := ho98.lt q hq; omega)); (rw [h] at hq; cases hq; omega)
          refine ⟨hs273, ?_⟩
          refine dr_two (i := 6) (j := 10) (by kernel_rfl) ?_ ?_
          ·
           refine po_eff ha272 rfl rfl rfl rfl (op_append (ts := #[]) (s := shStr) ha272 rfl Try.underlying22 ti9 rfl pos_shStr rfl rfl ho269 (ho261.rds pos_shStr) (by omega) (by omega) (by first | omega | (simp; omega)) (by first | omega | (simp; omega)) (.inl flat_shStr)) ?_
           rintro v276 w277 ⟨ho278, hst279, hob280⟩ a281 ha281; clear ha272 a272
           have hs282 := hs273.stp hst279 (by intro q hq; have hq0 := ho269.lt q hq; omega)
           have hx283 := hx274.stp hst279 (by intro q hq; have hq0 := ho269.lt q hq; omega)
           have hzhx283 := hst279.size
           first | replace ho261 := ho261.stp hst279 (by intro q hq; have hq0 := ho269.lt q hq; omega) | replace ho261 := ho261.stpF flat_shStr hst279 (fun q hq => hsp275 q hq)
           have hsp284 : ∀ q, Value.ownBlock v276 = some q → Value.ownBlock v259 ≠ some q := by intro q hq hb; have hq0 := ho261.lt q hb; rcases hob280 with h | h; (rw [h] at hq; first | (have hq1 := ho269.lt q hq; omega) | exact hsp275 q hq hb); (rw [h] at hq; cases hq; omega)
           refine ⟨hs282, ?_⟩
           refine dr_two (i := 9) (j := 10) (by kernel_rfl) ?_ ?_
           ·
            refine po_callR ha281 rfl rfl rfl rfl (op_call ha281 rfl cb74 rfl) (c_spec_l31With _ v276 ((t.1 ++ [head])) v_t1 t.2 (ho278.rds pos_shStr) (h_t1.ext pos_shRow (hx89.trans' hs282)) (by first | assumption | omega | (simp; omega)) (by first | assumption | omega | (simp; omega)) (by intro r hr9; have h7 := (htrc26 _ hr9).1; omega)) ?_
            rintro v285 w286 he287 ⟨u288, u290, z292, rfl, ho289, ho291, hN293, hE294⟩ a295 ha295; clear ha281 a281
            have hs296 := hs282.trans' he287
            have hx297 := hx283.trans' he287
            have hzhx297 := he287.size
            replace ho261 := ho261.ext he287
            replace ho278 := ho278.ext he287
            refine ⟨hs296, ?_⟩
            have hlhE294 := absLen hE294
            refine dr_one (i := 10) (by kernel_rfl) ?_
            refine po_eff ha295 rfl rfl rfl rfl (op_alloc' rfl ti28 rfl) ?_
            rintro _ w298 ⟨rfl, he299, hb300, hz301⟩ a302 ha302; clear ha295 a295
            have hs303 := hs296.trans' he299
            have hx304 := hx297.trans' he299
            have hzhx304 := he299.size
            replace ho261 := ho261.ext he299
            replace ho278 := ho278.ext he299
            replace ho289 := ho289.ext he299
            replace ho291 := ho291.ext he299
            replace hN293 := hN293.ext he299
            refine ⟨hs303, ?_⟩
            refine dr_one (i := 11) (by kernel_rfl) ?_
            refine po_effS ha302 rfl rfl rfl (op_storeAll' ha302 rfl ti28 rfl rfl hb300 rfl rfl (by intro u hu; have hu : u ∈ ([u288, u290] : List Value) := hu; simp only [List.mem_cons, List.mem_nil_iff, or_false] at hu; rcases hu with rfl | rfl <;> first | rfl | exact ho289.one | exact ho291.one) rfl) ?_
            rintro w305 ⟨hb307, hst306, hz308⟩
            have hx309 := hx304.stp hst306 (by intro q hq; cases hq; exact (by omega))
            have hzhx309 := hst306.size
            replace ho261 := ho261.stp hst306 (by intro q hq; cases hq; omega)
            replace ho278 := ho278.stp hst306 (by intro q hq; cases hq; omega)
            replace ho289 := ho289.stp hst306 (by intro q hq; cases hq; omega)
            replace ho291 := ho291.stp hst306 (by intro q hq; cases hq; omega)
            replace hN293 := hN293.stp hst306 (by intro q hq; cases hq; omega)
            clear hb300
            have hs310 := hs303.stp hst306 (by intro q hq; cases hq; omega)
            refine ⟨hs310, ?_⟩
            refine dr_end (by kernel_rfl) ?_
            replace hb4 := hb4.ext hs310
            replace hb11 := hb11.ext hs310
            refine then_n ?_
            exact ⟨w286.heap.size, u288, u290, z292, (Sl.cons_ ha302 rfl rfl (Sl.cons_ ha302 rfl rfl (Sl.cons_ ha302 rfl rfl (Sl.cons_ ha302 rfl rfl (Sl.cons_ ha302 rfl rfl (Sl.cons_ ha302 rfl rfl (Sl.nil_ ha302))))))), hx309, hb4, hb11, (ho289.fin (by omega) (by omega) (by omega)), (ho291.fin (by omega) (by omega) (by omega)), (hN293.fin (by omega) (by omega)), hb307, hE294, (by omega), (by omega)⟩
           ·
            refine po_eff ha281 rfl rfl rfl rfl (op_alloc' rfl ti28 rfl) ?_
            rintro _ w311 ⟨rfl, he312, hb313, hz314⟩ a315 ha315; clear ha281 a281
            have hs316 := hs282.trans' he312
            have hx317 := hx283.trans' he312
            have hzhx317 := he312.size
            replace ho261 := ho261.ext he312
            replace ho278 := ho278.ext he312
            refine ⟨hs316, ?_⟩
            refine dr_one (i := 9) (by kernel_rfl) ?_
            refine po_callR ha315 rfl rfl rfl rfl (op_call ha315 rfl cb74 rfl) (c_spec_l31With _ v276 ((t.1 ++ [head])) v_t1 t.2 (ho278.rds pos_shStr) (h_t1.ext pos_shRow (hx89.trans' hs316)) (by first | assumption | omega | (simp; omega)) (by first | assumption | omega | (simp; omega)) (by intro r hr9; have h7 := (htrc26 _ hr9).1; omega)) ?_
            rintro v318 w319 he320 ⟨u321, u323, z325, rfl, ho322, ho324, hN326, hE327⟩ a328 ha328; clear ha315 a315
            have hs329 := hs316.trans' he320
            have hx330 := hx317.trans' he320
            have hzhx330 := he320.size
            replace ho261 := ho261.ext he320
            replace ho278 := ho278.ext he320
            replace hb313 := hb313.ext he320
            refine ⟨hs329, ?_⟩
            have hlhE327 := absLen hE327
            refine dr_one (i := 11) (by kernel_rfl) ?_
            refine po_effS ha328 rfl rfl rfl (op_storeAll' ha328 rfl ti28 rfl rfl hb313 rfl rfl (by intro u hu; have hu : u ∈ ([u321, u323] : List Value) := hu; simp only [List.mem_cons, List.mem_nil_iff, or_false] at hu; rcases hu with rfl | rfl <;> first | rfl | exact ho322.one | exact ho324.one) rfl) ?_
            rintro w331 ⟨hb333, hst332, hz334⟩
            have hx335 := hx330.stp hst332 (by intro q hq; cases hq; exact (by omega))
            have hzhx335 := hst332.size
            replace ho261 := ho261.stp hst332 (by intro q hq; cases hq; omega)
            replace ho278 := ho278.stp hst332 (by intro q hq; cases hq; omega)
            replace ho322 := ho322.stp hst332 (by intro q hq; cases hq; omega)
            replace ho324 := ho324.stp hst332 (by intro q hq; cases hq; omega)
            replace hN326 := hN326.stp hst332 (by intro q hq; cases hq; omega)
            clear hb313
            have hs336 := hs329.stp hst332 (by intro q hq; cases hq; omega)
            refine ⟨hs336, ?_⟩
            refine dr_end (by kernel_rfl) ?_
            replace hb4 := hb4.ext hs336
            replace hb11 := hb11.ext hs336
            refine then_n ?_
            exact ⟨w277.heap.size, u321, u323, z325, (Sl.cons_ ha328 rfl rfl (Sl.cons_ ha328 rfl rfl (Sl.cons_ ha328 rfl rfl (Sl.cons_ ha328 rfl rfl (Sl.cons_ ha328 rfl rfl (Sl.cons_ ha328 rfl rfl (Sl.nil_ ha328))))))), hx335, hb4, hb11, (ho322.fin (by omega) (by omega) (by omega)), (ho324.fin (by omega) (by omega) (by omega)), (hN326.fin (by omega) (by omega)), hb333, hE327, (by omega), (by omega)⟩
          ·
           refine po_eff ha272 rfl rfl rfl rfl (op_alloc' rfl ti28 rfl) ?_
           rintro _ w337 ⟨rfl, he338, hb339, hz340⟩ a341 ha341; clear ha272 a272
           have hs342 := hs273.trans' he338
           have hx343 := hx274.trans' he338
           have hzhx343 := he338.size
           replace ho261 := ho261.ext he338
           replace ho269 := ho269.ext he338
           refine ⟨hs342, ?_⟩
           refine dr_one (i := 6) (by kernel_rfl) ?_
           refine po_eff ha341 rfl rfl rfl rfl (op_append (ts := #[]) (s := shStr) ha341 rfl Try.underlying22 ti9 rfl pos_shStr rfl rfl ho269 (ho261.rds pos_shStr) (by omega) (by omega) (by first | omega | (simp; omega)) (by first | omega | (simp; omega)) (.inl flat_shStr)) ?_
           rintro v344 w345 ⟨ho346, hst347, hob348⟩ a349 ha349; clear ha341 a341
           have hs350 := hs342.stp hst347 (by intro q hq; have hq0 := ho269.lt q hq; omega)
           have hx351 := hx343.stp hst347 (by intro q hq; have hq0 := ho269.lt q hq; omega)
           have hzhx351 := hst347.size
           first | replace ho261 := ho261.stp hst347 (by intro q hq; have hq0 := ho269.lt q hq; omega) | replace ho261 := ho261.stpF flat_shStr hst347 (fun q hq => hsp275 q hq)
           replace hb339 := hb339.stp hst347 (by intro q hq; have hq0 := ho269.lt q hq; omega)
           have hsp352 : ∀ q, Value.ownBlock v344 = some q → Value.ownBlock v259 ≠ some q := by intro q hq hb; have hq0 := ho261.lt q hb; rcases hob348 with h | h; (rw [h] at hq; first | (have hq1 := ho269.lt q hq; omega) | exact hsp275 q hq hb); (rw [h] at hq; cases hq; omega)
           refine ⟨hs350, ?_⟩
           refine dr_one (i := 9) (by kernel_rfl) ?_
           refine po_callR ha349 rfl rfl rfl rfl (op_call ha349 rfl cb74 rfl) (c_spec_l31With _ v344 ((t.1 ++ [head])) v_t1 t.2 (ho346.rds pos_shStr) (h_t1.ext pos_shRow (hx89.trans' hs350)) (by first | assumption | omega | (simp; omega)) (by first | assumption | omega | (simp; omega)) (by intro r hr9; have h7 := (htrc26 _ hr9).1; omega)) ?_
           rintro v353 w354 he355 ⟨u356, u358, z360, rfl, ho357, ho359, hN361, hE362⟩ a363 ha363; clear ha349 a349
           have hs364 := hs350.trans' he355
           have hx365 := hx351.trans' he355
           have hzhx365 := he355.size
           replace ho261 := ho261.ext he355
           replace hb339 := hb339.ext he355
           replace ho346 := ho346.ext he355
           refine ⟨hs364, ?_⟩
           have hlhE362 := absLen hE362
           refine dr_one (i := 11) (by kernel_rfl) ?_
           refine po_effS ha363 rfl rfl rfl (op_storeAll' ha363 rfl ti28 rfl rfl hb339 rfl rfl (by intro u hu; have hu : u ∈ ([u356, u358] : List Value) := hu; simp only [List.mem_cons, List.mem_nil_iff, or_false] at hu; rcases hu with rfl | rfl <;> first | rfl | exact ho357.one | exact ho359.one) rfl) ?_
           rintro w366 ⟨hb368, hst367, hz369⟩
           have hx370 := hx365.stp hst367 (by intro q hq; cases hq; exact (by omega))
           have hzhx370 := hst367.size
           replace ho261 := ho261.stp hst367 (by intro q hq; cases hq; omega)
           first | replace ho346 := ho346.stp hst367 (by intro q hq; cases hq; omega) | replace ho346 := ho346.stpF flat_shStr hst367 (by intro q hq; cases hq; exact ho346.ne_box (by assumption) rfl)
           replace ho357 := ho357.stp hst367 (by intro q hq; cases hq; omega)
           replace ho359 := ho359.stp hst367 (by intro q hq; cases hq; omega)
           replace hN361 := hN361.stp hst367 (by intro q hq; cases hq; omega)
           clear hb339
           have hs371 := hs364.stp hst367 (by intro q hq; cases hq; omega)
           refine ⟨hs371, ?_⟩
           refine dr_end (by kernel_rfl) ?_
           replace hb4 := hb4.ext hs371
           replace hb11 := hb11.ext hs371
           refine then_n ?_
           exact ⟨w268.heap.size, u356, u358, z360, (Sl.cons_ ha363 rfl rfl (Sl.cons_ ha363 rfl rfl (Sl.cons_ ha363 rfl rfl (Sl.cons_ ha363 rfl rfl (Sl.cons_ ha363 rfl rfl (Sl.cons_ ha363 rfl rfl (Sl.nil_ ha363))))))), hx370, hb4, hb11, (ho357.fin (by omega) (by omega) (by omega)), (ho359.fin (by omega) (by omega) (by omega)), (hN361.fin (by omega) (by omega)), hb368, hE362, (by omega), (by omega)⟩
         ·
          refine po_eff ha264 rfl rfl rfl rfl (op_alloc' rfl ti28 rfl) ?_
          rintro _ w372 ⟨rfl, he373, hb374, hz375⟩ a376 ha376; clear ha264 a264
          have hs377 := hs265.trans' he373
          have hx378 := hx266.trans' he373
          have hzhx378 := he373.size
          replace ho98 := ho98.ext he373
          replace ho261 := ho261.ext he373
          refine ⟨hs377, ?_⟩
          refine dr_one (i := 3) (by kernel_rfl) ?_
          refine po_eff ha376 rfl rfl rfl rfl (op_append (ts := #[]) (s := shStr) ha376 rfl Try.underlying22 ti9 rfl pos_shStr rfl rfl ho98 (h_t0.ext pos_shStr (hx89.trans' hs377)) (by omega) (by omega) (by first | omega | (simp; omega)) (by first | omega | (simp; omega)) (.inl flat_shStr)) ?_
          rintro v379 w380 ⟨ho381, hst382, hob383⟩ a384 ha384; clear ha376 a376
          replace ho381 := ho381.cast (List.nil_append _)
          have hs385 := hs377.stp hst382 (by intro q hq; have hq0 := ho98.lt q hq; omega)
          have hx386 := hx378.stp hst382 (by intro q hq; have hq0 := ho98.lt q hq; omega)
          have hzhx386 := hst382.size
          replace ho261 := ho261.stp hst382 (by intro q hq; have hq0 := ho98.lt q hq; omega)
          replace hb374 := hb374.stp hst382 (by intro q hq; have hq0 := ho98.lt q hq; omega)
          have hsp387 : ∀ q, Value.ownBlock v379 = some q → Value.ownBlock v259 ≠ some q := by intro q hq hb; have hq0 := ho261.lt q hb; rcases hob383 with h | h; (rw [h] at hq; first | (have hq1 := ho98.lt q hq; omega)); (rw [h] at hq; cases hq; omega)
          refine ⟨hs385, ?_⟩
          refine dr_one (i := 6) (by kernel_rfl) ?_
          refine po_eff ha384 rfl rfl rfl rfl (op_append (ts := #[]) (s := shStr) ha384 rfl Try.underlying22 ti9 rfl pos_shStr rfl rfl ho381 (ho261.rds pos_shStr) (by omega) (by omega) (by first | omega | (simp; omega)) (by first | omega | (simp; omega)) (.inl flat_shStr)) ?_
          rintro v388 w389 ⟨ho390, hst391, hob392⟩ a393 ha393; clear ha384 a384
          have hs394 := hs385.stp hst391 (by intro q hq; have hq0 := ho381.lt q hq; omega)
          have hx395 := hx386.stp hst391 (by intro q hq; have hq0 := ho381.lt q hq; omega)
          have hzhx395 := hst391.size
          first | replace ho261 := ho261.stp hst391 (by intro q hq; have hq0 := ho381.lt q hq; omega) | replace ho261 := ho261.stpF flat_shStr hst391 (fun q hq => hsp387 q hq)
          first | replace hb374 := hb374.stp hst391 (by intro q hq; have hq0 := ho381.lt q hq; omega) | replace hb374 := hb374.stp hst391 (by intro q hq e; subst e; exact ho381.ne_box hb374 rfl hq)
          have hsp396 : ∀ q, Value.ownBlock v388 = some q → Value.ownBlock v259 ≠ some q := by intro q hq hb; have hq0 := ho261.lt q hb; rcases hob392 with h | h; (rw [h] at hq; first | (have hq1 := ho381.lt q hq; omega) | exact hsp387 q hq hb); (rw [h] at hq; cases hq; omega)
          refine ⟨hs394, ?_⟩
          refine dr_one (i := 9) (by kernel_rfl) ?_
          refine po_callR ha393 rfl rfl rfl rfl (op_call ha393 rfl cb74 rfl) (c_spec_l31With _ v388 ((t.1 ++ [head])) v_t1 t.2 (ho390.rds pos_shStr) (h_t1.ext pos_shRow (hx89.trans' hs394)) (by first | assumption | omega | (simp; omega)) (by first | assumption | omega | (simp; omega)) (by intro r hr9; have h7 := (htrc26 _ hr9).1; omega)) ?_
          rintro v397 w398 he399 ⟨u400, u402, z404, rfl, ho401, ho403, hN405, hE406⟩ a407 ha407; clear ha393 a393
          have hs408 := hs394.trans' he399
          have hx409 := hx395.trans' he399
          have hzhx409 := he399.size
          replace ho261 := ho261.ext he399
          replace hb374 := hb374.ext he399
          replace ho390 := ho390.ext he399
          refine ⟨hs408, ?_⟩
          have hlhE406 := absLen hE406
          refine dr_one (i := 11) (by kernel_rfl) ?_
          refine po_effS ha407 rfl rfl rfl (op_storeAll' ha407 rfl ti28 rfl rfl hb374 rfl rfl (by intro u hu; have hu : u ∈ ([u400, u402] : List Value) := hu; simp only [List.mem_cons, List.mem_nil_iff, or_false] at hu; rcases hu with rfl | rfl <;> first | rfl | exact ho401.one | exact ho403.one) rfl) ?_
          rintro w410 ⟨hb412, hst411, hz413⟩
          have hx414 := hx409.stp hst411 (by intro q hq; cases hq; exact (by omega))
          have hzhx414 := hst411.size
          replace ho261 := ho261.stp hst411 (by intro q hq; cases hq; omega)
          first | replace ho390 := ho390.stp hst411 (by intro q hq; cases hq; omega) | replace ho390 := ho390.stpF flat_shStr hst411 (by intro q hq; cases hq; exact ho390.ne_box (by assumption) rfl)
          replace ho401 := ho401.stp hst411 (by intro q hq; cases hq; omega)
          replace ho403 := ho403.stp hst411 (by intro q hq; cases hq; omega)
          replace hN405 := hN405.stp hst411 (by intro q hq; cases hq; omega)
          clear hb374
          have hs415 := hs408.stp hst411 (by intro q hq; cases hq; omega)
          refine ⟨hs415, ?_⟩
          refine dr_end (by kernel_rfl) ?_
          replace hb4 := hb4.ext hs415
          replace hb11 := hb11.ext hs415
          refine then_n ?_
          exact ⟨w260.heap.size, u400, u402, z404, (Sl.cons_ ha407 rfl rfl (Sl.cons_ ha407 rfl rfl (Sl.cons_ ha407 rfl rfl (Sl.cons_ ha407 rfl rfl (Sl.cons_ ha407 rfl rfl (Sl.cons_ ha407 rfl rfl (Sl.nil_ ha407))))))), hx414, hb4, hb11, (ho401.fin (by omega) (by omega) (by omega)), (ho403.fin (by omega) (by omega) (by omega)), (hN405.fin (by omega) (by omega)), hb412, hE406, (by omega), (by omega)⟩
        ·
         refine po_eff ha101 rfl rfl rfl rfl (op_alloc' rfl ti28 rfl) ?_
         rintro _ w416 ⟨rfl, he417, hb418, hz419⟩ a420 ha420; clear ha101 a101
         have hs421 := hs102.trans' he417
         have hx422 := hx103.trans' he417
         have hzhx422 := he417.size
         replace ho98 := ho98.ext he417
         refine ⟨hs421, ?_⟩
         refine dr_two (i := 3) (j := 5) (by kernel_rfl) ?_ ?_
         ·
          refine po_eff ha420 rfl rfl rfl rfl (op_append (ts := #[]) (s := shStr) ha420 rfl Try.underlying22 ti9 rfl pos_shStr rfl rfl ho98 (h_t0.ext pos_shStr (hx89.trans' hs421)) (by omega) (by omega) (by first | omega | (simp; omega)) (by first | omega | (simp; omega)) (.inl flat_shStr)) ?_
          rintro v423 w424 ⟨ho425, hst426, hob427⟩ a428 ha428; clear ha420 a420
          replace ho425 := ho425.cast (List.nil_append _)
          have hs429 := hs421.stp hst426 (by intro q hq; have hq0 := ho98.lt q hq; omega)
          have hx430 := hx422.stp hst426 (by intro q hq; have hq0 := ho98.lt q hq; omega)
          have hzhx430 := hst426.size
          replace hb418 := hb418.stp hst426 (by intro q hq; have hq0 := ho98.lt q hq; omega)
          refine ⟨hs429, ?_⟩
          refine dr_one (i := 5) (by kernel_rfl) ?_
          refine po_eff ha428 rfl rfl rfl rfl (op_buildSlice (s := shStr) (xs := [head]) (cs := [St head]) (vs := [(0, St head)]) (S := fun _ => False) (le := w424.heap.size) ha428 rfl pos_shStr Try.underlying22 ti9 rfl rfl (by decide) (by kernel_rfl) (Els.single (mk_shStr head (by first | assumption | omega | (simp; omega)))) (fun _ h => h.elim)) ?_
          rintro v431 w432 ⟨ho433, he434, hob435⟩ a436 ha436; clear ha428 a428
          have hs437 := hs429.trans' he434
          have hx438 := hx430.trans' he434
          have hzhx438 := he434.size
          replace hb418 := hb418.ext he434
          replace ho425 := ho425.ext he434
          refine ⟨hs437, ?_⟩
          refine dr_one (i := 6) (by kernel_rfl) ?_
          refine po_eff ha436 rfl rfl rfl rfl (op_append (ts := #[]) (s := shStr) ha436 rfl Try.underlying22 ti9 rfl pos_shStr rfl rfl ho425 (ho433.rds pos_shStr) (by omega) (by omega) (by first | omega | (simp; omega)) (by first | omega | (simp; omega)) (.inl flat_shStr)) ?_
          rintro v439 w440 ⟨ho441, hst442, hob443⟩ a444 ha444; clear ha436 a436
          have hs445 := hs437.stp hst442 (by intro q hq; have hq0 := ho425.lt q hq; omega)
          have hx446 := hx438.stp hst442 (by intro q hq; have hq0 := ho425.lt q hq; omega)
          have hzhx446 := hst442.size
          first | replace hb418 := hb418.stp hst442 (by intro q hq; have hq0 := ho425.lt q hq; omega) | replace hb418 := hb418.stp hst442 (by intro q hq e; subst e; exact ho425.ne_box hb418 rfl hq)
          replace ho433 := ho433.stp hst442 (by intro q hq; have hq0 := ho425.lt q hq; omega)
          have hsp447 : ∀ q, Value.ownBlock v439 = some q → Value.ownBlock v431 ≠ some q := by intro q hq hb; have hq0 := ho433.lt q hb; rcases hob443 with h | h; (rw [h] at hq; first | (have hq1 := ho425.lt q hq; omega)); (rw [h] at hq; cases hq; omega)
          refine ⟨hs445, ?_⟩
          refine dr_one (i := 9) (by kernel_rfl) ?_
          refine po_callR ha444 rfl rfl rfl rfl (op_call ha444 rfl cb74 rfl) (c_spec_l31With _ v439 ((t.1 ++ [head])) v_t1 t.2 (ho441.rds pos_shStr) (h_t1.ext pos_shRow (hx89.trans' hs445)) (by first | assumption | omega | (simp; omega)) (by first | assumption | omega | (simp; omega)) (by intro r hr9; have h7 := (htrc26 _ hr9).1; omega)) ?_
          rintro v448 w449 he450 ⟨u451, u453, z455, rfl, ho452, ho454, hN456, hE457⟩ a458 ha458; clear ha444 a444
          have hs459 := hs445.trans' he450
          have hx460 := hx446.trans' he450
          have hzhx460 := he450.size
          replace hb418 := hb418.ext he450
          replace ho433 := ho433.ext he450
          replace ho441 := ho441.ext he450
          refine ⟨hs459, ?_⟩
          have hlhE457 := absLen hE457
          refine dr_one (i := 11) (by kernel_rfl) ?_
          refine po_effS ha458 rfl rfl rfl (op_storeAll' ha458 rfl ti28 rfl rfl hb418 rfl rfl (by intro u hu; have hu : u ∈ ([u451, u453] : List Value) := hu; simp only [List.mem_cons, List.mem_nil_iff, or_false] at hu; rcases hu with rfl | rfl <;> first | rfl | exact ho452.one | exact ho454.one) rfl) ?_
          rintro w461 ⟨hb463, hst462, hz464⟩
          have hx465 := hx460.stp hst462 (by intro q hq; cases hq; exact (by omega))
          have hzhx465 := hst462.size
          replace ho433 := ho433.stp hst462 (by intro q hq; cases hq; omega)
          first | replace ho441 := ho441.stp hst462 (by intro q hq; cases hq; omega) | replace ho441 := ho441.stpF flat_shStr hst462 (by intro q hq; cases hq; exact ho441.ne_box (by assumption) rfl)
          replace ho452 := ho452.stp hst462 (by intro q hq; cases hq; omega)
          replace ho454 := ho454.stp hst462 (by intro q hq; cases hq; omega)
          replace hN456 := hN456.stp hst462 (by intro q hq; cases hq; omega)
          clear hb418
          have hs466 := hs459.stp hst462 (by intro q hq; cases hq; omega)
          refine ⟨hs466, ?_⟩
          refine dr_end (by kernel_rfl) ?_
          replace hb4 := hb4.ext hs466
          replace hb11 := hb11.ext hs466
          refine then_n ?_
          exact ⟨w97.heap.size, u451, u453, z455, (Sl.cons_ ha458 rfl rfl (Sl.cons_ ha458 rfl rfl (Sl.cons_ ha458 rfl rfl (Sl.cons_ ha458 rfl rfl (Sl.cons_ ha458 rfl rfl (Sl.cons_ ha458 rfl rfl (Sl.nil_ ha458))))))), hx465, hb4, hb11, (ho452.fin (by omega) (by omega) (by omega)), (ho454.fin (by omega) (by omega) (by omega)), (hN456.fin (by omega) (by omega)), hb463, hE457, (by omega), (by omega)⟩
         ·
          refine po_eff ha420 rfl rfl rfl rfl (op_buildSlice (s := shStr) (xs := [head]) (cs := [St head]) (vs := [(0, St head)]) (S := fun _ => False) (le := w416.heap.size) ha420 rfl pos_shStr Try.underlying22 ti9 rfl rfl (by decide) (by kernel_rfl) (Els.single (mk_shStr head (by first | assumption | omega | (simp; omega)))) (fun _ h => h.elim)) ?_
          rintro v467 w468 ⟨ho469, he470, hob471⟩ a472 ha472; clear ha420 a420
          have hs473 := hs421.trans' he470
          have hx474 := hx422.trans' he470
          have hzhx474 := he470.size
          replace ho98 := ho98.ext he470
          replace hb418 := hb418.ext he470
          refine ⟨hs473, ?_⟩
          refine dr_one (i := 3) (by kernel_rfl) ?_
          refine po_eff ha472 rfl rfl rfl rfl (op_append (ts := #[]) (s := shStr) ha472 rfl Try.underlying22 ti9 rfl pos_shStr rfl rfl ho98 (h_t0.ext pos_shStr (hx89.trans' hs473)) (by omega) (by omega) (by first | omega | (simp; omega)) (by first | omega | (simp; omega)) (.inl flat_shStr)) ?_
          rintro v475 w476 ⟨ho477, hst478, hob479⟩ a480 ha480; clear ha472 a472
          replace ho477 := ho477.cast (List.nil_append _)
          have hs481 := hs473.stp hst478 (by intro q hq; have hq0 := ho98.lt q hq; omega)
          have hx482 := hx474.stp hst478 (by intro q hq; have hq0 := ho98.lt q hq; omega)
          have hzhx482 := hst478.size
          replace hb418 := hb418.stp hst478 (by intro q hq; have hq0 := ho98.lt q hq; omega)
          replace ho469 := ho469.stp hst478 (by intro q hq; have hq0 := ho98.lt q hq; omega)
          have hsp483 : ∀ q, Value.ownBlock v475 = some q → Value.ownBlock v467 ≠ some q := by intro q hq hb; have hq0 := ho469.lt q hb; rcases hob479 with h | h; (rw [h] at hq; first | (have hq1 := ho98.lt q hq; omega)); (rw [h] at hq; cases hq; omega)
          refine ⟨hs481, ?_⟩
          refine dr_one (i := 6) (by kernel_rfl) ?_
          refine po_eff ha480 rfl rfl rfl rfl (op_append (ts := #[]) (s := shStr) ha480 rfl Try.underlying22 ti9 rfl pos_shStr rfl rfl ho477 (ho469.rds pos_shStr) (by omega) (by omega) (by first | omega | (simp; omega)) (by first | omega | (simp; omega)) (.inl flat_shStr)) ?_
          rintro v484 w485 ⟨ho486, hst487, hob488⟩ a489 ha489; clear ha480 a480
          have hs490 := hs481.stp hst487 (by intro q hq; have hq0 := ho477.lt q hq; omega)
          have hx491 := hx482.stp hst487 (by intro q hq; have hq0 := ho477.lt q hq; omega)
          have hzhx491 := hst487.size
          first | replace hb418 := hb418.stp hst487 (by intro q hq; have hq0 := ho477.lt q hq; omega) | replace hb418 := hb418.stp hst487 (by intro q hq e; subst e; exact ho477.ne_box hb418 rfl hq)
          first | replace ho469 := ho469.stp hst487 (by intro q hq; have hq0 := ho477.lt q hq; omega) | replace ho469 := ho469.stpF flat_shStr hst487 (fun q hq => hsp483 q hq)
          have hsp492 : ∀ q, Value.ownBlock v484 = some q → Value.ownBlock v467 ≠ some q := by intro q hq hb; have hq0 := ho469.lt q hb; rcases hob488 with h | h; (rw [h] at hq; first | (have hq1 := ho477.lt q hq; omega) | exact hsp483 q hq hb); (rw [h] at hq; cases hq; omega)
          refine ⟨hs490, ?_⟩
          refine dr_one (i := 9) (by kernel_rfl) ?_
          refine po_callR ha489 rfl rfl rfl rfl (op_call ha489 rfl cb74 rfl) (c_spec_l31With _ v484 ((t.1 ++ [head])) v_t1 t.2 (ho486.rds pos_shStr) (h_t1.ext pos_shRow (hx89.trans' hs490)) (by first | assumption | omega | (simp; omega)) (by first | assumption | omega | (simp; omega)) (by intro r hr9; have h7 := (htrc26 _ hr9).1; omega)) ?_
          rintro v493 w494 he495 ⟨u496, u498, z500, rfl, ho497, ho499, hN501, hE502⟩ a503 ha503; clear ha489 a489
          have hs504 := hs490.trans' he495
          have hx505 := hx491.trans' he495
          have hzhx505 := he495.size
          replace hb418 := hb418.ext he495
          replace ho469 := ho469.ext he495
          replace ho486 := ho486.ext he495
          refine ⟨hs504, ?_⟩
          have hlhE502 := absLen hE502
          refine dr_one (i := 11) (by kernel_rfl) ?_
          refine po_effS ha503 rfl rfl rfl (op_storeAll' ha503 rfl ti28 rfl rfl hb418 rfl rfl (by intro u hu; have hu : u ∈ ([u496, u498] : List Value) := hu; simp only [List.mem_cons, List.mem_nil_iff, or_false] at hu; rcases hu with rfl | rfl <;> first | rfl | exact ho497.one | exact ho499.one) rfl) ?_
          rintro w506 ⟨hb508, hst507, hz509⟩
          have hx510 := hx505.stp hst507 (by intro q hq; cases hq; exact (by omega))
          have hzhx510 := hst507.size
          replace ho469 := ho469.stp hst507 (by intro q hq; cases hq; omega)
          first | replace ho486 := ho486.stp hst507 (by intro q hq; cases hq; omega) | replace ho486 := ho486.stpF flat_shStr hst507 (by intro q hq; cases hq; exact ho486.ne_box (by assumption) rfl)
          replace ho497 := ho497.stp hst507 (by intro q hq; cases hq; omega)
          replace ho499 := ho499.stp hst507 (by intro q hq; cases hq; omega)
          replace hN501 := hN501.stp hst507 (by intro q hq; cases hq; omega)
          clear hb418
          have hs511 := hs504.stp hst507 (by intro q hq; cases hq; omega)
          refine ⟨hs511, ?_⟩
          refine dr_end (by kernel_rfl) ?_
          replace hb4 := hb4.ext hs511
          replace hb11 := hb11.ext hs511
          refine then_n ?_
          exact ⟨w97.heap.size, u496, u498, z500, (Sl.cons_ ha503 rfl rfl (Sl.cons_ ha503 rfl rfl (Sl.cons_ ha503 rfl rfl (Sl.cons_ ha503 rfl rfl (Sl.cons_ ha503 rfl rfl (Sl.cons_ ha503 rfl rfl (Sl.nil_ ha503))))))), hx510, hb4, hb11, (ho497.fin (by omega) (by omega) (by omega)), (ho499.fin (by omega) (by omega) (by omega)), (hN501.fin (by omega) (by omega)), hb508, hE502, (by omega), (by omega)⟩
       ·
        refine po_eff ha95 rfl rfl rfl rfl (op_buildSlice (s := shStr) (xs := [head]) (cs := [St head]) (vs := [(0, St head)]) (S := fun _ => False) (le := w87.heap.size) ha95 rfl pos_shStr Try.underlying22 ti9 rfl rfl (by decide) (by kernel_rfl) (Els.single (mk_shStr head (by first | assumption | omega | (simp; omega)))) (fun _ h => h.elim)) ?_
        rintro v512 w513 ⟨ho514, he515, hob516⟩ a517 ha517; clear ha95 a95
        have hs518 := hs90.trans' he515
        have hx519 := hx89.trans' he515
        have hzhx519 := he515.size
        refine ⟨hs518, ?_⟩
        refine dr_two (i := 0) (j := 10) (by kernel_rfl) ?_ ?_
        ·
         refine po_eff ha517 rfl rfl rfl rfl (op_buildSlice (s := shStr) (xs := ([] : List Str)) (cs := []) (vs := []) (S := fun _ => False) (le := w513.heap.size) ha517 rfl pos_shStr Try.underlying22 ti9 rfl rfl (by decide) (by kernel_rfl) rfl (fun _ h => h.elim)) ?_
         rintro v520 w521 ⟨ho522, he523, hob524⟩ a525 ha525; clear ha517 a517
         have hs526 := hs518.trans' he523
         have hx527 := hx519.trans' he523
         have hzhx527 := he523.size
         replace ho514 := ho514.ext he523
         refine ⟨hs526, ?_⟩
         refine dr_two (i := 3) (j := 10) (by kernel_rfl) ?_ ?_
         ·
          refine po_eff ha525 rfl rfl rfl rfl (op_append (ts := #[]) (s := shStr) ha525 rfl Try.underlying22 ti9 rfl pos_shStr rfl rfl ho522 (h_t0.ext pos_shStr (hx89.trans' hs526)) (by omega) (by omega) (by first | omega | (simp; omega)) (by first | omega | (simp; omega)) (.inl flat_shStr)) ?_
          rintro v528 w529 ⟨ho530, hst531, hob532⟩ a533 ha533; clear ha525 a525
          replace ho530 := ho530.cast (List.nil_append _)
          have hs534 := hs526.stp hst531 (by intro q hq; have hq0 := ho522.lt q hq; omega)
          have hx535 := hx527.stp hst531 (by intro q hq; have hq0 := ho522.lt q hq; omega)
          have hzhx535 := hst531.size
          replace ho514 := ho514.stp hst531 (by intro q hq; have hq0 := ho522.lt q hq; omega)
          have hsp536 : ∀ q, Value.ownBlock v528 = some q → Value.ownBlock v512 ≠ some q := by intro q hq hb; have hq0 := ho514.lt q hb; rcases hob532 with h | h; (rw [h] at hq; first | (have hq1 := ho522.lt q hq; omega)); (rw [h] at hq; cases hq; omega)
          refine ⟨hs534, ?_⟩
          refine dr_two (i := 6) (j := 10) (by kernel_rfl) ?_ ?_
          ·
           refine po_eff ha533 rfl rfl rfl rfl (op_append (ts := #[]) (s := shStr) ha533 rfl Try.underlying22 ti9 rfl pos_shStr rfl rfl ho530 (ho514.rds pos_shStr) (by omega) (by omega) (by first | omega | (simp; omega)) (by first | omega | (simp; omega)) (.inl flat_shStr)) ?_
           rintro v537 w538 ⟨ho539, hst540, hob541⟩ a542 ha542; clear ha533 a533
           have hs543 := hs534.stp hst540 (by intro q hq; have hq0 := ho530.lt q hq; omega)
           have hx544 := hx535.stp hst540 (by intro q hq; have hq0 := ho530.lt q hq; omega)
           have hzhx544 := hst540.size
           replace ho514 := ho514.stp hst540 (by intro q hq; have hq0 := ho530.lt q hq; omega)
           have hsp545 : ∀ q, Value.ownBlock v537 = some q → Value.ownBlock v512 ≠ some q := by intro q hq hb; have hq0 := ho514.lt q hb; rcases hob541 with h | h; (rw [h] at hq; first | (have hq1 := ho530.lt q hq; omega) | exact hsp536 q hq hb); (rw [h] at hq; cases hq; omega)
           refine ⟨hs543, ?_⟩
           refine dr_two (i := 9) (j := 10) (by kernel_rfl) ?_ ?_
           ·
            refine po_callR ha542 rfl rfl rfl rfl (op_call ha542 rfl cb74 rfl) (c_spec_l31With _ v537 ((t.1 ++ [head])) v_t1 t.2 (ho539.rds pos_shStr) (h_t1.ext pos_shRow (hx89.trans' hs543)) (by first | assumption | omega | (simp; omega)) (by first | assumption | omega | (simp; omega)) (by intro r hr9; have h7 := (htrc26 _ hr9).1; omega)) ?_
            rintro v546 w547 he548 ⟨u549, u551, z553, rfl, ho550, ho552, hN554, hE555⟩ a556 ha556; clear ha542 a542
            have hs557 := hs543.trans' he548
            have hx558 := hx544.trans' he548
            have hzhx558 := he548.size
            replace ho514 := ho514.ext he548
            replace ho539 := ho539.ext he548
            refine ⟨hs557, ?_⟩
            have hlhE555 := absLen hE555
            refine dr_one (i := 10) (by kernel_rfl) ?_
            refine po_eff ha556 rfl rfl rfl rfl (op_alloc' rfl ti28 rfl) ?_
            rintro _ w559 ⟨rfl, he560, hb561, hz562⟩ a563 ha563; clear ha556 a556
            have hs564 := hs557.trans' he560
            have hx565 := hx558.trans' he560
            have hzhx565 := he560.size
            replace ho514 := ho514.ext he560
            replace ho539 := ho539.ext he560
            replace ho550 := ho550.ext he560
            replace ho552 := ho552.ext he560
            replace hN554 := hN554.ext he560
            refine ⟨hs564, ?_⟩
            refine dr_one (i := 11) (by kernel_rfl) ?_
            refine po_effS ha563 rfl rfl rfl (op_storeAll' ha563 rfl ti28 rfl rfl hb561 rfl rfl (by intro u hu; have hu : u ∈ ([u549, u551] : List Value) := hu; simp only [List.mem_cons, List.mem_nil_iff, or_false] at hu; rcases hu with rfl | rfl <;> first | rfl | exact ho550.one | exact ho552.one) rfl) ?_
            rintro w566 ⟨hb568, hst567, hz569⟩
            have hx570 := hx565.stp hst567 (by intro q hq; cases hq; exact (by omega))
            have hzhx570 := hst567.size
            replace ho514 := ho514.stp hst567 (by intro q hq; cases hq; omega)
            replace ho539 := ho539.stp hst567 (by intro q hq; cases hq; omega)
            replace ho550 := ho550.stp hst567 (by intro q hq; cases hq; omega)
            replace ho552 := ho552.stp hst567 (by intro q hq; cases hq; omega)
            replace hN554 := hN554.stp hst567 (by intro q hq; cases hq; omega)
            clear hb561
            have hs571 := hs564.stp hst567 (by intro q hq; cases hq; omega)
            refine ⟨hs571, ?_⟩
            refine dr_end (by kernel_rfl) ?_
            replace hb4 := hb4.ext hs571
            replace hb11 := hb11.ext hs571
            refine then_n ?_
            exact ⟨w547.heap.size, u549, u551, z553, (Sl.cons_ ha563 rfl rfl (Sl.cons_ ha563 rfl rfl (Sl.cons_ ha563 rfl rfl (Sl.cons_ ha563 rfl rfl (Sl.cons_ ha563 rfl rfl (Sl.cons_ ha563 rfl rfl (Sl.nil_ ha563))))))), hx570, hb4, hb11, (ho550.fin (by omega) (by omega) (by omega)), (ho552.fin (by omega) (by omega) (by omega)), (hN554.fin (by omega) (by omega)), hb568, hE555, (by omega), (by omega)⟩
           ·
            refine po_eff ha542 rfl rfl rfl rfl (op_alloc' rfl ti28 rfl) ?_
            rintro _ w572 ⟨rfl, he573, hb574, hz575⟩ a576 ha576; clear ha542 a542
            have hs577 := hs543.trans' he573
            have hx578 := hx544.trans' he573
            have hzhx578 := he573.size
            replace ho514 := ho514.ext he573
            replace ho539 := ho539.ext he573
            refine ⟨hs577, ?_⟩
            refine dr_one (i := 9) (by kernel_rfl) ?_
            refine po_callR ha576 rfl rfl rfl rfl (op_call ha576 rfl cb74 rfl) (c_spec_l31With _ v537 ((t.1 ++ [head])) v_t1 t.2 (ho539.rds pos_shStr) (h_t1.ext pos_shRow (hx89.trans' hs577)) (by first | assumption | omega | (simp; omega)) (by first | assumption | omega | (simp; omega)) (by intro r hr9; have h7 := (htrc26 _ hr9).1; omega)) ?_
            rintro v579 w580 he581 ⟨u582, u584, z586, rfl, ho583, ho585, hN587, hE588⟩ a589 ha589; clear ha576 a576
            have hs590 := hs577.trans' he581
            have hx591 := hx578.trans' he581
            have hzhx591 := he581.size
            replace ho514 := ho514.ext he581
            replace ho539 := ho539.ext he581
            replace hb574 := hb574.ext he581
            refine ⟨hs590, ?_⟩
            have hlhE588 := absLen hE588
            refine dr_one (i := 11) (by kernel_rfl) ?_
            refine po_effS ha589 rfl rfl rfl (op_storeAll' ha589 rfl ti28 rfl rfl hb574 rfl rfl (by intro u hu; have hu : u ∈ ([u582, u584] : List Value) := hu; simp only [List.mem_cons, List.mem_nil_iff, or_false] at hu; rcases hu with rfl | rfl <;> first | rfl | exact ho583.one | exact ho585.one) rfl) ?_
            rintro w592 ⟨hb594, hst593, hz595⟩
            have hx596 := hx591.stp hst593 (by intro q hq; cases hq; exact (by omega))
            have hzhx596 := hst593.size
            replace ho514 := ho514.stp hst593 (by intro q hq; cases hq; omega)
            replace ho539 := ho539.stp hst593 (by intro q hq; cases hq; omega)
            replace ho583 := ho583.stp hst593 (by intro q hq; cases hq; omega)
            replace ho585 := ho585.stp hst593 (by intro q hq; cases hq; omega)
            replace hN587 := hN587.stp hst593 (by intro q hq; cases hq; omega)
            clear hb574
            have hs597 := hs590.stp hst593 (by intro q hq; cases hq; omega)
            refine ⟨hs597, ?_⟩
            refine dr_end (by kernel_rfl) ?_
            replace hb4 := hb4.ext hs597
            replace hb11 := hb11.ext hs597
            refine then_n ?_
            exact ⟨w538.heap.size, u582, u584, z586, (Sl.cons_ ha589 rfl rfl (Sl.cons_ ha589 rfl rfl (Sl.cons_ ha589 rfl rfl (Sl.cons_ ha589 rfl rfl (Sl.cons_ ha589 rfl rfl (Sl.cons_ ha589 rfl rfl (Sl.nil_ ha589))))))), hx596, hb4, hb11, (ho583.fin (by omega) (by omega) (by omega)), (ho585.fin (by omega) (by omega) (by omega)), (hN587.fin (by omega) (by omega)), hb594, hE588, (by omega), (by omega)⟩
          ·
           refine po_eff ha533 rfl rfl rfl rfl (op_alloc' rfl ti28 rfl) ?_
           rintro _ w598 ⟨rfl, he599, hb600, hz601⟩ a602 ha602; clear ha533 a533
           have hs603 := hs534.trans' he599
           have hx604 := hx535.trans' he599
           have hzhx604 := he599.size
           replace ho514 := ho514.ext he599
           replace ho530 := ho530.ext he599
           refine ⟨hs603, ?_⟩
           refine dr_one (i := 6) (by kernel_rfl) ?_
           refine po_eff ha602 rfl rfl rfl rfl (op_append (ts := #[]) (s := shStr) ha602 rfl Try.underlying22 ti9 rfl pos_shStr rfl rfl ho530 (ho514.rds pos_shStr) (by omega) (by omega) (by first | omega | (simp; omega)) (by first | omega | (simp; omega)) (.inl flat_shStr)) ?_
           rintro v605 w606 ⟨ho607, hst608, hob609⟩ a610 ha610; clear ha602 a602
           have hs611 := hs603.stp hst608 (by intro q hq; have hq0 := ho530.lt q hq; omega)
           have hx612 := hx604.stp hst608 (by intro q hq; have hq0 := ho530.lt q hq; omega)
           have hzhx612 := hst608.size
           replace ho514 := ho514.stp hst608 (by intro q hq; have hq0 := ho530.lt q hq; omega)
           replace hb600 := hb600.stp hst608 (by intro q hq; have hq0 := ho530.lt q hq; omega)
           have hsp613 : ∀ q, Value.ownBlock v605 = some q → Value.ownBlock v512 ≠ some q := by intro q hq hb; have hq0 := ho514.lt q hb; rcases hob609 with h | h; (rw [h] at hq; first | (have hq1 := ho530.lt q hq; omega) | exact hsp536 q hq hb); (rw [h] at hq; cases hq; omega)
           refine ⟨hs611, ?_⟩
           refine dr_one (i := 9) (by kernel_rfl) ?_
           refine po_callR ha610 rfl rfl rfl rfl (op_call ha610 rfl cb74 rfl) (c_spec_l31With _ v605 ((t.1 ++ [head])) v_t1 t.2 (ho607.rds pos_shStr) (h_t1.ext pos_shRow (hx89.trans' hs611)) (by first | assumption | omega | (simp; omega)) (by first | assumption | omega | (simp; omega)) (by intro r hr9; have h7 := (htrc26 _ hr9).1; omega)) ?_
           rintro v614 w615 he616 ⟨u617, u619, z621, rfl, ho618, ho620, hN622, hE623⟩ a624 ha624; clear ha610 a610
           have hs625 := hs611.trans' he616
           have hx626 := hx612.trans' he616
           have hzhx626 := he616.size
           replace ho514 := ho514.ext he616
           replace hb600 := hb600.ext he616
           replace ho607 := ho607.ext he616
           refine ⟨hs625, ?_⟩
           have hlhE623 := absLen hE623
           refine dr_one (i := 11) (by kernel_rfl) ?_
           refine po_effS ha624 rfl rfl rfl (op_storeAll' ha624 rfl ti28 rfl rfl hb600 rfl rfl (by intro u hu; have hu : u ∈ ([u617, u619] : List Value) := hu; simp only [List.mem_cons, List.mem_nil_iff, or_false] at hu; rcases hu with rfl | rfl <;> first | rfl | exact ho618.one | exact ho620.one) rfl) ?_
           rintro w627 ⟨hb629, hst628, hz630⟩
           have hx631 := hx626.stp hst628 (by intro q hq; cases hq; exact (by omega))
           have hzhx631 := hst628.size
           replace ho514 := ho514.stp hst628 (by intro q hq; cases hq; omega)
           first | replace ho607 := ho607.stp hst628 (by intro q hq; cases hq; omega) | replace ho607 := ho607.stpF flat_shStr hst628 (by intro q hq; cases hq; exact ho607.ne_box (by assumption) rfl)
           replace ho618 := ho618.stp hst628 (by intro q hq; cases hq; omega)
           replace ho620 := ho620.stp hst628 (by intro q hq; cases hq; omega)
           replace hN622 := hN622.stp hst628 (by intro q hq; cases hq; omega)
           clear hb600
           have hs632 := hs625.stp hst628 (by intro q hq; cases hq; omega)
           refine ⟨hs632, ?_⟩
           refine dr_end (by kernel_rfl) ?_
           replace hb4 := hb4.ext hs632
           replace hb11 := hb11.ext hs632
           refine then_n ?_
           exact ⟨w529.heap.size, u617, u619, z621, (Sl.cons_ ha624 rfl rfl (Sl.cons_ ha624 rfl rfl (Sl.cons_ ha624 rfl rfl (Sl.cons_ ha624 rfl rfl (Sl.cons_ ha624 rfl rfl (Sl.cons_ ha624 rfl rfl (Sl.nil_ ha624))))))), hx631, hb4, hb11, (ho618.fin (by omega) (by omega) (by omega)), (ho620.fin (by omega) (by omega) (by omega)), (hN622.fin (by omega) (by omega)), hb629, hE623, (by omega), (by omega)⟩
         ·
          refine po_eff ha525 rfl rfl rfl rfl (op_alloc' rfl ti28 rfl) ?_
          rintro _ w633 ⟨rfl, he634, hb635, hz636⟩ a637 ha637; clear ha525 a525
          have hs638 := hs526.trans' he634
          have hx639 := hx527.trans' he634
          have hzhx639 := he634.size
          replace ho514 := ho514.ext he634
          replace ho522 := ho522.ext he634
          refine ⟨hs638, ?_⟩
          refine dr_one (i := 3) (by kernel_rfl) ?_
          refine po_eff ha637 rfl rfl rfl rfl (op_append (ts := #[]) (s := shStr) ha637 rfl Try.underlying22 ti9 rfl pos_shStr rfl rfl ho522 (h_t0.ext pos_shStr (hx89.trans' hs638)) (by omega) (by omega) (by first | omega | (simp; omega)) (by first | omega | (simp; omega)) (.inl flat_shStr)) ?_
          rintro v640 w641 ⟨ho642, hst643, hob644⟩ a645 ha645; clear ha637 a637
          replace ho642 := ho642.cast (List.nil_append _)
          have hs646 := hs638.stp hst643 (by intro q hq; have hq0 := ho522.lt q hq; omega)
          have hx647 := hx639.stp hst643 (by intro q hq; have hq0 := ho522.lt q hq; omega)
          have hzhx647 := hst643.size
          replace ho514 := ho514.stp hst643 (by intro q hq; have hq0 := ho522.lt q hq; omega)
          replace hb635 := hb635.stp hst643 (by intro q hq; have hq0 := ho522.lt q hq; omega)
          have hsp648 : ∀ q, Value.ownBlock v640 = some q → Value.ownBlock v512 ≠ some q := by intro q hq hb; have hq0 := ho514.lt q hb; rcases hob644 with h | h; (rw [h] at hq; first | (have hq1 := ho522.lt q hq; omega)); (rw [h] at hq; cases hq; omega)
          refine ⟨hs646, ?_⟩
          refine dr_one (i := 6) (by kernel_rfl) ?_
          refine po_eff ha645 rfl rfl rfl rfl (op_append (ts := #[]) (s := shStr) ha645 rfl Try.underlying22 ti9 rfl pos_shStr rfl rfl ho642 (ho514.rds pos_shStr) (by omega) (by omega) (by first | omega | (simp; omega)) (by first | omega | (simp; omega)) (.inl flat_shStr)) ?_
          rintro v649 w650 ⟨ho651, hst652, hob653⟩ a654 ha654; clear ha645 a645
          have hs655 := hs646.stp hst652 (by intro q hq; have hq0 := ho642.lt q hq; omega)
          have hx656 := hx647.stp hst652 (by intro q hq; have hq0 := ho642.lt q hq; omega)
          have hzhx656 := hst652.size
          replace ho514 := ho514.stp hst652 (by intro q hq; have hq0 := ho642.lt q hq; omega)
          first | replace hb635 := hb635.stp hst652 (by intro q hq; have hq0 := ho642.lt q hq; omega) | replace hb635 := hb635.stp hst652 (by intro q hq e; subst e; exact ho642.ne_box hb635 rfl hq)
          have hsp657 : ∀ q, Value.ownBlock v649 = some q → Value.ownBlock v512 ≠ some q := by intro q hq hb; have hq0 := ho514.lt q hb; rcases hob653 with h | h; (rw [h] at hq; first | (have hq1 := ho642.lt q hq; omega) | exact hsp648 q hq hb); (rw [h] at hq; cases hq; omega)
          refine ⟨hs655, ?_⟩
          refine dr_one (i := 9) (by kernel_rfl) ?_
          refine po_callR ha654 rfl rfl rfl rfl (op_call ha654 rfl cb74 rfl) (c_spec_l31With _ v649 ((t.1 ++ [head])) v_t1 t.2 (ho651.rds pos_shStr) (h_t1.ext pos_shRow (hx89.trans' hs655)) (by first | assumption | omega | (simp; omega)) (by first | assumption | omega | (simp; omega)) (by intro r hr9; have h7 := (htrc26 _ hr9).1; omega)) ?_
          rintro v658 w659 he660 ⟨u661, u663, z665, rfl, ho662, ho664, hN666, hE667⟩ a668 ha668; clear ha654 a654
          have hs669 := hs655.trans' he660
          have hx670 := hx656.trans' he660
          have hzhx670 := he660.size
          replace ho514 := ho514.ext he660
          replace hb635 := hb635.ext he660
          replace ho651 := ho651.ext he660
          refine ⟨hs669, ?_⟩
          have hlhE667 := absLen hE667
          refine dr_one (i := 11) (by kernel_rfl) ?_
          refine po_effS ha668 rfl rfl rfl (op_storeAll' ha668 rfl ti28 rfl rfl hb635 rfl rfl (by intro u hu; have hu : u ∈ ([u661, u663] : List Value) := hu; simp only [List.mem_cons, List.mem_nil_iff, or_false] at hu; rcases hu with rfl | rfl <;> first | rfl | exact ho662.one | exact ho664.one) rfl) ?_
          rintro w671 ⟨hb673, hst672, hz674⟩
          have hx675 := hx670.stp hst672 (by intro q hq; cases hq; exact (by omega))
          have hzhx675 := hst672.size
          replace ho514 := ho514.stp hst672 (by intro q hq; cases hq; omega)
          first | replace ho651 := ho651.stp hst672 (by intro q hq; cases hq; omega) | replace ho651 := ho651.stpF flat_shStr hst672 (by intro q hq; cases hq; exact ho651.ne_box (by assumption) rfl)
          replace ho662 := ho662.stp hst672 (by intro q hq; cases hq; omega)
          replace ho664 := ho664.stp hst672 (by intro q hq; cases hq; omega)
          replace hN666 := hN666.stp hst672 (by intro q hq; cases hq; omega)
          clear hb635
          have hs676 := hs669.stp hst672 (by intro q hq; cases hq; omega)
          refine ⟨hs676, ?_⟩
          refine dr_end (by kernel_rfl) ?_
          replace hb4 := hb4.ext hs676
          replace hb11 := hb11.ext hs676
          refine then_n ?_
          exact ⟨w521.heap.size, u661, u663, z665, (Sl.cons_ ha668 rfl rfl (Sl.cons_ ha668 rfl rfl (Sl.cons_ ha668 rfl rfl (Sl.cons_ ha668 rfl rfl (Sl.cons_ ha668 rfl rfl (Sl.cons_ ha668 rfl rfl (Sl.nil_ ha668))))))), hx675, hb4, hb11, (ho662.fin (by omega) (by omega) (by omega)), (ho664.fin (by omega) (by omega) (by omega)), (hN666.fin (by omega) (by omega)), hb673, hE667, (by omega), (by omega)⟩
        ·
         refine po_eff ha517 rfl rfl rfl rfl (op_alloc' rfl ti28 rfl) ?_
         rintro _ w677 ⟨rfl, he678, hb679, hz680⟩ a681 ha681; clear ha517 a517
         have hs682 := hs518.trans' he678
         have hx683 := hx519.trans' he678
         have hzhx683 := he678.size
         replace ho514 := ho514.ext he678
         refine ⟨hs682, ?_⟩
         refine dr_one (i := 0) (by kernel_rfl) ?_
         refine po_eff ha681 rfl rfl rfl rfl (op_buildSlice (s := shStr) (xs := ([] : List Str)) (cs := []) (vs := []) (S := fun _ => False) (le := w677.heap.size) ha681 rfl pos_shStr Try.underlying22 ti9 rfl rfl (by decide) (by kernel_rfl) rfl (fun _ h => h.elim)) ?_
         rintro v684 w685 ⟨ho686, he687, hob688⟩ a689 ha689; clear ha681 a681
         have hs690 := hs682.trans' he687
         have hx691 := hx683.trans' he687
         have hzhx691 := he687.size
         replace ho514 := ho514.ext he687
         replace hb679 := hb679.ext he687
         refine ⟨hs690, ?_⟩
         refine dr_one (i := 3) (by kernel_rfl) ?_
         refine po_eff ha689 rfl rfl rfl rfl (op_append (ts := #[]) (s := shStr) ha689 rfl Try.underlying22 ti9 rfl pos_shStr rfl rfl ho686 (h_t0.ext pos_shStr (hx89.trans' hs690)) (by omega) (by omega) (by first | omega | (simp; omega)) (by first | omega | (simp; omega)) (.inl flat_shStr)) ?_
         rintro v692 w693 ⟨ho694, hst695, hob696⟩ a697 ha697; clear ha689 a689
         replace ho694 := ho694.cast (List.nil_append _)
         have hs698 := hs690.stp hst695 (by intro q hq; have hq0 := ho686.lt q hq; omega)
         have hx699 := hx691.stp hst695 (by intro q hq; have hq0 := ho686.lt q hq; omega)
         have hzhx699 := hst695.size
         replace ho514 := ho514.stp hst695 (by intro q hq; have hq0 := ho686.lt q hq; omega)
         replace hb679 := hb679.stp hst695 (by intro q hq; have hq0 := ho686.lt q hq; omega)
         have hsp700 : ∀ q, Value.ownBlock v692 = some q → Value.ownBlock v512 ≠ some q := by intro q hq hb; have hq0 := ho514.lt q hb; rcases hob696 with h | h; (rw [h] at hq; first | (have hq1 := ho686.lt q hq; omega)); (rw [h] at hq; cases hq; omega)
         refine ⟨hs698, ?_⟩
         refine dr_one (i := 6) (by kernel_rfl) ?_
         refine po_eff ha697 rfl rfl rfl rfl (op_append (ts := #[]) (s := shStr) ha697 rfl Try.underlying22 ti9 rfl pos_shStr rfl rfl ho694 (ho514.rds pos_shStr) (by omega) (by omega) (by first | omega | (simp; omega)) (by first | omega | (simp; omega)) (.inl flat_shStr)) ?_
         rintro v701 w702 ⟨ho703, hst704, hob705⟩ a706 ha706; clear ha697 a697
         have hs707 := hs698.stp hst704 (by intro q hq; have hq0 := ho694.lt q hq; omega)
         have hx708 := hx699.stp hst704 (by intro q hq; have hq0 := ho694.lt q hq; omega)
         have hzhx708 := hst704.size
         replace ho514 := ho514.stp hst704 (by intro q hq; have hq0 := ho694.lt q hq; omega)
         replace hb679 := hb679.stp hst704 (by intro q hq; have hq0 := ho694.lt q hq; omega)
         have hsp709 : ∀ q, Value.ownBlock v701 = some q → Value.ownBlock v512 ≠ some q := by intro q hq hb; have hq0 := ho514.lt q hb; rcases hob705 with h | h; (rw [h] at hq; first | (have hq1 := ho694.lt q hq; omega) | exact hsp700 q hq hb); (rw [h] at hq; cases hq; omega)
         refine ⟨hs707, ?_⟩
         refine dr_one (i := 9) (by kernel_rfl) ?_
         refine po_callR ha706 rfl rfl rfl rfl (op_call ha706 rfl cb74 rfl) (c_spec_l31With _ v701 ((t.1 ++ [head])) v_t1 t.2 (ho703.rds pos_shStr) (h_t1.ext pos_shRow (hx89.trans' hs707)) (by first | assumption | omega | (simp; omega)) (by first | assumption | omega | (simp; omega)) (by intro r hr9; have h7 := (htrc26 _ hr9).1; omega)) ?_
         rintro v710 w711 he712 ⟨u713, u715, z717, rfl, ho714, ho716, hN718, hE719⟩ a720 ha720; clear ha706 a706
         have hs721 := hs707.trans' he712
         have hx722 := hx708.trans' he712
         have hzhx722 := he712.size
         replace ho514 := ho514.ext he712
         replace hb679 := hb679.ext he712
         replace ho703 := ho703.ext he712
         refine ⟨hs721, ?_⟩
         have hlhE719 := absLen hE719
         refine dr_one (i := 11) (by kernel_rfl) ?_
         refine po_effS ha720 rfl rfl rfl (op_storeAll' ha720 rfl ti28 rfl rfl hb679 rfl rfl (by intro u hu; have hu : u ∈ ([u713, u715] : List Value) := hu; simp only [List.mem_cons, List.mem_nil_iff, or_false] at hu; rcases hu with rfl | rfl <;> first | rfl | exact ho714.one | exact ho716.one) rfl) ?_
         rintro w723 ⟨hb725, hst724, hz726⟩
         have hx727 := hx722.stp hst724 (by intro q hq; cases hq; exact (by omega))
         have hzhx727 := hst724.size
         replace ho514 := ho514.stp hst724 (by intro q hq; cases hq; omega)
         replace ho703 := ho703.stp hst724 (by intro q hq; cases hq; omega)
         replace ho714 := ho714.stp hst724 (by intro q hq; cases hq; omega)
         replace ho716 := ho716.stp hst724 (by intro q hq; cases hq; omega)
         replace hN718 := hN718.stp hst724 (by intro q hq; cases hq; omega)
         clear hb679
         have hs728 := hs721.stp hst724 (by intro q hq; cases hq; omega)
         refine ⟨hs728, ?_⟩
         refine dr_end (by kernel_rfl) ?_
         replace hb4 := hb4.ext hs728
         replace hb11 := hb11.ext hs728
         refine then_n ?_
         exact ⟨w513.heap.size, u713, u715, z717, (Sl.cons_ ha720 rfl rfl (Sl.cons_ ha720 rfl rfl (Sl.cons_ ha720 rfl rfl (Sl.cons_ ha720 rfl rfl (Sl.cons_ ha720 rfl rfl (Sl.cons_ ha720 rfl rfl (Sl.nil_ ha720))))))), hx727, hb4, hb11, (ho714.fin (by omega) (by omega) (by omega)), (ho716.fin (by omega) (by omega) (by omega)), (hN718.fin (by omega) (by omega)), hb725, hE719, (by omega), (by omega)⟩
       ·
        refine po_eff ha95 rfl rfl rfl rfl (op_alloc' rfl ti28 rfl) ?_
        rintro _ w729 ⟨rfl, he730, hb731, hz732⟩ a733 ha733; clear ha95 a95
        have hs734 := hs90.trans' he730
        have hx735 := hx89.trans' he730
        have hzhx735 := he730.size
        refine ⟨hs734, ?_⟩
        refine dr_two (i := 0) (j := 5) (by kernel_rfl) ?_ ?_
        ·
         refine po_eff ha733 rfl rfl rfl rfl (op_buildSlice (s := shStr) (xs := ([] : List Str)) (cs := []) (vs := []) (S := fun _ => False) (le := w729.heap.size) ha733 rfl pos_shStr Try.underlying22 ti9 rfl rfl (by decide) (by kernel_rfl) rfl (fun _ h => h.elim)) ?_
         rintro v736 w737 ⟨ho738, he739, hob740⟩ a741 ha741; clear ha733 a733
         have hs742 := hs734.trans' he739
         have hx743 := hx735.trans' he739
         have hzhx743 := he739.size
         replace hb731 := hb731.ext he739
         refine ⟨hs742, ?_⟩
         refine dr_two (i := 3) (j := 5) (by kernel_rfl) ?_ ?_
         ·
          refine po_eff ha741 rfl rfl rfl rfl (op_append (ts := #[]) (s := shStr) ha741 rfl Try.underlying22 ti9 rfl pos_shStr rfl rfl ho738 (h_t0.ext pos_shStr (hx89.trans' hs742)) (by omega) (by omega) (by first | omega | (simp; omega)) (by first | omega | (simp; omega)) (.inl flat_shStr)) ?_
          rintro v744 w745 ⟨ho746, hst747, hob748⟩ a749 ha749; clear ha741 a741
          replace ho746 := ho746.cast (List.nil_append _)
          have hs750 := hs742.stp hst747 (by intro q hq; have hq0 := ho738.lt q hq; omega)
          have hx751 := hx743.stp hst747 (by intro q hq; have hq0 := ho738.lt q hq; omega)
          have hzhx751 := hst747.size
          replace hb731 := hb731.stp hst747 (by intro q hq; have hq0 := ho738.lt q hq; omega)
          refine ⟨hs750, ?_⟩
          refine dr_one (i := 5) (by kernel_rfl) ?_
          refine po_eff ha749 rfl rfl rfl rfl (op_buildSlice (s := shStr) (xs := [head]) (cs := [St head]) (vs := [(0, St head)]) (S := fun _ => False) (le := w745.heap.size) ha749 rfl pos_shStr Try.underlying22 ti9 rfl rfl (by decide) (by kernel_rfl) (Els.single (mk_shStr head (by first | assumption | omega | (simp; omega)))) (fun _ h => h.elim)) ?_
          rintro v752 w753 ⟨ho754, he755, hob756⟩ a757 ha757; clear ha749 a749
          have hs758 := hs750.trans' he755
          have hx759 := hx751.trans' he755
          have hzhx759 := he755.size
          replace hb731 := hb731.ext he755
          replace ho746 := ho746.ext he755
          refine ⟨hs758, ?_⟩
          refine dr_one (i := 6) (by kernel_rfl) ?_
          refine po_eff ha757 rfl rfl rfl rfl (op_append (ts := #[]) (s := shStr) ha757 rfl Try.underlying22 ti9 rfl pos_shStr rfl rfl ho746 (ho754.rds pos_shStr) (by omega) (by omega) (by first | omega | (simp; omega)) (by first | omega | (simp; omega)) (.inl flat_shStr)) ?_
          rintro v760 w761 ⟨ho762, hst763, hob764⟩ a765 ha765; clear ha757 a757
          have hs766 := hs758.stp hst763 (by intro q hq; have hq0 := ho746.lt q hq; omega)
          have hx767 := hx759.stp hst763 (by intro q hq; have hq0 := ho746.lt q hq; omega)
          have hzhx767 := hst763.size
          replace hb731 := hb731.stp hst763 (by intro q hq; have hq0 := ho746.lt q hq; omega)
          replace ho754 := ho754.stp hst763 (by intro q hq; have hq0 := ho746.lt q hq; omega)
          have hsp768 : ∀ q, Value.ownBlock v760 = some q → Value.ownBlock v752 ≠ some q := by intro q hq hb; have hq0 := ho754.lt q hb; rcases hob764 with h | h; (rw [h] at hq; first | (have hq1 := ho746.lt q hq; omega)); (rw [h] at hq; cases hq; omega)
          refine ⟨hs766, ?_⟩
          refine dr_one (i := 9) (by kernel_rfl) ?_
          refine po_callR ha765 rfl rfl rfl rfl (op_call ha765 rfl cb74 rfl) (c_spec_l31With _ v760 ((t.1 ++ [head])) v_t1 t.2 (ho762.rds pos_shStr) (h_t1.ext pos_shRow (hx89.trans' hs766)) (by first | assumption | omega | (simp; omega)) (by first | assumption | omega | (simp; omega)) (by intro r hr9; have h7 := (htrc26 _ hr9).1; omega)) ?_
          rintro v769 w770 he771 ⟨u772, u774, z776, rfl, ho773, ho775, hN777, hE778⟩ a779 ha779; clear ha765 a765
          have hs780 := hs766.trans' he771
          have hx781 := hx767.trans' he771
          have hzhx781 := he771.size
          replace hb731 := hb731.ext he771
          replace ho754 := ho754.ext he771
          replace ho762 := ho762.ext he771
          refine ⟨hs780, ?_⟩
          have hlhE778 := absLen hE778
          refine dr_one (i := 11) (by kernel_rfl) ?_
          refine po_effS ha779 rfl rfl rfl (op_storeAll' ha779 rfl ti28 rfl rfl hb731 rfl rfl (by intro u hu; have hu : u ∈ ([u772, u774] : List Value) := hu; simp only [List.mem_cons, List.mem_nil_iff, or_false] at hu; rcases hu with rfl | rfl <;> first | rfl | exact ho773.one | exact ho775.one) rfl) ?_
          rintro w782 ⟨hb784, hst783, hz785⟩
          have hx786 := hx781.stp hst783 (by intro q hq; cases hq; exact (by omega))
          have hzhx786 := hst783.size
          replace ho754 := ho754.stp hst783 (by intro q hq; cases hq; omega)
          replace ho762 := ho762.stp hst783 (by intro q hq; cases hq; omega)
          replace ho773 := ho773.stp hst783 (by intro q hq; cases hq; omega)
          replace ho775 := ho775.stp hst783 (by intro q hq; cases hq; omega)
          replace hN777 := hN777.stp hst783 (by intro q hq; cases hq; omega)
          clear hb731
          have hs787 := hs780.stp hst783 (by intro q hq; cases hq; omega)
          refine ⟨hs787, ?_⟩
          refine dr_end (by kernel_rfl) ?_
          replace hb4 := hb4.ext hs787
          replace hb11 := hb11.ext hs787
          refine then_n ?_
          exact ⟨w87.heap.size, u772, u774, z776, (Sl.cons_ ha779 rfl rfl (Sl.cons_ ha779 rfl rfl (Sl.cons_ ha779 rfl rfl (Sl.cons_ ha779 rfl rfl (Sl.cons_ ha779 rfl rfl (Sl.cons_ ha779 rfl rfl (Sl.nil_ ha779))))))), hx786, hb4, hb11, (ho773.fin (by omega) (by omega) (by omega)), (ho775.fin (by omega) (by omega) (by omega)), (hN777.fin (by omega) (by omega)), hb784, hE778, (by omega), (by omega)⟩
         ·
          refine po_eff ha741 rfl rfl rfl rfl (op_buildSlice (s := shStr) (xs := [head]) (cs := [St head]) (vs := [(0, St head)]) (S := fun _ => False) (le := w737.heap.size) ha741 rfl pos_shStr Try.underlying22 ti9 rfl rfl (by decide) (by kernel_rfl) (Els.single (mk_shStr head (by first | assumption | omega | (simp; omega)))) (fun _ h => h.elim)) ?_
          rintro v788 w789 ⟨ho790, he791, hob792⟩ a793 ha793; clear ha741 a741
          have hs794 := hs742.trans' he791
          have hx795 := hx743.trans' he791
          have hzhx795 := he791.size
          replace hb731 := hb731.ext he791
          replace ho738 := ho738.ext he791
          refine ⟨hs794, ?_⟩
          refine dr_one (i := 3) (by kernel_rfl) ?_
          refine po_eff ha793 rfl rfl rfl rfl (op_append (ts := #[]) (s := shStr) ha793 rfl Try.underlying22 ti9 rfl pos_shStr rfl rfl ho738 (h_t0.ext pos_shStr (hx89.trans' hs794)) (by omega) (by omega) (by first | omega | (simp; omega)) (by first | omega | (simp; omega)) (.inl flat_shStr)) ?_
          rintro v796 w797 ⟨ho798, hst799, hob800⟩ a801 ha801; clear ha793 a793
          replace ho798 := ho798.cast (List.nil_append _)
          have hs802 := hs794.stp hst799 (by intro q hq; have hq0 := ho738.lt q hq; omega)
          have hx803 := hx795.stp hst799 (by intro q hq; have hq0 := ho738.lt q hq; omega)
          have hzhx803 := hst799.size
          replace hb731 := hb731.stp hst799 (by intro q hq; have hq0 := ho738.lt q hq; omega)
          replace ho790 := ho790.stp hst799 (by intro q hq; have hq0 := ho738.lt q hq; omega)
          have hsp804 : ∀ q, Value.ownBlock v796 = some q → Value.ownBlock v788 ≠ some q := by intro q hq hb; have hq0 := ho790.lt q hb; rcases hob800 with h | h; (rw [h] at hq; first | (have hq1 := ho738.lt q hq; omega)); (rw [h] at hq; cases hq; omega)
          refine ⟨hs802, ?_⟩
          refine dr_one (i := 6) (by kernel_rfl) ?_
          refine po_eff ha801 rfl rfl rfl rfl (op_append (ts := #[]) (s := shStr) ha801 rfl Try.underlying22 ti9 rfl pos_shStr rfl rfl ho798 (ho790.rds pos_shStr) (by omega) (by omega) (by first | omega | (simp; omega)) (by first | omega | (simp; omega)) (.inl flat_shStr)) ?_
          rintro v805 w806 ⟨ho807, hst808, hob809⟩ a810 ha810; clear ha801 a801
          have hs811 := hs802.stp hst808 (by intro q hq; have hq0 := ho798.lt q hq; omega)
          have hx812 := hx803.stp hst808 (by intro q hq; have hq0 := ho798.lt q hq; omega)
          have hzhx812 := hst808.size
          replace hb731 := hb731.stp hst808 (by intro q hq; have hq0 := ho798.lt q hq; omega)
          first | replace ho790 := ho790.stp hst808 (by intro q hq; have hq0 := ho798.lt q hq; omega) | replace ho790 := ho790.stpF flat_shStr hst808 (fun q hq => hsp804 q hq)
          have hsp813 : ∀ q, Value.ownBlock v805 = some q → Value.ownBlock v788 ≠ some q := by intro q hq hb; have hq0 := ho790.lt q hb; rcases hob809 with h | h; (rw [h] at hq; first | (have hq1 := ho798.lt q hq; omega) | exact hsp804 q hq hb); (rw [h] at hq; cases hq; omega)
          refine ⟨hs811, ?_⟩
          refine dr_one (i := 9) (by kernel_rfl) ?_
          refine po_callR ha810 rfl rfl rfl rfl (op_call ha810 rfl cb74 rfl) (c_spec_l31With _ v805 ((t.1 ++ [head])) v_t1 t.2 (ho807.rds pos_shStr) (h_t1.ext pos_shRow (hx89.trans' hs811)) (by first | assumption | omega | (simp; omega)) (by first | assumption | omega | (simp; omega)) (by intro r hr9; have h7 := (htrc26 _ hr9).1; omega)) ?_
          rintro v814 w815 he816 ⟨u817, u819, z821, rfl, ho818, ho820, hN822, hE823⟩ a824 ha824; clear ha810 a810
          have hs825 := hs811.trans' he816
          have hx826 := hx812.trans' he816
          have hzhx826 := he816.size
          replace hb731 := hb731.ext he816
          replace ho790 := ho790.ext he816
          replace ho807 := ho807.ext he816
          refine ⟨hs825, ?_⟩
          have hlhE823 := absLen hE823
          refine dr_one (i := 11) (by kernel_rfl) ?_
          refine po_effS ha824 rfl rfl rfl (op_storeAll' ha824 rfl ti28 rfl rfl hb731 rfl rfl (by intro u hu; have hu : u ∈ ([u817, u819] : List Value) := hu; simp only [List.mem_cons, List.mem_nil_iff, or_false] at hu; rcases hu with rfl | rfl <;> first | rfl | exact ho818.one | exact ho820.one) rfl) ?_
          rintro w827 ⟨hb829, hst828, hz830⟩
          have hx831 := hx826.stp hst828 (by intro q hq; cases hq; exact (by omega))
          have hzhx831 := hst828.size
          replace ho790 := ho790.stp hst828 (by intro q hq; cases hq; omega)
          replace ho807 := ho807.stp hst828 (by intro q hq; cases hq; omega)
          replace ho818 := ho818.stp hst828 (by intro q hq; cases hq; omega)
          replace ho820 := ho820.stp hst828 (by intro q hq; cases hq; omega)
          replace hN822 := hN822.stp hst828 (by intro q hq; cases hq; omega)
          clear hb731
          have hs832 := hs825.stp hst828 (by intro q hq; cases hq; omega)
          refine ⟨hs832, ?_⟩
          refine dr_end (by kernel_rfl) ?_
          replace hb4 := hb4.ext hs832
          replace hb11 := hb11.ext hs832
          refine then_n ?_
          exact ⟨w87.heap.size, u817, u819, z821, (Sl.cons_ ha824 rfl rfl (Sl.cons_ ha824 rfl rfl (Sl.cons_ ha824 rfl rfl (Sl.cons_ ha824 rfl rfl (Sl.cons_ ha824 rfl rfl (Sl.cons_ ha824 rfl rfl (Sl.nil_ ha824))))))), hx831, hb4, hb11, (ho818.fin (by omega) (by omega) (by omega)), (ho820.fin (by omega) (by omega) (by omega)), (hN822.fin (by omega) (by omega)), hb829, hE823, (by omega), (by omega)⟩
        ·
         refine po_eff ha733 rfl rfl rfl rfl (op_buildSlice (s := shStr) (xs := [head]) (cs := [St head]) (vs := [(0, St head)]) (S := fun _ => False) (le := w729.heap.size) ha733 rfl pos_shStr Try.underlying22 ti9 rfl rfl (by decide) (by kernel_rfl) (Els.single (mk_shStr head (by first | assumption | omega | (simp; omega)))) (fun _ h => h.elim)) ?_
         rintro v833 w834 ⟨ho835, he836, hob837⟩ a838 ha838; clear ha733 a733
         have hs839 := hs734.trans' he836
         have hx840 := hx735.trans' he836
         have hzhx840 := he836.size
         replace hb731 := hb731.ext he836
         refine ⟨hs839, ?_⟩
         refine dr_one (i := 0) (by kernel_rfl) ?_
         refine po_eff ha838 rfl rfl rfl rfl (op_buildSlice (s := shStr) (xs := ([] : List Str)) (cs := []) (vs := []) (S := fun _ => False) (le := w834.heap.size) ha838 rfl pos_shStr Try.underlying22 ti9 rfl rfl (by decide) (by kernel_rfl) rfl (fun _ h => h.elim)) ?_
         rintro v841 w842 ⟨ho843, he844, hob845⟩ a846 ha846; clear ha838 a838
         have hs847 := hs839.trans' he844
         have hx848 := hx840.trans' he844
         have hzhx848 := he844.size
         replace hb731 := hb731.ext he844
         replace ho835 := ho835.ext he844
         refine ⟨hs847, ?_⟩
         refine dr_one (i := 3) (by kernel_rfl) ?_
         refine po_eff ha846 rfl rfl rfl rfl (op_append (ts := #[]) (s := shStr) ha846 rfl Try.underlying22 ti9 rfl pos_shStr rfl rfl ho843 (h_t0.ext pos_shStr (hx89.trans' hs847)) (by omega) (by omega) (by first | omega | (simp; omega)) (by first | omega | (simp; omega)) (.inl flat_shStr)) ?_
         rintro v849 w850 ⟨ho851, hst852, hob853⟩ a854 ha854; clear ha846 a846
         replace ho851 := ho851.cast (List.nil_append _)
         have hs855 := hs847.stp hst852 (by intro q hq; have hq0 := ho843.lt q hq; omega)
         have hx856 := hx848.stp hst852 (by intro q hq; have hq0 := ho843.lt q hq; omega)
         have hzhx856 := hst852.size
         replace hb731 := hb731.stp hst852 (by intro q hq; have hq0 := ho843.lt q hq; omega)
         replace ho835 := ho835.stp hst852 (by intro q hq; have hq0 := ho843.lt q hq; omega)
         have hsp857 : ∀ q, Value.ownBlock v849 = some q → Value.ownBlock v833 ≠ some q := by intro q hq hb; have hq0 := ho835.lt q hb; rcases hob853 with h | h; (rw [h] at hq; first | (have hq1 := ho843.lt q hq; omega)); (rw [h] at hq; cases hq; omega)
         refine ⟨hs855, ?_⟩
         refine dr_one (i := 6) (by kernel_rfl) ?_
         refine po_eff ha854 rfl rfl rfl rfl (op_append (ts := #[]) (s := shStr) ha854 rfl Try.underlying22 ti9 rfl pos_shStr rfl rfl ho851 (ho835.rds pos_shStr) (by omega) (by omega) (by first | omega | (simp; omega)) (by first | omega | (simp; omega)) (.inl flat_shStr)) ?_
         rintro v858 w859 ⟨ho860, hst861, hob862⟩ a863 ha863; clear ha854 a854
         have hs864 := hs855.stp hst861 (by intro q hq; have hq0 := ho851.lt q hq; omega)
         have hx865 := hx856.stp hst861 (by intro q hq; have hq0 := ho851.lt q hq; omega)
         have hzhx865 := hst861.size
         replace hb731 := hb731.stp hst861 (by intro q hq; have hq0 := ho851.lt q hq; omega)
         replace ho835 := ho835.stp hst861 (by intro q hq; have hq0 := ho851.lt q hq; omega)
         have hsp866 : ∀ q, Value.ownBlock v858 = some q → Value.ownBlock v833 ≠ some q := by intro q hq hb; have hq0 := ho835.lt q hb; rcases hob862 with h | h; (rw [h] at hq; first | (have hq1 := ho851.lt q hq; omega) | exact hsp857 q hq hb); (rw [h] at hq; cases hq; omega)
         refine ⟨hs864, ?_⟩
         refine dr_one (i := 9) (by kernel_rfl) ?_
         refine po_callR ha863 rfl rfl rfl rfl (op_call ha863 rfl cb74 rfl) (c_spec_l31With _ v858 ((t.1 ++ [head])) v_t1 t.2 (ho860.rds pos_shStr) (h_t1.ext pos_shRow (hx89.trans' hs864)) (by first | assumption | omega | (simp; omega)) (by first | assumption | omega | (simp; omega)) (by intro r hr9; have h7 := (htrc26 _ hr9).1; omega)) ?_
         rintro v867 w868 he869 ⟨u870, u872, z874, rfl, ho871, ho873, hN875, hE876⟩ a877 ha877; clear ha863 a863
         have hs878 := hs864.trans' he869
         have hx879 := hx865.trans' he869
         have hzhx879 := he869.size
         replace hb731 := hb731.ext he869
         replace ho835 := ho835.ext he869
         replace ho860 := ho860.ext he869
         refine ⟨hs878, ?_⟩
         have hlhE876 := absLen hE876
         refine dr_one (i := 11) (by kernel_rfl) ?_
         refine po_effS ha877 rfl rfl rfl (op_storeAll' ha877 rfl ti28 rfl rfl hb731 rfl rfl (by intro u hu; have hu : u ∈ ([u870, u872] : List Value) := hu; simp only [List.mem_cons, List.mem_nil_iff, or_false] at hu; rcases hu with rfl | rfl <;> first | rfl | exact ho871.one | exact ho873.one) rfl) ?_
         rintro w880 ⟨hb882, hst881, hz883⟩
         have hx884 := hx879.stp hst881 (by intro q hq; cases hq; exact (by omega))
         have hzhx884 := hst881.size
         replace ho835 := ho835.stp hst881 (by intro q hq; cases hq; omega)
         replace ho860 := ho860.stp hst881 (by intro q hq; cases hq; omega)
         replace ho871 := ho871.stp hst881 (by intro q hq; cases hq; omega)
         replace ho873 := ho873.stp hst881 (by intro q hq; cases hq; omega)
         replace hN875 := hN875.stp hst881 (by intro q hq; cases hq; omega)
         clear hb731
         have hs885 := hs878.stp hst881 (by intro q hq; cases hq; omega)
         refine ⟨hs885, ?_⟩
         refine dr_end (by kernel_rfl) ?_
         replace hb4 := hb4.ext hs885
         replace hb11 := hb11.ext hs885
         refine then_n ?_
         exact ⟨w87.heap.size, u870, u872, z874, (Sl.cons_ ha877 rfl rfl (Sl.cons_ ha877 rfl rfl (Sl.cons_ ha877 rfl rfl (Sl.cons_ ha877 rfl rfl (Sl.cons_ ha877 rfl rfl (Sl.cons_ ha877 rfl rfl (Sl.nil_ ha877))))))), hx884, hb4, hb11, (ho871.fin (by omega) (by omega) (by omega)), (ho873.fin (by omega) (by omega) (by omega)), (hN875.fin (by omega) (by omega)), hb882, hE876, (by omega), (by omega)⟩
      ·
       clear ha65 a65
       rintro a886 w78 ⟨g74, q75, q76, q77, ha886, hx79, hf80, hf81, hf83, hf84, hf86, hf82, hE85, hg888, hzl887⟩
       have hzhx79 := hx79.size
       have hgl889 := hf82.lt
       refine wp_seq ?_
       refine wp_seq ?_
       refine wp_region_lit ?_
       refine wl_val ha886 rfl rfl rfl (op_assign ha886 rfl rfl) ?_
       intro a890 ha890; clear ha886 a886
       refine wpList_nil ?_
       refine then_n ?_
       refine wp_block ?_
       refine loop_inv (X := Nat × (List (List Int × Value))) (fun (⟨i, zs⟩ : Nat × (List (List Int × Value))) fr wl => Sl 95 fr [(2, .int .i64 ca), (3, .int .i64 cb), (4, .int .i64 m), (5, .pointer (some (⟨w0.heap.size, 0, none⟩ : Addr))), (10, .pointer (some (⟨w2.heap.size, 0, none⟩ : Addr))), (13, .pointer (some (⟨g74, 0, none⟩ : Addr))), (14, .int .i64 ((i : Nat) : Int))] ∧ Ext w0 wl ∧ Box wl w0.heap.size 28 [v_t0, v_t1] ∧ Box wl w2.heap.size 28 [.slice none 0 0, .slice none 0 0] ∧ Own shStr 9 w60.heap.size w60.heap.size w78.heap.size wl q75 (((((((t.1 ++ [head])), t.2) : Tab)).1)) ∧ Own shRowN 41 w60.heap.size w60.heap.size w78.heap.size wl q76 zs ∧ Nst shI64 2 (fun x : List Int => x) w60.heap.size wl.heap.size wl zs ∧ Box wl g74 28 [q75, q76] ∧ w78.heap.size ≤ wl.heap.size ∧ (i ≤ t.2.length) ∧ (zs.length = t.2.length) ∧ (zs.map (·.1) = adR ca cb m (t.2.take i) ++ t.2.drop i)) (fun (⟨i, zs⟩ : Nat × (List (List Int × Value))) => t.2.length - i) (0, q77) ?_ ?_
       ·
        exact ⟨(Sl.cons_ ha890 rfl rfl (Sl.cons_ ha890 rfl rfl (Sl.cons_ ha890 rfl rfl (Sl.cons_ ha890 rfl rfl (Sl.cons_ ha890 rfl rfl (Sl.cons_ ha890 rfl rfl (Sl.cons_ ha890 rfl (int_eq (by omega)) (Sl.nil_ ha890)))))))), hx79, hf80, hf81, hf83, (hf84.fin (by omega) (by omega) (by omega)), (hf86.fin (by omega) (by omega)), hf82, (by omega), (by omega), (by have h5 := absLen ‹List.map _ _ = t.2›; omega), (by rw [‹List.map _ _ = t.2›]; rfl)⟩
       ·
        clear ha890 a890
        rintro ⟨i, zs⟩ a899 w891 ⟨ha899, hx892, hf893, hf894, hf895, hf896, hf897, hf898, hzl900, hi, hl, hF⟩
        have hzhx892 := hx892.size
        refine wp_seq ?_
        refine wp_seq ?_
        refine wp_region_lit ?_
        refine wl_val ha899 rfl rfl rfl (op_move ha899 rfl rfl) ?_
        intro a901 ha901; clear ha899 a899
        refine wl_val ha901 rfl rfl rfl (op_fieldAddr (sz := 0) ha901 rfl Try.underlying28 rfl rfl ti23 rfl) ?_
        intro a902 ha902; clear ha901 a901
        refine wl_val ha902 rfl rfl rfl (op_loadF (off := 1) ha902 rfl Try.underlying23 rfl rfl hf898.cells rfl) ?_
        intro a903 ha903; clear ha902 a902
        refine wl_val ha903 rfl rfl rfl (op_len_sl ha903 rfl Try.underlying23 rfl (hf896.rds pos_shRowN)) ?_
        intro a904 ha904; clear ha903 a903
        refine wl_val ha904 rfl rfl rfl (op_lss ha904 rfl rfl rfl) ?_
        intro a905 ha905; clear ha904 a904
        refine wpList_nil ?_
        refine then_n ?_
        by_cases c906 : ((i : Nat) : Int) < ((zs.length : Nat) : Int)
        ·
         rw [decide_eq_true c906] at ha905
         refine cond_t ha905 rfl ?_
         refine wp_skip ?_
         refine then_n ?_
         refine wp_seq ?_
         refine wp_block ?_
         obtain ⟨x909, hx909⟩ := get_ex (xs := zs) (j := i) (by omega)
         obtain ⟨p910, c911, hi912, hc913, hr914, hs915⟩ := Rds.at_ (hf896.rds pos_shRowN) hx909
         obtain ⟨rfl, b916⟩ := inv_shRowN hr914
         have hn917 : Own shI64 2 w60.heap.size w60.heap.size w891.heap.size w891 x909.2 x909.1 := hf897.get hx909
         obtain ⟨_, _⟩ : _ ∧ _ := hs915
         have hzx909 : t.2[i]? = some x909.1 := ad_at (by rw [← hF]; exact map_at hx909) (adR_tl _ _ _ _ _ hi)
         have hrbx909 := htrc26 _ (List.mem_of_getElem? hzx909)
         refine dr_enter (fun wa_ wb_ => StpL wa_ wb_ (fun i => Value.ownBlock x909.2 = some i ∨ Value.ownBlock q76 = some i)) follows_mixed ?_
         intro w907 he908
         have hx918 := hx892.trans' he908
         have hzhx918 := he908.size
         replace hf893 := hf893.ext he908
         replace hf894 := hf894.ext he908
         replace hf895 := hf895.ext he908
         replace hf896 := hf896.ext he908
         replace hf897 := hf897.ext he908
         replace hf898 := hf898.ext he908
         replace hn917 := hn917.ext he908
         replace hc913 := hc913.ext he908
         have hs919 : Ext w907 w907 := Ext.rfl' _
         refine dr_val (i := 0) ha905 rfl (by kernel_rfl) (by kernel_rfl) (by kernel_rfl) rfl rfl rfl (StpL.of_ext hs919) (fun w' hw' => op_fieldAddr (sz := 0) ha905 rfl Try.underlying28 rfl rfl ti23 rfl) ?_
         intro a920 ha920; clear ha905 a905
         refine dr_val (i := 1) ha920 rfl (by kernel_rfl) (by kernel_rfl) (by kernel_rfl) rfl rfl rfl (StpL.of_ext hs919) (fun w' hw' => op_loadF (off := 1) ha920 rfl Try.underlying23 rfl rfl (hf898.stpL hw' (by rintro (q | q) <;> first | omega | (have hq0 := hn917.lt _ q; omega) | (have hq0 := hf896.lt _ q; omega) | exact hn917.ne_box hf898 rfl q | exact hf896.ne_box hf898 rfl q)).cells rfl) ?_
         intro a921 ha921; clear ha920 a920
         refine dr_val (i := 2) ha921 rfl (by kernel_rfl) (by kernel_rfl) (by kernel_rfl) rfl rfl rfl (StpL.of_ext hs919) (fun w' hw' => op_move ha921 rfl rfl) ?_
         intro a922 ha922; clear ha921 a921
         refine dr_val (i := 3) ha922 rfl (by kernel_rfl) (by kernel_rfl) (by kernel_rfl) rfl rfl rfl (StpL.of_ext hs919) (fun w' hw' => op_fieldAddr (sz := 0) ha922 rfl Try.underlying28 rfl rfl ti23 rfl) ?_
         intro a923 ha923; clear ha922 a922
         refine dr_val (i := 4) ha923 rfl (by kernel_rfl) (by kernel_rfl) (by kernel_rfl) rfl rfl rfl (StpL.of_ext hs919) (fun w' hw' => op_loadF (off := 1) ha923 rfl Try.underlying23 rfl rfl (hf898.stpL hw' (by rintro (q | q) <;> first | omega | (have hq0 := hn917.lt _ q; omega) | (have hq0 := hf896.lt _ q; omega) | exact hn917.ne_box hf898 rfl q | exact hf896.ne_box hf898 rfl q)).cells rfl) ?_
         intro a924 ha924; clear ha923 a923
         refine dr_val (i := 5) ha924 rfl (by kernel_rfl) (by kernel_rfl) (by kernel_rfl) rfl rfl rfl (StpL.of_ext hs919) (fun w' hw' => op_move ha924 rfl rfl) ?_
         intro a925 ha925; clear ha924 a924
         refine dr_val (i := 6) ha925 rfl (by kernel_rfl) (by kernel_rfl) (by kernel_rfl) rfl rfl rfl (StpL.of_ext hs919) (fun w' hw' => op_indexAddr ha925 rfl Try.underlying23 ti41 rfl rfl (by omega) hi912) ?_
         intro a926 ha926; clear ha925 a925
         refine dr_val (i := 8) ha926 rfl (by kernel_rfl) (by kernel_rfl) (by kernel_rfl) rfl rfl rfl (StpL.of_ext hs919) (fun w' hw' => op_fieldAddr (sz := 0) ha926 rfl Try.underlying28 rfl rfl ti23 rfl) ?_
         intro a927 ha927; clear ha926 a926
         refine dr_val (i := 9) ha927 rfl (by kernel_rfl) (by kernel_rfl) (by kernel_rfl) rfl rfl rfl (StpL.of_ext hs919) (fun w' hw' => op_loadF (off := 1) ha927 rfl Try.underlying23 rfl rfl (hf893.stpL hw' (by rintro (q | q) <;> first | omega | (have hq0 := hn917.lt _ q; omega) | (have hq0 := hf896.lt _ q; omega) | exact hn917.ne_box hf893 rfl q | exact hf896.ne_box hf893 rfl q)).cells rfl) ?_
         intro a928 ha928; clear ha927 a927
         refine dr_val (i := 10) ha928 rfl (by kernel_rfl) (by kernel_rfl) (by kernel_rfl) rfl rfl rfl (StpL.of_ext hs919) (fun w' hw' => op_move ha928 rfl rfl) ?_
         intro a929 ha929; clear ha928 a928
         obtain ⟨x930, hx930⟩ := get_ex (xs := t.2) (j := i) (by omega)
         obtain ⟨p931, c932, hi933, hc934, hr935, hs936⟩ := Rds.at_ h_t1 hx930
         obtain ⟨v937, rfl, b938⟩ := inv_shRow hr935
         have hlb938 := b938.length_le
         have hrbx930 := htrc26 _ (List.mem_of_getElem? hx930)
         refine dr_val (i := 11) ha929 rfl (by kernel_rfl) (by kernel_rfl) (by kernel_rfl) rfl rfl rfl (StpL.of_ext hs919) (fun w' hw' => op_indexAddr ha929 rfl Try.underlying23 ti41 rfl rfl (by omega) hi933) ?_
         intro a939 ha939; clear ha929 a929
         refine dr_val (i := 12) ha939 rfl (by kernel_rfl) (by kernel_rfl) (by kernel_rfl) rfl rfl rfl (StpL.of_ext hs919) (fun w' hw' => op_loadH ha939 rfl Try.underlying41 rfl rfl (hc934.ext (hx918.stpL hw' (by rintro _ (q | q) <;> first | omega | (have hq0 := hn917.lt _ q; omega) | (have hq0 := hf896.lt _ q; omega)))) rfl) ?_
         intro a940 ha940; clear ha939 a939
         refine dr_val (i := 13) ha940 rfl (by kernel_rfl) (by kernel_rfl) (by kernel_rfl) rfl rfl rfl (StpL.of_ext hs919) (fun w' hw' => op_move ha940 rfl rfl) ?_
         intro a941 ha941; clear ha940 a940
         obtain ⟨x942, hx942⟩ := get_ex (xs := x930) (j := ca.toNat) (by omega)
         obtain ⟨p943, c944, hi945, hc946, hr947, hs948⟩ := Rds.at_ b938 hx942
         obtain ⟨rfl, b949⟩ := inv_shI64 hr947
         have hvbx942 := hrbx930.2 _ (List.mem_of_getElem? hx942)
         have hmbx942 := mul_bd (m := m) (wtn c47) hvbx942
         refine dr_val (i := 14) ha941 rfl (by kernel_rfl) (by kernel_rfl) (by kernel_rfl) rfl rfl rfl (StpL.of_ext hs919) (fun w' hw' => op_indexAddr ha941 rfl Try.underlying41 ti2 rfl rfl (by omega) hi945) ?_
         intro a950 ha950; clear ha941 a941
         refine dr_val (i := 15) ha950 rfl (by kernel_rfl) (by kernel_rfl) (by kernel_rfl) rfl rfl rfl (StpL.of_ext hs919) (fun w' hw' => op_loadH ha950 rfl Try.underlying2 rfl rfl (hc946.ext (hx918.stpL hw' (by rintro _ (q | q) <;> first | omega | (have hq0 := hn917.lt _ q; omega) | (have hq0 := hf896.lt _ q; omega)))) rfl) ?_
         intro a951 ha951; clear ha950 a950
         refine dr_val (i := 16) ha951 rfl (by kernel_rfl) (by kernel_rfl) (by kernel_rfl) rfl rfl rfl (StpL.of_ext hs919) (fun w' hw' => op_move ha951 rfl rfl) ?_
         intro a952 ha952; clear ha951 a951
         refine dr_val (i := 17) ha952 rfl (by kernel_rfl) (by kernel_rfl) (by kernel_rfl) rfl rfl rfl (StpL.of_ext hs919) (fun w' hw' => op_fieldAddr (sz := 0) ha952 rfl Try.underlying28 rfl rfl ti23 rfl) ?_
         intro a953 ha953; clear ha952 a952
         refine dr_val (i := 18) ha953 rfl (by kernel_rfl) (by kernel_rfl) (by kernel_rfl) rfl rfl rfl (StpL.of_ext hs919) (fun w' hw' => op_loadF (off := 1) ha953 rfl Try.underlying23 rfl rfl (hf893.stpL hw' (by rintro (q | q) <;> first | omega | (have hq0 := hn917.lt _ q; omega) | (have hq0 := hf896.lt _ q; omega) | exact hn917.ne_box hf893 rfl q | exact hf896.ne_box hf893 rfl q)).cells rfl) ?_
         intro a954 ha954; clear ha953 a953
         refine dr_val (i := 19) ha954 rfl (by kernel_rfl) (by kernel_rfl) (by kernel_rfl) rfl rfl rfl (StpL.of_ext hs919) (fun w' hw' => op_move ha954 rfl rfl) ?_
         intro a955 ha955; clear ha954 a954
         refine dr_val (i := 20) ha955 rfl (by kernel_rfl) (by kernel_rfl) (by kernel_rfl) rfl rfl rfl (StpL.of_ext hs919) (fun w' hw' => op_indexAddr ha955 rfl Try.underlying23 ti41 rfl rfl (by omega) hi933) ?_
         intro a956 ha956; clear ha955 a955
         refine dr_val (i := 21) ha956 rfl (by kernel_rfl) (by kernel_rfl) (by kernel_rfl) rfl rfl rfl (StpL.of_ext hs919) (fun w' hw' => op_loadH ha956 rfl Try.underlying41 rfl rfl (hc934.ext (hx918.stpL hw' (by rintro _ (q | q) <;> first | omega | (have hq0 := hn917.lt _ q; omega) | (have hq0 := hf896.lt _ q; omega)))) rfl) ?_
         intro a957 ha957; clear ha956 a956
         refine dr_val (i := 22) ha957 rfl (by kernel_rfl) (by kernel_rfl) (by kernel_rfl) rfl rfl rfl (StpL.of_ext hs919) (fun w' hw' => op_move ha957 rfl rfl) ?_
         intro a958 ha958; clear ha957 a957
         obtain ⟨x959, hx959⟩ := get_ex (xs := x930) (j := cb.toNat) (by omega)
         obtain ⟨p960, c961, hi962, hc963, hr964, hs965⟩ := Rds.at_ b938 hx959
         obtain ⟨rfl, b966⟩ := inv_shI64 hr964
         have hvbx959 := hrbx930.2 _ (List.mem_of_getElem? hx959)
         have hmbx959 := mul_bd (m := m) (wtn c47) hvbx959
         refine dr_val (i := 23) ha958 rfl (by kernel_rfl) (by kernel_rfl) (by kernel_rfl) rfl rfl rfl (StpL.of_ext hs919) (fun w' hw' => op_indexAddr ha958 rfl Try.underlying41 ti2 rfl rfl (by omega) hi962) ?_
         intro a967 ha967; clear ha958 a958
         refine dr_val (i := 24) ha967 rfl (by kernel_rfl) (by kernel_rfl) (by kernel_rfl) rfl rfl rfl (StpL.of_ext hs919) (fun w' hw' => op_loadH ha967 rfl Try.underlying2 rfl rfl (hc963.ext (hx918.stpL hw' (by rintro _ (q | q) <;> first | omega | (have hq0 := hn917.lt _ q; omega) | (have hq0 := hf896.lt _ q; omega)))) rfl) ?_
         intro a968 ha968; clear ha967 a967
         refine dr_val (i := 25) ha968 rfl (by kernel_rfl) (by kernel_rfl) (by kernel_rfl) rfl rfl rfl (StpL.of_ext hs919) (fun w' hw' => (op_mul ha968 rfl rfl rfl).int (IntWalk.i64_in _ (by omega))) ?_
         intro a969 ha969; clear ha968 a968
         refine dr_val (i := 26) ha969 rfl (by kernel_rfl) (by kernel_rfl) (by kernel_rfl) rfl rfl rfl (StpL.of_ext hs919) (fun w' hw' => (op_add ha969 rfl rfl rfl).int (IntWalk.i64_in _ (by omega))) ?_
         intro a970 ha970; clear ha969 a969
         refine dr_two (i := 7) (j := 27) (by kernel_rfl) ?_ ?_
         ·
          refine po_to ha970 rfl rfl rfl rfl (op_loadH ha970 rfl Try.underlying41 rfl rfl (hc913.ext hs919) rfl) ?_
          intro a971 ha971; clear ha970 a970
          refine ⟨(StpL.of_ext hs919), ?_⟩
          refine dr_one (i := 27) (by kernel_rfl) ?_
          refine po_eff ha971 rfl rfl rfl rfl (op_buildSlice (s := shI64) (xs := [(x942 + (m * x959))]) (cs := [.int .i64 (x942 + (m * x959))]) (vs := [(0, .int .i64 (x942 + (m * x959)))]) (S := fun _ => False) (le := w907.heap.size) ha971 rfl pos_shI64 Try.underlying41 ti2 rfl rfl (by decide) (by kernel_rfl) (Els.single (mk_shI64 ((x942 + (m * x959))) (by first | assumption | omega | (simp; omega)))) (fun _ h => h.elim)) ?_
          rintro v972 w973 ⟨ho974, he975, hob976⟩ a977 ha977; clear ha971 a971
          have hs978 := hs919.trans' he975
          have hx979 := hx918.trans' he975
          have hzhx979 := he975.size
          refine ⟨(StpL.of_ext hs978), ?_⟩
          refine dr_one (i := 28) (by kernel_rfl) ?_
          replace hf893 := hf893.ext hs978
          replace hf894 := hf894.ext hs978
          replace hf895 := hf895.ext hs978
          replace hf896 := hf896.ext hs978
          replace hf897 := hf897.ext hs978
          replace hf898 := hf898.ext hs978
          replace hn917 := hn917.ext hs978
          replace hc913 := hc913.ext hs978
          refine po_eff ha977 rfl rfl rfl rfl (op_append (ts := #[]) (s := shI64) ha977 rfl Try.underlying41 ti2 rfl pos_shI64 rfl rfl hn917 (ho974.rds pos_shI64) (by omega) (by omega) (by first | omega | (simp; omega)) (by first | omega | (simp; omega)) (.inl flat_shI64)) ?_
          rintro v980 w981 ⟨ho982, hst983, hob984⟩ a985 ha985; clear ha977 a977
          have hx986 := hx979.stp hst983 (by intro q hq; have hq0 := hn917.lt q hq; omega)
          have hzhx986 := hst983.size
          replace hf893 := hf893.stp hst983 (by intro q hq; have hq0 := hn917.lt q hq; omega)
          replace hf894 := hf894.stp hst983 (by intro q hq; have hq0 := hn917.lt q hq; omega)
          first | replace hf895 := hf895.stp hst983 (by intro q hq; have hq0 := hn917.lt q hq; omega) | replace hf895 := hf895.stpF flat_shStr hst983 (hf895.ne hn917 rfl)
          first | replace hf896 := hf896.stp hst983 (by intro q hq; have hq0 := hn917.lt q hq; omega) | replace hf896 := hf896.stpF flat_shRowN hst983 (hf896.ne hn917 rfl)
          first | replace hf898 := hf898.stp hst983 (by intro q hq; have hq0 := hn917.lt q hq; omega) | replace hf898 := hf898.stp hst983 (by intro q hq e; subst e; exact hn917.ne_box hf898 rfl hq)
          replace ho974 := ho974.stp hst983 (by intro q hq; have hq0 := hn917.lt q hq; omega)
          have hsp987 : ∀ q, Value.ownBlock v980 = some q → Value.ownBlock v972 ≠ some q := by intro q hq hb; have hq0 := ho974.lt q hb; rcases hob984 with h | h; (rw [h] at hq; first | (have hq1 := hn917.lt q hq; omega)); (rw [h] at hq; cases hq; omega)
          have hN988 : Nst shI64 2 (fun x : List Int => x) w60.heap.size w981.heap.size w981 ((zs.set i ((((x909.1 ++ [(x942 + (m * x959))]) : List Int), (v980 : Value))))) := hf897.put flat_shI64 hx909 hst983 ho982 (hob984.imp id fun h9 g9 hg9 => by rw [h9] at hg9; cases hg9; omega) (by omega)
          clear hf897
          have hs989 := (StpL.of_ext (B := fun i => Value.ownBlock x909.2 = some i ∨ Value.ownBlock q76 = some i) hs978).trans' (Stp.toL hst983 (by intro q hq; exact Or.inl hq))
          refine ⟨hs989, ?_⟩
          obtain ⟨p990, c991, hi992, hc993, hr994, hs995⟩ := Rds.at_ (hf896.rds pos_shRowN) hx909
          obtain ⟨rfl, b996⟩ := inv_shRowN hr994
          obtain ⟨_, _⟩ : _ ∧ _ := hs995
          refine dr_val (i := 29) ha985 rfl (by kernel_rfl) (by kernel_rfl) (by kernel_rfl) rfl rfl rfl hs989 (fun w' hw' => op_indexAddr ha985 rfl Try.underlying23 ti41 rfl rfl (by omega) hi992) ?_
          intro a997 ha997; clear ha985 a985
          refine dr_one (i := 30) (by kernel_rfl) ?_
          refine po_effS ha997 rfl rfl rfl (op_setElem (s := shRowN) (ds := [v980]) (S' := fun _ => False) ha997 rfl ti41 rfl rfl ho982.cells1 hf896 pos_shRowN hi992 (by omega) (mk_shRowN ((((x909.1 ++ [(x942 + (m * x959))]) : List Int), (v980 : Value))) ho982.one) (fun _ h => h.elim)) ?_
          rintro w998 ⟨ho1000, hst999, hz1001⟩
          have hx1002 := hx986.stp hst999 (by intro q hq; have hq0 := hf896.lt q hq; omega)
          have hzhx1002 := hst999.size
          replace hf893 := hf893.stp hst999 (by intro q hq; have hq0 := hf896.lt q hq; omega)
          replace hf894 := hf894.stp hst999 (by intro q hq; have hq0 := hf896.lt q hq; omega)
          first | replace hf895 := hf895.stp hst999 (by intro q hq; have hq0 := hf896.lt q hq; omega) | replace hf895 := hf895.stpF flat_shStr hst999 (hf895.ne hf896 rfl)
          first | replace hf898 := hf898.stp hst999 (by intro q hq; have hq0 := hf896.lt q hq; omega) | replace hf898 := hf898.stp hst999 (by intro q hq e; subst e; exact hf896.ne_box hf898 rfl hq)
          replace ho974 := ho974.stp hst999 (by intro q hq; have hq0 := hf896.lt q hq; omega)
          first | replace ho982 := ho982.stp hst999 (by intro q hq; have hq0 := hf896.lt q hq; omega) | replace ho982 := ho982.stpF flat_shI64 hst999 (ho982.ne hf896 rfl)
          first | replace hN988 := hN988.stpF flat_shI64 hst999 hf896 rfl | replace hN988 := hN988.stp hst999 (by intro q hq; have hq0 := hf896.lt q hq; omega)
          clear hf896
          have hlsho1000 : ((zs.set i ((((x909.1 ++ [(x942 + (m * x959))]) : List Int), (v980 : Value))))).length = zs.length := List.length_set
          have hs1003 := hs989.trans' (Stp.toL hst999 (by intro q hq; exact Or.inr (hq)))
          refine ⟨hs1003, ?_⟩
          refine dr_end (by kernel_rfl) ?_
          refine block_n ?_
          refine then_n ?_
          refine wp_region_lit ?_
          refine wl_val ha997 rfl rfl rfl (op_move ha997 rfl rfl) ?_
          intro a1004 ha1004; clear ha997 a997
          refine wl_val ha1004 rfl rfl rfl ((op_add ha1004 rfl rfl rfl).int (IntWalk.i64_in _ (by omega))) ?_
          intro a1005 ha1005; clear ha1004 a1004
          refine wl_val ha1005 rfl rfl rfl (op_assign ha1005 rfl rfl) ?_
          intro a1006 ha1006; clear ha1005 a1005
          refine wpList_nil ?_
          refine round_end (x := (i, zs)) ((i + 1), (zs.set i ((((x909.1 ++ [(x942 + (m * x959))]) : List Int), (v980 : Value))))) ?_ ?_
          ·
           refine ⟨(Sl.cons_ ha1006 rfl rfl (Sl.cons_ ha1006 rfl rfl (Sl.cons_ ha1006 rfl rfl (Sl.cons_ ha1006 rfl rfl (Sl.cons_ ha1006 rfl rfl (Sl.cons_ ha1006 rfl rfl (Sl.cons_ ha1006 rfl (int_eq (by omega)) (Sl.nil_ ha1006)))))))), hx1002, hf893, hf894, hf895, (ho1000.fin (by omega) (by omega) (by omega)), (hN988.fin (by omega) (by omega)), hf898, (by omega), (by omega), (by (simp only [List.length_set]; exact hl)), (by have he9 : x909.1 = x930 := Option.some.inj (hzx909.symm.trans hx930); rw [List.map_set, hF]; refine (ad_set (r' := x909.1 ++ [x942 + m * x959]) hx930 (adR_tl ca cb m _ _ hi)).trans ?_; rw [adR_snoc hx930, adRow_eq hx942 hx959, he9]; simp)⟩
          ·show (t.2.length - ((i + 1)) : Nat) < t.2.length - i; omega
         ·
          refine po_eff ha970 rfl rfl rfl rfl (op_buildSlice (s := shI64) (xs := [(x942 + (m * x959))]) (cs := [.int .i64 (x942 + (m * x959))]) (vs := [(0, .int .i64 (x942 + (m * x959)))]) (S := fun _ => False) (le := w907.heap.size) ha970 rfl pos_shI64 Try.underlying41 ti2 rfl rfl (by decide) (by kernel_rfl) (Els.single (mk_shI64 ((x942 + (m * x959))) (by first | assumption | omega | (simp; omega)))) (fun _ h => h.elim)) ?_
          rintro v1007 w1008 ⟨ho1009, he1010, hob1011⟩ a1012 ha1012; clear ha970 a970
          have hs1013 := hs919.trans' he1010
          have hx1014 := hx918.trans' he1010
          have hzhx1014 := he1010.size
          refine ⟨(StpL.of_ext hs1013), ?_⟩
          refine dr_one (i := 7) (by kernel_rfl) ?_
          refine po_to ha1012 rfl rfl rfl rfl (op_loadH ha1012 rfl Try.underlying41 rfl rfl (hc913.ext hs1013) rfl) ?_
          intro a1015 ha1015; clear ha1012 a1012
          refine ⟨(StpL.of_ext hs1013), ?_⟩
          refine dr_one (i := 28) (by kernel_rfl) ?_
          replace hf893 := hf893.ext hs1013
          replace hf894 := hf894.ext hs1013
          replace hf895 := hf895.ext hs1013
          replace hf896 := hf896.ext hs1013
          replace hf897 := hf897.ext hs1013
          replace hf898 := hf898.ext hs1013
          replace hn917 := hn917.ext hs1013
          replace hc913 := hc913.ext hs1013
          refine po_eff ha1015 rfl rfl rfl rfl (op_append (ts := #[]) (s := shI64) ha1015 rfl Try.underlying41 ti2 rfl pos_shI64 rfl rfl hn917 (ho1009.rds pos_shI64) (by omega) (by omega) (by first | omega | (simp; omega)) (by first | omega | (simp; omega)) (.inl flat_shI64)) ?_
          rintro v1016 w1017 ⟨ho1018, hst1019, hob1020⟩ a1021 ha1021; clear ha1015 a1015
          have hx1022 := hx1014.stp hst1019 (by intro q hq; have hq0 := hn917.lt q hq; omega)
          have hzhx1022 := hst1019.size
          replace hf893 := hf893.stp hst1019 (by intro q hq; have hq0 := hn917.lt q hq; omega)
          replace hf894 := hf894.stp hst1019 (by intro q hq; have hq0 := hn917.lt q hq; omega)
          first | replace hf895 := hf895.stp hst1019 (by intro q hq; have hq0 := hn917.lt q hq; omega) | replace hf895 := hf895.stpF flat_shStr hst1019 (hf895.ne hn917 rfl)
          first | replace hf896 := hf896.stp hst1019 (by intro q hq; have hq0 := hn917.lt q hq; omega) | replace hf896 := hf896.stpF flat_shRowN hst1019 (hf896.ne hn917 rfl)
          first | replace hf898 := hf898.stp hst1019 (by intro q hq; have hq0 := hn917.lt q hq; omega) | replace hf898 := hf898.stp hst1019 (by intro q hq e; subst e; exact hn917.ne_box hf898 rfl hq)
          replace ho1009 := ho1009.stp hst1019 (by intro q hq; have hq0 := hn917.lt q hq; omega)
          have hsp1023 : ∀ q, Value.ownBlock v1016 = some q → Value.ownBlock v1007 ≠ some q := by intro q hq hb; have hq0 := ho1009.lt q hb; rcases hob1020 with h | h; (rw [h] at hq; first | (have hq1 := hn917.lt q hq; omega)); (rw [h] at hq; cases hq; omega)
          have hN1024 : Nst shI64 2 (fun x : List Int => x) w60.heap.size w1017.heap.size w1017 ((zs.set i ((((x909.1 ++ [(x942 + (m * x959))]) : List Int), (v1016 : Value))))) := hf897.put flat_shI64 hx909 hst1019 ho1018 (hob1020.imp id fun h9 g9 hg9 => by rw [h9] at hg9; cases hg9; omega) (by omega)
          clear hf897
          have hs1025 := (StpL.of_ext (B := fun i => Value.ownBlock x909.2 = some i ∨ Value.ownBlock q76 = some i) hs1013).trans' (Stp.toL hst1019 (by intro q hq; exact Or.inl hq))
          refine ⟨hs1025, ?_⟩
          obtain ⟨p1026, c1027, hi1028, hc1029, hr1030, hs1031⟩ := Rds.at_ (hf896.rds pos_shRowN) hx909
          obtain ⟨rfl, b1032⟩ := inv_shRowN hr1030
          obtain ⟨_, _⟩ : _ ∧ _ := hs1031
          refine dr_val (i := 29) ha1021 rfl (by kernel_rfl) (by kernel_rfl) (by kernel_rfl) rfl rfl rfl hs1025 (fun w' hw' => op_indexAddr ha1021 rfl Try.underlying23 ti41 rfl rfl (by omega) hi1028) ?_
          intro a1033 ha1033; clear ha1021 a1021
          refine dr_one (i := 30) (by kernel_rfl) ?_
          refine po_effS ha1033 rfl rfl rfl (op_setElem (s := shRowN) (ds := [v1016]) (S' := fun _ => False) ha1033 rfl ti41 rfl rfl ho1018.cells1 hf896 pos_shRowN hi1028 (by omega) (mk_shRowN ((((x909.1 ++ [(x942 + (m * x959))]) : List Int), (v1016 : Value))) ho1018.one) (fun _ h => h.elim)) ?_
          rintro w1034 ⟨ho1036, hst1035, hz1037⟩
          have hx1038 := hx1022.stp hst1035 (by intro q hq; have hq0 := hf896.lt q hq; omega)
          have hzhx1038 := hst1035.size
          replace hf893 := hf893.stp hst1035 (by intro q hq; have hq0 := hf896.lt q hq; omega)
          replace hf894 := hf894.stp hst1035 (by intro q hq; have hq0 := hf896.lt q hq; omega)
          first | replace hf895 := hf895.stp hst1035 (by intro q hq; have hq0 := hf896.lt q hq; omega) | replace hf895 := hf895.stpF flat_shStr hst1035 (hf895.ne hf896 rfl)
          first | replace hf898 := hf898.stp hst1035 (by intro q hq; have hq0 := hf896.lt q hq; omega) | replace hf898 := hf898.stp hst1035 (by intro q hq e; subst e; exact hf896.ne_box hf898 rfl hq)
          replace ho1009 := ho1009.stp hst1035 (by intro q hq; have hq0 := hf896.lt q hq; omega)
          first | replace ho1018 := ho1018.stp hst1035 (by intro q hq; have hq0 := hf896.lt q hq; omega) | replace ho1018 := ho1018.stpF flat_shI64 hst1035 (ho1018.ne hf896 rfl)
          first | replace hN1024 := hN1024.stpF flat_shI64 hst1035 hf896 rfl | replace hN1024 := hN1024.stp hst1035 (by intro q hq; have hq0 := hf896.lt q hq; omega)
          clear hf896
          have hlsho1036 : ((zs.set i ((((x909.1 ++ [(x942 + (m * x959))]) : List Int), (v1016 : Value))))).length = zs.length := List.length_set
          have hs1039 := hs1025.trans' (Stp.toL hst1035 (by intro q hq; exact Or.inr (hq)))
          refine ⟨hs1039, ?_⟩
          refine dr_end (by kernel_rfl) ?_
          refine block_n ?_
          refine then_n ?_
          refine wp_region_lit ?_
          refine wl_val ha1033 rfl rfl rfl (op_move ha1033 rfl rfl) ?_
          intro a1040 ha1040; clear ha1033 a1033
          refine wl_val ha1040 rfl rfl rfl ((op_add ha1040 rfl rfl rfl).int (IntWalk.i64_in _ (by omega))) ?_
          intro a1041 ha1041; clear ha1040 a1040
          refine wl_val ha1041 rfl rfl rfl (op_assign ha1041 rfl rfl) ?_
          intro a1042 ha1042; clear ha1041 a1041
          refine wpList_nil ?_
          refine round_end (x := (i, zs)) ((i + 1), (zs.set i ((((x909.1 ++ [(x942 + (m * x959))]) : List Int), (v1016 : Value))))) ?_ ?_
          ·
           refine ⟨(Sl.cons_ ha1042 rfl rfl (Sl.cons_ ha1042 rfl rfl (Sl.cons_ ha1042 rfl rfl (Sl.cons_ ha1042 rfl rfl (Sl.cons_ ha1042 rfl rfl (Sl.cons_ ha1042 rfl rfl (Sl.cons_ ha1042 rfl (int_eq (by omega)) (Sl.nil_ ha1042)))))))), hx1038, hf893, hf894, hf895, (ho1036.fin (by omega) (by omega) (by omega)), (hN1024.fin (by omega) (by omega)), hf898, (by omega), (by omega), (by (simp only [List.length_set]; exact hl)), (by have he9 : x909.1 = x930 := Option.some.inj (hzx909.symm.trans hx930); rw [List.map_set, hF]; refine (ad_set (r' := x909.1 ++ [x942 + m * x959]) hx930 (adR_tl ca cb m _ _ hi)).trans ?_; rw [adR_snoc hx930, adRow_eq hx942 hx959, he9]; simp)⟩
          ·show (t.2.length - ((i + 1)) : Nat) < t.2.length - i; omega
        ·
         rw [decide_eq_false c906] at ha905
         refine cond_f ha905 rfl ?_
         refine wp_exit ?_
         refine then_e ?_
         refine then_e ?_
         refine block_hit ?_
         refine then_n ?_
         refine wp_seq ?_
         refine wp_seq ?_
         refine wp_region_lit ?_
         refine wl_val ha905 rfl rfl rfl (op_loadS ha905 rfl Try.underlying28 ti28 rfl rfl hf898.cells) ?_
         intro a1043 ha1043; clear ha905 a905
         refine wl_callR ha1043 rfl rfl rfl (op_call ha1043 rfl cb17 rfl) (c_spec_IsTable _ q75 q76 ((((((((t.1 ++ [head])), t.2) : Tab)).1), (zs.map (·.1)))) (hf895.rds pos_shStr) (rds_shRowN (hf896.fin (by omega) (by omega) (by omega)) hf897)) ?_
         rintro v1044 w1045 he1046 rfl a1047 ha1047; clear ha1043 a1043
         have hx1048 := hx892.trans' he1046
         have hzhx1048 := he1046.size
         replace hf893 := hf893.ext he1046
         replace hf894 := hf894.ext he1046
         replace hf895 := hf895.ext he1046
         replace hf896 := hf896.ext he1046
         replace hf897 := hf897.ext he1046
         replace hf898 := hf898.ext he1046
         refine wl_val ha1047 rfl rfl rfl (op_not ha1047 rfl rfl) ?_
         intro a1049 ha1049; clear ha1047 a1047
         refine wpList_nil ?_
         refine then_n ?_
         rcases Bool.eq_false_or_eq_true (tabB ((((((((t.1 ++ [head])), t.2) : Tab)).1), (zs.map (·.1))))) with c1050 | c1050
         ·
          rw [c1050] at ha1049
          refine cond_f ha1049 rfl ?_
          refine wp_skip ?_
          refine then_n ?_
          refine wp_seq ?_
          refine wp_region_lit ?_
          refine wl_val ha1049 rfl rfl rfl (op_loadS ha1049 rfl Try.underlying28 ti28 rfl rfl hf898.cells) ?_
          intro a1051 ha1051; clear ha1049 a1049
          refine wl_effS ha1051 rfl rfl (op_storeAll' ha1051 rfl ti28 rfl rfl hf894 rfl rfl (by intro u hu; have hu : u ∈ ([q75, q76] : List Value) := hu; simp only [List.mem_cons, List.mem_nil_iff, or_false] at hu; rcases hu with rfl | rfl <;> first | rfl | exact hf895.one | exact hf896.one) rfl) ?_
          rintro w1052 ⟨hb1054, hst1053, hz1055⟩
          have hx1056 := hx1048.stp hst1053 (by intro q hq; cases hq; exact (by omega))
          have hzhx1056 := hst1053.size
          replace hf893 := hf893.stp hst1053 (by intro q hq; cases hq; omega)
          replace hf895 := hf895.stp hst1053 (by intro q hq; cases hq; omega)
          replace hf896 := hf896.stp hst1053 (by intro q hq; cases hq; omega)
          replace hf897 := hf897.stp hst1053 (by intro q hq; cases hq; omega)
          replace hf898 := hf898.stp hst1053 (by intro q hq; cases hq; omega)
          clear hf894
          refine wl_val ha1051 rfl rfl rfl (op_assign ha1051 rfl rfl) ?_
          intro a1057 ha1057; clear ha1051 a1051
          refine wpList_nil ?_
          refine then_n ?_
          refine wp_ret ?_
          refine retct ha1057 rfl rfl rfl Try.underlying28 ti28 rfl hb1054.cells ?_
          clear ha1057 a1057
          have hF2 : zs.map (·.1) = adR ca cb m t.2 := (by rw [hF, drop_nil (by omega), List.append_nil, List.take_of_length_le (by omega)])
          rw [hF2] at c1050
          have hr : cdA t head ca cb m = _ := (cdA_e c26 c38 c47 c56 (hasB_lt c66)).trans (if_pos c1050)
          refine ret_mk hx1056 ⟨q75, q76, zs, (tup2_eq (by rfl) (int_eq (by first | exact hr.symm | omega))), ?_, hf896.fin (by omega) (by omega) (by omega), hf897.fin (by omega) (by omega), ?_⟩
          ·
           refine (hf895.fin (by omega) (by omega) (by omega)).cast ?_
           rw [acT_ok hr]; rfl
          ·
           rw [acT_ok hr]; exact hF2
         ·
          rw [c1050] at ha1049
          refine cond_t ha1049 rfl ?_
          refine wp_seq ?_
          refine wp_region_lit ?_
          refine wl_val ha1049 rfl rfl rfl (op_build (vs := []) (cs := #[.slice none 0 0, .slice none 0 0]) ha1049 rfl Try.underlying28 ti28 bp28 rfl rfl) ?_
          intro a1058 ha1058; clear ha1049 a1049
          refine wl_effS ha1058 rfl rfl (op_storeAll' ha1058 rfl ti28 rfl rfl hf894 rfl rfl (by simp [Value.oneCell']) rfl) ?_
          rintro w1059 ⟨hb1061, hst1060, hz1062⟩
          have hx1063 := hx1048.stp hst1060 (by intro q hq; cases hq; exact (by omega))
          have hzhx1063 := hst1060.size
          replace hf893 := hf893.stp hst1060 (by intro q hq; cases hq; omega)
          replace hf895 := hf895.stp hst1060 (by intro q hq; cases hq; omega)
          replace hf896 := hf896.stp hst1060 (by intro q hq; cases hq; omega)
          replace hf897 := hf897.stp hst1060 (by intro q hq; cases hq; omega)
          replace hf898 := hf898.stp hst1060 (by intro q hq; cases hq; omega)
          clear hf894
          refine wl_val ha1058 rfl rfl rfl (op_assign ha1058 rfl rfl) ?_
          intro a1064 ha1064; clear ha1058 a1058
          refine wpList_nil ?_
          refine then_n ?_
          refine wp_ret ?_
          refine then_r ?_
          refine retct ha1064 rfl rfl rfl Try.underlying28 ti28 rfl hb1061.cells ?_
          clear ha1064 a1064
          have hF2 : zs.map (·.1) = adR ca cb m t.2 := (by rw [hF, drop_nil (by omega), List.append_nil, List.take_of_length_le (by omega)])
          rw [hF2] at c1050
          have hr : cdA t head ca cb m = _ := (cdA_e c26 c38 c47 c56 (hasB_lt c66)).trans (if_neg (by show ¬ tabB (t.1 ++ [head], adR ca cb m t.2) = true; rw [c1050]; decide))
          refine ret_mk hx1063 ⟨(.slice none 0 0), (.slice none 0 0), [], (tup2_eq (by rfl) (int_eq (by first | exact hr.symm | omega))), ?_, Own.nil _ _ _ _ _ _, Nst.nil _ _ _ _ _ _, ?_⟩
          ·
           refine Own.nil_ _ _ _ _ _ _ ?_
           rw [acT_no (by rw [hr]; first | decide | assumption)]
          ·
           rw [acT_no (by rw [hr]; first | decide | assumption)]; rfl
    ·
     rw [c56] at ha55
     refine wl_skip ha55 rfl rfl rfl ?_
     intro a1065 ha1065; clear ha55 a55
     refine wl_skip ha1065 rfl rfl rfl ?_
     intro a1066 ha1066; clear ha1065 a1065
     refine wl_skip ha1066 rfl rfl rfl ?_
     intro a1067 ha1067; clear ha1066 a1066
     refine wl_val ha1067 rfl rfl rfl (op_pick_t ha1067 rfl rfl rfl) ?_
     intro a1068 ha1068; clear ha1067 a1067
     refine wl_val ha1068 rfl rfl rfl (op_assign ha1068 rfl rfl) ?_
     intro a1069 ha1069; clear ha1068 a1068
     refine wpList_nil ?_
     refine then_n ?_
     refine cond_t ha1069 rfl ?_
     refine wp_seq ?_
     refine wp_region_lit ?_
     refine wl_val ha1069 rfl rfl rfl (op_build (vs := []) (cs := #[.slice none 0 0, .slice none 0 0]) ha1069 rfl Try.underlying28 ti28 bp28 rfl rfl) ?_
     intro a1070 ha1070; clear ha1069 a1069
     refine wl_effS ha1070 rfl rfl (op_storeAll' ha1070 rfl ti28 rfl rfl hb11 rfl rfl (by simp [Value.oneCell']) rfl) ?_
     rintro w1071 ⟨hb1073, hst1072, hz1074⟩
     have hx1075 := hx53.stp hst1072 (by intro q hq; cases hq; exact (by omega))
     have hzhx1075 := hst1072.size
     replace hb4 := hb4.stp hst1072 (by intro q hq; cases hq; omega)
     clear hb11
     refine wl_val ha1070 rfl rfl rfl (op_assign ha1070 rfl rfl) ?_
     intro a1076 ha1076; clear ha1070 a1070
     refine wpList_nil ?_
     refine then_n ?_
     refine wp_ret ?_
     refine block_r ?_
     refine then_r ?_
     refine retct ha1076 rfl rfl rfl Try.underlying28 ti28 rfl hb1073.cells ?_
     clear ha1076 a1076
     have hr : cdA t head ca cb m = _ := cdA_5 c26 c38 c47 (.inl c56)
     refine ret_mk hx1075 ⟨(.slice none 0 0), (.slice none 0 0), [], (tup2_eq (by rfl) (int_eq (by first | exact hr.symm | omega))), ?_, Own.nil _ _ _ _ _ _, Nst.nil _ _ _ _ _ _, ?_⟩
     ·
      refine Own.nil_ _ _ _ _ _ _ ?_
      rw [acT_no (by rw [hr]; first | decide | assumption)]
     ·
      rw [acT_no (by rw [hr]; first | decide | assumption)]; rfl
   ·
    rw [c47] at ha46
    refine cond_t ha46 rfl ?_
    refine wp_seq ?_
    refine wp_region_lit ?_
    refine wl_val ha46 rfl rfl rfl (op_build (vs := []) (cs := #[.slice none 0 0, .slice none 0 0]) ha46 rfl Try.underlying28 ti28 bp28 rfl rfl) ?_
    intro a1077 ha1077; clear ha46 a46
    refine wl_effS ha1077 rfl rfl (op_storeAll' ha1077 rfl ti28 rfl rfl hb11 rfl rfl (by simp [Value.oneCell']) rfl) ?_
    rintro w1078 ⟨hb1080, hst1079, hz1081⟩
    have hx1082 := hx44.stp hst1079 (by intro q hq; cases hq; exact (by omega))
    have hzhx1082 := hst1079.size
    replace hb4 := hb4.stp hst1079 (by intro q hq; cases hq; omega)
    clear hb11
    refine wl_val ha1077 rfl rfl rfl (op_assign ha1077 rfl rfl) ?_
    intro a1083 ha1083; clear ha1077 a1077
    refine wpList_nil ?_
    refine then_n ?_
    refine wp_ret ?_
    refine block_r ?_
    refine then_r ?_
    refine retct ha1083 rfl rfl rfl Try.underlying28 ti28 rfl hb1080.cells ?_
    clear ha1083 a1083
    have hr : cdA t head ca cb m = _ := cdA_2m c26 c38 c47
    refine ret_mk hx1082 ⟨(.slice none 0 0), (.slice none 0 0), [], (tup2_eq (by rfl) (int_eq (by first | exact hr.symm | omega))), ?_, Own.nil _ _ _ _ _ _, Nst.nil _ _ _ _ _ _, ?_⟩
    ·
     refine Own.nil_ _ _ _ _ _ _ ?_
     rw [acT_no (by rw [hr]; first | decide | assumption)]
    ·
     rw [acT_no (by rw [hr]; first | decide | assumption)]; rfl
  ·
   rw [decide_eq_false c38] at ha37
   refine cond_t ha37 rfl ?_
   refine wp_seq ?_
   refine wp_region_lit ?_
   refine wl_val ha37 rfl rfl rfl (op_build (vs := []) (cs := #[.slice none 0 0, .slice none 0 0]) ha37 rfl Try.underlying28 ti28 bp28 rfl rfl) ?_
   intro a1084 ha1084; clear ha37 a37
   refine wl_val ha1084 rfl rfl rfl (op_move ha1084 rfl rfl) ?_
   intro a1085 ha1085; clear ha1084 a1084
   refine wl_effS ha1085 rfl rfl (op_storeAll' ha1085 rfl ti28 rfl rfl hb11 rfl rfl (by simp [Value.oneCell']) rfl) ?_
   rintro w1086 ⟨hb1088, hst1087, hz1089⟩
   have hx1090 := hx33.stp hst1087 (by intro q hq; cases hq; exact (by omega))
   have hzhx1090 := hst1087.size
   replace hb4 := hb4.stp hst1087 (by intro q hq; cases hq; omega)
   clear hb11
   refine wl_val ha1085 rfl rfl rfl (op_assign ha1085 rfl rfl) ?_
   intro a1091 ha1091; clear ha1085 a1085
   refine wpList_nil ?_
   refine then_n ?_
   refine wp_ret ?_
   refine block_r ?_
   refine then_r ?_
   refine retct ha1091 rfl rfl rfl Try.underlying28 ti28 rfl hb1088.cells ?_
   clear ha1091 a1091
   have hr : cdA t head ca cb m = _ := cdA_b c26 c38
   refine ret_mk hx1090 ⟨(.slice none 0 0), (.slice none 0 0), [], (tup2_eq (by rfl) (int_eq (by first | exact hr.symm | omega))), ?_, Own.nil _ _ _ _ _ _, Nst.nil _ _ _ _ _ _, ?_⟩
   ·
    refine Own.nil_ _ _ _ _ _ _ ?_
    rw [acT_no (by rw [hr]; first | decide | assumption)]
   ·
    rw [acT_no (by rw [hr]; first | decide | assumption)]; rfl
 ·
  rw [decide_eq_false c26] at ha25
  refine cond_f ha25 rfl ?_
  refine wp_skip ?_
  refine then_n ?_
  refine wp_seq ?_
  refine wp_block ?_
  refine wp_seq ?_
  refine wp_region_lit ?_
  refine wl_val ha25 rfl rfl rfl (op_move ha25 rfl rfl) ?_
  intro a1092 ha1092; clear ha25 a25
  refine wl_val ha1092 rfl rfl rfl ((op_neq ha1092 rfl rfl rfl).to (congrArg Value.bool decide_not)) ?_
  intro a1093 ha1093; clear ha1092 a1092
  refine wl_val ha1093 rfl rfl rfl (op_assign ha1093 rfl rfl) ?_
  intro a1094 ha1094; clear ha1093 a1093
  refine wpList_nil ?_
  refine then_n ?_
  rw [decide_eq_false c26] at ha1094
  refine cond_t ha1094 rfl ?_
  refine wp_seq ?_
  refine wp_region_lit ?_
  refine wl_val ha1094 rfl rfl rfl (op_build (vs := []) (cs := #[.slice none 0 0, .slice none 0 0]) ha1094 rfl Try.underlying28 ti28 bp28 rfl rfl) ?_
  intro a1095 ha1095; clear ha1094 a1094
  refine wl_val ha1095 rfl rfl rfl (op_move ha1095 rfl rfl) ?_
  intro a1096 ha1096; clear ha1095 a1095
  refine wl_effS ha1096 rfl rfl (op_storeAll' ha1096 rfl ti28 rfl rfl hb11 rfl rfl (by simp [Value.oneCell']) rfl) ?_
  rintro w1097 ⟨hb1099, hst1098, hz1100⟩
  have hx1101 := hx22.stp hst1098 (by intro q hq; cases hq; exact (by omega))
  have hzhx1101 := hst1098.size
  replace hb4 := hb4.stp hst1098 (by intro q hq; cases hq; omega)
  clear hb11
  refine wl_val ha1096 rfl rfl rfl (op_assign ha1096 rfl rfl) ?_
  intro a1102 ha1102; clear ha1096 a1096
  refine wpList_nil ?_
  refine then_n ?_
  refine wp_ret ?_
  refine block_r ?_
  refine then_r ?_
  refine retct ha1102 rfl rfl rfl Try.underlying28 ti28 rfl hb1099.cells ?_
  clear ha1102 a1102
  have hr : cdA t head ca cb m = _ := cdA_a c26
  refine ret_mk hx1101 ⟨(.slice none 0 0), (.slice none 0 0), [], (tup2_eq (by rfl) (int_eq (by first | exact hr.symm | omega))), ?_, Own.nil _ _ _ _ _ _, Nst.nil _ _ _ _ _ _, ?_⟩
  ·
   refine Own.nil_ _ _ _ _ _ _ ?_
   rw [acT_no (by rw [hr]; first | decide | assumption)]
  ·
   rw [acT_no (by rw [hr]; first | decide | assumption)]; rfl

set_option maxHeartbeats 4000000 in
theorem c_impl_AddColumn (w0 : World) (v_t0 : Value) (v_t1 : Value) (t : List Str × List (List Int)) {S_t0 : Nat → Prop} {S_t1 : Nat → Prop} (head : Str) (ca : Int) (cb : Int) (m : Int) (h_t0 : Rds shStr S_t0 w0 v_t0 t.1) (h_t1 : Rds shRow S_t1 w0 v_t1 t.2) (g0 : head.length ≤ 1048576) :
  Calls Try.prog 49 #[.agg #[v_t0, v_t1], St head, .int .i64 ca, .int .i64 cb, .int .i64 m] w0 (Ret w0 (fun v w1 => ∃ r0_0 r0_1 z0_1, v = .tuple #[.agg #[r0_0, r0_1], .int .i64 (cdA t head ca cb m)] ∧ Own shStr 9 w0.heap.size w0.heap.size w1.heap.size w1 r0_0 ((acT t head ca cb m).1) ∧ Own shRowN 41 w0.heap.size w0.heap.size w1.heap.size w1 r0_1 z0_1 ∧ Nst shI64 2 (fun x : List Int => x) w0.heap.size w1.heap.size w1 z0_1 ∧ z0_1.map (·.1) = ((acT t head ca cb m).2))) := by
 refine enter (N := 86) Try.func49 rfl rfl rfl ?_
 intro a0 ha0
 have hx0 := Ext.rfl' w0
 have hl_t0 := h_t0.length_le
 have hl_t1 := h_t1.length_le
 refine wp_seq ?_
 refine wp_region_lit ?_
 refine wl_eff ha0 rfl rfl rfl (op_box' ha0 rfl rfl rfl) ?_
 rintro _ w2 ⟨rfl, he3, hb4, hz5⟩ a6 ha6; clear ha0 a0
 have hx7 := hx0.trans' he3
 have hzhx7 := he3.size
 refine wl_eff ha6 rfl rfl rfl (op_alloc' rfl ti28 rfl) ?_
 rintro _ w9 ⟨rfl, he10, hb11, hz12⟩ a13 ha13; clear ha6 a6
 have hx14 := hx7.trans' he10
 have hzhx14 := he10.size
 replace hb4 := hb4.ext he10
 refine wl_val ha13 rfl rfl rfl (op_assign ha13 rfl rfl) ?_
 intro a15 ha15; clear ha13 a13
 refine wpList_nil ?_
 refine then_n ?_
 refine wp_seq ?_
 refine wp_seq ?_
 refine wp_region_lit ?_
 refine wl_val ha15 rfl rfl rfl (op_loadS ha15 rfl Try.underlying28 ti28 rfl rfl hb4.cells) ?_
 intro a16 ha16; clear ha15 a15
 refine wl_callR ha16 rfl rfl rfl (op_call ha16 rfl cb19 rfl) (c_impl_IsTable _ v_t0 v_t1 t (h_t0.ext pos_shStr hx14) (h_t1.ext pos_shRow hx14)) ?_
 rintro v17 w18 he19 rfl a20 ha20; clear ha16 a16
 have hx21 := hx14.trans' he19
 have hzhx21 := he19.size
 replace hb4 := hb4.ext he19
 replace hb11 := hb11.ext he19
 refine wl_val ha20 rfl rfl rfl (op_not ha20 rfl rfl) ?_
 intro a22 ha22; clear ha20 a20
 refine wpList_nil ?_
 refine then_n ?_
 rcases Bool.eq_false_or_eq_true (tabB t) with c23 | c23
 ·
  rw [c23] at ha22
  have htbc23 := tab_bd c23
  have htrc23 := tab_rows c23
  refine cond_f ha22 rfl ?_
  refine wp_skip ?_
  refine then_n ?_
  refine wp_seq ?_
  refine wp_seq ?_
  refine wp_region_lit ?_
  refine wl_val ha22 rfl rfl rfl (op_loadS ha22 rfl Try.underlying28 ti28 rfl rfl hb4.cells) ?_
  intro a24 ha24; clear ha22 a22
  refine wl_val ha24 rfl rfl rfl (op_move ha24 rfl rfl) ?_
  intro a25 ha25; clear ha24 a24
  refine wl_callR ha25 rfl rfl rfl (op_call ha25 rfl cb70 rfl) (c_impl_isColumn _ v_t0 v_t1 t ca (h_t0.ext pos_shStr hx21) (h_t1.ext pos_shRow hx21)) ?_
  rintro v26 w27 he28 rfl a29 ha29; clear ha25 a25
  have hx30 := hx21.trans' he28
  have hzhx30 := he28.size
  replace hb4 := hb4.ext he28
  replace hb11 := hb11.ext he28
  refine wl_val ha29 rfl rfl rfl (op_not ha29 rfl rfl) ?_
  intro a31 ha31; clear ha29 a29
  refine wl_val ha31 rfl rfl rfl (op_move ha31 rfl rfl) ?_
  intro a32 ha32; clear ha31 a31
  rcases Bool.eq_false_or_eq_true (colB t ca) with c33 | c33
  ·
   rw [c33] at ha32
   have hcbc33 := col_bd c33
   refine wl_val ha32 rfl rfl rfl (op_loadS ha32 rfl Try.underlying28 ti28 rfl rfl hb4.cells) ?_
   intro a34 ha34; clear ha32 a32
   refine wl_val ha34 rfl rfl rfl (op_move ha34 rfl rfl) ?_
   intro a35 ha35; clear ha34 a34
   refine wl_callR ha35 rfl rfl rfl (op_call ha35 rfl cb70 rfl) (c_impl_isColumn _ v_t0 v_t1 t cb (h_t0.ext pos_shStr hx30) (h_t1.ext pos_shRow hx30)) ?_
   rintro v36 w37 he38 rfl a39 ha39; clear ha35 a35
   have hx40 := hx30.trans' he38
   have hzhx40 := he38.size
   replace hb4 := hb4.ext he38
   replace hb11 := hb11.ext he38
   refine wl_val ha39 rfl rfl rfl (op_not ha39 rfl rfl) ?_
   intro a41 ha41; clear ha39 a39
   refine wl_val ha41 rfl rfl rfl (op_pick_f ha41 rfl rfl rfl) ?_
   intro a42 ha42; clear ha41 a41
   refine wl_val ha42 rfl rfl rfl (op_move ha42 rfl rfl) ?_
   intro a43 ha43; clear ha42 a42
   rcases Bool.eq_false_or_eq_true (colB t cb) with c44 | c44
   ·
    rw [c44] at ha43
    have hcbc44 := col_bd c44
    refine wl_val ha43 rfl rfl rfl (op_move ha43 rfl rfl) ?_
    intro a45 ha45; clear ha43 a43
    refine wl_callR ha45 rfl rfl rfl (op_call ha45 rfl cb78 rfl) (c_impl_within _ m (-1000 : Int) (1000 : Int) ) ?_
    rintro v46 w47 he48 rfl a49 ha49; clear ha45 a45
    have hx50 := hx40.trans' he48
    have hzhx50 := he48.size
    replace hb4 := hb4.ext he48
    replace hb11 := hb11.ext he48
    refine wl_val ha49 rfl rfl rfl (op_not ha49 rfl rfl) ?_
    intro a51 ha51; clear ha49 a49
    refine wl_val ha51 rfl rfl rfl (op_pick_f ha51 rfl rfl rfl) ?_
    intro a52 ha52; clear ha51 a51
    refine wpList_nil ?_
    refine then_n ?_
    rcases Bool.eq_false_or_eq_true (decide ((-1000 : Int) ≤ m) && decide (m ≤ (1000 : Int))) with c53 | c53
    ·
     rw [c53] at ha52
     refine cond_f ha52 rfl ?_
     refine wp_skip ?_
     refine then_n ?_
     refine wp_seq ?_
     refine wp_seq ?_
     refine wp_region_lit ?_
     refine wl_val ha52 rfl rfl rfl (op_move ha52 rfl rfl) ?_
     intro a54 ha54; clear ha52 a52
     refine wl_callR ha54 rfl rfl rfl (op_call ha54 rfl cb65 rfl) (c_impl_IsWord _ head (by first | assumption | omega | (simp; omega))) ?_
     rintro v55 w56 he57 rfl a58 ha58; clear ha54 a54
     have hx59 := hx50.trans' he57
     have hzhx59 := he57.size
     replace hb4 := hb4.ext he57
     replace hb11 := hb11.ext he57
     refine wl_val ha58 rfl rfl rfl (op_not ha58 rfl rfl) ?_
     intro a60 ha60; clear ha58 a58
     refine wl_val ha60 rfl rfl rfl (op_move ha60 rfl rfl) ?_
     intro a61 ha61; clear ha60 a60
     rcases Bool.eq_false_or_eq_true (wordB head) with c62 | c62
     ·
      rw [c62] at ha61
      refine wl_val ha61 rfl rfl rfl (op_fieldAddr (sz := 0) ha61 rfl Try.underlying28 rfl rfl ti22 rfl) ?_
      intro a63 ha63; clear ha61 a61
      refine wl_val ha63 rfl rfl rfl (op_loadF (off := 0) ha63 rfl Try.underlying22 rfl rfl hb4.cells rfl) ?_
      intro a64 ha64; clear ha63 a63
      refine wl_val ha64 rfl rfl rfl (op_move ha64 rfl rfl) ?_
      intro a65 ha65; clear ha64 a64
      refine wl_callR ha65 rfl rfl rfl (op_call ha65 rfl cb66 rfl) (c_impl_headAt _ v_t0 t.1 head (h_t0.ext pos_shStr hx59)) ?_
      rintro v66 w67 he68 rfl a69 ha69; clear ha65 a65
      have hx70 := hx59.trans' he68
      have hzhx70 := he68.size
      replace hb4 := hb4.ext he68
      replace hb11 := hb11.ext he68
      refine wl_val ha69 rfl rfl rfl (op_geq ha69 rfl rfl rfl) ?_
      intro a71 ha71; clear ha69 a69
      refine wl_val ha71 rfl rfl rfl (op_pick_f ha71 rfl rfl rfl) ?_
      intro a72 ha72; clear ha71 a71
      refine wpList_nil ?_
      refine then_n ?_
      by_cases c73 : (0 : Int) ≤ (fdF (eqB head) t.1 : Int)
      ·
       rw [decide_eq_true c73] at ha72
       refine cond_t ha72 rfl ?_
       refine wp_seq ?_
       refine wp_region_lit ?_
       refine wl_val ha72 rfl rfl rfl (op_build (vs := []) (cs := #[.slice none 0 0, .slice none 0 0]) ha72 rfl Try.underlying28 ti28 bp28 rfl rfl) ?_
       intro a74 ha74; clear ha72 a72
       refine wl_effS ha74 rfl rfl (op_storeAll' ha74 rfl ti28 rfl rfl hb11 rfl rfl (by simp [Value.oneCell']) rfl) ?_
       rintro w75 ⟨hb77, hst76, hz78⟩
       have hx79 := hx70.stp hst76 (by intro q hq; cases hq; exact (by omega))
       have hzhx79 := hst76.size
       replace hb4 := hb4.stp hst76 (by intro q hq; cases hq; omega)
       clear hb11
       refine wl_val ha74 rfl rfl rfl (op_assign ha74 rfl rfl) ?_
       intro a80 ha80; clear ha74 a74
       refine wpList_nil ?_
       refine then_n ?_
       refine wp_ret ?_
       refine then_r ?_
       refine retct ha80 rfl rfl rfl Try.underlying28 ti28 rfl hb77.cells ?_
       clear ha80 a80
       have hr : cdA t head ca cb m = _ := cdA_5 (cdT_0 c23 c33) (cdT_0 c23 c44) c53 (.inr (by omega))
       refine ret_mk hx79 ⟨(.slice none 0 0), (.slice none 0 0), [], (tup2_eq (by rfl) (int_eq (by first | exact hr.symm | omega))), ?_, Own.nil _ _ _ _ _ _, Nst.nil _ _ _ _ _ _, ?_⟩
       ·
        refine Own.nil_ _ _ _ _ _ _ ?_
        rw [acT_no (by rw [hr]; first | decide | assumption)]
       ·
        rw [acT_no (by rw [hr]; first | decide | assumption)]; rfl
      ·
       rw [decide_eq_false c73] at ha72
       refine cond_f ha72 rfl ?_
       refine wp_skip ?_
       refine then_n ?_
       refine wp_seq ?_
       refine wp_region_lit ?_
       refine wl_val ha72 rfl rfl rfl (op_loadS ha72 rfl Try.underlying28 ti28 rfl rfl hb4.cells) ?_
       intro a81 ha81; clear ha72 a72
       refine wl_callR ha81 rfl rfl rfl (op_call ha81 rfl cb75 rfl) (c_impl_copyTable _ v_t0 v_t1 t (h_t0.ext pos_shStr hx70) (h_t1.ext pos_shRow hx70) (by first | assumption | omega | (simp; omega))) ?_
       rintro v82 w83 he84 ⟨u85, u87, z89, rfl, ho86, ho88, hN90, hE91⟩ a92 ha92; clear ha81 a81
       have hx93 := hx70.trans' he84
       have hzhx93 := he84.size
       replace hb4 := hb4.ext he84
       replace hb11 := hb11.ext he84
       have hlhE91 := absLen hE91
       refine wl_eff ha92 rfl rfl rfl (op_alloc' rfl ti28 rfl) ?_
       rintro _ w95 ⟨rfl, he96, hb97, hz98⟩ a99 ha99; clear ha92 a92
       have hx100 := hx93.trans' he96
       have hzhx100 := he96.size
       replace hb4 := hb4.ext he96
       replace hb11 := hb11.ext he96
       replace ho86 := ho86.ext he96
       replace ho88 := ho88.ext he96
       replace hN90 := hN90.ext he96
       refine wl_effS ha99 rfl rfl (op_storeAll' ha99 rfl ti28 rfl rfl hb97 rfl rfl (by intro u hu; have hu : u ∈ ([u85, u87] : List Value) := hu; simp only [List.mem_cons, List.mem_nil_iff, or_false] at hu; rcases hu with rfl | rfl <;> first | rfl | exact ho86.one | exact ho88.one) rfl) ?_
       rintro w101 ⟨hb103, hst102, hz104⟩
       have hx105 := hx100.stp hst102 (by intro q hq; cases hq; exact (by omega))
       have hzhx105 := hst102.size
       replace hb4 := hb4.stp hst102 (by intro q hq; cases hq; omega)
       replace hb11 := hb11.stp hst102 (by intro q hq; cases hq; omega)
       replace ho86 := ho86.stp hst102 (by intro q hq; cases hq; omega)
       replace ho88 := ho88.stp hst102 (by intro q hq; cases hq; omega)
       replace hN90 := hN90.stp hst102 (by intro q hq; cases hq; omega)
       clear hb97
       refine wpList_nil ?_
       refine then_n ?_
       refine wp_seq ?_
       refine wp_region_lit ?_
       refine wl_val ha99 rfl rfl rfl (op_fieldAddr (sz := 0) ha99 rfl Try.underlying28 rfl rfl ti22 rfl) ?_
       intro a106 ha106; clear ha99 a99
       refine wl_val ha106 rfl rfl rfl (op_loadF (off := 0) ha106 rfl Try.underlying22 rfl rfl hb103.cells rfl) ?_
       intro a107 ha107; clear ha106 a106
       refine wl_val ha107 rfl rfl rfl (op_move ha107 rfl rfl) ?_
       intro a108 ha108; clear ha107 a107
       refine wl_eff ha108 rfl rfl rfl (op_buildSlice (s := shStr) (xs := [head]) (cs := [St head]) (vs := [(0, St head)]) (S := fun _ => False) (le := w101.heap.size) ha108 rfl pos_shStr Try.underlying22 ti9 rfl rfl (by decide) (by kernel_rfl) (Els.single (mk_shStr head (by first | assumption | omega | (simp; omega)))) (fun _ h => h.elim)) ?_
       rintro v109 w110 ⟨ho111, he112, hob113⟩ a114 ha114; clear ha108 a108
       have hx115 := hx105.trans' he112
       have hzhx115 := he112.size
       replace hb4 := hb4.ext he112
       replace hb11 := hb11.ext he112
       replace ho86 := ho86.ext he112
       replace ho88 := ho88.ext he112
       replace hN90 := hN90.ext he112
       replace hb103 := hb103.ext he112
       refine wl_eff ha114 rfl rfl rfl (op_append (ts := #[]) (s := shStr) ha114 rfl Try.underlying22 ti9 rfl pos_shStr rfl rfl ho86 (ho111.rds pos_shStr) (by omega) (by omega) (by first | omega | (simp; omega)) (by first | omega | (simp; omega)) (.inl flat_shStr)) ?_
       rintro v116 w117 ⟨ho118, hst119, hob120⟩ a121 ha121; clear ha114 a114
       have hx122 := hx115.stp hst119 (by intro q hq; have hq0 := ho86.lt q hq; omega)
       have hzhx122 := hst119.size
       replace hb4 := hb4.stp hst119 (by intro q hq; have hq0 := ho86.lt q hq; omega)
       replace hb11 := hb11.stp hst119 (by intro q hq; have hq0 := ho86.lt q hq; omega)
       first | replace ho88 := ho88.stp hst119 (by intro q hq; have hq0 := ho86.lt q hq; omega) | replace ho88 := ho88.stpF flat_shRowN hst119 (ho88.ne ho86 rfl)
       first | replace hN90 := hN90.stpF flat_shI64 hst119 ho86 rfl | replace hN90 := hN90.stp hst119 (by intro q hq; have hq0 := ho86.lt q hq; omega)
       replace hb103 := hb103.stp hst119 (by intro q hq; have hq0 := ho86.lt q hq; omega)
       replace ho111 := ho111.stp hst119 (by intro q hq; have hq0 := ho86.lt q hq; omega)
       have hsp123 : ∀ q, Value.ownBlock v116 = some q → Value.ownBlock v109 ≠ some q := by intro q hq hb; have hq0 := ho111.lt q hb; rcases hob120 with h | h; (rw [h] at hq; first | (have hq1 := ho86.lt q hq; omega)); (rw [h] at hq; cases hq; omega)
       refine wl_val ha121 rfl rfl rfl (op_fieldAddr (sz := 0) ha121 rfl Try.underlying28 rfl rfl ti22 rfl) ?_
       intro a124 ha124; clear ha121 a121
       refine wl_effS ha124 rfl rfl (op_store' (off := 0) ha124 rfl ti22 rfl rfl hb103 ho118.cells1 rfl (by intro u hu; have hu : u ∈ ([v116] : List Value) := hu; simp only [List.mem_cons, List.mem_nil_iff, or_false] at hu; rcases hu with rfl <;> first | rfl | exact ho118.one) (Nat.le_of_ble_eq_true rfl)) ?_
       rintro w125 ⟨hb127, hst126, hz128⟩
       have hx129 := hx122.stp hst126 (by intro q hq; cases hq; exact (by omega))
       have hzhx129 := hst126.size
       replace hb4 := hb4.stp hst126 (by intro q hq; cases hq; omega)
       replace hb11 := hb11.stp hst126 (by intro q hq; cases hq; omega)
       replace ho88 := ho88.stp hst126 (by intro q hq; cases hq; omega)
       replace hN90 := hN90.stp hst126 (by intro q hq; cases hq; omega)
       replace ho111 := ho111.stp hst126 (by intro q hq; cases hq; omega)
       first | replace ho118 := ho118.stp hst126 (by intro q hq; cases hq; omega) | replace ho118 := ho118.stpF flat_shStr hst126 (by intro q hq; cases hq; exact ho118.ne_box (by assumption) rfl)
       clear hb103
       refine wpList_nil ?_
       refine then_n ?_
       refine wp_seq ?_
       refine wp_seq ?_
       refine wp_region_lit ?_
       refine wl_val ha124 rfl rfl rfl (op_fieldAddr (sz := 0) ha124 rfl Try.underlying28 rfl rfl ti23 rfl) ?_
       intro a130 ha130; clear ha124 a124
       refine wl_val ha130 rfl rfl rfl (op_loadF (off := 1) ha130 rfl Try.underlying23 rfl rfl hb127.cells rfl) ?_
       intro a131 ha131; clear ha130 a130
       refine wl_val ha131 rfl rfl rfl (op_len_sl ha131 rfl Try.underlying23 rfl (ho88.rds pos_shRowN)) ?_
       intro a132 ha132; clear ha131 a131
       refine wl_val ha132 rfl rfl rfl (op_move ha132 rfl rfl) ?_
       intro a133 ha133; clear ha132 a132
       refine wpList_nil ?_
       refine then_n ?_
       refine wp_block ?_
       refine loop_inv (X := Nat × (List (List Int × Value))) (fun (⟨i, zs⟩ : Nat × (List (List Int × Value))) fr wl => Sl 86 fr [(2, .int .i64 ca), (3, .int .i64 cb), (4, .int .i64 m), (10, .pointer (some (⟨w2.heap.size, 0, none⟩ : Addr))), (12, .pointer (some (⟨w83.heap.size, 0, none⟩ : Addr))), (55, u87), (56, .int .i64 ((z89.length : Nat) : Int)), (57, .int .i64 ((i : Nat) : Int))] ∧ Ext w0 wl ∧ Box wl w2.heap.size 28 [.slice none 0 0, .slice none 0 0] ∧ Own shStr 9 w67.heap.size w67.heap.size w117.heap.size wl v116 ((((t).1) ++ [head])) ∧ Own shRowN 41 w67.heap.size w67.heap.size w83.heap.size wl u87 zs ∧ Nst shI64 2 (fun x : List Int => x) w67.heap.size wl.heap.size wl zs ∧ Box wl w83.heap.size 28 [v116, u87] ∧ w125.heap.size ≤ wl.heap.size ∧ (i ≤ t.2.length) ∧ (zs.length = t.2.length) ∧ (zs.map (·.1) = adR ca cb m (t.2.take i) ++ t.2.drop i)) (fun (⟨i, zs⟩ : Nat × (List (List Int × Value))) => t.2.length - i) (0, z89) ?_ ?_
       ·
        exact ⟨(Sl.cons_ ha133 rfl rfl (Sl.cons_ ha133 rfl rfl (Sl.cons_ ha133 rfl rfl (Sl.cons_ ha133 rfl rfl (Sl.cons_ ha133 rfl rfl (Sl.cons_ ha133 rfl rfl (Sl.cons_ ha133 rfl rfl (Sl.cons_ ha133 rfl (int_eq (by omega)) (Sl.nil_ ha133))))))))), hx129, hb11, ho118, (ho88.fin (by omega) (by omega) (by omega)), (hN90.fin (by omega) (by omega)), hb127, (by omega), (by omega), (by have h5 := absLen ‹List.map _ _ = t.2›; omega), (by rw [‹List.map _ _ = t.2›]; rfl)⟩
       ·
        clear ha133 a133
        rintro ⟨i, zs⟩ a141 w134 ⟨ha141, hx135, hf136, hf137, hf138, hf139, hf140, hzl142, hi, hl, hF⟩
        have hzhx135 := hx135.size
        refine wp_seq ?_
        refine wp_region_lit ?_
        refine wl_val ha141 rfl rfl rfl (op_lss ha141 rfl rfl rfl) ?_
        intro a143 ha143; clear ha141 a141
        refine wpList_nil ?_
        refine then_n ?_
        refine wp_seq ?_
        by_cases c144 : ((i : Nat) : Int) < ((z89.length : Nat) : Int)
        ·
         rw [decide_eq_true c144] at ha143
         refine cond_t ha143 rfl ?_
         refine wp_skip ?_
         refine then_n ?_
         refine wp_seq ?_
         refine wp_block ?_
         refine wp_seq ?_
         refine wp_region_lit ?_
         refine wl_val ha143 rfl rfl rfl (op_move ha143 rfl rfl) ?_
         intro a145 ha145; clear ha143 a143
         obtain ⟨x146, hx146⟩ := get_ex (xs := zs) (j := i) (by omega)
         obtain ⟨p147, c148, hi149, hc150, hr151, hs152⟩ := Rds.at_ (hf138.rds pos_shRowN) hx146
         obtain ⟨rfl, b153⟩ := inv_shRowN hr151
         have hn154 : Own shI64 2 w67.heap.size w67.heap.size w134.heap.size w134 x146.2 x146.1 := hf139.get hx146
         obtain ⟨_, _⟩ : _ ∧ _ := hs152
         have hzx146 : t.2[i]? = some x146.1 := ad_at (by rw [← hF]; exact map_at hx146) (adR_tl _ _ _ _ _ hi)
         have hrbx146 := htrc23 _ (List.mem_of_getElem? hzx146)
         refine wl_val ha145 rfl rfl rfl (op_indexAddr ha145 rfl Try.underlying23 ti41 rfl rfl (by omega) hi149) ?_
         intro a155 ha155; clear ha145 a145
         refine wl_val ha155 rfl rfl rfl (op_loadH ha155 rfl Try.underlying41 rfl rfl hc150 rfl) ?_
         intro a156 ha156; clear ha155 a155
         refine wl_val ha156 rfl rfl rfl (op_assign ha156 rfl rfl) ?_
         intro a157 ha157; clear ha156 a156
         refine wl_val ha157 rfl rfl rfl (op_assign ha157 rfl rfl) ?_
         intro a158 ha158; clear ha157 a157
         refine wpList_nil ?_
         refine then_n ?_
         refine dr_enter (fun wa_ wb_ => StpL wa_ wb_ (fun i => Value.ownBlock x146.2 = some i ∨ Value.ownBlock u87 = some i)) follows_mixed ?_
         intro w159 he160
         have hx161 := hx135.trans' he160
         have hzhx161 := he160.size
         replace hf136 := hf136.ext he160
         replace hf137 := hf137.ext he160
         replace hf138 := hf138.ext he160
         replace hf139 := hf139.ext he160
         replace hf140 := hf140.ext he160
         replace hn154 := hn154.ext he160
         replace hc150 := hc150.ext he160
         have hs162 : Ext w159 w159 := Ext.rfl' _
         refine dr_val (i := 0) ha158 rfl (by kernel_rfl) (by kernel_rfl) (by kernel_rfl) rfl rfl rfl (StpL.of_ext hs162) (fun w' hw' => op_fieldAddr (sz := 0) ha158 rfl Try.underlying28 rfl rfl ti23 rfl) ?_
         intro a163 ha163; clear ha158 a158
         refine dr_val (i := 1) ha163 rfl (by kernel_rfl) (by kernel_rfl) (by kernel_rfl) rfl rfl rfl (StpL.of_ext hs162) (fun w' hw' => op_loadF (off := 1) ha163 rfl Try.underlying23 rfl rfl (hf140.stpL hw' (by rintro (q | q) <;> first | omega | (have hq0 := hn154.lt _ q; omega) | (have hq0 := hf138.lt _ q; omega) | exact hn154.ne_box hf140 rfl q | exact hf138.ne_box hf140 rfl q)).cells rfl) ?_
         intro a164 ha164; clear ha163 a163
         refine dr_val (i := 2) ha164 rfl (by kernel_rfl) (by kernel_rfl) (by kernel_rfl) rfl rfl rfl (StpL.of_ext hs162) (fun w' hw' => op_move ha164 rfl rfl) ?_
         intro a165 ha165; clear ha164 a164
         refine dr_val (i := 3) ha165 rfl (by kernel_rfl) (by kernel_rfl) (by kernel_rfl) rfl rfl rfl (StpL.of_ext hs162) (fun w' hw' => op_move ha165 rfl rfl) ?_
         intro a166 ha166; clear ha165 a165
         refine dr_val (i := 4) ha166 rfl (by kernel_rfl) (by kernel_rfl) (by kernel_rfl) rfl rfl rfl (StpL.of_ext hs162) (fun w' hw' => op_move ha166 rfl rfl) ?_
         intro a167 ha167; clear ha166 a166
         refine dr_val (i := 5) ha167 rfl (by kernel_rfl) (by kernel_rfl) (by kernel_rfl) rfl rfl rfl (StpL.of_ext hs162) (fun w' hw' => op_move ha167 rfl rfl) ?_
         intro a168 ha168; clear ha167 a167
         obtain ⟨x169, hx169⟩ := get_ex (xs := x146.1) (j := ca.toNat) (by omega)
         obtain ⟨p170, c171, hi172, hc173, hr174, hs175⟩ := Rds.at_ (hn154.rds pos_shI64) hx169
         obtain ⟨rfl, b176⟩ := inv_shI64 hr174
         obtain ⟨_, _⟩ : _ ∧ _ := hs175
         have hvbx169 := hrbx146.2 _ (List.mem_of_getElem? hx169)
         have hmbx169 := mul_bd (m := m) (wtn c53) hvbx169
         refine dr_val (i := 6) ha168 rfl (by kernel_rfl) (by kernel_rfl) (by kernel_rfl) rfl rfl rfl (StpL.of_ext hs162) (fun w' hw' => op_indexAddr ha168 rfl Try.underlying41 ti2 rfl rfl (by omega) hi172) ?_
         intro a177 ha177; clear ha168 a168
         refine dr_val (i := 8) ha177 rfl (by kernel_rfl) (by kernel_rfl) (by kernel_rfl) rfl rfl rfl (StpL.of_ext hs162) (fun w' hw' => op_move ha177 rfl rfl) ?_
         intro a178 ha178; clear ha177 a177
         refine dr_val (i := 9) ha178 rfl (by kernel_rfl) (by kernel_rfl) (by kernel_rfl) rfl rfl rfl (StpL.of_ext hs162) (fun w' hw' => op_move ha178 rfl rfl) ?_
         intro a179 ha179; clear ha178 a178
         refine dr_val (i := 10) ha179 rfl (by kernel_rfl) (by kernel_rfl) (by kernel_rfl) rfl rfl rfl (StpL.of_ext hs162) (fun w' hw' => op_move ha179 rfl rfl) ?_
         intro a180 ha180; clear ha179 a179
         obtain ⟨x181, hx181⟩ := get_ex (xs := x146.1) (j := cb.toNat) (by omega)
         obtain ⟨p182, c183, hi184, hc185, hr186, hs187⟩ := Rds.at_ (hn154.rds pos_shI64) hx181
         obtain ⟨rfl, b188⟩ := inv_shI64 hr186
         obtain ⟨_, _⟩ : _ ∧ _ := hs187
         have hvbx181 := hrbx146.2 _ (List.mem_of_getElem? hx181)
         have hmbx181 := mul_bd (m := m) (wtn c53) hvbx181
         refine dr_val (i := 11) ha180 rfl (by kernel_rfl) (by kernel_rfl) (by kernel_rfl) rfl rfl rfl (StpL.of_ext hs162) (fun w' hw' => op_indexAddr ha180 rfl Try.underlying41 ti2 rfl rfl (by omega) hi184) ?_
         intro a189 ha189; clear ha180 a180
         refine dr_two (i := 7) (j := 12) (by kernel_rfl) ?_ ?_
         ·
          refine po_to ha189 rfl rfl rfl rfl (op_loadH ha189 rfl Try.underlying2 rfl rfl (hc173.ext hs162) rfl) ?_
          intro a190 ha190; clear ha189 a189
          refine ⟨(StpL.of_ext hs162), ?_⟩
          refine dr_one (i := 12) (by kernel_rfl) ?_
          refine po_to ha190 rfl rfl rfl rfl (op_loadH ha190 rfl Try.underlying2 rfl rfl (hc185.ext hs162) rfl) ?_
          intro a191 ha191; clear ha190 a190
          refine ⟨(StpL.of_ext hs162), ?_⟩
          refine dr_val (i := 13) ha191 rfl (by kernel_rfl) (by kernel_rfl) (by kernel_rfl) rfl rfl rfl (StpL.of_ext hs162) (fun w' hw' => (op_mul ha191 rfl rfl rfl).int (IntWalk.i64_in _ (by omega))) ?_
          intro a192 ha192; clear ha191 a191
          refine dr_val (i := 14) ha192 rfl (by kernel_rfl) (by kernel_rfl) (by kernel_rfl) rfl rfl rfl (StpL.of_ext hs162) (fun w' hw' => (op_add ha192 rfl rfl rfl).int (IntWalk.i64_in _ (by omega))) ?_
          intro a193 ha193; clear ha192 a192
          refine dr_one (i := 15) (by kernel_rfl) ?_
          refine po_eff ha193 rfl rfl rfl rfl (op_buildSlice (s := shI64) (xs := [(x169 + (m * x181))]) (cs := [.int .i64 (x169 + (m * x181))]) (vs := [(0, .int .i64 (x169 + (m * x181)))]) (S := fun _ => False) (le := w159.heap.size) ha193 rfl pos_shI64 Try.underlying41 ti2 rfl rfl (by decide) (by kernel_rfl) (Els.single (mk_shI64 ((x169 + (m * x181))) (by first | assumption | omega | (simp; omega)))) (fun _ h => h.elim)) ?_
          rintro v194 w195 ⟨ho196, he197, hob198⟩ a199 ha199; clear ha193 a193
          have hs200 := hs162.trans' he197
          have hx201 := hx161.trans' he197
          have hzhx201 := he197.size
          refine ⟨(StpL.of_ext hs200), ?_⟩
          refine dr_one (i := 16) (by kernel_rfl) ?_
          replace hf136 := hf136.ext hs200
          replace hf137 := hf137.ext hs200
          replace hf138 := hf138.ext hs200
          replace hf139 := hf139.ext hs200
          replace hf140 := hf140.ext hs200
          replace hn154 := hn154.ext hs200
          replace hc150 := hc150.ext hs200
          replace hc173 := hc173.ext hs200
          replace hc185 := hc185.ext hs200
          refine po_eff ha199 rfl rfl rfl rfl (op_append (ts := #[]) (s := shI64) ha199 rfl Try.underlying41 ti2 rfl pos_shI64 rfl rfl hn154 (ho196.rds pos_shI64) (by omega) (by omega) (by first | omega | (simp; omega)) (by first | omega | (simp; omega)) (.inl flat_shI64)) ?_
          rintro v202 w203 ⟨ho204, hst205, hob206⟩ a207 ha207; clear ha199 a199
          have hx208 := hx201.stp hst205 (by intro q hq; have hq0 := hn154.lt q hq; omega)
          have hzhx208 := hst205.size
          replace hf136 := hf136.stp hst205 (by intro q hq; have hq0 := hn154.lt q hq; omega)
          first | replace hf137 := hf137.stp hst205 (by intro q hq; have hq0 := hn154.lt q hq; omega) | replace hf137 := hf137.stpF flat_shStr hst205 (hf137.ne hn154 rfl)
          first | replace hf138 := hf138.stp hst205 (by intro q hq; have hq0 := hn154.lt q hq; omega) | replace hf138 := hf138.stpF flat_shRowN hst205 (hf138.ne hn154 rfl)
          first | replace hf140 := hf140.stp hst205 (by intro q hq; have hq0 := hn154.lt q hq; omega) | replace hf140 := hf140.stp hst205 (by intro q hq e; subst e; exact hn154.ne_box hf140 rfl hq)
          replace ho196 := ho196.stp hst205 (by intro q hq; have hq0 := hn154.lt q hq; omega)
          have hsp209 : ∀ q, Value.ownBlock v202 = some q → Value.ownBlock v194 ≠ some q := by intro q hq hb; have hq0 := ho196.lt q hb; rcases hob206 with h | h; (rw [h] at hq; first | (have hq1 := hn154.lt q hq; omega)); (rw [h] at hq; cases hq; omega)
          have hN210 : Nst shI64 2 (fun x : List Int => x) w67.heap.size w203.heap.size w203 ((zs.set i ((((x146.1 ++ [(x169 + (m * x181))]) : List Int), (v202 : Value))))) := hf139.put flat_shI64 hx146 hst205 ho204 (hob206.imp id fun h9 g9 hg9 => by rw [h9] at hg9; cases hg9; omega) (by omega)
          clear hf139
          have hs211 := (StpL.of_ext (B := fun i => Value.ownBlock x146.2 = some i ∨ Value.ownBlock u87 = some i) hs200).trans' (Stp.toL hst205 (by intro q hq; exact Or.inl hq))
          refine ⟨hs211, ?_⟩
          obtain ⟨p212, c213, hi214, hc215, hr216, hs217⟩ := Rds.at_ (hf138.rds pos_shRowN) hx146
          obtain ⟨rfl, b218⟩ := inv_shRowN hr216
          obtain ⟨_, _⟩ : _ ∧ _ := hs217
          refine dr_val (i := 17) ha207 rfl (by kernel_rfl) (by kernel_rfl) (by kernel_rfl) rfl rfl rfl hs211 (fun w' hw' => op_indexAddr ha207 rfl Try.underlying23 ti41 rfl rfl (by omega) hi214) ?_
          intro a219 ha219; clear ha207 a207
          refine dr_one (i := 18) (by kernel_rfl) ?_
          refine po_effS ha219 rfl rfl rfl (op_setElem (s := shRowN) (ds := [v202]) (S' := fun _ => False) ha219 rfl ti41 rfl rfl ho204.cells1 hf138 pos_shRowN hi214 (by omega) (mk_shRowN ((((x146.1 ++ [(x169 + (m * x181))]) : List Int), (v202 : Value))) ho204.one) (fun _ h => h.elim)) ?_
          rintro w220 ⟨ho222, hst221, hz223⟩
          have hx224 := hx208.stp hst221 (by intro q hq; have hq0 := hf138.lt q hq; omega)
          have hzhx224 := hst221.size
          replace hf136 := hf136.stp hst221 (by intro q hq; have hq0 := hf138.lt q hq; omega)
          first | replace hf137 := hf137.stp hst221 (by intro q hq; have hq0 := hf138.lt q hq; omega) | replace hf137 := hf137.stpF flat_shStr hst221 (hf137.ne hf138 rfl)
          replace hf140 := hf140.stp hst221 (by intro q hq; have hq0 := hf138.lt q hq; omega)
          replace ho196 := ho196.stp hst221 (by intro q hq; have hq0 := hf138.lt q hq; omega)
          first | replace ho204 := ho204.stp hst221 (by intro q hq; have hq0 := hf138.lt q hq; omega) | replace ho204 := ho204.stpF flat_shI64 hst221 (ho204.ne hf138 rfl)
          first | replace hN210 := hN210.stpF flat_shI64 hst221 hf138 rfl | replace hN210 := hN210.stp hst221 (by intro q hq; have hq0 := hf138.lt q hq; omega)
          clear hf138
          have hlsho222 : ((zs.set i ((((x146.1 ++ [(x169 + (m * x181))]) : List Int), (v202 : Value))))).length = zs.length := List.length_set
          have hs225 := hs211.trans' (Stp.toL hst221 (by intro q hq; exact Or.inr (hq)))
          refine ⟨hs225, ?_⟩
          refine dr_end (by kernel_rfl) ?_
          refine block_n ?_
          refine then_n ?_
          refine wp_region_lit ?_
          refine wl_val ha219 rfl rfl rfl ((op_add ha219 rfl rfl rfl).int (IntWalk.i64_in _ (by omega))) ?_
          intro a226 ha226; clear ha219 a219
          refine wl_val ha226 rfl rfl rfl (op_move ha226 rfl rfl) ?_
          intro a227 ha227; clear ha226 a226
          refine wpList_nil ?_
          refine round_end (x := (i, zs)) ((i + 1), (zs.set i ((((x146.1 ++ [(x169 + (m * x181))]) : List Int), (v202 : Value))))) ?_ ?_
          ·
           refine ⟨(Sl.cons_ ha227 rfl rfl (Sl.cons_ ha227 rfl rfl (Sl.cons_ ha227 rfl rfl (Sl.cons_ ha227 rfl rfl (Sl.cons_ ha227 rfl rfl (Sl.cons_ ha227 rfl rfl (Sl.cons_ ha227 rfl rfl (Sl.cons_ ha227 rfl (int_eq (by omega)) (Sl.nil_ ha227))))))))), hx224, hf136, hf137, (ho222.fin (by omega) (by omega) (by omega)), (hN210.fin (by omega) (by omega)), hf140, (by omega), (by omega), (by (simp only [List.length_set]; exact hl)), (by rw [List.map_set, hF]; refine (ad_set (r' := x146.1 ++ [x169 + m * x181]) hzx146 (adR_tl ca cb m _ _ hi)).trans ?_; rw [adR_snoc hzx146, adRow_eq hx169 hx181]; simp)⟩
          ·show (t.2.length - ((i + 1)) : Nat) < t.2.length - i; omega
         ·
          refine po_to ha189 rfl rfl rfl rfl (op_loadH ha189 rfl Try.underlying2 rfl rfl (hc185.ext hs162) rfl) ?_
          intro a228 ha228; clear ha189 a189
          refine ⟨(StpL.of_ext hs162), ?_⟩
          refine dr_val (i := 13) ha228 rfl (by kernel_rfl) (by kernel_rfl) (by kernel_rfl) rfl rfl rfl (StpL.of_ext hs162) (fun w' hw' => (op_mul ha228 rfl rfl rfl).int (IntWalk.i64_in _ (by omega))) ?_
          intro a229 ha229; clear ha228 a228
          refine dr_one (i := 7) (by kernel_rfl) ?_
          refine po_to ha229 rfl rfl rfl rfl (op_loadH ha229 rfl Try.underlying2 rfl rfl (hc173.ext hs162) rfl) ?_
          intro a230 ha230; clear ha229 a229
          refine ⟨(StpL.of_ext hs162), ?_⟩
          refine dr_val (i := 14) ha230 rfl (by kernel_rfl) (by kernel_rfl) (by kernel_rfl) rfl rfl rfl (StpL.of_ext hs162) (fun w' hw' => (op_add ha230 rfl rfl rfl).int (IntWalk.i64_in _ (by omega))) ?_
          intro a231 ha231; clear ha230 a230
          refine dr_one (i := 15) (by kernel_rfl) ?_
          refine po_eff ha231 rfl rfl rfl rfl (op_buildSlice (s := shI64) (xs := [(x169 + (m * x181))]) (cs := [.int .i64 (x169 + (m * x181))]) (vs := [(0, .int .i64 (x169 + (m * x181)))]) (S := fun _ => False) (le := w159.heap.size) ha231 rfl pos_shI64 Try.underlying41 ti2 rfl rfl (by decide) (by kernel_rfl) (Els.single (mk_shI64 ((x169 + (m * x181))) (by first | assumption | omega | (simp; omega)))) (fun _ h => h.elim)) ?_
          rintro v232 w233 ⟨ho234, he235, hob236⟩ a237 ha237; clear ha231 a231
          have hs238 := hs162.trans' he235
          have hx239 := hx161.trans' he235
          have hzhx239 := he235.size
          refine ⟨(StpL.of_ext hs238), ?_⟩
          refine dr_one (i := 16) (by kernel_rfl) ?_
          replace hf136 := hf136.ext hs238
          replace hf137 := hf137.ext hs238
          replace hf138 := hf138.ext hs238
          replace hf139 := hf139.ext hs238
          replace hf140 := hf140.ext hs238
          replace hn154 := hn154.ext hs238
          replace hc150 := hc150.ext hs238
          replace hc173 := hc173.ext hs238
          replace hc185 := hc185.ext hs238
          refine po_eff ha237 rfl rfl rfl rfl (op_append (ts := #[]) (s := shI64) ha237 rfl Try.underlying41 ti2 rfl pos_shI64 rfl rfl hn154 (ho234.rds pos_shI64) (by omega) (by omega) (by first | omega | (simp; omega)) (by first | omega | (simp; omega)) (.inl flat_shI64)) ?_
          rintro v240 w241 ⟨ho242, hst243, hob244⟩ a245 ha245; clear ha237 a237
          have hx246 := hx239.stp hst243 (by intro q hq; have hq0 := hn154.lt q hq; omega)
          have hzhx246 := hst243.size
          replace hf136 := hf136.stp hst243 (by intro q hq; have hq0 := hn154.lt q hq; omega)
          first | replace hf137 := hf137.stp hst243 (by intro q hq; have hq0 := hn154.lt q hq; omega) | replace hf137 := hf137.stpF flat_shStr hst243 (hf137.ne hn154 rfl)
          first | replace hf138 := hf138.stp hst243 (by intro q hq; have hq0 := hn154.lt q hq; omega) | replace hf138 := hf138.stpF flat_shRowN hst243 (hf138.ne hn154 rfl)
          first | replace hf140 := hf140.stp hst243 (by intro q hq; have hq0 := hn154.lt q hq; omega) | replace hf140 := hf140.stp hst243 (by intro q hq e; subst e; exact hn154.ne_box hf140 rfl hq)
          replace ho234 := ho234.stp hst243 (by intro q hq; have hq0 := hn154.lt q hq; omega)
          have hsp247 : ∀ q, Value.ownBlock v240 = some q → Value.ownBlock v232 ≠ some q := by intro q hq hb; have hq0 := ho234.lt q hb; rcases hob244 with h | h; (rw [h] at hq; first | (have hq1 := hn154.lt q hq; omega)); (rw [h] at hq; cases hq; omega)
          have hN248 : Nst shI64 2 (fun x : List Int => x) w67.heap.size w241.heap.size w241 ((zs.set i ((((x146.1 ++ [(x169 + (m * x181))]) : List Int), (v240 : Value))))) := hf139.put flat_shI64 hx146 hst243 ho242 (hob244.imp id fun h9 g9 hg9 => by rw [h9] at hg9; cases hg9; omega) (by omega)
          clear hf139
          have hs249 := (StpL.of_ext (B := fun i => Value.ownBlock x146.2 = some i ∨ Value.ownBlock u87 = some i) hs238).trans' (Stp.toL hst243 (by intro q hq; exact Or.inl hq))
          refine ⟨hs249, ?_⟩
          obtain ⟨p250, c251, hi252, hc253, hr254, hs255⟩ := Rds.at_ (hf138.rds pos_shRowN) hx146
          obtain ⟨rfl, b256⟩ := inv_shRowN hr254
          obtain ⟨_, _⟩ : _ ∧ _ := hs255
          refine dr_val (i := 17) ha245 rfl (by kernel_rfl) (by kernel_rfl) (by kernel_rfl) rfl rfl rfl hs249 (fun w' hw' => op_indexAddr ha245 rfl Try.underlying23 ti41 rfl rfl (by omega) hi252) ?_
          intro a257 ha257; clear ha245 a245
          refine dr_one (i := 18) (by kernel_rfl) ?_
          refine po_effS ha257 rfl rfl rfl (op_setElem (s := shRowN) (ds := [v240]) (S' := fun _ => False) ha257 rfl ti41 rfl rfl ho242.cells1 hf138 pos_shRowN hi252 (by omega) (mk_shRowN ((((x146.1 ++ [(x169 + (m * x181))]) : List Int), (v240 : Value))) ho242.one) (fun _ h => h.elim)) ?_
          rintro w258 ⟨ho260, hst259, hz261⟩
          have hx262 := hx246.stp hst259 (by intro q hq; have hq0 := hf138.lt q hq; omega)
          have hzhx262 := hst259.size
          replace hf136 := hf136.stp hst259 (by intro q hq; have hq0 := hf138.lt q hq; omega)
          first | replace hf137 := hf137.stp hst259 (by intro q hq; have hq0 := hf138.lt q hq; omega) | replace hf137 := hf137.stpF flat_shStr hst259 (hf137.ne hf138 rfl)
          replace hf140 := hf140.stp hst259 (by intro q hq; have hq0 := hf138.lt q hq; omega)
          replace ho234 := ho234.stp hst259 (by intro q hq; have hq0 := hf138.lt q hq; omega)
          first | replace ho242 := ho242.stp hst259 (by intro q hq; have hq0 := hf138.lt q hq; omega) | replace ho242 := ho242.stpF flat_shI64 hst259 (ho242.ne hf138 rfl)
          first | replace hN248 := hN248.stpF flat_shI64 hst259 hf138 rfl | replace hN248 := hN248.stp hst259 (by intro q hq; have hq0 := hf138.lt q hq; omega)
          clear hf138
          have hlsho260 : ((zs.set i ((((x146.1 ++ [(x169 + (m * x181))]) : List Int), (v240 : Value))))).length = zs.length := List.length_set
          have hs263 := hs249.trans' (Stp.toL hst259 (by intro q hq; exact Or.inr (hq)))
          refine ⟨hs263, ?_⟩
          refine dr_end (by kernel_rfl) ?_
          refine block_n ?_
          refine then_n ?_
          refine wp_region_lit ?_
          refine wl_val ha257 rfl rfl rfl ((op_add ha257 rfl rfl rfl).int (IntWalk.i64_in _ (by omega))) ?_
          intro a264 ha264; clear ha257 a257
          refine wl_val ha264 rfl rfl rfl (op_move ha264 rfl rfl) ?_
          intro a265 ha265; clear ha264 a264
          refine wpList_nil ?_
          refine round_end (x := (i, zs)) ((i + 1), (zs.set i ((((x146.1 ++ [(x169 + (m * x181))]) : List Int), (v240 : Value))))) ?_ ?_
          ·
           refine ⟨(Sl.cons_ ha265 rfl rfl (Sl.cons_ ha265 rfl rfl (Sl.cons_ ha265 rfl rfl (Sl.cons_ ha265 rfl rfl (Sl.cons_ ha265 rfl rfl (Sl.cons_ ha265 rfl rfl (Sl.cons_ ha265 rfl rfl (Sl.cons_ ha265 rfl (int_eq (by omega)) (Sl.nil_ ha265))))))))), hx262, hf136, hf137, (ho260.fin (by omega) (by omega) (by omega)), (hN248.fin (by omega) (by omega)), hf140, (by omega), (by omega), (by (simp only [List.length_set]; exact hl)), (by rw [List.map_set, hF]; refine (ad_set (r' := x146.1 ++ [x169 + m * x181]) hzx146 (adR_tl ca cb m _ _ hi)).trans ?_; rw [adR_snoc hzx146, adRow_eq hx169 hx181]; simp)⟩
          ·show (t.2.length - ((i + 1)) : Nat) < t.2.length - i; omega
        ·
         rw [decide_eq_false c144] at ha143
         refine cond_f ha143 rfl ?_
         refine wp_exit ?_
         refine then_e ?_
         refine then_e ?_
         refine block_hit ?_
         refine then_n ?_
         refine wp_seq ?_
         refine wp_seq ?_
         refine wp_region_lit ?_
         refine wl_val ha143 rfl rfl rfl (op_loadS ha143 rfl Try.underlying28 ti28 rfl rfl hf140.cells) ?_
         intro a266 ha266; clear ha143 a143
         refine wl_callR ha266 rfl rfl rfl (op_call ha266 rfl cb19 rfl) (c_impl_IsTable _ v116 u87 (((((t).1) ++ [head]), (zs.map (·.1)))) (hf137.rds pos_shStr) (rds_shRowN (hf138.fin (by omega) (by omega) (by omega)) hf139)) ?_
         rintro v267 w268 he269 rfl a270 ha270; clear ha266 a266
         have hx271 := hx135.trans' he269
         have hzhx271 := he269.size
         replace hf136 := hf136.ext he269
         replace hf137 := hf137.ext he269
         replace hf138 := hf138.ext he269
         replace hf139 := hf139.ext he269
         replace hf140 := hf140.ext he269
         refine wl_val ha270 rfl rfl rfl (op_not ha270 rfl rfl) ?_
         intro a272 ha272; clear ha270 a270
         refine wpList_nil ?_
         refine then_n ?_
         rcases Bool.eq_false_or_eq_true (tabB (((((t).1) ++ [head]), (zs.map (·.1))))) with c273 | c273
         ·
          rw [c273] at ha272
          refine cond_f ha272 rfl ?_
          refine wp_skip ?_
          refine then_n ?_
          refine wp_seq ?_
          refine wp_region_lit ?_
          refine wl_val ha272 rfl rfl rfl (op_loadS ha272 rfl Try.underlying28 ti28 rfl rfl hf140.cells) ?_
          intro a274 ha274; clear ha272 a272
          refine wl_effS ha274 rfl rfl (op_storeAll' ha274 rfl ti28 rfl rfl hf136 rfl rfl (by intro u hu; have hu : u ∈ ([v116, u87] : List Value) := hu; simp only [List.mem_cons, List.mem_nil_iff, or_false] at hu; rcases hu with rfl | rfl <;> first | rfl | exact hf137.one | exact hf138.one) rfl) ?_
          rintro w275 ⟨hb277, hst276, hz278⟩
          have hx279 := hx271.stp hst276 (by intro q hq; cases hq; exact (by omega))
          have hzhx279 := hst276.size
          replace hf137 := hf137.stp hst276 (by intro q hq; cases hq; omega)
          replace hf138 := hf138.stp hst276 (by intro q hq; cases hq; omega)
          replace hf139 := hf139.stp hst276 (by intro q hq; cases hq; omega)
          replace hf140 := hf140.stp hst276 (by intro q hq; cases hq; omega)
          clear hf136
          refine wl_val ha274 rfl rfl rfl (op_assign ha274 rfl rfl) ?_
          intro a280 ha280; clear ha274 a274
          refine wpList_nil ?_
          refine then_n ?_
          refine wp_ret ?_
          refine retct ha280 rfl rfl rfl Try.underlying28 ti28 rfl hb277.cells ?_
          clear ha280 a280
          have hF2 : zs.map (·.1) = adR ca cb m t.2 := (by rw [hF, drop_nil (by omega), List.append_nil, List.take_of_length_le (by omega)])
          rw [hF2] at c273
          have hr : cdA t head ca cb m = _ := (cdA_e (cdT_0 c23 c33) (cdT_0 c23 c44) c53 c62 (by omega)).trans (if_pos c273)
          refine ret_mk hx279 ⟨v116, u87, zs, (tup2_eq (by rfl) (int_eq (by first | exact hr.symm | omega))), ?_, hf138.fin (by omega) (by omega) (by omega), hf139.fin (by omega) (by omega), ?_⟩
          ·
           refine (hf137.fin (by omega) (by omega) (by omega)).cast ?_
           rw [acT_ok hr]; rfl
          ·
           rw [acT_ok hr]; exact hF2
         ·
          rw [c273] at ha272
          refine cond_t ha272 rfl ?_
          refine wp_seq ?_
          refine wp_region_lit ?_
          refine wl_val ha272 rfl rfl rfl (op_build (vs := []) (cs := #[.slice none 0 0, .slice none 0 0]) ha272 rfl Try.underlying28 ti28 bp28 rfl rfl) ?_
          intro a281 ha281; clear ha272 a272
          refine wl_effS ha281 rfl rfl (op_storeAll' ha281 rfl ti28 rfl rfl hf136 rfl rfl (by simp [Value.oneCell']) rfl) ?_
          rintro w282 ⟨hb284, hst283, hz285⟩
          have hx286 := hx271.stp hst283 (by intro q hq; cases hq; exact (by omega))
          have hzhx286 := hst283.size
          replace hf137 := hf137.stp hst283 (by intro q hq; cases hq; omega)
          replace hf138 := hf138.stp hst283 (by intro q hq; cases hq; omega)
          replace hf139 := hf139.stp hst283 (by intro q hq; cases hq; omega)
          replace hf140 := hf140.stp hst283 (by intro q hq; cases hq; omega)
          clear hf136
          refine wl_val ha281 rfl rfl rfl (op_assign ha281 rfl rfl) ?_
          intro a287 ha287; clear ha281 a281
          refine wpList_nil ?_
          refine then_n ?_
          refine wp_ret ?_
          refine then_r ?_
          refine retct ha287 rfl rfl rfl Try.underlying28 ti28 rfl hb284.cells ?_
          clear ha287 a287
          have hF2 : zs.map (·.1) = adR ca cb m t.2 := (by rw [hF, drop_nil (by omega), List.append_nil, List.take_of_length_le (by omega)])
          rw [hF2] at c273
          have hr : cdA t head ca cb m = _ := (cdA_e (cdT_0 c23 c33) (cdT_0 c23 c44) c53 c62 (by omega)).trans (if_neg (by show ¬ tabB (t.1 ++ [head], adR ca cb m t.2) = true; rw [c273]; decide))
          refine ret_mk hx286 ⟨(.slice none 0 0), (.slice none 0 0), [], (tup2_eq (by rfl) (int_eq (by first | exact hr.symm | omega))), ?_, Own.nil _ _ _ _ _ _, Nst.nil _ _ _ _ _ _, ?_⟩
          ·
           refine Own.nil_ _ _ _ _ _ _ ?_
           rw [acT_no (by rw [hr]; first | decide | assumption)]
          ·
           rw [acT_no (by rw [hr]; first | decide | assumption)]; rfl
     ·
      rw [c62] at ha61
      refine wl_skip ha61 rfl rfl rfl ?_
      intro a288 ha288; clear ha61 a61
      refine wl_skip ha288 rfl rfl rfl ?_
      intro a289 ha289; clear ha288 a288
      refine wl_skip ha289 rfl rfl rfl ?_
      intro a290 ha290; clear ha289 a289
      refine wl_skip ha290 rfl rfl rfl ?_
      intro a291 ha291; clear ha290 a290
      refine wl_skip ha291 rfl rfl rfl ?_
      intro a292 ha292; clear ha291 a291
      refine wl_val ha292 rfl rfl rfl (op_pick_t ha292 rfl rfl rfl) ?_
      intro a293 ha293; clear ha292 a292
      refine wpList_nil ?_
      refine then_n ?_
      refine cond_t ha293 rfl ?_
      refine wp_seq ?_
      refine wp_region_lit ?_
      refine wl_val ha293 rfl rfl rfl (op_build (vs := []) (cs := #[.slice none 0 0, .slice none 0 0]) ha293 rfl Try.underlying28 ti28 bp28 rfl rfl) ?_
      intro a294 ha294; clear ha293 a293
      refine wl_effS ha294 rfl rfl (op_storeAll' ha294 rfl ti28 rfl rfl hb11 rfl rfl (by simp [Value.oneCell']) rfl) ?_
      rintro w295 ⟨hb297, hst296, hz298⟩
      have hx299 := hx59.stp hst296 (by intro q hq; cases hq; exact (by omega))
      have hzhx299 := hst296.size
      replace hb4 := hb4.stp hst296 (by intro q hq; cases hq; omega)
      clear hb11
      refine wl_val ha294 rfl rfl rfl (op_assign ha294 rfl rfl) ?_
      intro a300 ha300; clear ha294 a294
      refine wpList_nil ?_
      refine then_n ?_
      refine wp_ret ?_
      refine then_r ?_
      refine retct ha300 rfl rfl rfl Try.underlying28 ti28 rfl hb297.cells ?_
      clear ha300 a300
      have hr : cdA t head ca cb m = _ := cdA_5 (cdT_0 c23 c33) (cdT_0 c23 c44) c53 (.inl c62)
      refine ret_mk hx299 ⟨(.slice none 0 0), (.slice none 0 0), [], (tup2_eq (by rfl) (int_eq (by first | exact hr.symm | omega))), ?_, Own.nil _ _ _ _ _ _, Nst.nil _ _ _ _ _ _, ?_⟩
      ·
       refine Own.nil_ _ _ _ _ _ _ ?_
       rw [acT_no (by rw [hr]; first | decide | assumption)]
      ·
       rw [acT_no (by rw [hr]; first | decide | assumption)]; rfl
    ·
     rw [c53] at ha52
     refine cond_t ha52 rfl ?_
     refine wp_seq ?_
     refine wp_region_lit ?_
     refine wl_val ha52 rfl rfl rfl (op_build (vs := []) (cs := #[.slice none 0 0, .slice none 0 0]) ha52 rfl Try.underlying28 ti28 bp28 rfl rfl) ?_
     intro a301 ha301; clear ha52 a52
     refine wl_effS ha301 rfl rfl (op_storeAll' ha301 rfl ti28 rfl rfl hb11 rfl rfl (by simp [Value.oneCell']) rfl) ?_
     rintro w302 ⟨hb304, hst303, hz305⟩
     have hx306 := hx50.stp hst303 (by intro q hq; cases hq; exact (by omega))
     have hzhx306 := hst303.size
     replace hb4 := hb4.stp hst303 (by intro q hq; cases hq; omega)
     clear hb11
     refine wl_val ha301 rfl rfl rfl (op_assign ha301 rfl rfl) ?_
     intro a307 ha307; clear ha301 a301
     refine wpList_nil ?_
     refine then_n ?_
     refine wp_ret ?_
     refine then_r ?_
     refine retct ha307 rfl rfl rfl Try.underlying28 ti28 rfl hb304.cells ?_
     clear ha307 a307
     have hr : cdA t head ca cb m = _ := cdA_2m (cdT_0 c23 c33) (cdT_0 c23 c44) c53
     refine ret_mk hx306 ⟨(.slice none 0 0), (.slice none 0 0), [], (tup2_eq (by rfl) (int_eq (by first | exact hr.symm | omega))), ?_, Own.nil _ _ _ _ _ _, Nst.nil _ _ _ _ _ _, ?_⟩
     ·
      refine Own.nil_ _ _ _ _ _ _ ?_
      rw [acT_no (by rw [hr]; first | decide | assumption)]
     ·
      rw [acT_no (by rw [hr]; first | decide | assumption)]; rfl
   ·
    rw [c44] at ha43
    refine wl_skip ha43 rfl rfl rfl ?_
    intro a308 ha308; clear ha43 a43
    refine wl_skip ha308 rfl rfl rfl ?_
    intro a309 ha309; clear ha308 a308
    refine wl_skip ha309 rfl rfl rfl ?_
    intro a310 ha310; clear ha309 a309
    refine wl_val ha310 rfl rfl rfl (op_pick_t ha310 rfl rfl rfl) ?_
    intro a311 ha311; clear ha310 a310
    refine wpList_nil ?_
    refine then_n ?_
    refine cond_t ha311 rfl ?_
    refine wp_seq ?_
    refine wp_region_lit ?_
    refine wl_val ha311 rfl rfl rfl (op_build (vs := []) (cs := #[.slice none 0 0, .slice none 0 0]) ha311 rfl Try.underlying28 ti28 bp28 rfl rfl) ?_
    intro a312 ha312; clear ha311 a311
    refine wl_effS ha312 rfl rfl (op_storeAll' ha312 rfl ti28 rfl rfl hb11 rfl rfl (by simp [Value.oneCell']) rfl) ?_
    rintro w313 ⟨hb315, hst314, hz316⟩
    have hx317 := hx40.stp hst314 (by intro q hq; cases hq; exact (by omega))
    have hzhx317 := hst314.size
    replace hb4 := hb4.stp hst314 (by intro q hq; cases hq; omega)
    clear hb11
    refine wl_val ha312 rfl rfl rfl (op_assign ha312 rfl rfl) ?_
    intro a318 ha318; clear ha312 a312
    refine wpList_nil ?_
    refine then_n ?_
    refine wp_ret ?_
    refine then_r ?_
    refine retct ha318 rfl rfl rfl Try.underlying28 ti28 rfl hb315.cells ?_
    clear ha318 a318
    have hr : cdA t head ca cb m = _ := cdA_2b c23 c33 c44
    refine ret_mk hx317 ⟨(.slice none 0 0), (.slice none 0 0), [], (tup2_eq (by rfl) (int_eq (by first | exact hr.symm | omega))), ?_, Own.nil _ _ _ _ _ _, Nst.nil _ _ _ _ _ _, ?_⟩
    ·
     refine Own.nil_ _ _ _ _ _ _ ?_
     rw [acT_no (by rw [hr]; first | decide | assumption)]
    ·
     rw [acT_no (by rw [hr]; first | decide | assumption)]; rfl
  ·
   rw [c33] at ha32
   refine wl_skip ha32 rfl rfl rfl ?_
   intro a319 ha319; clear ha32 a32
   refine wl_skip ha319 rfl rfl rfl ?_
   intro a320 ha320; clear ha319 a319
   refine wl_skip ha320 rfl rfl rfl ?_
   intro a321 ha321; clear ha320 a320
   refine wl_skip ha321 rfl rfl rfl ?_
   intro a322 ha322; clear ha321 a321
   refine wl_val ha322 rfl rfl rfl (op_pick_t ha322 rfl rfl rfl) ?_
   intro a323 ha323; clear ha322 a322
   refine wl_val ha323 rfl rfl rfl (op_move ha323 rfl rfl) ?_
   intro a324 ha324; clear ha323 a323
   refine wl_skip ha324 rfl rfl rfl ?_
   intro a325 ha325; clear ha324 a324
   refine wl_skip ha325 rfl rfl rfl ?_
   intro a326 ha326; clear ha325 a325
   refine wl_skip ha326 rfl rfl rfl ?_
   intro a327 ha327; clear ha326 a326
   refine wl_val ha327 rfl rfl rfl (op_pick_t ha327 rfl rfl rfl) ?_
   intro a328 ha328; clear ha327 a327
   refine wpList_nil ?_
   refine then_n ?_
   refine cond_t ha328 rfl ?_
   refine wp_seq ?_
   refine wp_region_lit ?_
   refine wl_val ha328 rfl rfl rfl (op_build (vs := []) (cs := #[.slice none 0 0, .slice none 0 0]) ha328 rfl Try.underlying28 ti28 bp28 rfl rfl) ?_
   intro a329 ha329; clear ha328 a328
   refine wl_effS ha329 rfl rfl (op_storeAll' ha329 rfl ti28 rfl rfl hb11 rfl rfl (by simp [Value.oneCell']) rfl) ?_
   rintro w330 ⟨hb332, hst331, hz333⟩
   have hx334 := hx30.stp hst331 (by intro q hq; cases hq; exact (by omega))
   have hzhx334 := hst331.size
   replace hb4 := hb4.stp hst331 (by intro q hq; cases hq; omega)
   clear hb11
   refine wl_val ha329 rfl rfl rfl (op_assign ha329 rfl rfl) ?_
   intro a335 ha335; clear ha329 a329
   refine wpList_nil ?_
   refine then_n ?_
   refine wp_ret ?_
   refine then_r ?_
   refine retct ha335 rfl rfl rfl Try.underlying28 ti28 rfl hb332.cells ?_
   clear ha335 a335
   have hr : cdA t head ca cb m = _ := cdA_2a c23 c33
   refine ret_mk hx334 ⟨(.slice none 0 0), (.slice none 0 0), [], (tup2_eq (by rfl) (int_eq (by first | exact hr.symm | omega))), ?_, Own.nil _ _ _ _ _ _, Nst.nil _ _ _ _ _ _, ?_⟩
   ·
    refine Own.nil_ _ _ _ _ _ _ ?_
    rw [acT_no (by rw [hr]; first | decide | assumption)]
   ·
    rw [acT_no (by rw [hr]; first | decide | assumption)]; rfl
 ·
  rw [c23] at ha22
  refine cond_t ha22 rfl ?_
  refine wp_seq ?_
  refine wp_region_lit ?_
  refine wl_val ha22 rfl rfl rfl (op_build (vs := []) (cs := #[.slice none 0 0, .slice none 0 0]) ha22 rfl Try.underlying28 ti28 bp28 rfl rfl) ?_
  intro a336 ha336; clear ha22 a22
  refine wl_effS ha336 rfl rfl (op_storeAll' ha336 rfl ti28 rfl rfl hb11 rfl rfl (by simp [Value.oneCell']) rfl) ?_
  rintro w337 ⟨hb339, hst338, hz340⟩
  have hx341 := hx21.stp hst338 (by intro q hq; cases hq; exact (by omega))
  have hzhx341 := hst338.size
  replace hb4 := hb4.stp hst338 (by intro q hq; cases hq; omega)
  clear hb11
  refine wl_val ha336 rfl rfl rfl (op_assign ha336 rfl rfl) ?_
  intro a342 ha342; clear ha336 a336
  refine wpList_nil ?_
  refine then_n ?_
  refine wp_ret ?_
  refine then_r ?_
  refine retct ha342 rfl rfl rfl Try.underlying28 ti28 rfl hb339.cells ?_
  clear ha342 a342
  have hr : cdA t head ca cb m = _ := cdA_1 c23
  refine ret_mk hx341 ⟨(.slice none 0 0), (.slice none 0 0), [], (tup2_eq (by rfl) (int_eq (by first | exact hr.symm | omega))), ?_, Own.nil _ _ _ _ _ _, Nst.nil _ _ _ _ _ _, ?_⟩
  ·
   refine Own.nil_ _ _ _ _ _ _ ?_
   rw [acT_no (by rw [hr]; first | decide | assumption)]
  ·
   rw [acT_no (by rw [hr]; first | decide | assumption)]; rfl


end Go.Proofs.Ytjpldgicibnkcaa
