/- Sorted rows. -/
import Derived.Test.YtjpldgicibnkcaaS0
namespace Go.Proofs.Ytjpldgicibnkcaa
open Go Go.RowKit

theorem c_spec_SortRows (w0 : World) (v_t0 : Value) (v_t1 : Value) (t : List Str × List (List Int)) {S_t0 : Nat → Prop} {S_t1 : Nat → Prop} (column : Int) (h_t0 : Rds shStr S_t0 w0 v_t0 t.1) (h_t1 : Rds shRow S_t1 w0 v_t1 t.2) :
  Calls Try.prog 34 #[.agg #[v_t0, v_t1], .int .i64 column] w0 (Ret w0 (fun v w1 => ∃ r0_0 r0_1 z0_1, v = .tuple #[.agg #[r0_0, r0_1], .int .i64 (cdT t column)] ∧ Own shStr 9 w0.heap.size w0.heap.size w1.heap.size w1 r0_0 ((srT t column).1) ∧ Own shRowN 41 w0.heap.size w0.heap.size w1.heap.size w1 r0_1 z0_1 ∧ Nst shI64 2 (fun x : List Int => x) w0.heap.size w1.heap.size w1 z0_1 ∧ z0_1.map (·.1) = ((srT t column).2))) := by
 refine enter (N := 69) Try.func34 rfl rfl rfl ?_
 intro a0 ha0
 have hx0 := Ext.rfl' w0
 have hl_t0 := h_t0.length_le
 have hl_t1 := h_t1.length_le
 refine wp_seq ?_
 refine wp_region_lit ?_
 refine wl_eff ha0 rfl rfl rfl (op_box' ha0 rfl rfl rfl) ?_
 rintro _ w2 ⟨rfl, he3, hb4, hz5⟩ a6 ha6; clear ha0 a0
 have hx7 := hx0.trans' he3
 have hzhx7 := he3.size
 refine wl_eff ha6 rfl rfl rfl (op_alloc' rfl ti28 rfl) ?_
 rintro _ w9 ⟨rfl, he10, hb11, hz12⟩ a13 ha13; clear ha6 a6
 have hx14 := hx7.trans' he10
 have hzhx14 := he10.size
 replace hb4 := hb4.ext he10
 refine wl_val ha13 rfl rfl rfl (op_assign ha13 rfl rfl) ?_
 intro a15 ha15; clear ha13 a13
 refine wpList_nil ?_
 refine then_n ?_
 refine wp_seq ?_
 refine wp_region_lit ?_
 refine wl_val ha15 rfl rfl rfl (op_loadS ha15 rfl Try.underlying28 ti28 rfl rfl hb4.cells) ?_
 intro a16 ha16; clear ha15 a15
 refine wl_val ha16 rfl rfl rfl (op_move ha16 rfl rfl) ?_
 intro a17 ha17; clear ha16 a16
 refine wl_callR ha17 rfl rfl rfl (op_call ha17 rfl cb69 rfl) (c_spec_l31Code _ v_t0 v_t1 t column (h_t0.ext pos_shStr hx14) (h_t1.ext pos_shRow hx14)) ?_
 rintro v18 w19 he20 rfl a21 ha21; clear ha17 a17
 have hx22 := hx14.trans' he20
 have hzhx22 := he20.size
 replace hb4 := hb4.ext he20
 replace hb11 := hb11.ext he20
 refine wl_val ha21 rfl rfl rfl (op_assign ha21 rfl rfl) ?_
 intro a23 ha23; clear ha21 a21
 refine wpList_nil ?_
 refine then_n ?_
 refine wp_seq ?_
 refine wp_seq ?_
 refine wp_region_lit ?_
 refine wl_val ha23 rfl rfl rfl (op_move ha23 rfl rfl) ?_
 intro a24 ha24; clear ha23 a23
 refine wl_val ha24 rfl rfl rfl ((op_neq ha24 rfl rfl rfl).to (congrArg Value.bool decide_not)) ?_
 intro a25 ha25; clear ha24 a24
 refine wpList_nil ?_
 refine then_n ?_
 by_cases c26 : (cdT t column : Int) = (0 : Int)
 ·
  rw [decide_eq_true c26] at ha25
  obtain ⟨hk1c26, hk2c26⟩ := cdT_ok c26
  have htbc26 := tab_bd hk1c26
  have htrc26 := tab_rows hk1c26
  have hcbc26 := col_bd hk2c26
  refine cond_f ha25 rfl ?_
  refine wp_skip ?_
  refine then_n ?_
  refine wp_seq ?_
  refine wp_region_lit ?_
  refine wl_eff ha25 rfl rfl rfl (op_buildSlice (s := shRowN) (xs := ([] : List ((List Int) × Value))) (cs := []) (vs := []) (S := fun _ => False) (le := w19.heap.size) ha25 rfl pos_shRowN Try.underlying23 ti41 rfl rfl (by decide) (by kernel_rfl) rfl (fun _ h => h.elim)) ?_
  rintro v27 w28 ⟨ho29, he30, hob31⟩ a32 ha32; clear ha25 a25
  have hx33 := hx22.trans' he30
  have hzhx33 := he30.size
  replace hb4 := hb4.ext he30
  replace hb11 := hb11.ext he30
  have hN34 : Nst shI64 2 (fun x : List Int => x) w19.heap.size w28.heap.size w28 (([] : List ((List Int) × Value))) := Nst.nil _ _ _ _ _ _
  refine wl_val ha32 rfl rfl rfl (op_assign ha32 rfl rfl) ?_
  intro a35 ha35; clear ha32 a32
  refine wpList_nil ?_
  refine then_n ?_
  refine wp_seq ?_
  refine wp_seq ?_
  refine wp_region_lit ?_
  refine wl_val ha35 rfl rfl rfl (op_assign ha35 rfl rfl) ?_
  intro a36 ha36; clear ha35 a35
  refine wpList_nil ?_
  refine then_n ?_
  refine wp_block ?_
  refine loop_inv (X := Nat × Value × (List (List Int × Value))) (fun (⟨i, v, zs⟩ : Nat × Value × (List (List Int × Value))) fr wl => Sl 69 fr [(1, .int .i64 column), (2, .pointer (some (⟨w0.heap.size, 0, none⟩ : Addr))), (4, .pointer (some (⟨w2.heap.size, 0, none⟩ : Addr))), (7, v), (8, .int .i64 ((i : Nat) : Int))] ∧ Ext w0 wl ∧ Box wl w0.heap.size 28 [v_t0, v_t1] ∧ Box wl w2.heap.size 28 [.slice none 0 0, .slice none 0 0] ∧ Own shRowN 41 w19.heap.size w19.heap.size wl.heap.size wl v zs ∧ w28.heap.size ≤ wl.heap.size ∧ (i ≤ t.2.length) ∧ (zs.length = i) ∧ (srGo column (t.2.drop i) (zs.map (·.1)) = srGo column t.2 []) ∧ (UpK (rowC column) (zs.map (·.1))) ∧ (∀ z ∈ zs, Rds shI64 S_t1 w0 z.2 z.1) ∧ (∀ z ∈ zs, z.1 ∈ t.2)) (fun (⟨i, v, zs⟩ : Nat × Value × (List (List Int × Value))) => t.2.length - i) (0, v27, ([] : List ((List Int) × Value))) ?_ ?_
  ·
   exact ⟨(Sl.cons_ ha36 rfl rfl (Sl.cons_ ha36 rfl rfl (Sl.cons_ ha36 rfl rfl (Sl.cons_ ha36 rfl rfl (Sl.cons_ ha36 rfl (int_eq (by omega)) (Sl.nil_ ha36)))))), hx33, hb4, hb11, (ho29.fin (by omega) (by omega) (by omega)), (by omega), (by omega), (by rfl), (by rfl), (by exact List.Pairwise.nil), (by intro z hz; cases hz), (by intro z hz; cases hz)⟩
  ·
   clear ha36 a36
   rintro ⟨i, v, zs⟩ a42 w37 ⟨ha42, hx38, hf39, hf40, hf41, hzl43, hi, hl, hF, hU, hR, hM⟩
   have hzhx38 := hx38.size
   refine wp_seq ?_
   refine wp_seq ?_
   refine wp_region_lit ?_
   refine wl_val ha42 rfl rfl rfl (op_move ha42 rfl rfl) ?_
   intro a44 ha44; clear ha42 a42
   refine wl_val ha44 rfl rfl rfl (op_fieldAddr (sz := 0) ha44 rfl Try.underlying28 rfl rfl ti23 rfl) ?_
   intro a45 ha45; clear ha44 a44
   refine wl_val ha45 rfl rfl rfl (op_loadF (off := 1) ha45 rfl Try.underlying23 rfl rfl hf39.cells rfl) ?_
   intro a46 ha46; clear ha45 a45
   refine wl_val ha46 rfl rfl rfl (op_len_sl ha46 rfl Try.underlying23 rfl h_t1) ?_
   intro a47 ha47; clear ha46 a46
   refine wl_val ha47 rfl rfl rfl (op_lss ha47 rfl rfl rfl) ?_
   intro a48 ha48; clear ha47 a47
   refine wpList_nil ?_
   refine then_n ?_
   by_cases c49 : ((i : Nat) : Int) < ((t.2.length : Nat) : Int)
   ·
    rw [decide_eq_true c49] at ha48
    refine cond_t ha48 rfl ?_
    refine wp_skip ?_
    refine then_n ?_
    refine wp_seq ?_
    refine wp_block ?_
    refine wp_seq ?_
    refine wp_region_lit ?_
    refine wl_val ha48 rfl rfl rfl (op_assign ha48 rfl rfl) ?_
    intro a50 ha50; clear ha48 a48
    refine wpList_nil ?_
    refine then_n ?_
    refine wp_seq ?_
    refine wp_block ?_
    obtain ⟨x51, hx51⟩ := get_ex (xs := t.2) (j := i) (by omega)
    obtain ⟨p52, c53, hi54, hc55, hr56, hs57⟩ := Rds.at_ h_t1 hx51
    obtain ⟨v58, rfl, b59⟩ := inv_shRow hr56
    have hlb59 := b59.length_le
    have hrbx51 := htrc26 _ (List.mem_of_getElem? hx51)
    refine loop_inv (X := Nat) (fun (k : Nat) fr wl => Sl 69 fr [(1, .int .i64 column), (2, .pointer (some (⟨w0.heap.size, 0, none⟩ : Addr))), (4, .pointer (some (⟨w2.heap.size, 0, none⟩ : Addr))), (7, v), (8, .int .i64 ((i : Nat) : Int)), (9, .int .i64 ((k : Nat) : Int))] ∧ Ext w0 wl ∧ Box wl w0.heap.size 28 [v_t0, v_t1] ∧ Box wl w2.heap.size 28 [.slice none 0 0, .slice none 0 0] ∧ Own shRowN 41 w19.heap.size w19.heap.size w37.heap.size wl v zs ∧ w37.heap.size ≤ wl.heap.size ∧ (k ≤ zs.length) ∧ (∀ (j : Nat) (y : List Int), j < k → (zs.map (·.1))[j]? = some y → rowC column y ≤ rowC column x51)) (fun (k : Nat) => zs.length - k) (0) ?_ ?_
    ·
     exact ⟨(Sl.cons_ ha50 rfl rfl (Sl.cons_ ha50 rfl rfl (Sl.cons_ ha50 rfl rfl (Sl.cons_ ha50 rfl rfl (Sl.cons_ ha50 rfl rfl (Sl.cons_ ha50 rfl (int_eq (by omega)) (Sl.nil_ ha50))))))), hx38, hf39, hf40, hf41, (by omega), (by omega), (by exact all_zero)⟩
    ·
     clear ha50 a50
     rintro k a65 w60 ⟨ha65, hx61, hf62, hf63, hf64, hzl66, hk, hk2⟩
     have hzhx61 := hx61.size
     refine wp_seq ?_
     refine wp_seq ?_
     refine dr_enter Ext follows_mixed ?_
     intro w67 he68
     have hx69 := hx61.trans' he68
     have hzhx69 := he68.size
     replace hf62 := hf62.ext he68
     replace hf63 := hf63.ext he68
     replace hf64 := hf64.ext he68
     have hs70 : Ext w67 w67 := Ext.rfl' _
     refine dr_val (i := 0) ha65 rfl (by kernel_rfl) (by kernel_rfl) (by kernel_rfl) rfl rfl rfl hs70 (fun w' hw' => op_move ha65 rfl rfl) ?_
     intro a71 ha71; clear ha65 a65
     refine dr_val (i := 1) ha71 rfl (by kernel_rfl) (by kernel_rfl) (by kernel_rfl) rfl rfl rfl hs70 (fun w' hw' => op_move ha71 rfl rfl) ?_
     intro a72 ha72; clear ha71 a71
     refine dr_val (i := 2) ha72 rfl (by kernel_rfl) (by kernel_rfl) (by kernel_rfl) rfl rfl rfl hs70 (fun w' hw' => op_len_sl ha72 rfl Try.underlying23 rfl (hf64.rds pos_shRowN)) ?_
     intro a73 ha73; clear ha72 a72
     refine dr_val (i := 3) ha73 rfl (by kernel_rfl) (by kernel_rfl) (by kernel_rfl) rfl rfl rfl hs70 (fun w' hw' => op_lss ha73 rfl rfl rfl) ?_
     intro a74 ha74; clear ha73 a73
     refine dr_val (i := 4) ha74 rfl (by kernel_rfl) (by kernel_rfl) (by kernel_rfl) rfl rfl rfl hs70 (fun w' hw' => op_move ha74 rfl rfl) ?_
     intro a75 ha75; clear ha74 a74
     by_cases c76 : ((k : Nat) : Int) < ((zs.length : Nat) : Int)
     ·
      rw [decide_eq_true c76] at ha75
      refine dr_val (i := 5) ha75 rfl (by kernel_rfl) (by kernel_rfl) (by kernel_rfl) rfl rfl rfl hs70 (fun w' hw' => op_move ha75 rfl rfl) ?_
      intro a77 ha77; clear ha75 a75
      refine dr_val (i := 6) ha77 rfl (by kernel_rfl) (by kernel_rfl) (by kernel_rfl) rfl rfl rfl hs70 (fun w' hw' => op_move ha77 rfl rfl) ?_
      intro a78 ha78; clear ha77 a77
      obtain ⟨x79, hx79⟩ := get_ex (xs := zs) (j := k) (by omega)
      obtain ⟨p80, c81, hi82, hc83, hr84, hs85⟩ := Rds.at_ (hf64.rds pos_shRowN) hx79
      obtain ⟨rfl, b86⟩ := inv_shRowN hr84
      have hn87 := hR _ (List.mem_of_getElem? hx79)
      obtain ⟨_, _⟩ : _ ∧ _ := hs85
      have hrbx79 := htrc26 _ (hM _ (List.mem_of_getElem? hx79))
      refine dr_val (i := 7) ha78 rfl (by kernel_rfl) (by kernel_rfl) (by kernel_rfl) rfl rfl rfl hs70 (fun w' hw' => op_indexAddr ha78 rfl Try.underlying23 ti41 rfl rfl (by omega) hi82) ?_
      intro a88 ha88; clear ha78 a78
      refine dr_val (i := 8) ha88 rfl (by kernel_rfl) (by kernel_rfl) (by kernel_rfl) rfl rfl rfl hs70 (fun w' hw' => op_loadH ha88 rfl Try.underlying41 rfl rfl (hc83.ext hw') rfl) ?_
      intro a89 ha89; clear ha88 a88
      refine dr_val (i := 9) ha89 rfl (by kernel_rfl) (by kernel_rfl) (by kernel_rfl) rfl rfl rfl hs70 (fun w' hw' => op_move ha89 rfl rfl) ?_
      intro a90 ha90; clear ha89 a89
      obtain ⟨x91, hx91⟩ := get_ex (xs := x79.1) (j := column.toNat) (by omega)
      obtain ⟨p92, c93, hi94, hc95, hr96, hs97⟩ := Rds.at_ hn87 hx91
      obtain ⟨rfl, b98⟩ := inv_shI64 hr96
      refine dr_val (i := 10) ha90 rfl (by kernel_rfl) (by kernel_rfl) (by kernel_rfl) rfl rfl rfl hs70 (fun w' hw' => op_indexAddr ha90 rfl Try.underlying41 ti2 rfl rfl (by omega) hi94) ?_
      intro a99 ha99; clear ha90 a90
      refine dr_val (i := 11) ha99 rfl (by kernel_rfl) (by kernel_rfl) (by kernel_rfl) rfl rfl rfl hs70 (fun w' hw' => op_loadH ha99 rfl Try.underlying2 rfl rfl (hc95.ext (hx69.trans' hw')) rfl) ?_
      intro a100 ha100; clear ha99 a99
      refine dr_val (i := 12) ha100 rfl (by kernel_rfl) (by kernel_rfl) (by kernel_rfl) rfl rfl rfl hs70 (fun w' hw' => op_fieldAddr (sz := 0) ha100 rfl Try.underlying28 rfl rfl ti23 rfl) ?_
      intro a101 ha101; clear ha100 a100
      refine dr_val (i := 13) ha101 rfl (by kernel_rfl) (by kernel_rfl) (by kernel_rfl) rfl rfl rfl hs70 (fun w' hw' => op_loadF (off := 1) ha101 rfl Try.underlying23 rfl rfl (hf62.ext hw').cells rfl) ?_
      intro a102 ha102; clear ha101 a101
      refine dr_val (i := 14) ha102 rfl (by kernel_rfl) (by kernel_rfl) (by kernel_rfl) rfl rfl rfl hs70 (fun w' hw' => op_move ha102 rfl rfl) ?_
      intro a103 ha103; clear ha102 a102
      refine dr_val (i := 15) ha103 rfl (by kernel_rfl) (by kernel_rfl) (by kernel_rfl) rfl rfl rfl hs70 (fun w' hw' => op_indexAddr ha103 rfl Try.underlying23 ti41 rfl rfl (by omega) hi54) ?_
      intro a104 ha104; clear ha103 a103
      refine dr_val (i := 16) ha104 rfl (by kernel_rfl) (by kernel_rfl) (by kernel_rfl) rfl rfl rfl hs70 (fun w' hw' => op_loadH ha104 rfl Try.underlying41 rfl rfl (hc55.ext (hx69.trans' hw')) rfl) ?_
      intro a105 ha105; clear ha104 a104
      refine dr_val (i := 17) ha105 rfl (by kernel_rfl) (by kernel_rfl) (by kernel_rfl) rfl rfl rfl hs70 (fun w' hw' => op_move ha105 rfl rfl) ?_
      intro a106 ha106; clear ha105 a105
      obtain ⟨x107, hx107⟩ := get_ex (xs := x51) (j := column.toNat) (by omega)
      obtain ⟨p108, c109, hi110, hc111, hr112, hs113⟩ := Rds.at_ b59 hx107
      obtain ⟨rfl, b114⟩ := inv_shI64 hr112
      have hvbx107 := hrbx51.2 _ (List.mem_of_getElem? hx107)
      refine dr_val (i := 18) ha106 rfl (by kernel_rfl) (by kernel_rfl) (by kernel_rfl) rfl rfl rfl hs70 (fun w' hw' => op_indexAddr ha106 rfl Try.underlying41 ti2 rfl rfl (by omega) hi110) ?_
      intro a115 ha115; clear ha106 a106
      refine dr_val (i := 19) ha115 rfl (by kernel_rfl) (by kernel_rfl) (by kernel_rfl) rfl rfl rfl hs70 (fun w' hw' => op_loadH ha115 rfl Try.underlying2 rfl rfl (hc111.ext (hx69.trans' hw')) rfl) ?_
      intro a116 ha116; clear ha115 a115
      refine dr_val (i := 20) ha116 rfl (by kernel_rfl) (by kernel_rfl) (by kernel_rfl) rfl rfl rfl hs70 (fun w' hw' => op_leq ha116 rfl rfl rfl) ?_
      intro a117 ha117; clear ha116 a116
      refine dr_val (i := 21) ha117 rfl (by kernel_rfl) (by kernel_rfl) (by kernel_rfl) rfl rfl rfl hs70 (fun w' hw' => op_pick_t ha117 rfl rfl rfl) ?_
      intro a118 ha118; clear ha117 a117
      refine dr_end (by kernel_rfl) ?_
      replace hf62 := hf62.ext hs70
      replace hf63 := hf63.ext hs70
      replace hf64 := hf64.ext hs70
      replace hc83 := hc83.ext hs70
      refine then_n ?_
      by_cases c119 : x91 ≤ x107
      ·
       rw [decide_eq_true c119] at ha118
       refine cond_t ha118 rfl ?_
       refine wp_skip ?_
       refine then_n ?_
       refine wp_block ?_
       refine wp_region_lit ?_
       refine wl_val ha118 rfl rfl rfl (op_move ha118 rfl rfl) ?_
       intro a120 ha120; clear ha118 a118
       refine wl_val ha120 rfl rfl rfl ((op_add ha120 rfl rfl rfl).int (IntWalk.i64_in _ (by omega))) ?_
       intro a121 ha121; clear ha120 a120
       refine wl_val ha121 rfl rfl rfl (op_assign ha121 rfl rfl) ?_
       intro a122 ha122; clear ha121 a121
       refine wpList_nil ?_
       refine block_n ?_
       refine round_end (x := k) ((k + 1)) ?_ ?_
       ·
        refine ⟨(Sl.cons_ ha122 rfl rfl (Sl.cons_ ha122 rfl rfl (Sl.cons_ ha122 rfl rfl (Sl.cons_ ha122 rfl rfl (Sl.cons_ ha122 rfl rfl (Sl.cons_ ha122 rfl (int_eq (by omega)) (Sl.nil_ ha122))))))), hx69, hf62, hf63, hf64, (by omega), (by omega), (by exact all_snoc (p := fun y => rowC column y ≤ rowC column x51) hk2 (map_at hx79) (by show rowC column x79.1 ≤ _; rw [rowC_eq hx91, rowC_eq hx107]; omega))⟩
       ·show (zs.length - ((k + 1)) : Nat) < zs.length - k; omega
      ·
       rw [decide_eq_false c119] at ha118
       refine cond_f ha118 rfl ?_
       refine wp_exit ?_
       refine then_e ?_
       refine then_e ?_
       refine block_hit ?_
       refine then_n ?_
       refine dr_enter Ext follows_mixed ?_
       intro w123 he124
       have hx125 := hx69.trans' he124
       have hzhx125 := he124.size
       replace hf62 := hf62.ext he124
       replace hf63 := hf63.ext he124
       replace hf64 := hf64.ext he124
       replace hc83 := hc83.ext he124
       have hs126 : Ext w123 w123 := Ext.rfl' _
       refine dr_val (i := 1) ha118 rfl (by kernel_rfl) (by kernel_rfl) (by kernel_rfl) rfl rfl rfl hs126 (fun w' hw' => op_move ha118 rfl rfl) ?_
       intro a127 ha127; clear ha118 a118
       refine dr_val (i := 2) ha127 rfl (by kernel_rfl) (by kernel_rfl) (by kernel_rfl) rfl rfl rfl hs126 (fun w' hw' => op_move ha127 rfl rfl) ?_
       intro a128 ha128; clear ha127 a127
       obtain ⟨u129, hu130, hr131⟩ := Rds.part (hf64.rds pos_shRowN) Try.underlying23 ti41 none (some (.int .i64 (k : Nat))) 0 k (.inl ⟨rfl, rfl⟩) (.inr ⟨.i64, rfl⟩) (by omega) (by omega)
       replace hr131 := hr131.cast (ys := zs.take k) (by first | rw [List.take_length] | simp)
       refine dr_val (i := 3) ha128 rfl (by kernel_rfl) (by kernel_rfl) (by kernel_rfl) rfl rfl rfl hs126 (fun w' hw' => op_slice_t (by omega) ha128 rfl rfl rfl hu130) ?_
       intro a132 ha132; clear ha128 a128
       refine dr_val (i := 5) ha132 rfl (by kernel_rfl) (by kernel_rfl) (by kernel_rfl) rfl rfl rfl hs126 (fun w' hw' => op_fieldAddr (sz := 0) ha132 rfl Try.underlying28 rfl rfl ti23 rfl) ?_
       intro a133 ha133; clear ha132 a132
       refine dr_val (i := 6) ha133 rfl (by kernel_rfl) (by kernel_rfl) (by kernel_rfl) rfl rfl rfl hs126 (fun w' hw' => op_loadF (off := 1) ha133 rfl Try.underlying23 rfl rfl (hf62.ext hw').cells rfl) ?_
       intro a134 ha134; clear ha133 a133
       refine dr_val (i := 7) ha134 rfl (by kernel_rfl) (by kernel_rfl) (by kernel_rfl) rfl rfl rfl hs126 (fun w' hw' => op_move ha134 rfl rfl) ?_
       intro a135 ha135; clear ha134 a134
       refine dr_val (i := 8) ha135 rfl (by kernel_rfl) (by kernel_rfl) (by kernel_rfl) rfl rfl rfl hs126 (fun w' hw' => op_indexAddr ha135 rfl Try.underlying23 ti41 rfl rfl (by omega) hi54) ?_
       intro a136 ha136; clear ha135 a135
       refine dr_val (i := 9) ha136 rfl (by kernel_rfl) (by kernel_rfl) (by kernel_rfl) rfl rfl rfl hs126 (fun w' hw' => op_loadH ha136 rfl Try.underlying41 rfl rfl (hc55.ext (hx125.trans' hw')) rfl) ?_
       intro a137 ha137; clear ha136 a136
       refine dr_val (i := 12) ha137 rfl (by kernel_rfl) (by kernel_rfl) (by kernel_rfl) rfl rfl rfl hs126 (fun w' hw' => op_move ha137 rfl rfl) ?_
       intro a138 ha138; clear ha137 a137
       refine dr_val (i := 13) ha138 rfl (by kernel_rfl) (by kernel_rfl) (by kernel_rfl) rfl rfl rfl hs126 (fun w' hw' => op_move ha138 rfl rfl) ?_
       intro a139 ha139; clear ha138 a138
       obtain ⟨u140, hu141, hr142⟩ := Rds.part (hf64.rds pos_shRowN) Try.underlying23 ti41 (some (.int .i64 (k : Nat))) none k zs.length (.inr ⟨.i64, rfl⟩) (.inl ⟨rfl, rfl⟩) (by omega) (by omega)
       replace hr142 := hr142.cast (ys := zs.drop k) (by first | rw [List.take_length] | simp)
       refine dr_val (i := 14) ha139 rfl (by kernel_rfl) (by kernel_rfl) (by kernel_rfl) rfl rfl rfl hs126 (fun w' hw' => op_slice_f (by omega) ha139 rfl rfl rfl hu141) ?_
       intro a143 ha143; clear ha139 a139
       refine dr_two (i := 0) (j := 10) (by kernel_rfl) ?_ ?_
       ·
        refine po_eff ha143 rfl rfl rfl rfl (op_buildSlice (s := shRowN) (xs := ([] : List ((List Int) × Value))) (cs := []) (vs := []) (S := fun _ => False) (le := w123.heap.size) ha143 rfl pos_shRowN Try.underlying23 ti41 rfl rfl (by decide) (by kernel_rfl) rfl (fun _ h => h.elim)) ?_
        rintro v144 w145 ⟨ho146, he147, hob148⟩ a149 ha149; clear ha143 a143
        have hs150 := hs126.trans' he147
        have hx151 := hx125.trans' he147
        have hzhx151 := he147.size
        refine ⟨hs150, ?_⟩
        have hN152 : Nst shI64 2 (fun x : List Int => x) w123.heap.size w145.heap.size w145 (([] : List ((List Int) × Value))) := Nst.nil _ _ _ _ _ _
        refine dr_two (i := 4) (j := 10) (by kernel_rfl) ?_ ?_
        ·
         refine po_eff ha149 rfl rfl rfl rfl (op_append (ts := #[]) (s := shRowN) ha149 rfl Try.underlying23 ti41 rfl pos_shRowN rfl rfl ho146 (hr131.ext pos_shRowN hs150) (by omega) (by omega) (by first | omega | (simp; omega)) (by first | omega | (simp; omega)) (.inl flat_shRowN)) ?_
         rintro v153 w154 ⟨ho155, hst156, hob157⟩ a158 ha158; clear ha149 a149
         replace ho155 := ho155.cast (List.nil_append _)
         have hs159 := hs150.stp hst156 (by intro q hq; have hq0 := ho146.lt q hq; omega)
         have hx160 := hx151.stp hst156 (by intro q hq; have hq0 := ho146.lt q hq; omega)
         have hzhx160 := hst156.size
         first | replace hN152 := hN152.stpF flat_shI64 hst156 ho146 rfl | replace hN152 := hN152.stp hst156 (by intro q hq; have hq0 := ho146.lt q hq; omega)
         have hsp161 : ∀ q, Value.ownBlock v153 = some q → Value.ownBlock v ≠ some q := by intro q hq hb; have hq0 := hf64.lt q hb; rcases hob157 with h | h; (rw [h] at hq; first | (have hq1 := ho146.lt q hq; omega)); (rw [h] at hq; cases hq; omega)
         refine ⟨hs159, ?_⟩
         refine dr_one (i := 10) (by kernel_rfl) ?_
         refine po_eff ha158 rfl rfl rfl rfl (op_buildSlice (s := shRowN) (xs := [((x51 : List Int), (v58 : Value))]) (cs := [v58]) (vs := [(0, v58)]) (S := fun _ => False) (le := w154.heap.size) ha158 rfl pos_shRowN Try.underlying23 ti41 rfl rfl (by decide) ((fill_one (off := 0) b59.cells1 (by kernel_rfl) (by kernel_rfl)).trans (by kernel_rfl)) (Els.single (mk_shRowN (((x51 : List Int), (v58 : Value))) b59.one)) (fun _ h => h.elim)) ?_
         rintro v162 w163 ⟨ho164, he165, hob166⟩ a167 ha167; clear ha158 a158
         have hs168 := hs159.trans' he165
         have hx169 := hx160.trans' he165
         have hzhx169 := he165.size
         replace hN152 := hN152.ext he165
         replace ho155 := ho155.ext he165
         refine ⟨hs168, ?_⟩
         refine dr_one (i := 11) (by kernel_rfl) ?_
         refine po_eff ha167 rfl rfl rfl rfl (op_append (ts := #[]) (s := shRowN) ha167 rfl Try.underlying23 ti41 rfl pos_shRowN rfl rfl ho155 (ho164.rds pos_shRowN) (by omega) (by omega) (by first | omega | (simp; omega)) (by first | omega | (simp; omega)) (.inl flat_shRowN)) ?_
         rintro v170 w171 ⟨ho172, hst173, hob174⟩ a175 ha175; clear ha167 a167
         have hs176 := hs168.stp hst173 (by intro q hq; have hq0 := ho155.lt q hq; omega)
         have hx177 := hx169.stp hst173 (by intro q hq; have hq0 := ho155.lt q hq; omega)
         have hzhx177 := hst173.size
         first | replace hN152 := hN152.stpF flat_shI64 hst173 ho155 rfl | replace hN152 := hN152.stp hst173 (by intro q hq; have hq0 := ho155.lt q hq; omega)
         replace ho164 := ho164.stp hst173 (by intro q hq; have hq0 := ho155.lt q hq; omega)
         have hsp178 : ∀ q, Value.ownBlock v170 = some q → Value.ownBlock v ≠ some q := by intro q hq hb; have hq0 := hf64.lt q hb; rcases hob174 with h | h; (rw [h] at hq; first | (have hq1 := ho155.lt q hq; omega) | exact hsp161 q hq hb); (rw [h] at hq; cases hq; omega)
         have hsp179 : ∀ q, Value.ownBlock v170 = some q → Value.ownBlock v162 ≠ some q := by intro q hq hb; have hq0 := ho164.lt q hb; rcases hob174 with h | h; (rw [h] at hq; first | (have hq1 := ho155.lt q hq; omega)); (rw [h] at hq; cases hq; omega)
         refine ⟨hs176, ?_⟩
         refine dr_one (i := 15) (by kernel_rfl) ?_
         refine po_eff ha175 rfl rfl rfl rfl (op_append (ts := #[]) (s := shRowN) ha175 rfl Try.underlying23 ti41 rfl pos_shRowN rfl rfl ho172 (hr142.ext pos_shRowN hs176) (by omega) (by omega) (by first | omega | (simp; omega)) (by first | omega | (simp; omega)) (.inl flat_shRowN)) ?_
         rintro v180 w181 ⟨ho182, hst183, hob184⟩ a185 ha185; clear ha175 a175
         have hs186 := hs176.stp hst183 (by intro q hq; have hq0 := ho172.lt q hq; omega)
         have hx187 := hx177.stp hst183 (by intro q hq; have hq0 := ho172.lt q hq; omega)
         have hzhx187 := hst183.size
         first | replace hN152 := hN152.stpF flat_shI64 hst183 ho172 rfl | replace hN152 := hN152.stp hst183 (by intro q hq; have hq0 := ho172.lt q hq; omega)
         first | replace ho164 := ho164.stp hst183 (by intro q hq; have hq0 := ho172.lt q hq; omega) | replace ho164 := ho164.stpF flat_shRowN hst183 (fun q hq => hsp179 q hq)
         have hsp188 : ∀ q, Value.ownBlock v180 = some q → Value.ownBlock v ≠ some q := by intro q hq hb; have hq0 := hf64.lt q hb; rcases hob184 with h | h; (rw [h] at hq; first | (have hq1 := ho172.lt q hq; omega) | exact hsp178 q hq hb); (rw [h] at hq; cases hq; omega)
         have hsp189 : ∀ q, Value.ownBlock v180 = some q → Value.ownBlock v162 ≠ some q := by intro q hq hb; have hq0 := ho164.lt q hb; rcases hob184 with h | h; (rw [h] at hq; first | (have hq1 := ho172.lt q hq; omega) | exact hsp179 q hq hb); (rw [h] at hq; cases hq; omega)
         refine ⟨hs186, ?_⟩
         refine dr_val (i := 16) ha185 rfl (by kernel_rfl) (by kernel_rfl) (by kernel_rfl) rfl rfl rfl hs186 (fun w' hw' => op_assign ha185 rfl rfl) ?_
         intro a190 ha190; clear ha185 a185
         refine dr_end (by kernel_rfl) ?_
         replace hf62 := hf62.ext hs186
         replace hf63 := hf63.ext hs186
         replace hf64 := hf64.ext hs186
         replace hc83 := hc83.ext hs186
         replace hr131 := hr131.ext pos_shRowN hs186
         replace hr142 := hr142.ext pos_shRowN hs186
         refine block_n ?_
         refine then_n ?_
         refine wp_region_lit ?_
         refine wl_val ha190 rfl rfl rfl (op_move ha190 rfl rfl) ?_
         intro a191 ha191; clear ha190 a190
         refine wl_val ha191 rfl rfl rfl ((op_add ha191 rfl rfl rfl).int (IntWalk.i64_in _ (by omega))) ?_
         intro a192 ha192; clear ha191 a191
         refine wl_val ha192 rfl rfl rfl (op_assign ha192 rfl rfl) ?_
         intro a193 ha193; clear ha192 a192
         refine wpList_nil ?_
         refine round_end (x := (i, v, zs)) ((i + 1), v180, ((zs.take k ++ [((x51 : List Int), (v58 : Value))]) ++ zs.drop k)) ?_ ?_
         ·
          refine ⟨(Sl.cons_ ha193 rfl rfl (Sl.cons_ ha193 rfl rfl (Sl.cons_ ha193 rfl rfl (Sl.cons_ ha193 rfl rfl (Sl.cons_ ha193 rfl (int_eq (by omega)) (Sl.nil_ ha193)))))), hx187, hf62, hf63, (ho182.fin (by omega) (by omega) (by omega)), (by omega), (by omega), (by (simp; omega)), (by have hic := insK_front (x := x51) hU hk2 (.inr ⟨_, map_at hx79, (by show ¬ rowC column x79.1 ≤ _; rw [rowC_eq hx91, rowC_eq hx107]; omega)⟩); rw [drop_cons hx51, srGo, hic] at hF; rw [← hF]; simp), (by have hic := insK_front (x := x51) hU hk2 (.inr ⟨_, map_at hx79, (by show ¬ rowC column x79.1 ≤ _; rw [rowC_eq hx91, rowC_eq hx107]; omega)⟩); have h9 := insK_up (x := x51) hU; rw [hic] at h9; simpa using h9), (by intro z hz; simp only [List.mem_append, List.mem_singleton, List.nil_append] at hz; rcases hz with (hz | hz) | hz; exact hR z (List.mem_of_mem_take hz); (subst hz; assumption); exact hR z (List.mem_of_mem_drop hz)), (by intro z hz; simp only [List.mem_append, List.mem_singleton, List.nil_append] at hz; rcases hz with (hz | hz) | hz; exact hM z (List.mem_of_mem_take hz); (subst hz; exact List.mem_of_getElem? hx51); exact hM z (List.mem_of_mem_drop hz))⟩
         ·show (t.2.length - ((i + 1)) : Nat) < t.2.length - i; omega
        ·
         refine po_eff ha149 rfl rfl rfl rfl (op_buildSlice (s := shRowN) (xs := [((x51 : List Int), (v58 : Value))]) (cs := [v58]) (vs := [(0, v58)]) (S := fun _ => False) (le := w145.heap.size) ha149 rfl pos_shRowN Try.underlying23 ti41 rfl rfl (by decide) ((fill_one (off := 0) b59.cells1 (by kernel_rfl) (by kernel_rfl)).trans (by kernel_rfl)) (Els.single (mk_shRowN (((x51 : List Int), (v58 : Value))) b59.one)) (fun _ h => h.elim)) ?_
         rintro v194 w195 ⟨ho196, he197, hob198⟩ a199 ha199; clear ha149 a149
         have hs200 := hs150.trans' he197
         have hx201 := hx151.trans' he197
         have hzhx201 := he197.size
         replace ho146 := ho146.ext he197
         replace hN152 := hN152.ext he197
         refine ⟨hs200, ?_⟩
         refine dr_one (i := 4) (by kernel_rfl) ?_
         refine po_eff ha199 rfl rfl rfl rfl (op_append (ts := #[]) (s := shRowN) ha199 rfl Try.underlying23 ti41 rfl pos_shRowN rfl rfl ho146 (hr131.ext pos_shRowN hs200) (by omega) (by omega) (by first | omega | (simp; omega)) (by first | omega | (simp; omega)) (.inl flat_shRowN)) ?_
         rintro v202 w203 ⟨ho204, hst205, hob206⟩ a207 ha207; clear ha199 a199
         replace ho204 := ho204.cast (List.nil_append _)
         have hs208 := hs200.stp hst205 (by intro q hq; have hq0 := ho146.lt q hq; omega)
         have hx209 := hx201.stp hst205 (by intro q hq; have hq0 := ho146.lt q hq; omega)
         have hzhx209 := hst205.size
         first | replace hN152 := hN152.stpF flat_shI64 hst205 ho146 rfl | replace hN152 := hN152.stp hst205 (by intro q hq; have hq0 := ho146.lt q hq; omega)
         replace ho196 := ho196.stp hst205 (by intro q hq; have hq0 := ho146.lt q hq; omega)
         have hsp210 : ∀ q, Value.ownBlock v202 = some q → Value.ownBlock v ≠ some q := by intro q hq hb; have hq0 := hf64.lt q hb; rcases hob206 with h | h; (rw [h] at hq; first | (have hq1 := ho146.lt q hq; omega)); (rw [h] at hq; cases hq; omega)
         have hsp211 : ∀ q, Value.ownBlock v202 = some q → Value.ownBlock v194 ≠ some q := by intro q hq hb; have hq0 := ho196.lt q hb; rcases hob206 with h | h; (rw [h] at hq; first | (have hq1 := ho146.lt q hq; omega)); (rw [h] at hq; cases hq; omega)
         refine ⟨hs208, ?_⟩
         refine dr_one (i := 11) (by kernel_rfl) ?_
         refine po_eff ha207 rfl rfl rfl rfl (op_append (ts := #[]) (s := shRowN) ha207 rfl Try.underlying23 ti41 rfl pos_shRowN rfl rfl ho204 (ho196.rds pos_shRowN) (by omega) (by omega) (by first | omega | (simp; omega)) (by first | omega | (simp; omega)) (.inl flat_shRowN)) ?_
         rintro v212 w213 ⟨ho214, hst215, hob216⟩ a217 ha217; clear ha207 a207
         have hs218 := hs208.stp hst215 (by intro q hq; have hq0 := ho204.lt q hq; omega)
         have hx219 := hx209.stp hst215 (by intro q hq; have hq0 := ho204.lt q hq; omega)
         have hzhx219 := hst215.size
         first | replace hN152 := hN152.stpF flat_shI64 hst215 ho204 rfl | replace hN152 := hN152.stp hst215 (by intro q hq; have hq0 := ho204.lt q hq; omega)
         first | replace ho196 := ho196.stp hst215 (by intro q hq; have hq0 := ho204.lt q hq; omega) | replace ho196 := ho196.stpF flat_shRowN hst215 (fun q hq => hsp211 q hq)
         have hsp220 : ∀ q, Value.ownBlock v212 = some q → Value.ownBlock v ≠ some q := by intro q hq hb; have hq0 := hf64.lt q hb; rcases hob216 with h | h; (rw [h] at hq; first | (have hq1 := ho204.lt q hq; omega) | exact hsp210 q hq hb); (rw [h] at hq; cases hq; omega)
         have hsp221 : ∀ q, Value.ownBlock v212 = some q → Value.ownBlock v194 ≠ some q := by intro q hq hb; have hq0 := ho196.lt q hb; rcases hob216 with h | h; (rw [h] at hq; first | (have hq1 := ho204.lt q hq; omega) | exact hsp211 q hq hb); (rw [h] at hq; cases hq; omega)
         refine ⟨hs218, ?_⟩
         refine dr_one (i := 15) (by kernel_rfl) ?_
         refine po_eff ha217 rfl rfl rfl rfl (op_append (ts := #[]) (s := shRowN) ha217 rfl Try.underlying23 ti41 rfl pos_shRowN rfl rfl ho214 (hr142.ext pos_shRowN hs218) (by omega) (by omega) (by first | omega | (simp; omega)) (by first | omega | (simp; omega)) (.inl flat_shRowN)) ?_
         rintro v222 w223 ⟨ho224, hst225, hob226⟩ a227 ha227; clear ha217 a217
         have hs228 := hs218.stp hst225 (by intro q hq; have hq0 := ho214.lt q hq; omega)
         have hx229 := hx219.stp hst225 (by intro q hq; have hq0 := ho214.lt q hq; omega)
         have hzhx229 := hst225.size
         first | replace hN152 := hN152.stpF flat_shI64 hst225 ho214 rfl | replace hN152 := hN152.stp hst225 (by intro q hq; have hq0 := ho214.lt q hq; omega)
         first | replace ho196 := ho196.stp hst225 (by intro q hq; have hq0 := ho214.lt q hq; omega) | replace ho196 := ho196.stpF flat_shRowN hst225 (fun q hq => hsp221 q hq)
         have hsp230 : ∀ q, Value.ownBlock v222 = some q → Value.ownBlock v ≠ some q := by intro q hq hb; have hq0 := hf64.lt q hb; rcases hob226 with h | h; (rw [h] at hq; first | (have hq1 := ho214.lt q hq; omega) | exact hsp220 q hq hb); (rw [h] at hq; cases hq; omega)
         have hsp231 : ∀ q, Value.ownBlock v222 = some q → Value.ownBlock v194 ≠ some q := by intro q hq hb; have hq0 := ho196.lt q hb; rcases hob226 with h | h; (rw [h] at hq; first | (have hq1 := ho214.lt q hq; omega) | exact hsp221 q hq hb); (rw [h] at hq; cases hq; omega)
         refine ⟨hs228, ?_⟩
         refine dr_val (i := 16) ha227 rfl (by kernel_rfl) (by kernel_rfl) (by kernel_rfl) rfl rfl rfl hs228 (fun w' hw' => op_assign ha227 rfl rfl) ?_
         intro a232 ha232; clear ha227 a227
         refine dr_end (by kernel_rfl) ?_
         replace hf62 := hf62.ext hs228
         replace hf63 := hf63.ext hs228
         replace hf64 := hf64.ext hs228
         replace hc83 := hc83.ext hs228
         replace hr131 := hr131.ext pos_shRowN hs228
         replace hr142 := hr142.ext pos_shRowN hs228
         refine block_n ?_
         refine then_n ?_
         refine wp_region_lit ?_
         refine wl_val ha232 rfl rfl rfl (op_move ha232 rfl rfl) ?_
         intro a233 ha233; clear ha232 a232
         refine wl_val ha233 rfl rfl rfl ((op_add ha233 rfl rfl rfl).int (IntWalk.i64_in _ (by omega))) ?_
         intro a234 ha234; clear ha233 a233
         refine wl_val ha234 rfl rfl rfl (op_assign ha234 rfl rfl) ?_
         intro a235 ha235; clear ha234 a234
         refine wpList_nil ?_
         refine round_end (x := (i, v, zs)) ((i + 1), v222, ((zs.take k ++ [((x51 : List Int), (v58 : Value))]) ++ zs.drop k)) ?_ ?_
         ·
          refine ⟨(Sl.cons_ ha235 rfl rfl (Sl.cons_ ha235 rfl rfl (Sl.cons_ ha235 rfl rfl (Sl.cons_ ha235 rfl rfl (Sl.cons_ ha235 rfl (int_eq (by omega)) (Sl.nil_ ha235)))))), hx229, hf62, hf63, (ho224.fin (by omega) (by omega) (by omega)), (by omega), (by omega), (by (simp; omega)), (by have hic := insK_front (x := x51) hU hk2 (.inr ⟨_, map_at hx79, (by show ¬ rowC column x79.1 ≤ _; rw [rowC_eq hx91, rowC_eq hx107]; omega)⟩); rw [drop_cons hx51, srGo, hic] at hF; rw [← hF]; simp), (by have hic := insK_front (x := x51) hU hk2 (.inr ⟨_, map_at hx79, (by show ¬ rowC column x79.1 ≤ _; rw [rowC_eq hx91, rowC_eq hx107]; omega)⟩); have h9 := insK_up (x := x51) hU; rw [hic] at h9; simpa using h9), (by intro z hz; simp only [List.mem_append, List.mem_singleton, List.nil_append] at hz; rcases hz with (hz | hz) | hz; exact hR z (List.mem_of_mem_take hz); (subst hz; assumption); exact hR z (List.mem_of_mem_drop hz)), (by intro z hz; simp only [List.mem_append, List.mem_singleton, List.nil_append] at hz; rcases hz with (hz | hz) | hz; exact hM z (List.mem_of_mem_take hz); (subst hz; exact List.mem_of_getElem? hx51); exact hM z (List.mem_of_mem_drop hz))⟩
         ·show (t.2.length - ((i + 1)) : Nat) < t.2.length - i; omega
       ·
        refine po_eff ha143 rfl rfl rfl rfl (op_buildSlice (s := shRowN) (xs := [((x51 : List Int), (v58 : Value))]) (cs := [v58]) (vs := [(0, v58)]) (S := fun _ => False) (le := w123.heap.size) ha143 rfl pos_shRowN Try.underlying23 ti41 rfl rfl (by decide) ((fill_one (off := 0) b59.cells1 (by kernel_rfl) (by kernel_rfl)).trans (by kernel_rfl)) (Els.single (mk_shRowN (((x51 : List Int), (v58 : Value))) b59.one)) (fun _ h => h.elim)) ?_
        rintro v236 w237 ⟨ho238, he239, hob240⟩ a241 ha241; clear ha143 a143
        have hs242 := hs126.trans' he239
        have hx243 := hx125.trans' he239
        have hzhx243 := he239.size
        refine ⟨hs242, ?_⟩
        refine dr_one (i := 0) (by kernel_rfl) ?_
        refine po_eff ha241 rfl rfl rfl rfl (op_buildSlice (s := shRowN) (xs := ([] : List ((List Int) × Value))) (cs := []) (vs := []) (S := fun _ => False) (le := w237.heap.size) ha241 rfl pos_shRowN Try.underlying23 ti41 rfl rfl (by decide) (by kernel_rfl) rfl (fun _ h => h.elim)) ?_
        rintro v244 w245 ⟨ho246, he247, hob248⟩ a249 ha249; clear ha241 a241
        have hs250 := hs242.trans' he247
        have hx251 := hx243.trans' he247
        have hzhx251 := he247.size
        replace ho238 := ho238.ext he247
        refine ⟨hs250, ?_⟩
        have hN252 : Nst shI64 2 (fun x : List Int => x) w237.heap.size w245.heap.size w245 (([] : List ((List Int) × Value))) := Nst.nil _ _ _ _ _ _
        refine dr_one (i := 4) (by kernel_rfl) ?_
        refine po_eff ha249 rfl rfl rfl rfl (op_append (ts := #[]) (s := shRowN) ha249 rfl Try.underlying23 ti41 rfl pos_shRowN rfl rfl ho246 (hr131.ext pos_shRowN hs250) (by omega) (by omega) (by first | omega | (simp; omega)) (by first | omega | (simp; omega)) (.inl flat_shRowN)) ?_
        rintro v253 w254 ⟨ho255, hst256, hob257⟩ a258 ha258; clear ha249 a249
        replace ho255 := ho255.cast (List.nil_append _)
        have hs259 := hs250.stp hst256 (by intro q hq; have hq0 := ho246.lt q hq; omega)
        have hx260 := hx251.stp hst256 (by intro q hq; have hq0 := ho246.lt q hq; omega)
        have hzhx260 := hst256.size
        replace ho238 := ho238.stp hst256 (by intro q hq; have hq0 := ho246.lt q hq; omega)
        first | replace hN252 := hN252.stpF flat_shI64 hst256 ho246 rfl | replace hN252 := hN252.stp hst256 (by intro q hq; have hq0 := ho246.lt q hq; omega)
        have hsp261 : ∀ q, Value.ownBlock v253 = some q → Value.ownBlock v ≠ some q := by intro q hq hb; have hq0 := hf64.lt q hb; rcases hob257 with h | h; (rw [h] at hq; first | (have hq1 := ho246.lt q hq; omega)); (rw [h] at hq; cases hq; omega)
        have hsp262 : ∀ q, Value.ownBlock v253 = some q → Value.ownBlock v236 ≠ some q := by intro q hq hb; have hq0 := ho238.lt q hb; rcases hob257 with h | h; (rw [h] at hq; first | (have hq1 := ho246.lt q hq; omega)); (rw [h] at hq; cases hq; omega)
        refine ⟨hs259, ?_⟩
        refine dr_one (i := 11) (by kernel_rfl) ?_
        refine po_eff ha258 rfl rfl rfl rfl (op_append (ts := #[]) (s := shRowN) ha258 rfl Try.underlying23 ti41 rfl pos_shRowN rfl rfl ho255 (ho238.rds pos_shRowN) (by omega) (by omega) (by first | omega | (simp; omega)) (by first | omega | (simp; omega)) (.inl flat_shRowN)) ?_
        rintro v263 w264 ⟨ho265, hst266, hob267⟩ a268 ha268; clear ha258 a258
        have hs269 := hs259.stp hst266 (by intro q hq; have hq0 := ho255.lt q hq; omega)
        have hx270 := hx260.stp hst266 (by intro q hq; have hq0 := ho255.lt q hq; omega)
        have hzhx270 := hst266.size
        replace ho238 := ho238.stp hst266 (by intro q hq; have hq0 := ho255.lt q hq; omega)
        first | replace hN252 := hN252.stpF flat_shI64 hst266 ho255 rfl | replace hN252 := hN252.stp hst266 (by intro q hq; have hq0 := ho255.lt q hq; omega)
        have hsp271 : ∀ q, Value.ownBlock v263 = some q → Value.ownBlock v ≠ some q := by intro q hq hb; have hq0 := hf64.lt q hb; rcases hob267 with h | h; (rw [h] at hq; first | (have hq1 := ho255.lt q hq; omega) | exact hsp261 q hq hb); (rw [h] at hq; cases hq; omega)
        have hsp272 : ∀ q, Value.ownBlock v263 = some q → Value.ownBlock v236 ≠ some q := by intro q hq hb; have hq0 := ho238.lt q hb; rcases hob267 with h | h; (rw [h] at hq; first | (have hq1 := ho255.lt q hq; omega) | exact hsp262 q hq hb); (rw [h] at hq; cases hq; omega)
        refine ⟨hs269, ?_⟩
        refine dr_one (i := 15) (by kernel_rfl) ?_
        refine po_eff ha268 rfl rfl rfl rfl (op_append (ts := #[]) (s := shRowN) ha268 rfl Try.underlying23 ti41 rfl pos_shRowN rfl rfl ho265 (hr142.ext pos_shRowN hs269) (by omega) (by omega) (by first | omega | (simp; omega)) (by first | omega | (simp; omega)) (.inl flat_shRowN)) ?_
        rintro v273 w274 ⟨ho275, hst276, hob277⟩ a278 ha278; clear ha268 a268
        have hs279 := hs269.stp hst276 (by intro q hq; have hq0 := ho265.lt q hq; omega)
        have hx280 := hx270.stp hst276 (by intro q hq; have hq0 := ho265.lt q hq; omega)
        have hzhx280 := hst276.size
        replace ho238 := ho238.stp hst276 (by intro q hq; have hq0 := ho265.lt q hq; omega)
        first | replace hN252 := hN252.stpF flat_shI64 hst276 ho265 rfl | replace hN252 := hN252.stp hst276 (by intro q hq; have hq0 := ho265.lt q hq; omega)
        have hsp281 : ∀ q, Value.ownBlock v273 = some q → Value.ownBlock v ≠ some q := by intro q hq hb; have hq0 := hf64.lt q hb; rcases hob277 with h | h; (rw [h] at hq; first | (have hq1 := ho265.lt q hq; omega) | exact hsp271 q hq hb); (rw [h] at hq; cases hq; omega)
        have hsp282 : ∀ q, Value.ownBlock v273 = some q → Value.ownBlock v236 ≠ some q := by intro q hq hb; have hq0 := ho238.lt q hb; rcases hob277 with h | h; (rw [h] at hq; first | (have hq1 := ho265.lt q hq; omega) | exact hsp272 q hq hb); (rw [h] at hq; cases hq; omega)
        refine ⟨hs279, ?_⟩
        refine dr_val (i := 16) ha278 rfl (by kernel_rfl) (by kernel_rfl) (by kernel_rfl) rfl rfl rfl hs279 (fun w' hw' => op_assign ha278 rfl rfl) ?_
        intro a283 ha283; clear ha278 a278
        refine dr_end (by kernel_rfl) ?_
        replace hf62 := hf62.ext hs279
        replace hf63 := hf63.ext hs279
        replace hf64 := hf64.ext hs279
        replace hc83 := hc83.ext hs279
        replace hr131 := hr131.ext pos_shRowN hs279
        replace hr142 := hr142.ext pos_shRowN hs279
        refine block_n ?_
        refine then_n ?_
        refine wp_region_lit ?_
        refine wl_val ha283 rfl rfl rfl (op_move ha283 rfl rfl) ?_
        intro a284 ha284; clear ha283 a283
        refine wl_val ha284 rfl rfl rfl ((op_add ha284 rfl rfl rfl).int (IntWalk.i64_in _ (by omega))) ?_
        intro a285 ha285; clear ha284 a284
        refine wl_val ha285 rfl rfl rfl (op_assign ha285 rfl rfl) ?_
        intro a286 ha286; clear ha285 a285
        refine wpList_nil ?_
        refine round_end (x := (i, v, zs)) ((i + 1), v273, ((zs.take k ++ [((x51 : List Int), (v58 : Value))]) ++ zs.drop k)) ?_ ?_
        ·
         refine ⟨(Sl.cons_ ha286 rfl rfl (Sl.cons_ ha286 rfl rfl (Sl.cons_ ha286 rfl rfl (Sl.cons_ ha286 rfl rfl (Sl.cons_ ha286 rfl (int_eq (by omega)) (Sl.nil_ ha286)))))), hx280, hf62, hf63, (ho275.fin (by omega) (by omega) (by omega)), (by omega), (by omega), (by (simp; omega)), (by have hic := insK_front (x := x51) hU hk2 (.inr ⟨_, map_at hx79, (by show ¬ rowC column x79.1 ≤ _; rw [rowC_eq hx91, rowC_eq hx107]; omega)⟩); rw [drop_cons hx51, srGo, hic] at hF; rw [← hF]; simp), (by have hic := insK_front (x := x51) hU hk2 (.inr ⟨_, map_at hx79, (by show ¬ rowC column x79.1 ≤ _; rw [rowC_eq hx91, rowC_eq hx107]; omega)⟩); have h9 := insK_up (x := x51) hU; rw [hic] at h9; simpa using h9), (by intro z hz; simp only [List.mem_append, List.mem_singleton, List.nil_append] at hz; rcases hz with (hz | hz) | hz; exact hR z (List.mem_of_mem_take hz); (subst hz; assumption); exact hR z (List.mem_of_mem_drop hz)), (by intro z hz; simp only [List.mem_append, List.mem_singleton, List.nil_append] at hz; rcases hz with (hz | hz) | hz; exact hM z (List.mem_of_mem_take hz); (subst hz; exact List.mem_of_getElem? hx51); exact hM z (List.mem_of_mem_drop hz))⟩
        ·show (t.2.length - ((i + 1)) : Nat) < t.2.length - i; omega
     ·
      rw [decide_eq_false c76] at ha75
      refine dr_skip (i := 5) ha75 rfl (by kernel_rfl) (by kernel_rfl) (by kernel_rfl) rfl rfl rfl hs70 ?_
      intro a287 ha287; clear ha75 a75
      refine dr_skip (i := 6) ha287 rfl (by kernel_rfl) (by kernel_rfl) (by kernel_rfl) rfl rfl rfl hs70 ?_
      intro a288 ha288; clear ha287 a287
      refine dr_skip (i := 7) ha288 rfl (by kernel_rfl) (by kernel_rfl) (by kernel_rfl) rfl rfl rfl hs70 ?_
      intro a289 ha289; clear ha288 a288
      refine dr_skip (i := 8) ha289 rfl (by kernel_rfl) (by kernel_rfl) (by kernel_rfl) rfl rfl rfl hs70 ?_
      intro a290 ha290; clear ha289 a289
      refine dr_skip (i := 9) ha290 rfl (by kernel_rfl) (by kernel_rfl) (by kernel_rfl) rfl rfl rfl hs70 ?_
      intro a291 ha291; clear ha290 a290
      refine dr_skip (i := 10) ha291 rfl (by kernel_rfl) (by kernel_rfl) (by kernel_rfl) rfl rfl rfl hs70 ?_
      intro a292 ha292; clear ha291 a291
      refine dr_skip (i := 11) ha292 rfl (by kernel_rfl) (by kernel_rfl) (by kernel_rfl) rfl rfl rfl hs70 ?_
      intro a293 ha293; clear ha292 a292
      refine dr_skip (i := 12) ha293 rfl (by kernel_rfl) (by kernel_rfl) (by kernel_rfl) rfl rfl rfl hs70 ?_
      intro a294 ha294; clear ha293 a293
      refine dr_skip (i := 13) ha294 rfl (by kernel_rfl) (by kernel_rfl) (by kernel_rfl) rfl rfl rfl hs70 ?_
      intro a295 ha295; clear ha294 a294
      refine dr_skip (i := 14) ha295 rfl (by kernel_rfl) (by kernel_rfl) (by kernel_rfl) rfl rfl rfl hs70 ?_
      intro a296 ha296; clear ha295 a295
      refine dr_skip (i := 15) ha296 rfl (by kernel_rfl) (by kernel_rfl) (by kernel_rfl) rfl rfl rfl hs70 ?_
      intro a297 ha297; clear ha296 a296
      refine dr_skip (i := 16) ha297 rfl (by kernel_rfl) (by kernel_rfl) (by kernel_rfl) rfl rfl rfl hs70 ?_
      intro a298 ha298; clear ha297 a297
      refine dr_skip (i := 17) ha298 rfl (by kernel_rfl) (by kernel_rfl) (by kernel_rfl) rfl rfl rfl hs70 ?_
      intro a299 ha299; clear ha298 a298
      refine dr_skip (i := 18) ha299 rfl (by kernel_rfl) (by kernel_rfl) (by kernel_rfl) rfl rfl rfl hs70 ?_
      intro a300 ha300; clear ha299 a299
      refine dr_skip (i := 19) ha300 rfl (by kernel_rfl) (by kernel_rfl) (by kernel_rfl) rfl rfl rfl hs70 ?_
      intro a301 ha301; clear ha300 a300
      refine dr_skip (i := 20) ha301 rfl (by kernel_rfl) (by kernel_rfl) (by kernel_rfl) rfl rfl rfl hs70 ?_
      intro a302 ha302; clear ha301 a301
      refine dr_val (i := 21) ha302 rfl (by kernel_rfl) (by kernel_rfl) (by kernel_rfl) rfl rfl rfl hs70 (fun w' hw' => op_pick_f ha302 rfl rfl rfl) ?_
      intro a303 ha303; clear ha302 a302
      refine dr_end (by kernel_rfl) ?_
      replace hf62 := hf62.ext hs70
      replace hf63 := hf63.ext hs70
      replace hf64 := hf64.ext hs70
      refine then_n ?_
      refine cond_f ha303 rfl ?_
      refine wp_exit ?_
      refine then_e ?_
      refine then_e ?_
      refine block_hit ?_
      refine then_n ?_
      refine dr_enter Ext follows_mixed ?_
      intro w304 he305
      have hx306 := hx69.trans' he305
      have hzhx306 := he305.size
      replace hf62 := hf62.ext he305
      replace hf63 := hf63.ext he305
      replace hf64 := hf64.ext he305
      have hs307 : Ext w304 w304 := Ext.rfl' _
      refine dr_val (i := 1) ha303 rfl (by kernel_rfl) (by kernel_rfl) (by kernel_rfl) rfl rfl rfl hs307 (fun w' hw' => op_move ha303 rfl rfl) ?_
      intro a308 ha308; clear ha303 a303
      refine dr_val (i := 2) ha308 rfl (by kernel_rfl) (by kernel_rfl) (by kernel_rfl) rfl rfl rfl hs307 (fun w' hw' => op_move ha308 rfl rfl) ?_
      intro a309 ha309; clear ha308 a308
      obtain ⟨u310, hu311, hr312⟩ := Rds.part (hf64.rds pos_shRowN) Try.underlying23 ti41 none (some (.int .i64 (k : Nat))) 0 k (.inl ⟨rfl, rfl⟩) (.inr ⟨.i64, rfl⟩) (by omega) (by omega)
      replace hr312 := hr312.cast (ys := zs.take k) (by first | rw [List.take_length] | simp)
      refine dr_val (i := 3) ha309 rfl (by kernel_rfl) (by kernel_rfl) (by kernel_rfl) rfl rfl rfl hs307 (fun w' hw' => op_slice_t (by omega) ha309 rfl rfl rfl hu311) ?_
      intro a313 ha313; clear ha309 a309
      refine dr_val (i := 5) ha313 rfl (by kernel_rfl) (by kernel_rfl) (by kernel_rfl) rfl rfl rfl hs307 (fun w' hw' => op_fieldAddr (sz := 0) ha313 rfl Try.underlying28 rfl rfl ti23 rfl) ?_
      intro a314 ha314; clear ha313 a313
      refine dr_val (i := 6) ha314 rfl (by kernel_rfl) (by kernel_rfl) (by kernel_rfl) rfl rfl rfl hs307 (fun w' hw' => op_loadF (off := 1) ha314 rfl Try.underlying23 rfl rfl (hf62.ext hw').cells rfl) ?_
      intro a315 ha315; clear ha314 a314
      refine dr_val (i := 7) ha315 rfl (by kernel_rfl) (by kernel_rfl) (by kernel_rfl) rfl rfl rfl hs307 (fun w' hw' => op_move ha315 rfl rfl) ?_
      intro a316 ha316; clear ha315 a315
      refine dr_val (i := 8) ha316 rfl (by kernel_rfl) (by kernel_rfl) (by kernel_rfl) rfl rfl rfl hs307 (fun w' hw' => op_indexAddr ha316 rfl Try.underlying23 ti41 rfl rfl (by omega) hi54) ?_
      intro a317 ha317; clear ha316 a316
      refine dr_val (i := 9) ha317 rfl (by kernel_rfl) (by kernel_rfl) (by kernel_rfl) rfl rfl rfl hs307 (fun w' hw' => op_loadH ha317 rfl Try.underlying41 rfl rfl (hc55.ext (hx306.trans' hw')) rfl) ?_
      intro a318 ha318; clear ha317 a317
      refine dr_val (i := 12) ha318 rfl (by kernel_rfl) (by kernel_rfl) (by kernel_rfl) rfl rfl rfl hs307 (fun w' hw' => op_move ha318 rfl rfl) ?_
      intro a319 ha319; clear ha318 a318
      refine dr_val (i := 13) ha319 rfl (by kernel_rfl) (by kernel_rfl) (by kernel_rfl) rfl rfl rfl hs307 (fun w' hw' => op_move ha319 rfl rfl) ?_
      intro a320 ha320; clear ha319 a319
      obtain ⟨u321, hu322, hr323⟩ := Rds.part (hf64.rds pos_shRowN) Try.underlying23 ti41 (some (.int .i64 (k : Nat))) none k zs.length (.inr ⟨.i64, rfl⟩) (.inl ⟨rfl, rfl⟩) (by omega) (by omega)
      replace hr323 := hr323.cast (ys := zs.drop k) (by first | rw [List.take_length] | simp)
      refine dr_val (i := 14) ha320 rfl (by kernel_rfl) (by kernel_rfl) (by kernel_rfl) rfl rfl rfl hs307 (fun w' hw' => op_slice_f (by omega) ha320 rfl rfl rfl hu322) ?_
      intro a324 ha324; clear ha320 a320
      refine dr_two (i := 0) (j := 10) (by kernel_rfl) ?_ ?_
      ·
       refine po_eff ha324 rfl rfl rfl rfl (op_buildSlice (s := shRowN) (xs := ([] : List ((List Int) × Value))) (cs := []) (vs := []) (S := fun _ => False) (le := w304.heap.size) ha324 rfl pos_shRowN Try.underlying23 ti41 rfl rfl (by decide) (by kernel_rfl) rfl (fun _ h => h.elim)) ?_
       rintro v325 w326 ⟨ho327, he328, hob329⟩ a330 ha330; clear ha324 a324
       have hs331 := hs307.trans' he328
       have hx332 := hx306.trans' he328
       have hzhx332 := he328.size
       refine ⟨hs331, ?_⟩
       have hN333 : Nst shI64 2 (fun x : List Int => x) w304.heap.size w326.heap.size w326 (([] : List ((List Int) × Value))) := Nst.nil _ _ _ _ _ _
       refine dr_two (i := 4) (j := 10) (by kernel_rfl) ?_ ?_
       ·
        refine po_eff ha330 rfl rfl rfl rfl (op_append (ts := #[]) (s := shRowN) ha330 rfl Try.underlying23 ti41 rfl pos_shRowN rfl rfl ho327 (hr312.ext pos_shRowN hs331) (by omega) (by omega) (by first | omega | (simp; omega)) (by first | omega | (simp; omega)) (.inl flat_shRowN)) ?_
        rintro v334 w335 ⟨ho336, hst337, hob338⟩ a339 ha339; clear ha330 a330
        replace ho336 := ho336.cast (List.nil_append _)
        have hs340 := hs331.stp hst337 (by intro q hq; have hq0 := ho327.lt q hq; omega)
        have hx341 := hx332.stp hst337 (by intro q hq; have hq0 := ho327.lt q hq; omega)
        have hzhx341 := hst337.size
        first | replace hN333 := hN333.stpF flat_shI64 hst337 ho327 rfl | replace hN333 := hN333.stp hst337 (by intro q hq; have hq0 := ho327.lt q hq; omega)
        have hsp342 : ∀ q, Value.ownBlock v334 = some q → Value.ownBlock v ≠ some q := by intro q hq hb; have hq0 := hf64.lt q hb; rcases hob338 with h | h; (rw [h] at hq; first | (have hq1 := ho327.lt q hq; omega)); (rw [h] at hq; cases hq; omega)
        refine ⟨hs340, ?_⟩
        refine dr_one (i := 10) (by kernel_rfl) ?_
        refine po_eff ha339 rfl rfl rfl rfl (op_buildSlice (s := shRowN) (xs := [((x51 : List Int), (v58 : Value))]) (cs := [v58]) (vs := [(0, v58)]) (S := fun _ => False) (le := w335.heap.size) ha339 rfl pos_shRowN Try.underlying23 ti41 rfl rfl (by decide) ((fill_one (off := 0) b59.cells1 (by kernel_rfl) (by kernel_rfl)).trans (by kernel_rfl)) (Els.single (mk_shRowN (((x51 : List Int), (v58 : Value))) b59.one)) (fun _ h => h.elim)) ?_
        rintro v343 w344 ⟨ho345, he346, hob347⟩ a348 ha348; clear ha339 a339
        have hs349 := hs340.trans' he346
        have hx350 := hx341.trans' he346
        have hzhx350 := he346.size
        replace hN333 := hN333.ext he346
        replace ho336 := ho336.ext he346
        refine ⟨hs349, ?_⟩
        refine dr_one (i := 11) (by kernel_rfl) ?_
        refine po_eff ha348 rfl rfl rfl rfl (op_append (ts := #[]) (s := shRowN) ha348 rfl Try.underlying23 ti41 rfl pos_shRowN rfl rfl ho336 (ho345.rds pos_shRowN) (by omega) (by omega) (by first | omega | (simp; omega)) (by first | omega | (simp; omega)) (.inl flat_shRowN)) ?_
        rintro v351 w352 ⟨ho353, hst354, hob355⟩ a356 ha356; clear ha348 a348
        have hs357 := hs349.stp hst354 (by intro q hq; have hq0 := ho336.lt q hq; omega)
        have hx358 := hx350.stp hst354 (by intro q hq; have hq0 := ho336.lt q hq; omega)
        have hzhx358 := hst354.size
        first | replace hN333 := hN333.stpF flat_shI64 hst354 ho336 rfl | replace hN333 := hN333.stp hst354 (by intro q hq; have hq0 := ho336.lt q hq; omega)
        replace ho345 := ho345.stp hst354 (by intro q hq; have hq0 := ho336.lt q hq; omega)
        have hsp359 : ∀ q, Value.ownBlock v351 = some q → Value.ownBlock v ≠ some q := by intro q hq hb; have hq0 := hf64.lt q hb; rcases hob355 with h | h; (rw [h] at hq; first | (have hq1 := ho336.lt q hq; omega) | exact hsp342 q hq hb); (rw [h] at hq; cases hq; omega)
        have hsp360 : ∀ q, Value.ownBlock v351 = some q → Value.ownBlock v343 ≠ some q := by intro q hq hb; have hq0 := ho345.lt q hb; rcases hob355 with h | h; (rw [h] at hq; first | (have hq1 := ho336.lt q hq; omega)); (rw [h] at hq; cases hq; omega)
        refine ⟨hs357, ?_⟩
        refine dr_one (i := 15) (by kernel_rfl) ?_
        refine po_eff ha356 rfl rfl rfl rfl (op_append (ts := #[]) (s := shRowN) ha356 rfl Try.underlying23 ti41 rfl pos_shRowN rfl rfl ho353 (hr323.ext pos_shRowN hs357) (by omega) (by omega) (by first | omega | (simp; omega)) (by first | omega | (simp; omega)) (.inl flat_shRowN)) ?_
        rintro v361 w362 ⟨ho363, hst364, hob365⟩ a366 ha366; clear ha356 a356
        have hs367 := hs357.stp hst364 (by intro q hq; have hq0 := ho353.lt q hq; omega)
        have hx368 := hx358.stp hst364 (by intro q hq; have hq0 := ho353.lt q hq; omega)
        have hzhx368 := hst364.size
        first | replace hN333 := hN333.stpF flat_shI64 hst364 ho353 rfl | replace hN333 := hN333.stp hst364 (by intro q hq; have hq0 := ho353.lt q hq; omega)
        first | replace ho345 := ho345.stp hst364 (by intro q hq; have hq0 := ho353.lt q hq; omega) | replace ho345 := ho345.stpF flat_shRowN hst364 (fun q hq => hsp360 q hq)
        have hsp369 : ∀ q, Value.ownBlock v361 = some q → Value.ownBlock v ≠ some q := by intro q hq hb; have hq0 := hf64.lt q hb; rcases hob365 with h | h; (rw [h] at hq; first | (have hq1 := ho353.lt q hq; omega) | exact hsp359 q hq hb); (rw [h] at hq; cases hq; omega)
        have hsp370 : ∀ q, Value.ownBlock v361 = some q → Value.ownBlock v343 ≠ some q := by intro q hq hb; have hq0 := ho345.lt q hb; rcases hob365 with h | h; (rw [h] at hq; first | (have hq1 := ho353.lt q hq; omega) | exact hsp360 q hq hb); (rw [h] at hq; cases hq; omega)
        refine ⟨hs367, ?_⟩
        refine dr_val (i := 16) ha366 rfl (by kernel_rfl) (by kernel_rfl) (by kernel_rfl) rfl rfl rfl hs367 (fun w' hw' => op_assign ha366 rfl rfl) ?_
        intro a371 ha371; clear ha366 a366
        refine dr_end (by kernel_rfl) ?_
        replace hf62 := hf62.ext hs367
        replace hf63 := hf63.ext hs367
        replace hf64 := hf64.ext hs367
        replace hr312 := hr312.ext pos_shRowN hs367
        replace hr323 := hr323.ext pos_shRowN hs367
        refine block_n ?_
        refine then_n ?_
        refine wp_region_lit ?_
        refine wl_val ha371 rfl rfl rfl (op_move ha371 rfl rfl) ?_
        intro a372 ha372; clear ha371 a371
        refine wl_val ha372 rfl rfl rfl ((op_add ha372 rfl rfl rfl).int (IntWalk.i64_in _ (by omega))) ?_
        intro a373 ha373; clear ha372 a372
        refine wl_val ha373 rfl rfl rfl (op_assign ha373 rfl rfl) ?_
        intro a374 ha374; clear ha373 a373
        refine wpList_nil ?_
        refine round_end (x := (i, v, zs)) ((i + 1), v361, ((zs.take k ++ [((x51 : List Int), (v58 : Value))]) ++ zs.drop k)) ?_ ?_
        ·
         refine ⟨(Sl.cons_ ha374 rfl rfl (Sl.cons_ ha374 rfl rfl (Sl.cons_ ha374 rfl rfl (Sl.cons_ ha374 rfl rfl (Sl.cons_ ha374 rfl (int_eq (by omega)) (Sl.nil_ ha374)))))), hx368, hf62, hf63, (ho363.fin (by omega) (by omega) (by omega)), (by omega), (by omega), (by (simp; omega)), (by have hic := insK_front (x := x51) hU hk2 (.inl (by rw [List.length_map]; omega)); rw [drop_cons hx51, srGo, hic] at hF; rw [← hF]; simp), (by have hic := insK_front (x := x51) hU hk2 (.inl (by rw [List.length_map]; omega)); have h9 := insK_up (x := x51) hU; rw [hic] at h9; simpa using h9), (by intro z hz; simp only [List.mem_append, List.mem_singleton, List.nil_append] at hz; rcases hz with (hz | hz) | hz; exact hR z (List.mem_of_mem_take hz); (subst hz; assumption); exact hR z (List.mem_of_mem_drop hz)), (by intro z hz; simp only [List.mem_append, List.mem_singleton, List.nil_append] at hz; rcases hz with (hz | hz) | hz; exact hM z (List.mem_of_mem_take hz); (subst hz; exact List.mem_of_getElem? hx51); exact hM z (List.mem_of_mem_drop hz))⟩
        ·show (t.2.length - ((i + 1)) : Nat) < t.2.length - i; omega
       ·
        refine po_eff ha330 rfl rfl rfl rfl (op_buildSlice (s := shRowN) (xs := [((x51 : List Int), (v58 : Value))]) (cs := [v58]) (vs := [(0, v58)]) (S := fun _ => False) (le := w326.heap.size) ha330 rfl pos_shRowN Try.underlying23 ti41 rfl rfl (by decide) ((fill_one (off := 0) b59.cells1 (by kernel_rfl) (by kernel_rfl)).trans (by kernel_rfl)) (Els.single (mk_shRowN (((x51 : List Int), (v58 : Value))) b59.one)) (fun _ h => h.elim)) ?_
        rintro v375 w376 ⟨ho377, he378, hob379⟩ a380 ha380; clear ha330 a330
        have hs381 := hs331.trans' he378
        have hx382 := hx332.trans' he378
        have hzhx382 := he378.size
        replace ho327 := ho327.ext he378
        replace hN333 := hN333.ext he378
        refine ⟨hs381, ?_⟩
        refine dr_one (i := 4) (by kernel_rfl) ?_
        refine po_eff ha380 rfl rfl rfl rfl (op_append (ts := #[]) (s := shRowN) ha380 rfl Try.underlying23 ti41 rfl pos_shRowN rfl rfl ho327 (hr312.ext pos_shRowN hs381) (by omega) (by omega) (by first | omega | (simp; omega)) (by first | omega | (simp; omega)) (.inl flat_shRowN)) ?_
        rintro v383 w384 ⟨ho385, hst386, hob387⟩ a388 ha388; clear ha380 a380
        replace ho385 := ho385.cast (List.nil_append _)
        have hs389 := hs381.stp hst386 (by intro q hq; have hq0 := ho327.lt q hq; omega)
        have hx390 := hx382.stp hst386 (by intro q hq; have hq0 := ho327.lt q hq; omega)
        have hzhx390 := hst386.size
        first | replace hN333 := hN333.stpF flat_shI64 hst386 ho327 rfl | replace hN333 := hN333.stp hst386 (by intro q hq; have hq0 := ho327.lt q hq; omega)
        replace ho377 := ho377.stp hst386 (by intro q hq; have hq0 := ho327.lt q hq; omega)
        have hsp391 : ∀ q, Value.ownBlock v383 = some q → Value.ownBlock v ≠ some q := by intro q hq hb; have hq0 := hf64.lt q hb; rcases hob387 with h | h; (rw [h] at hq; first | (have hq1 := ho327.lt q hq; omega)); (rw [h] at hq; cases hq; omega)
        have hsp392 : ∀ q, Value.ownBlock v383 = some q → Value.ownBlock v375 ≠ some q := by intro q hq hb; have hq0 := ho377.lt q hb; rcases hob387 with h | h; (rw [h] at hq; first | (have hq1 := ho327.lt q hq; omega)); (rw [h] at hq; cases hq; omega)
        refine ⟨hs389, ?_⟩
        refine dr_one (i := 11) (by kernel_rfl) ?_
        refine po_eff ha388 rfl rfl rfl rfl (op_append (ts := #[]) (s := shRowN) ha388 rfl Try.underlying23 ti41 rfl pos_shRowN rfl rfl ho385 (ho377.rds pos_shRowN) (by omega) (by omega) (by first | omega | (simp; omega)) (by first | omega | (simp; omega)) (.inl flat_shRowN)) ?_
        rintro v393 w394 ⟨ho395, hst396, hob397⟩ a398 ha398; clear ha388 a388
        have hs399 := hs389.stp hst396 (by intro q hq; have hq0 := ho385.lt q hq; omega)
        have hx400 := hx390.stp hst396 (by intro q hq; have hq0 := ho385.lt q hq; omega)
        have hzhx400 := hst396.size
        first | replace hN333 := hN333.stpF flat_shI64 hst396 ho385 rfl | replace hN333 := hN333.stp hst396 (by intro q hq; have hq0 := ho385.lt q hq; omega)
        first | replace ho377 := ho377.stp hst396 (by intro q hq; have hq0 := ho385.lt q hq; omega) | replace ho377 := ho377.stpF flat_shRowN hst396 (fun q hq => hsp392 q hq)
        have hsp401 : ∀ q, Value.ownBlock v393 = some q → Value.ownBlock v ≠ some q := by intro q hq hb; have hq0 := hf64.lt q hb; rcases hob397 with h | h; (rw [h] at hq; first | (have hq1 := ho385.lt q hq; omega) | exact hsp391 q hq hb); (rw [h] at hq; cases hq; omega)
        have hsp402 : ∀ q, Value.ownBlock v393 = some q → Value.ownBlock v375 ≠ some q := by intro q hq hb; have hq0 := ho377.lt q hb; rcases hob397 with h | h; (rw [h] at hq; first | (have hq1 := ho385.lt q hq; omega) | exact hsp392 q hq hb); (rw [h] at hq; cases hq; omega)
        refine ⟨hs399, ?_⟩
        refine dr_one (i := 15) (by kernel_rfl) ?_
        refine po_eff ha398 rfl rfl rfl rfl (op_append (ts := #[]) (s := shRowN) ha398 rfl Try.underlying23 ti41 rfl pos_shRowN rfl rfl ho395 (hr323.ext pos_shRowN hs399) (by omega) (by omega) (by first | omega | (simp; omega)) (by first | omega | (simp; omega)) (.inl flat_shRowN)) ?_
        rintro v403 w404 ⟨ho405, hst406, hob407⟩ a408 ha408; clear ha398 a398
        have hs409 := hs399.stp hst406 (by intro q hq; have hq0 := ho395.lt q hq; omega)
        have hx410 := hx400.stp hst406 (by intro q hq; have hq0 := ho395.lt q hq; omega)
        have hzhx410 := hst406.size
        first | replace hN333 := hN333.stpF flat_shI64 hst406 ho395 rfl | replace hN333 := hN333.stp hst406 (by intro q hq; have hq0 := ho395.lt q hq; omega)
        first | replace ho377 := ho377.stp hst406 (by intro q hq; have hq0 := ho395.lt q hq; omega) | replace ho377 := ho377.stpF flat_shRowN hst406 (fun q hq => hsp402 q hq)
        have hsp411 : ∀ q, Value.ownBlock v403 = some q → Value.ownBlock v ≠ some q := by intro q hq hb; have hq0 := hf64.lt q hb; rcases hob407 with h | h; (rw [h] at hq; first | (have hq1 := ho395.lt q hq; omega) | exact hsp401 q hq hb); (rw [h] at hq; cases hq; omega)
        have hsp412 : ∀ q, Value.ownBlock v403 = some q → Value.ownBlock v375 ≠ some q := by intro q hq hb; have hq0 := ho377.lt q hb; rcases hob407 with h | h; (rw [h] at hq; first | (have hq1 := ho395.lt q hq; omega) | exact hsp402 q hq hb); (rw [h] at hq; cases hq; omega)
        refine ⟨hs409, ?_⟩
        refine dr_val (i := 16) ha408 rfl (by kernel_rfl) (by kernel_rfl) (by kernel_rfl) rfl rfl rfl hs409 (fun w' hw' => op_assign ha408 rfl rfl) ?_
        intro a413 ha413; clear ha408 a408
        refine dr_end (by kernel_rfl) ?_
        replace hf62 := hf62.ext hs409
        replace hf63 := hf63.ext hs409
        replace hf64 := hf64.ext hs409
        replace hr312 := hr312.ext pos_shRowN hs409
        replace hr323 := hr323.ext pos_shRowN hs409
        refine block_n ?_
        refine then_n ?_
        refine wp_region_lit ?_
        refine wl_val ha413 rfl rfl rfl (op_move ha413 rfl rfl) ?_
        intro a414 ha414; clear ha413 a413
        refine wl_val ha414 rfl rfl rfl ((op_add ha414 rfl rfl rfl).int (IntWalk.i64_in _ (by omega))) ?_
        intro a415 ha415; clear ha414 a414
        refine wl_val ha415 rfl rfl rfl (op_assign ha415 rfl rfl) ?_
        intro a416 ha416; clear ha415 a415
        refine wpList_nil ?_
        refine round_end (x := (i, v, zs)) ((i + 1), v403, ((zs.take k ++ [((x51 : List Int), (v58 : Value))]) ++ zs.drop k)) ?_ ?_
        ·
         refine ⟨(Sl.cons_ ha416 rfl rfl (Sl.cons_ ha416 rfl rfl (Sl.cons_ ha416 rfl rfl (Sl.cons_ ha416 rfl rfl (Sl.cons_ ha416 rfl (int_eq (by omega)) (Sl.nil_ ha416)))))), hx410, hf62, hf63, (ho405.fin (by omega) (by omega) (by omega)), (by omega), (by omega), (by (simp; omega)), (by have hic := insK_front (x := x51) hU hk2 (.inl (by rw [List.length_map]; omega)); rw [drop_cons hx51, srGo, hic] at hF; rw [← hF]; simp), (by have hic := insK_front (x := x51) hU hk2 (.inl (by rw [List.length_map]; omega)); have h9 := insK_up (x := x51) hU; rw [hic] at h9; simpa using h9), (by intro z hz; simp only [List.mem_append, List.mem_singleton, List.nil_append] at hz; rcases hz with (hz | hz) | hz; exact hR z (List.mem_of_mem_take hz); (subst hz; assumption); exact hR z (List.mem_of_mem_drop hz)), (by intro z hz; simp only [List.mem_append, List.mem_singleton, List.nil_append] at hz; rcases hz with (hz | hz) | hz; exact hM z (List.mem_of_mem_take hz); (subst hz; exact List.mem_of_getElem? hx51); exact hM z (List.mem_of_mem_drop hz))⟩
        ·show (t.2.length - ((i + 1)) : Nat) < t.2.length - i; omega
      ·
       refine po_eff ha324 rfl rfl rfl rfl (op_buildSlice (s := shRowN) (xs := [((x51 : List Int), (v58 : Value))]) (cs := [v58]) (vs := [(0, v58)]) (S := fun _ => False) (le := w304.heap.size) ha324 rfl pos_shRowN Try.underlying23 ti41 rfl rfl (by decide) ((fill_one (off := 0) b59.cells1 (by kernel_rfl) (by kernel_rfl)).trans (by kernel_rfl)) (Els.single (mk_shRowN (((x51 : List Int), (v58 : Value))) b59.one)) (fun _ h => h.elim)) ?_
       rintro v417 w418 ⟨ho419, he420, hob421⟩ a422 ha422; clear ha324 a324
       have hs423 := hs307.trans' he420
       have hx424 := hx306.trans' he420
       have hzhx424 := he420.size
       refine ⟨hs423, ?_⟩
       refine dr_one (i := 0) (by kernel_rfl) ?_
       refine po_eff ha422 rfl rfl rfl rfl (op_buildSlice (s := shRowN) (xs := ([] : List ((List Int) × Value))) (cs := []) (vs := []) (S := fun _ => False) (le := w418.heap.size) ha422 rfl pos_shRowN Try.underlying23 ti41 rfl rfl (by decide) (by kernel_rfl) rfl (fun _ h => h.elim)) ?_
       rintro v425 w426 ⟨ho427, he428, hob429⟩ a430 ha430; clear ha422 a422
       have hs431 := hs423.trans' he428
       have hx432 := hx424.trans' he428
       have hzhx432 := he428.size
       replace ho419 := ho419.ext he428
       refine ⟨hs431, ?_⟩
       have hN433 : Nst shI64 2 (fun x : List Int => x) w418.heap.size w426.heap.size w426 (([] : List ((List Int) × Value))) := Nst.nil _ _ _ _ _ _
       refine dr_one (i := 4) (by kernel_rfl) ?_
       refine po_eff ha430 rfl rfl rfl rfl (op_append (ts := #[]) (s := shRowN) ha430 rfl Try.underlying23 ti41 rfl pos_shRowN rfl rfl ho427 (hr312.ext pos_shRowN hs431) (by omega) (by omega) (by first | omega | (simp; omega)) (by first | omega | (simp; omega)) (.inl flat_shRowN)) ?_
       rintro v434 w435 ⟨ho436, hst437, hob438⟩ a439 ha439; clear ha430 a430
       replace ho436 := ho436.cast (List.nil_append _)
       have hs440 := hs431.stp hst437 (by intro q hq; have hq0 := ho427.lt q hq; omega)
       have hx441 := hx432.stp hst437 (by intro q hq; have hq0 := ho427.lt q hq; omega)
       have hzhx441 := hst437.size
       replace ho419 := ho419.stp hst437 (by intro q hq; have hq0 := ho427.lt q hq; omega)
       first | replace hN433 := hN433.stpF flat_shI64 hst437 ho427 rfl | replace hN433 := hN433.stp hst437 (by intro q hq; have hq0 := ho427.lt q hq; omega)
       have hsp442 : ∀ q, Value.ownBlock v434 = some q → Value.ownBlock v ≠ some q := by intro q hq hb; have hq0 := hf64.lt q hb; rcases hob438 with h | h; (rw [h] at hq; first | (have hq1 := ho427.lt q hq; omega)); (rw [h] at hq; cases hq; omega)
       have hsp443 : ∀ q, Value.ownBlock v434 = some q → Value.ownBlock v417 ≠ some q := by intro q hq hb; have hq0 := ho419.lt q hb; rcases hob438 with h | h; (rw [h] at hq; first | (have hq1 := ho427.lt q hq; omega)); (rw [h] at hq; cases hq; omega)
       refine ⟨hs440, ?_⟩
       refine dr_one (i := 11) (by kernel_rfl) ?_
       refine po_eff ha439 rfl rfl rfl rfl (op_append (ts := #[]) (s := shRowN) ha439 rfl Try.underlying23 ti41 rfl pos_shRowN rfl rfl ho436 (ho419.rds pos_shRowN) (by omega) (by omega) (by first | omega | (simp; omega)) (by first | omega | (simp; omega)) (.inl flat_shRowN)) ?_
       rintro v444 w445 ⟨ho446, hst447, hob448⟩ a449 ha449; clear ha439 a439
       have hs450 := hs440.stp hst447 (by intro q hq; have hq0 := ho436.lt q hq; omega)
       have hx451 := hx441.stp hst447 (by intro q hq; have hq0 := ho436.lt q hq; omega)
       have hzhx451 := hst447.size
       replace ho419 := ho419.stp hst447 (by intro q hq; have hq0 := ho436.lt q hq; omega)
       first | replace hN433 := hN433.stpF flat_shI64 hst447 ho436 rfl | replace hN433 := hN433.stp hst447 (by intro q hq; have hq0 := ho436.lt q hq; omega)
       have hsp452 : ∀ q, Value.ownBlock v444 = some q → Value.ownBlock v ≠ some q := by intro q hq hb; have hq0 := hf64.lt q hb; rcases hob448 with h | h; (rw [h] at hq; first | (have hq1 := ho436.lt q hq; omega) | exact hsp442 q hq hb); (rw [h] at hq; cases hq; omega)
       have hsp453 : ∀ q, Value.ownBlock v444 = some q → Value.ownBlock v417 ≠ some q := by intro q hq hb; have hq0 := ho419.lt q hb; rcases hob448 with h | h; (rw [h] at hq; first | (have hq1 := ho436.lt q hq; omega) | exact hsp443 q hq hb); (rw [h] at hq; cases hq; omega)
       refine ⟨hs450, ?_⟩
       refine dr_one (i := 15) (by kernel_rfl) ?_
       refine po_eff ha449 rfl rfl rfl rfl (op_append (ts := #[]) (s := shRowN) ha449 rfl Try.underlying23 ti41 rfl pos_shRowN rfl rfl ho446 (hr323.ext pos_shRowN hs450) (by omega) (by omega) (by first | omega | (simp; omega)) (by first | omega | (simp; omega)) (.inl flat_shRowN)) ?_
       rintro v454 w455 ⟨ho456, hst457, hob458⟩ a459 ha459; clear ha449 a449
       have hs460 := hs450.stp hst457 (by intro q hq; have hq0 := ho446.lt q hq; omega)
       have hx461 := hx451.stp hst457 (by intro q hq; have hq0 := ho446.lt q hq; omega)
       have hzhx461 := hst457.size
       replace ho419 := ho419.stp hst457 (by intro q hq; have hq0 := ho446.lt q hq; omega)
       first | replace hN433 := hN433.stpF flat_shI64 hst457 ho446 rfl | replace hN433 := hN433.stp hst457 (by intro q hq; have hq0 := ho446.lt q hq; omega)
       have hsp462 : ∀ q, Value.ownBlock v454 = some q → Value.ownBlock v ≠ some q := by intro q hq hb; have hq0 := hf64.lt q hb; rcases hob458 with h | h; (rw [h] at hq; first | (have hq1 := ho446.lt q hq; omega) | exact hsp452 q hq hb); (rw [h] at hq; cases hq; omega)
       have hsp463 : ∀ q, Value.ownBlock v454 = some q → Value.ownBlock v417 ≠ some q := by intro q hq hb; have hq0 := ho419.lt q hb; rcases hob458 with h | h; (rw [h] at hq; first | (have hq1 := ho446.lt q hq; omega) | exact hsp453 q hq hb); (rw [h] at hq; cases hq; omega)
       refine ⟨hs460, ?_⟩
       refine dr_val (i := 16) ha459 rfl (by kernel_rfl) (by kernel_rfl) (by kernel_rfl) rfl rfl rfl hs460 (fun w' hw' => op_assign ha459 rfl rfl) ?_
       intro a464 ha464; clear ha459 a459
       refine dr_end (by kernel_rfl) ?_
       replace hf62 := hf62.ext hs460
       replace hf63 := hf63.ext hs460
       replace hf64 := hf64.ext hs460
       replace hr312 := hr312.ext pos_shRowN hs460
       replace hr323 := hr323.ext pos_shRowN hs460
       refine block_n ?_
       refine then_n ?_
       refine wp_region_lit ?_
       refine wl_val ha464 rfl rfl rfl (op_move ha464 rfl rfl) ?_
       intro a465 ha465; clear ha464 a464
       refine wl_val ha465 rfl rfl rfl ((op_add ha465 rfl rfl rfl).int (IntWalk.i64_in _ (by omega))) ?_
       intro a466 ha466; clear ha465 a465
       refine wl_val ha466 rfl rfl rfl (op_assign ha466 rfl rfl) ?_
       intro a467 ha467; clear ha466 a466
       refine wpList_nil ?_
       refine round_end (x := (i, v, zs)) ((i + 1), v454, ((zs.take k ++ [((x51 : List Int), (v58 : Value))]) ++ zs.drop k)) ?_ ?_
       ·
        refine ⟨(Sl.cons_ ha467 rfl rfl (Sl.cons_ ha467 rfl rfl (Sl.cons_ ha467 rfl rfl (Sl.cons_ ha467 rfl rfl (Sl.cons_ ha467 rfl (int_eq (by omega)) (Sl.nil_ ha467)))))), hx461, hf62, hf63, (ho456.fin (by omega) (by omega) (by omega)), (by omega), (by omega), (by (simp; omega)), (by have hic := insK_front (x := x51) hU hk2 (.inl (by rw [List.length_map]; omega)); rw [drop_cons hx51, srGo, hic] at hF; rw [← hF]; simp), (by have hic := insK_front (x := x51) hU hk2 (.inl (by rw [List.length_map]; omega)); have h9 := insK_up (x := x51) hU; rw [hic] at h9; simpa using h9), (by intro z hz; simp only [List.mem_append, List.mem_singleton, List.nil_append] at hz; rcases hz with (hz | hz) | hz; exact hR z (List.mem_of_mem_take hz); (subst hz; assumption); exact hR z (List.mem_of_mem_drop hz)), (by intro z hz; simp only [List.mem_append, List.mem_singleton, List.nil_append] at hz; rcases hz with (hz | hz) | hz; exact hM z (List.mem_of_mem_take hz); (subst hz; exact List.mem_of_getElem? hx51); exact hM z (List.mem_of_mem_drop hz))⟩
       ·show (t.2.length - ((i + 1)) : Nat) < t.2.length - i; omega
   ·
    rw [decide_eq_false c49] at ha48
    refine cond_f ha48 rfl ?_
    refine wp_exit ?_
    refine then_e ?_
    refine then_e ?_
    refine block_hit ?_
    refine then_n ?_
    refine wp_seq ?_
    refine wp_region_lit ?_
    refine wl_val ha48 rfl rfl rfl (op_fieldAddr (sz := 0) ha48 rfl Try.underlying28 rfl rfl ti22 rfl) ?_
    intro a468 ha468; clear ha48 a48
    refine wl_val ha468 rfl rfl rfl (op_loadF (off := 0) ha468 rfl Try.underlying22 rfl rfl hf39.cells rfl) ?_
    intro a469 ha469; clear ha468 a468
    refine wl_val ha469 rfl rfl rfl (op_move ha469 rfl rfl) ?_
    intro a470 ha470; clear ha469 a469
    refine wl_callR ha470 rfl rfl rfl (op_call ha470 rfl cb74 rfl) (c_spec_l31With _ v_t0 t.1 v ((zs.map (·.1))) (h_t0.ext pos_shStr hx38) (rdsR_shRowN (lo := w19.heap.size) (hi := w37.heap.size) (hf41.fin (by omega) (by omega) (by omega)) hR hx38) (by first | assumption | omega | (simp; omega)) (by first | assumption | omega | (simp; omega)) (by intro r hr9; obtain ⟨z, hz, rfl⟩ := List.mem_map.1 hr9; have h7 := (htrc26 _ (hM _ hz)).1; omega)) ?_
    rintro v471 w472 he473 ⟨u474, u476, z478, rfl, ho475, ho477, hN479, hE480⟩ a481 ha481; clear ha470 a470
    have hx482 := hx38.trans' he473
    have hzhx482 := he473.size
    replace hf39 := hf39.ext he473
    replace hf40 := hf40.ext he473
    replace hf41 := hf41.ext he473
    have hlhE480 := absLen hE480
    refine wl_effS ha481 rfl rfl (op_storeAll' ha481 rfl ti28 rfl rfl hf40 rfl rfl (by intro u hu; have hu : u ∈ ([u474, u476] : List Value) := hu; simp only [List.mem_cons, List.mem_nil_iff, or_false] at hu; rcases hu with rfl | rfl <;> first | rfl | exact ho475.one | exact ho477.one) rfl) ?_
    rintro w483 ⟨hb485, hst484, hz486⟩
    have hx487 := hx482.stp hst484 (by intro q hq; cases hq; exact (by omega))
    have hzhx487 := hst484.size
    replace hf39 := hf39.stp hst484 (by intro q hq; cases hq; omega)
    replace hf41 := hf41.stp hst484 (by intro q hq; cases hq; omega)
    replace ho475 := ho475.stp hst484 (by intro q hq; cases hq; omega)
    replace ho477 := ho477.stp hst484 (by intro q hq; cases hq; omega)
    replace hN479 := hN479.stp hst484 (by intro q hq; cases hq; omega)
    clear hf40
    refine wl_val ha481 rfl rfl rfl (op_assign ha481 rfl rfl) ?_
    intro a488 ha488; clear ha481 a481
    refine wpList_nil ?_
    refine then_n ?_
    refine wp_ret ?_
    refine retct ha488 rfl rfl rfl Try.underlying28 ti28 rfl hb485.cells ?_
    clear ha488 a488
    have hr := c26
    have hF2 : zs.map (·.1) = srGo column t.2 [] := (by rw [drop_nil (by omega)] at hF; exact hF)
    refine ret_mk hx487 ⟨u474, u476, z478, (tup2_eq (by rfl) (int_eq (by first | exact hr.symm | exact hr | rfl | omega))), ?_, ho477.fin (by omega) (by omega) (by omega), hN479.fin (by omega) (by omega), ?_⟩
    ·
     refine (ho475.fin (by omega) (by omega) (by omega)).cast ?_
     rw [srT_ok hr]
    ·
     rw [srT_ok hr]; exact (hE480).trans hF2
 ·
  rw [decide_eq_false c26] at ha25
  refine cond_t ha25 rfl ?_
  refine wp_seq ?_
  refine wp_region_lit ?_
  refine wl_val ha25 rfl rfl rfl (op_build (vs := []) (cs := #[.slice none 0 0, .slice none 0 0]) ha25 rfl Try.underlying28 ti28 bp28 rfl rfl) ?_
  intro a489 ha489; clear ha25 a25
  refine wl_val ha489 rfl rfl rfl (op_move ha489 rfl rfl) ?_
  intro a490 ha490; clear ha489 a489
  refine wl_effS ha490 rfl rfl (op_storeAll' ha490 rfl ti28 rfl rfl hb11 rfl rfl (by simp [Value.oneCell']) rfl) ?_
  rintro w491 ⟨hb493, hst492, hz494⟩
  have hx495 := hx22.stp hst492 (by intro q hq; cases hq; exact (by omega))
  have hzhx495 := hst492.size
  replace hb4 := hb4.stp hst492 (by intro q hq; cases hq; omega)
  clear hb11
  refine wl_val ha490 rfl rfl rfl (op_assign ha490 rfl rfl) ?_
  intro a496 ha496; clear ha490 a490
  refine wpList_nil ?_
  refine then_n ?_
  refine wp_ret ?_
  refine then_r ?_
  refine retct ha496 rfl rfl rfl Try.underlying28 ti28 rfl hb493.cells ?_
  clear ha496 a496
  have hr := c26
  refine ret_mk hx495 ⟨(.slice none 0 0), (.slice none 0 0), [], (tup2_eq (by rfl) (int_eq (by first | exact hr.symm | exact hr | rfl | omega))), ?_, Own.nil _ _ _ _ _ _, Nst.nil _ _ _ _ _ _, ?_⟩
  ·
   refine Own.nil_ _ _ _ _ _ _ ?_
   rw [srT_no (by first | exact hr | (rw [hr]; decide))]
  ·
   rw [srT_no (by first | exact hr | (rw [hr]; decide))]; rfl

theorem c_impl_SortRows (w0 : World) (v_t0 : Value) (v_t1 : Value) (t : List Str × List (List Int)) {S_t0 : Nat → Prop} {S_t1 : Nat → Prop} (column : Int) (h_t0 : Rds shStr S_t0 w0 v_t0 t.1) (h_t1 : Rds shRow S_t1 w0 v_t1 t.2) :
  Calls Try.prog 35 #[.agg #[v_t0, v_t1], .int .i64 column] w0 (Ret w0 (fun v w1 => ∃ r0_0 r0_1 z0_1, v = .tuple #[.agg #[r0_0, r0_1], .int .i64 (cdT t column)] ∧ Own shStr 9 w0.heap.size w0.heap.size w1.heap.size w1 r0_0 ((srT t column).1) ∧ Own shRowN 41 w0.heap.size w0.heap.size w1.heap.size w1 r0_1 z0_1 ∧ Nst shI64 2 (fun x : List Int => x) w0.heap.size w1.heap.size w1 z0_1 ∧ z0_1.map (·.1) = ((srT t column).2))) := by
 refine enter (N := 73) Try.func35 rfl rfl rfl ?_
 intro a0 ha0
 have hx0 := Ext.rfl' w0
 have hl_t0 := h_t0.length_le
 have hl_t1 := h_t1.length_le
 refine wp_seq ?_
 refine wp_region_lit ?_
 refine wl_eff ha0 rfl rfl rfl (op_box' ha0 rfl rfl rfl) ?_
 rintro _ w2 ⟨rfl, he3, hb4, hz5⟩ a6 ha6; clear ha0 a0
 have hx7 := hx0.trans' he3
 have hzhx7 := he3.size
 refine wl_eff ha6 rfl rfl rfl (op_alloc' rfl ti28 rfl) ?_
 rintro _ w9 ⟨rfl, he10, hb11, hz12⟩ a13 ha13; clear ha6 a6
 have hx14 := hx7.trans' he10
 have hzhx14 := he10.size
 replace hb4 := hb4.ext he10
 refine wl_val ha13 rfl rfl rfl (op_assign ha13 rfl rfl) ?_
 intro a15 ha15; clear ha13 a13
 refine wpList_nil ?_
 refine then_n ?_
 refine wp_seq ?_
 refine wp_seq ?_
 refine wp_region_lit ?_
 refine wl_val ha15 rfl rfl rfl (op_loadS ha15 rfl Try.underlying28 ti28 rfl rfl hb4.cells) ?_
 intro a16 ha16; clear ha15 a15
 refine wl_callR ha16 rfl rfl rfl (op_call ha16 rfl cb19 rfl) (c_impl_IsTable _ v_t0 v_t1 t (h_t0.ext pos_shStr hx14) (h_t1.ext pos_shRow hx14)) ?_
 rintro v17 w18 he19 rfl a20 ha20; clear ha16 a16
 have hx21 := hx14.trans' he19
 have hzhx21 := he19.size
 replace hb4 := hb4.ext he19
 replace hb11 := hb11.ext he19
 refine wl_val ha20 rfl rfl rfl (op_not ha20 rfl rfl) ?_
 intro a22 ha22; clear ha20 a20
 refine wpList_nil ?_
 refine then_n ?_
 rcases Bool.eq_false_or_eq_true (tabB t) with c23 | c23
 ·
  rw [c23] at ha22
  have htbc23 := tab_bd c23
  have htrc23 := tab_rows c23
  refine cond_f ha22 rfl ?_
  refine wp_skip ?_
  refine then_n ?_
  refine wp_seq ?_
  refine wp_seq ?_
  refine wp_region_lit ?_
  refine wl_val ha22 rfl rfl rfl (op_loadS ha22 rfl Try.underlying28 ti28 rfl rfl hb4.cells) ?_
  intro a24 ha24; clear ha22 a22
  refine wl_val ha24 rfl rfl rfl (op_move ha24 rfl rfl) ?_
  intro a25 ha25; clear ha24 a24
  refine wl_callR ha25 rfl rfl rfl (op_call ha25 rfl cb70 rfl) (c_impl_isColumn _ v_t0 v_t1 t column (h_t0.ext pos_shStr hx21) (h_t1.ext pos_shRow hx21)) ?_
  rintro v26 w27 he28 rfl a29 ha29; clear ha25 a25
  have hx30 := hx21.trans' he28
  have hzhx30 := he28.size
  replace hb4 := hb4.ext he28
  replace hb11 := hb11.ext he28
  refine wl_val ha29 rfl rfl rfl (op_not ha29 rfl rfl) ?_
  intro a31 ha31; clear ha29 a29
  refine wpList_nil ?_
  refine then_n ?_
  rcases Bool.eq_false_or_eq_true (colB t column) with c32 | c32
  ·
   rw [c32] at ha31
   have hcbc32 := col_bd c32
   refine cond_f ha31 rfl ?_
   refine wp_skip ?_
   refine then_n ?_
   refine wp_seq ?_
   refine wp_region_lit ?_
   refine wl_val ha31 rfl rfl rfl (op_loadS ha31 rfl Try.underlying28 ti28 rfl rfl hb4.cells) ?_
   intro a33 ha33; clear ha31 a31
   refine wl_callR ha33 rfl rfl rfl (op_call ha33 rfl cb75 rfl) (c_impl_copyTable _ v_t0 v_t1 t (h_t0.ext pos_shStr hx30) (h_t1.ext pos_shRow hx30) (by first | assumption | omega | (simp; omega))) ?_
   rintro v34 w35 he36 ⟨u37, u39, z41, rfl, ho38, ho40, hN42, hE43⟩ a44 ha44; clear ha33 a33
   have hx45 := hx30.trans' he36
   have hzhx45 := he36.size
   replace hb4 := hb4.ext he36
   replace hb11 := hb11.ext he36
   have hlhE43 := absLen hE43
   refine wl_eff ha44 rfl rfl rfl (op_alloc' rfl ti28 rfl) ?_
   rintro _ w47 ⟨rfl, he48, hb49, hz50⟩ a51 ha51; clear ha44 a44
   have hx52 := hx45.trans' he48
   have hzhx52 := he48.size
   replace hb4 := hb4.ext he48
   replace hb11 := hb11.ext he48
   replace ho38 := ho38.ext he48
   replace ho40 := ho40.ext he48
   replace hN42 := hN42.ext he48
   refine wl_effS ha51 rfl rfl (op_storeAll' ha51 rfl ti28 rfl rfl hb49 rfl rfl (by intro u hu; have hu : u ∈ ([u37, u39] : List Value) := hu; simp only [List.mem_cons, List.mem_nil_iff, or_false] at hu; rcases hu with rfl | rfl <;> first | rfl | exact ho38.one | exact ho40.one) rfl) ?_
   rintro w53 ⟨hb55, hst54, hz56⟩
   have hx57 := hx52.stp hst54 (by intro q hq; cases hq; exact (by omega))
   have hzhx57 := hst54.size
   replace hb4 := hb4.stp hst54 (by intro q hq; cases hq; omega)
   replace hb11 := hb11.stp hst54 (by intro q hq; cases hq; omega)
   replace ho38 := ho38.stp hst54 (by intro q hq; cases hq; omega)
   replace ho40 := ho40.stp hst54 (by intro q hq; cases hq; omega)
   replace hN42 := hN42.stp hst54 (by intro q hq; cases hq; omega)
   clear hb49
   refine wpList_nil ?_
   refine then_n ?_
   refine wp_seq ?_
   refine wp_seq ?_
   refine wp_region_lit ?_
   refine wl_val ha51 rfl rfl rfl (op_fieldAddr (sz := 0) ha51 rfl Try.underlying28 rfl rfl ti23 rfl) ?_
   intro a58 ha58; clear ha51 a51
   refine wl_val ha58 rfl rfl rfl (op_loadF (off := 1) ha58 rfl Try.underlying23 rfl rfl hb55.cells rfl) ?_
   intro a59 ha59; clear ha58 a58
   refine wl_val ha59 rfl rfl rfl (op_len_sl ha59 rfl Try.underlying23 rfl (ho40.rds pos_shRowN)) ?_
   intro a60 ha60; clear ha59 a59
   refine wl_val ha60 rfl rfl rfl (op_move ha60 rfl rfl) ?_
   intro a61 ha61; clear ha60 a60
   refine wpList_nil ?_
   refine then_n ?_
   refine wp_block ?_
   refine loop_inv (X := Nat × (List (List Int × Value))) (fun (⟨i, zs⟩ : Nat × (List (List Int × Value))) fr wl => Sl 73 fr [(1, .int .i64 column), (4, .pointer (some (⟨w2.heap.size, 0, none⟩ : Addr))), (6, .pointer (some (⟨w35.heap.size, 0, none⟩ : Addr))), (22, .int .i64 ((z41.length : Nat) : Int)), (23, .int .i64 ((i : Nat) : Int))] ∧ Ext w0 wl ∧ Box wl w2.heap.size 28 [.slice none 0 0, .slice none 0 0] ∧ Own shStr 9 w27.heap.size w27.heap.size w35.heap.size wl u37 (((t).1)) ∧ Own shRowN 41 w27.heap.size w27.heap.size w35.heap.size wl u39 zs ∧ Nst shI64 2 (fun x : List Int => x) w27.heap.size wl.heap.size wl zs ∧ Box wl w35.heap.size 28 [u37, u39] ∧ w53.heap.size ≤ wl.heap.size ∧ (i ≤ t.2.length) ∧ (zs.length = t.2.length) ∧ ((zs.map (·.1)).drop i = t.2.drop i) ∧ (srGo column (t.2.drop i) ((zs.map (·.1)).take i) = srGo column t.2 []) ∧ (UpK (rowC column) ((zs.map (·.1)).take i)) ∧ (∀ z ∈ zs, z.1 ∈ t.2)) (fun (⟨i, zs⟩ : Nat × (List (List Int × Value))) => t.2.length - i) (0, z41) ?_ ?_
   ·
    exact ⟨(Sl.cons_ ha61 rfl rfl (Sl.cons_ ha61 rfl rfl (Sl.cons_ ha61 rfl rfl (Sl.cons_ ha61 rfl rfl (Sl.cons_ ha61 rfl (int_eq (by omega)) (Sl.nil_ ha61)))))), hx57, hb11, ho38, (ho40.fin (by omega) (by omega) (by omega)), (hN42.fin (by omega) (by omega)), hb55, (by omega), (by omega), (by have h5 := absLen ‹List.map _ _ = t.2›; omega), (by rw [‹List.map _ _ = t.2›]), (by rfl), (by exact List.Pairwise.nil), (by intro z hz; rw [← ‹List.map _ _ = t.2›]; exact List.mem_map_of_mem hz)⟩
   ·
    clear ha61 a61
    rintro ⟨i, zs⟩ a69 w62 ⟨ha69, hx63, hf64, hf65, hf66, hf67, hf68, hzl70, hi, hl, hD, hF, hU, hM⟩
    have hzhx63 := hx63.size
    refine wp_seq ?_
    refine wp_region_lit ?_
    refine wl_val ha69 rfl rfl rfl (op_lss ha69 rfl rfl rfl) ?_
    intro a71 ha71; clear ha69 a69
    refine wpList_nil ?_
    refine then_n ?_
    refine wp_seq ?_
    by_cases c72 : ((i : Nat) : Int) < ((z41.length : Nat) : Int)
    ·
     rw [decide_eq_true c72] at ha71
     refine cond_t ha71 rfl ?_
     refine wp_skip ?_
     refine then_n ?_
     refine wp_seq ?_
     refine wp_block ?_
     refine wp_seq ?_
     refine wp_region_lit ?_
     refine wl_val ha71 rfl rfl rfl (op_move ha71 rfl rfl) ?_
     intro a73 ha73; clear ha71 a71
     refine wl_val ha73 rfl rfl rfl (op_assign ha73 rfl rfl) ?_
     intro a74 ha74; clear ha73 a73
     refine wpList_nil ?_
     refine then_n ?_
     refine wp_seq ?_
     refine wp_region_lit ?_
     refine wl_val ha74 rfl rfl rfl (op_move ha74 rfl rfl) ?_
     intro a75 ha75; clear ha74 a74
     refine wl_val ha75 rfl rfl rfl (op_assign ha75 rfl rfl) ?_
     intro a76 ha76; clear ha75 a75
     refine wpList_nil ?_
     refine then_n ?_
     refine wp_block ?_
     obtain ⟨x77, hx77⟩ := get_ex (xs := t.2) (j := i) (by omega)
     refine loop_inv (X := Nat × (List (List Int × Value))) (fun (⟨k, ys⟩ : Nat × (List (List Int × Value))) fr wl => Sl 73 fr [(1, .int .i64 column), (4, .pointer (some (⟨w2.heap.size, 0, none⟩ : Addr))), (6, .pointer (some (⟨w35.heap.size, 0, none⟩ : Addr))), (8, .int .i64 ((k : Nat) : Int)), (22, .int .i64 ((z41.length : Nat) : Int)), (23, .int .i64 ((i : Nat) : Int))] ∧ Ext w0 wl ∧ Box wl w2.heap.size 28 [.slice none 0 0, .slice none 0 0] ∧ Own shStr 9 w27.heap.size w27.heap.size w35.heap.size wl u37 (((t).1)) ∧ Own shRowN 41 w27.heap.size w27.heap.size w35.heap.size wl u39 ys ∧ Nst shI64 2 (fun x : List Int => x) w27.heap.size wl.heap.size wl ys ∧ Box wl w35.heap.size 28 [u37, u39] ∧ w62.heap.size ≤ wl.heap.size ∧ (k ≤ i) ∧ (ys.length = t.2.length) ∧ (ys.map (·.1) = ((zs.map (·.1)).take i ++ t.2.drop (i + 1)).take k ++ x77 :: ((zs.map (·.1)).take i ++ t.2.drop (i + 1)).drop k) ∧ (∀ (j : Nat) (y : List Int), k ≤ j → ((zs.map (·.1)).take i)[j]? = some y → rowC column x77 < rowC column y) ∧ (∀ z ∈ ys, z.1 ∈ t.2)) (fun (⟨k, ys⟩ : Nat × (List (List Int × Value))) => k) (i, zs) ?_ ?_
     ·
      exact ⟨(Sl.cons_ ha76 rfl rfl (Sl.cons_ ha76 rfl rfl (Sl.cons_ ha76 rfl rfl (Sl.cons_ ha76 rfl (int_eq (by omega)) (Sl.cons_ ha76 rfl rfl (Sl.cons_ ha76 rfl rfl (Sl.nil_ ha76))))))), hx63, hf64, hf65, (hf66.fin (by omega) (by omega) (by omega)), (hf67.fin (by omega) (by omega)), hf68, (by omega), (by omega), (by exact hl), (by have hl3 : ((zs.map (·.1)).take i).length = i := (by rw [List.length_take, List.length_map]; omega); rw [List.take_left' hl3, List.drop_left' hl3, ← drop_cons hx77, ← hD, List.take_append_drop]), (by intro j y hj hy; have := (List.getElem?_eq_some_iff.1 hy).1; rw [List.length_take] at this; omega), (by exact hM)⟩
     ·
      clear ha76 a76
      rintro ⟨k, ys⟩ a85 w78 ⟨ha85, hx79, hf80, hf81, hf82, hf83, hf84, hzl86, hk, hl2, hG, hk2, hM2⟩
      have hzhx79 := hx79.size
      refine wp_seq ?_
      refine wp_seq ?_
      refine dr_enter Ext follows_mixed ?_
      intro w87 he88
      have hx89 := hx79.trans' he88
      have hzhx89 := he88.size
      replace hf80 := hf80.ext he88
      replace hf81 := hf81.ext he88
      replace hf82 := hf82.ext he88
      replace hf83 := hf83.ext he88
      replace hf84 := hf84.ext he88
      have hs90 : Ext w87 w87 := Ext.rfl' _
      refine dr_val (i := 0) ha85 rfl (by kernel_rfl) (by kernel_rfl) (by kernel_rfl) rfl rfl rfl hs90 (fun w' hw' => op_move ha85 rfl rfl) ?_
      intro a91 ha91; clear ha85 a85
      refine dr_val (i := 1) ha91 rfl (by kernel_rfl) (by kernel_rfl) (by kernel_rfl) rfl rfl rfl hs90 (fun w' hw' => op_gtr ha91 rfl rfl rfl) ?_
      intro a92 ha92; clear ha91 a91
      refine dr_val (i := 2) ha92 rfl (by kernel_rfl) (by kernel_rfl) (by kernel_rfl) rfl rfl rfl hs90 (fun w' hw' => op_move ha92 rfl rfl) ?_
      intro a93 ha93; clear ha92 a92
      by_cases c94 : (0 : Int) < ((k : Nat) : Int)
      ·
       rw [decide_eq_true c94] at ha93
       refine dr_val (i := 3) ha93 rfl (by kernel_rfl) (by kernel_rfl) (by kernel_rfl) rfl rfl rfl hs90 (fun w' hw' => op_fieldAddr (sz := 0) ha93 rfl Try.underlying28 rfl rfl ti23 rfl) ?_
       intro a95 ha95; clear ha93 a93
       refine dr_val (i := 4) ha95 rfl (by kernel_rfl) (by kernel_rfl) (by kernel_rfl) rfl rfl rfl hs90 (fun w' hw' => op_loadF (off := 1) ha95 rfl Try.underlying23 rfl rfl (hf84.ext hw').cells rfl) ?_
       intro a96 ha96; clear ha95 a95
       refine dr_val (i := 5) ha96 rfl (by kernel_rfl) (by kernel_rfl) (by kernel_rfl) rfl rfl rfl hs90 (fun w' hw' => op_move ha96 rfl rfl) ?_
       intro a97 ha97; clear ha96 a96
       refine dr_val (i := 6) ha97 rfl (by kernel_rfl) (by kernel_rfl) (by kernel_rfl) rfl rfl rfl hs90 (fun w' hw' => (op_sub ha97 rfl rfl rfl).int (IntWalk.i64_in _ (by omega))) ?_
       intro a98 ha98; clear ha97 a97
       obtain ⟨x99, hx99⟩ := get_ex (xs := ys) (j := (k - 1)) (by omega)
       obtain ⟨p100, c101, hi102, hc103, hr104, hs105⟩ := Rds.at_ (hf82.rds pos_shRowN) hx99
       obtain ⟨rfl, b106⟩ := inv_shRowN hr104
       have hn107 : Own shI64 2 w27.heap.size w27.heap.size w78.heap.size w87 x99.2 x99.1 := hf83.get hx99
       obtain ⟨_, _⟩ : _ ∧ _ := hs105
       have hrbx99 := htrc23 _ (hM2 _ (List.mem_of_getElem? hx99))
       refine dr_val (i := 7) ha98 rfl (by kernel_rfl) (by kernel_rfl) (by kernel_rfl) rfl rfl rfl hs90 (fun w' hw' => op_indexAddr ha98 rfl Try.underlying23 ti41 rfl rfl (by omega) hi102) ?_
       intro a108 ha108; clear ha98 a98
       refine dr_val (i := 8) ha108 rfl (by kernel_rfl) (by kernel_rfl) (by kernel_rfl) rfl rfl rfl hs90 (fun w' hw' => op_loadH ha108 rfl Try.underlying41 rfl rfl (hc103.ext hw') rfl) ?_
       intro a109 ha109; clear ha108 a108
       refine dr_val (i := 9) ha109 rfl (by kernel_rfl) (by kernel_rfl) (by kernel_rfl) rfl rfl rfl hs90 (fun w' hw' => op_move ha109 rfl rfl) ?_
       intro a110 ha110; clear ha109 a109
       obtain ⟨x111, hx111⟩ := get_ex (xs := x99.1) (j := column.toNat) (by omega)
       obtain ⟨p112, c113, hi114, hc115, hr116, hs117⟩ := Rds.at_ (hn107.rds pos_shI64) hx111
       obtain ⟨rfl, b118⟩ := inv_shI64 hr116
       obtain ⟨_, _⟩ : _ ∧ _ := hs117
       refine dr_val (i := 10) ha110 rfl (by kernel_rfl) (by kernel_rfl) (by kernel_rfl) rfl rfl rfl hs90 (fun w' hw' => op_indexAddr ha110 rfl Try.underlying41 ti2 rfl rfl (by omega) hi114) ?_
       intro a119 ha119; clear ha110 a110
       refine dr_val (i := 11) ha119 rfl (by kernel_rfl) (by kernel_rfl) (by kernel_rfl) rfl rfl rfl hs90 (fun w' hw' => op_loadH ha119 rfl Try.underlying2 rfl rfl (hc115.ext hw') rfl) ?_
       intro a120 ha120; clear ha119 a119
       refine dr_val (i := 12) ha120 rfl (by kernel_rfl) (by kernel_rfl) (by kernel_rfl) rfl rfl rfl hs90 (fun w' hw' => op_fieldAddr (sz := 0) ha120 rfl Try.underlying28 rfl rfl ti23 rfl) ?_
       intro a121 ha121; clear ha120 a120
       refine dr_val (i := 13) ha121 rfl (by kernel_rfl) (by kernel_rfl) (by kernel_rfl) rfl rfl rfl hs90 (fun w' hw' => op_loadF (off := 1) ha121 rfl Try.underlying23 rfl rfl (hf84.ext hw').cells rfl) ?_
       intro a122 ha122; clear ha121 a121
       refine dr_val (i := 14) ha122 rfl (by kernel_rfl) (by kernel_rfl) (by kernel_rfl) rfl rfl rfl hs90 (fun w' hw' => op_move ha122 rfl rfl) ?_
       intro a123 ha123; clear ha122 a122
       obtain ⟨x124, hx124⟩ := get_ex (xs := ys) (j := k) (by omega)
       obtain ⟨p125, c126, hi127, hc128, hr129, hs130⟩ := Rds.at_ (hf82.rds pos_shRowN) hx124
       obtain ⟨rfl, b131⟩ := inv_shRowN hr129
       have hn132 : Own shI64 2 w27.heap.size w27.heap.size w78.heap.size w87 x124.2 x124.1 := hf83.get hx124
       obtain ⟨_, _⟩ : _ ∧ _ := hs130
       have hrbx124 := htrc23 _ (hM2 _ (List.mem_of_getElem? hx124))
       refine dr_val (i := 15) ha123 rfl (by kernel_rfl) (by kernel_rfl) (by kernel_rfl) rfl rfl rfl hs90 (fun w' hw' => op_indexAddr ha123 rfl Try.underlying23 ti41 rfl rfl (by omega) hi127) ?_
       intro a133 ha133; clear ha123 a123
       refine dr_val (i := 16) ha133 rfl (by kernel_rfl) (by kernel_rfl) (by kernel_rfl) rfl rfl rfl hs90 (fun w' hw' => op_loadH ha133 rfl Try.underlying41 rfl rfl (hc128.ext hw') rfl) ?_
       intro a134 ha134; clear ha133 a133
       refine dr_val (i := 17) ha134 rfl (by kernel_rfl) (by kernel_rfl) (by kernel_rfl) rfl rfl rfl hs90 (fun w' hw' => op_move ha134 rfl rfl) ?_
       intro a135 ha135; clear ha134 a134
       obtain ⟨x136, hx136⟩ := get_ex (xs := x124.1) (j := column.toNat) (by omega)
       obtain ⟨p137, c138, hi139, hc140, hr141, hs142⟩ := Rds.at_ (hn132.rds pos_shI64) hx136
       obtain ⟨rfl, b143⟩ := inv_shI64 hr141
       obtain ⟨_, _⟩ : _ ∧ _ := hs142
       refine dr_val (i := 18) ha135 rfl (by kernel_rfl) (by kernel_rfl) (by kernel_rfl) rfl rfl rfl hs90 (fun w' hw' => op_indexAddr ha135 rfl Try.underlying41 ti2 rfl rfl (by omega) hi139) ?_
       intro a144 ha144; clear ha135 a135
       refine dr_val (i := 19) ha144 rfl (by kernel_rfl) (by kernel_rfl) (by kernel_rfl) rfl rfl rfl hs90 (fun w' hw' => op_loadH ha144 rfl Try.underlying2 rfl rfl (hc140.ext hw') rfl) ?_
       intro a145 ha145; clear ha144 a144
       refine dr_val (i := 20) ha145 rfl (by kernel_rfl) (by kernel_rfl) (by kernel_rfl) rfl rfl rfl hs90 (fun w' hw' => op_gtr ha145 rfl rfl rfl) ?_
       intro a146 ha146; clear ha145 a145
       refine dr_val (i := 21) ha146 rfl (by kernel_rfl) (by kernel_rfl) (by kernel_rfl) rfl rfl rfl hs90 (fun w' hw' => op_pick_t ha146 rfl rfl rfl) ?_
       intro a147 ha147; clear ha146 a146
       refine dr_end (by kernel_rfl) ?_
       replace hf80 := hf80.ext hs90
       replace hf81 := hf81.ext hs90
       replace hf82 := hf82.ext hs90
       replace hf83 := hf83.ext hs90
       replace hf84 := hf84.ext hs90
       replace hn107 := hn107.ext hs90
       replace hc103 := hc103.ext hs90
       replace hc115 := hc115.ext hs90
       replace hn132 := hn132.ext hs90
       replace hc128 := hc128.ext hs90
       replace hc140 := hc140.ext hs90
       refine then_n ?_
       by_cases c148 : x136 < x111
       ·
        rw [decide_eq_true c148] at ha147
        refine cond_t ha147 rfl ?_
        refine wp_skip ?_
        refine then_n ?_
        refine wp_seq ?_
        refine wp_block ?_
        refine dr_enter (fun wa_ wb_ => Stp wa_ wb_ (Value.ownBlock u39)) follows_mixed ?_
        intro w149 he150
        have hx151 := hx89.trans' he150
        have hzhx151 := he150.size
        replace hf80 := hf80.ext he150
        replace hf81 := hf81.ext he150
        replace hf82 := hf82.ext he150
        replace hf83 := hf83.ext he150
        replace hf84 := hf84.ext he150
        replace hn107 := hn107.ext he150
        replace hc103 := hc103.ext he150
        replace hc115 := hc115.ext he150
        replace hn132 := hn132.ext he150
        replace hc128 := hc128.ext he150
        replace hc140 := hc140.ext he150
        have hs152 : Ext w149 w149 := Ext.rfl' _
        refine dr_val (i := 0) ha147 rfl (by kernel_rfl) (by kernel_rfl) (by kernel_rfl) rfl rfl rfl (Stp.of_ext hs152 _) (fun w' hw' => op_fieldAddr (sz := 0) ha147 rfl Try.underlying28 rfl rfl ti23 rfl) ?_
        intro a153 ha153; clear ha147 a147
        refine dr_val (i := 1) ha153 rfl (by kernel_rfl) (by kernel_rfl) (by kernel_rfl) rfl rfl rfl (Stp.of_ext hs152 _) (fun w' hw' => op_loadF (off := 1) ha153 rfl Try.underlying23 rfl rfl (hf84.stp hw' (by intro q hq; first | (have hq0 := hf82.lt q hq; omega) | (intro e; subst e; exact hf82.ne_box hf84 rfl hq))).cells rfl) ?_
        intro a154 ha154; clear ha153 a153
        refine dr_val (i := 2) ha154 rfl (by kernel_rfl) (by kernel_rfl) (by kernel_rfl) rfl rfl rfl (Stp.of_ext hs152 _) (fun w' hw' => op_move ha154 rfl rfl) ?_
        intro a155 ha155; clear ha154 a154
        refine dr_val (i := 3) ha155 rfl (by kernel_rfl) (by kernel_rfl) (by kernel_rfl) rfl rfl rfl (Stp.of_ext hs152 _) (fun w' hw' => (op_sub ha155 rfl rfl rfl).int (IntWalk.i64_in _ (by omega))) ?_
        intro a156 ha156; clear ha155 a155
        refine dr_val (i := 4) ha156 rfl (by kernel_rfl) (by kernel_rfl) (by kernel_rfl) rfl rfl rfl (Stp.of_ext hs152 _) (fun w' hw' => op_fieldAddr (sz := 0) ha156 rfl Try.underlying28 rfl rfl ti23 rfl) ?_
        intro a157 ha157; clear ha156 a156
        refine dr_val (i := 5) ha157 rfl (by kernel_rfl) (by kernel_rfl) (by kernel_rfl) rfl rfl rfl (Stp.of_ext hs152 _) (fun w' hw' => op_loadF (off := 1) ha157 rfl Try.underlying23 rfl rfl (hf84.stp hw' (by intro q hq; first | (have hq0 := hf82.lt q hq; omega) | (intro e; subst e; exact hf82.ne_box hf84 rfl hq))).cells rfl) ?_
        intro a158 ha158; clear ha157 a157
        refine dr_val (i := 6) ha158 rfl (by kernel_rfl) (by kernel_rfl) (by kernel_rfl) rfl rfl rfl (Stp.of_ext hs152 _) (fun w' hw' => op_move ha158 rfl rfl) ?_
        intro a159 ha159; clear ha158 a158
        refine dr_val (i := 7) ha159 rfl (by kernel_rfl) (by kernel_rfl) (by kernel_rfl) rfl rfl rfl (Stp.of_ext hs152 _) (fun w' hw' => op_fieldAddr (sz := 0) ha159 rfl Try.underlying28 rfl rfl ti23 rfl) ?_
        intro a160 ha160; clear ha159 a159
        refine dr_val (i := 8) ha160 rfl (by kernel_rfl) (by kernel_rfl) (by kernel_rfl) rfl rfl rfl (Stp.of_ext hs152 _) (fun w' hw' => op_loadF (off := 1) ha160 rfl Try.underlying23 rfl rfl (hf84.stp hw' (by intro q hq; first | (have hq0 := hf82.lt q hq; omega) | (intro e; subst e; exact hf82.ne_box hf84 rfl hq))).cells rfl) ?_
        intro a161 ha161; clear ha160 a160
        refine dr_val (i := 9) ha161 rfl (by kernel_rfl) (by kernel_rfl) (by kernel_rfl) rfl rfl rfl (Stp.of_ext hs152 _) (fun w' hw' => op_move ha161 rfl rfl) ?_
        intro a162 ha162; clear ha161 a161
        refine dr_val (i := 10) ha162 rfl (by kernel_rfl) (by kernel_rfl) (by kernel_rfl) rfl rfl rfl (Stp.of_ext hs152 _) (fun w' hw' => op_indexAddr ha162 rfl Try.underlying23 ti41 rfl rfl (by omega) hi127) ?_
        intro a163 ha163; clear ha162 a162
        refine dr_val (i := 12) ha163 rfl (by kernel_rfl) (by kernel_rfl) (by kernel_rfl) rfl rfl rfl (Stp.of_ext hs152 _) (fun w' hw' => op_fieldAddr (sz := 0) ha163 rfl Try.underlying28 rfl rfl ti23 rfl) ?_
        intro a164 ha164; clear ha163 a163
        refine dr_val (i := 13) ha164 rfl (by kernel_rfl) (by kernel_rfl) (by kernel_rfl) rfl rfl rfl (Stp.of_ext hs152 _) (fun w' hw' => op_loadF (off := 1) ha164 rfl Try.underlying23 rfl rfl (hf84.stp hw' (by intro q hq; first | (have hq0 := hf82.lt q hq; omega) | (intro e; subst e; exact hf82.ne_box hf84 rfl hq))).cells rfl) ?_
        intro a165 ha165; clear ha164 a164
        refine dr_val (i := 14) ha165 rfl (by kernel_rfl) (by kernel_rfl) (by kernel_rfl) rfl rfl rfl (Stp.of_ext hs152 _) (fun w' hw' => op_move ha165 rfl rfl) ?_
        intro a166 ha166; clear ha165 a165
        refine dr_val (i := 15) ha166 rfl (by kernel_rfl) (by kernel_rfl) (by kernel_rfl) rfl rfl rfl (Stp.of_ext hs152 _) (fun w' hw' => (op_sub ha166 rfl rfl rfl).int (IntWalk.i64_in _ (by omega))) ?_
        intro a167 ha167; clear ha166 a166
        refine dr_val (i := 16) ha167 rfl (by kernel_rfl) (by kernel_rfl) (by kernel_rfl) rfl rfl rfl (Stp.of_ext hs152 _) (fun w' hw' => op_indexAddr ha167 rfl Try.underlying23 ti41 rfl rfl (by omega) hi102) ?_
        intro a168 ha168; clear ha167 a167
        refine dr_two (i := 11) (j := 17) (by kernel_rfl) ?_ ?_
        ·
         refine po_to ha168 rfl rfl rfl rfl (op_loadH ha168 rfl Try.underlying41 rfl rfl (hc128.ext hs152) rfl) ?_
         intro a169 ha169; clear ha168 a168
         refine ⟨(Stp.of_ext hs152 _), ?_⟩
         refine dr_one (i := 17) (by kernel_rfl) ?_
         refine po_to ha169 rfl rfl rfl rfl (op_loadH ha169 rfl Try.underlying41 rfl rfl (hc103.ext hs152) rfl) ?_
         intro a170 ha170; clear ha169 a169
         refine ⟨(Stp.of_ext hs152 _), ?_⟩
         refine dr_val (i := 18) ha170 rfl (by kernel_rfl) (by kernel_rfl) (by kernel_rfl) rfl rfl rfl (Stp.of_ext hs152 _) (fun w' hw' => op_indexAddr ha170 rfl Try.underlying23 ti41 rfl rfl (by omega) hi102) ?_
         intro a171 ha171; clear ha170 a170
         refine dr_one (i := 19) (by kernel_rfl) ?_
         replace hf80 := hf80.ext hs152
         replace hf81 := hf81.ext hs152
         replace hf82 := hf82.ext hs152
         replace hf83 := hf83.ext hs152
         replace hf84 := hf84.ext hs152
         replace hn107 := hn107.ext hs152
         replace hc103 := hc103.ext hs152
         replace hc115 := hc115.ext hs152
         replace hn132 := hn132.ext hs152
         replace hc128 := hc128.ext hs152
         replace hc140 := hc140.ext hs152
         refine po_effS ha171 rfl rfl rfl (op_setElem (s := shRowN) (ds := [x124.2]) (S' := fun _ => False) ha171 rfl ti41 rfl rfl hn132.cells1 hf82 pos_shRowN hi102 (by omega) (mk_shRowN (((x124.1 : List Int), (x124.2 : Value))) hn132.one) (fun _ h => h.elim)) ?_
         rintro w172 ⟨ho174, hst173, hz175⟩
         have hx176 := hx151.stp hst173 (by intro q hq; have hq0 := hf82.lt q hq; omega)
         have hzhx176 := hst173.size
         replace hf80 := hf80.stp hst173 (by intro q hq; have hq0 := hf82.lt q hq; omega)
         first | replace hf81 := hf81.stp hst173 (by intro q hq; have hq0 := hf82.lt q hq; omega) | replace hf81 := hf81.stpF flat_shStr hst173 (hf81.ne hf82 rfl)
         first | replace hf83 := hf83.stpF flat_shI64 hst173 hf82 rfl | replace hf83 := hf83.stp hst173 (by intro q hq; have hq0 := hf82.lt q hq; omega)
         replace hf84 := hf84.stp hst173 (by intro q hq; have hq0 := hf82.lt q hq; omega)
         first | replace hn107 := hn107.stp hst173 (by intro q hq; have hq0 := hf82.lt q hq; omega) | replace hn107 := hn107.stpF flat_shI64 hst173 (hn107.ne hf82 rfl)
         first | replace hn132 := hn132.stp hst173 (by intro q hq; have hq0 := hf82.lt q hq; omega) | replace hn132 := hn132.stpF flat_shI64 hst173 (hn132.ne hf82 rfl)
         clear hf82
         have hlsho174 : ((ys.set ((k - 1)) (((x124.1 : List Int), (x124.2 : Value))))).length = ys.length := List.length_set
         have hs177 := (Stp.of_ext hs152 (Value.ownBlock u39)).trans' hst173
         refine ⟨hs177, ?_⟩
         obtain ⟨x178, hx178⟩ := get_ex (xs := (ys.set ((k - 1)) (((x124.1 : List Int), (x124.2 : Value))))) (j := k) (by omega)
         obtain ⟨p179, c180, hi181, hc182, hr183, hs184⟩ := Rds.at_ (ho174.rds pos_shRowN) hx178
         obtain ⟨rfl, b185⟩ := inv_shRowN hr183
         obtain ⟨_, _⟩ : _ ∧ _ := hs184
         refine dr_val (i := 20) ha171 rfl (by kernel_rfl) (by kernel_rfl) (by kernel_rfl) rfl rfl rfl hs177 (fun w' hw' => op_indexAddr ha171 rfl Try.underlying23 ti41 rfl rfl (by omega) hi181) ?_
         intro a186 ha186; clear ha171 a171
         refine dr_one (i := 21) (by kernel_rfl) ?_
         refine po_effS ha186 rfl rfl rfl (op_setElem (s := shRowN) (ds := [x99.2]) (S' := fun _ => False) ha186 rfl ti41 rfl rfl hn107.cells1 ho174 pos_shRowN hi181 (by omega) (mk_shRowN (((x99.1 : List Int), (x99.2 : Value))) hn107.one) (fun _ h => h.elim)) ?_
         rintro w187 ⟨ho189, hst188, hz190⟩
         have hx191 := hx176.stp hst188 (by intro q hq; have hq0 := ho174.lt q hq; omega)
         have hzhx191 := hst188.size
         replace hf80 := hf80.stp hst188 (by intro q hq; have hq0 := ho174.lt q hq; omega)
         first | replace hf81 := hf81.stp hst188 (by intro q hq; have hq0 := ho174.lt q hq; omega) | replace hf81 := hf81.stpF flat_shStr hst188 (hf81.ne ho174 rfl)
         first | replace hf83 := hf83.stpF flat_shI64 hst188 ho174 rfl | replace hf83 := hf83.stp hst188 (by intro q hq; have hq0 := ho174.lt q hq; omega)
         replace hf84 := hf84.stp hst188 (by intro q hq; have hq0 := ho174.lt q hq; omega)
         first | replace hn107 := hn107.stp hst188 (by intro q hq; have hq0 := ho174.lt q hq; omega) | replace hn107 := hn107.stpF flat_shI64 hst188 (hn107.ne ho174 rfl)
         first | replace hn132 := hn132.stp hst188 (by intro q hq; have hq0 := ho174.lt q hq; omega) | replace hn132 := hn132.stpF flat_shI64 hst188 (hn132.ne ho174 rfl)
         clear ho174
         have hlsho189 : ((((ys.set ((k - 1)) (((x124.1 : List Int), (x124.2 : Value))))).set k (((x99.1 : List Int), (x99.2 : Value))))).length = ((ys.set ((k - 1)) (((x124.1 : List Int), (x124.2 : Value))))).length := List.length_set
         have hs192 := hs177.trans' hst188
         refine ⟨hs192, ?_⟩
         refine dr_end (by kernel_rfl) ?_
         refine block_n ?_
         refine then_n ?_
         refine wp_region_lit ?_
         refine wl_val ha186 rfl rfl rfl (op_move ha186 rfl rfl) ?_
         intro a193 ha193; clear ha186 a186
         refine wl_val ha193 rfl rfl rfl ((op_sub ha193 rfl rfl rfl).int (IntWalk.i64_in _ (by omega))) ?_
         intro a194 ha194; clear ha193 a193
         refine wl_val ha194 rfl rfl rfl (op_assign ha194 rfl rfl) ?_
         intro a195 ha195; clear ha194 a194
         refine wpList_nil ?_
         refine round_end (x := (k, ys)) ((k - 1), (((ys.set ((k - 1)) (((x124.1 : List Int), (x124.2 : Value))))).set k (((x99.1 : List Int), (x99.2 : Value))))) ?_ ?_
         ·
          refine ⟨(Sl.cons_ ha195 rfl rfl (Sl.cons_ ha195 rfl rfl (Sl.cons_ ha195 rfl rfl (Sl.cons_ ha195 rfl (int_eq (by omega)) (Sl.cons_ ha195 rfl rfl (Sl.cons_ ha195 rfl rfl (Sl.nil_ ha195))))))), hx191, hf80, hf81, (ho189.fin (by omega) (by omega) (by omega)), (by exact (hf83.perm (pw_swap' (by omega) hx99 hx124)).fin (by omega) (by omega)), hf84, (by omega), (by omega), (by (simp only [List.length_set]; exact hl2)), (by obtain ⟨j, hj⟩ : ∃ j, k = j + 1 := ⟨k - 1, (by omega)⟩; subst hj; obtain ⟨hs1, hs2⟩ := swap_at hG (by rw [List.length_append, List.length_take, List.length_drop, List.length_map]; omega); have hc1 := map_at hx124; rw [hs1] at hc1; have hc2 := map_at hx99; rw [Nat.add_sub_cancel] at hc2; rw [hs2 j (by omega)] at hc2; have hc3 : x124.1 = x77 := (Option.some.inj hc1).symm; rw [List.map_set, List.map_set, hc3, Nat.add_sub_cancel]; exact swap_abs hG hc2), (by have hgt : rowC column x124.1 < rowC column x99.1 := (by rw [rowC_eq hx136, rowC_eq hx111]; omega); obtain ⟨j, hj⟩ : ∃ j, k = j + 1 := ⟨k - 1, (by omega)⟩; subst hj; obtain ⟨hs1, hs2⟩ := swap_at hG (by rw [List.length_append, List.length_take, List.length_drop, List.length_map]; omega); have hc1 := map_at hx124; rw [hs1] at hc1; have hc2 := map_at hx99; rw [Nat.add_sub_cancel] at hc2; rw [hs2 j (by omega)] at hc2; have hc3 : x124.1 = x77 := (Option.some.inj hc1).symm; rw [hc3] at hgt; intro q y hq hy; by_cases e : q = j; (subst e; rw [List.getElem?_append_left (by rw [List.length_take, List.length_map]; omega)] at hc2; rw [hc2] at hy; cases hy; exact hgt); exact hk2 q y (by omega) hy), (by intro z hz; rcases List.mem_or_eq_of_mem_set hz with hz | hz; (rcases List.mem_or_eq_of_mem_set hz with hz | hz; exact hM2 z hz; (subst hz; exact hM2 _ (List.mem_of_getElem? hx124))); (subst hz; exact hM2 _ (List.mem_of_getElem? hx99)))⟩
         ·show (((k - 1)) : Nat) < k; omega
        ·
         refine po_to ha168 rfl rfl rfl rfl (op_loadH ha168 rfl Try.underlying41 rfl rfl (hc103.ext hs152) rfl) ?_
         intro a196 ha196; clear ha168 a168
         refine ⟨(Stp.of_ext hs152 _), ?_⟩
         refine dr_one (i := 11) (by kernel_rfl) ?_
         refine po_to ha196 rfl rfl rfl rfl (op_loadH ha196 rfl Try.underlying41 rfl rfl (hc128.ext hs152) rfl) ?_
         intro a197 ha197; clear ha196 a196
         refine ⟨(Stp.of_ext hs152 _), ?_⟩
         refine dr_val (i := 18) ha197 rfl (by kernel_rfl) (by kernel_rfl) (by kernel_rfl) rfl rfl rfl (Stp.of_ext hs152 _) (fun w' hw' => op_indexAddr ha197 rfl Try.underlying23 ti41 rfl rfl (by omega) hi102) ?_
         intro a198 ha198; clear ha197 a197
         refine dr_one (i := 19) (by kernel_rfl) ?_
         replace hf80 := hf80.ext hs152
         replace hf81 := hf81.ext hs152
         replace hf82 := hf82.ext hs152
         replace hf83 := hf83.ext hs152
         replace hf84 := hf84.ext hs152
         replace hn107 := hn107.ext hs152
         replace hc103 := hc103.ext hs152
         replace hc115 := hc115.ext hs152
         replace hn132 := hn132.ext hs152
         replace hc128 := hc128.ext hs152
         replace hc140 := hc140.ext hs152
         refine po_effS ha198 rfl rfl rfl (op_setElem (s := shRowN) (ds := [x124.2]) (S' := fun _ => False) ha198 rfl ti41 rfl rfl hn132.cells1 hf82 pos_shRowN hi102 (by omega) (mk_shRowN (((x124.1 : List Int), (x124.2 : Value))) hn132.one) (fun _ h => h.elim)) ?_
         rintro w199 ⟨ho201, hst200, hz202⟩
         have hx203 := hx151.stp hst200 (by intro q hq; have hq0 := hf82.lt q hq; omega)
         have hzhx203 := hst200.size
         replace hf80 := hf80.stp hst200 (by intro q hq; have hq0 := hf82.lt q hq; omega)
         first | replace hf81 := hf81.stp hst200 (by intro q hq; have hq0 := hf82.lt q hq; omega) | replace hf81 := hf81.stpF flat_shStr hst200 (hf81.ne hf82 rfl)
         first | replace hf83 := hf83.stpF flat_shI64 hst200 hf82 rfl | replace hf83 := hf83.stp hst200 (by intro q hq; have hq0 := hf82.lt q hq; omega)
         replace hf84 := hf84.stp hst200 (by intro q hq; have hq0 := hf82.lt q hq; omega)
         first | replace hn107 := hn107.stp hst200 (by intro q hq; have hq0 := hf82.lt q hq; omega) | replace hn107 := hn107.stpF flat_shI64 hst200 (hn107.ne hf82 rfl)
         first | replace hn132 := hn132.stp hst200 (by intro q hq; have hq0 := hf82.lt q hq; omega) | replace hn132 := hn132.stpF flat_shI64 hst200 (hn132.ne hf82 rfl)
         clear hf82
         have hlsho201 : ((ys.set ((k - 1)) (((x124.1 : List Int), (x124.2 : Value))))).length = ys.length := List.length_set
         have hs204 := (Stp.of_ext hs152 (Value.ownBlock u39)).trans' hst200
         refine ⟨hs204, ?_⟩
         obtain ⟨x205, hx205⟩ := get_ex (xs := (ys.set ((k - 1)) (((x124.1 : List Int), (x124.2 : Value))))) (j := k) (by omega)
         obtain ⟨p206, c207, hi208, hc209, hr210, hs211⟩ := Rds.at_ (ho201.rds pos_shRowN) hx205
         obtain ⟨rfl, b212⟩ := inv_shRowN hr210
         obtain ⟨_, _⟩ : _ ∧ _ := hs211
         refine dr_val (i := 20) ha198 rfl (by kernel_rfl) (by kernel_rfl) (by kernel_rfl) rfl rfl rfl hs204 (fun w' hw' => op_indexAddr ha198 rfl Try.underlying23 ti41 rfl rfl (by omega) hi208) ?_
         intro a213 ha213; clear ha198 a198
         refine dr_one (i := 21) (by kernel_rfl) ?_
         refine po_effS ha213 rfl rfl rfl (op_setElem (s := shRowN) (ds := [x99.2]) (S' := fun _ => False) ha213 rfl ti41 rfl rfl hn107.cells1 ho201 pos_shRowN hi208 (by omega) (mk_shRowN (((x99.1 : List Int), (x99.2 : Value))) hn107.one) (fun _ h => h.elim)) ?_
         rintro w214 ⟨ho216, hst215, hz217⟩
         have hx218 := hx203.stp hst215 (by intro q hq; have hq0 := ho201.lt q hq; omega)
         have hzhx218 := hst215.size
         replace hf80 := hf80.stp hst215 (by intro q hq; have hq0 := ho201.lt q hq; omega)
         first | replace hf81 := hf81.stp hst215 (by intro q hq; have hq0 := ho201.lt q hq; omega) | replace hf81 := hf81.stpF flat_shStr hst215 (hf81.ne ho201 rfl)
         first | replace hf83 := hf83.stpF flat_shI64 hst215 ho201 rfl | replace hf83 := hf83.stp hst215 (by intro q hq; have hq0 := ho201.lt q hq; omega)
         replace hf84 := hf84.stp hst215 (by intro q hq; have hq0 := ho201.lt q hq; omega)
         first | replace hn107 := hn107.stp hst215 (by intro q hq; have hq0 := ho201.lt q hq; omega) | replace hn107 := hn107.stpF flat_shI64 hst215 (hn107.ne ho201 rfl)
         first | replace hn132 := hn132.stp hst215 (by intro q hq; have hq0 := ho201.lt q hq; omega) | replace hn132 := hn132.stpF flat_shI64 hst215 (hn132.ne ho201 rfl)
         clear ho201
         have hlsho216 : ((((ys.set ((k - 1)) (((x124.1 : List Int), (x124.2 : Value))))).set k (((x99.1 : List Int), (x99.2 : Value))))).length = ((ys.set ((k - 1)) (((x124.1 : List Int), (x124.2 : Value))))).length := List.length_set
         have hs219 := hs204.trans' hst215
         refine ⟨hs219, ?_⟩
         refine dr_end (by kernel_rfl) ?_
         refine block_n ?_
         refine then_n ?_
         refine wp_region_lit ?_
         refine wl_val ha213 rfl rfl rfl (op_move ha213 rfl rfl) ?_
         intro a220 ha220; clear ha213 a213
         refine wl_val ha220 rfl rfl rfl ((op_sub ha220 rfl rfl rfl).int (IntWalk.i64_in _ (by omega))) ?_
         intro a221 ha221; clear ha220 a220
         refine wl_val ha221 rfl rfl rfl (op_assign ha221 rfl rfl) ?_
         intro a222 ha222; clear ha221 a221
         refine wpList_nil ?_
         refine round_end (x := (k, ys)) ((k - 1), (((ys.set ((k - 1)) (((x124.1 : List Int), (x124.2 : Value))))).set k (((x99.1 : List Int), (x99.2 : Value))))) ?_ ?_
         ·
          refine ⟨(Sl.cons_ ha222 rfl rfl (Sl.cons_ ha222 rfl rfl (Sl.cons_ ha222 rfl rfl (Sl.cons_ ha222 rfl (int_eq (by omega)) (Sl.cons_ ha222 rfl rfl (Sl.cons_ ha222 rfl rfl (Sl.nil_ ha222))))))), hx218, hf80, hf81, (ho216.fin (by omega) (by omega) (by omega)), (by exact (hf83.perm (pw_swap' (by omega) hx99 hx124)).fin (by omega) (by omega)), hf84, (by omega), (by omega), (by (simp only [List.length_set]; exact hl2)), (by obtain ⟨j, hj⟩ : ∃ j, k = j + 1 := ⟨k - 1, (by omega)⟩; subst hj; obtain ⟨hs1, hs2⟩ := swap_at hG (by rw [List.length_append, List.length_take, List.length_drop, List.length_map]; omega); have hc1 := map_at hx124; rw [hs1] at hc1; have hc2 := map_at hx99; rw [Nat.add_sub_cancel] at hc2; rw [hs2 j (by omega)] at hc2; have hc3 : x124.1 = x77 := (Option.some.inj hc1).symm; rw [List.map_set, List.map_set, hc3, Nat.add_sub_cancel]; exact swap_abs hG hc2), (by have hgt : rowC column x124.1 < rowC column x99.1 := (by rw [rowC_eq hx136, rowC_eq hx111]; omega); obtain ⟨j, hj⟩ : ∃ j, k = j + 1 := ⟨k - 1, (by omega)⟩; subst hj; obtain ⟨hs1, hs2⟩ := swap_at hG (by rw [List.length_append, List.length_take, List.length_drop, List.length_map]; omega); have hc1 := map_at hx124; rw [hs1] at hc1; have hc2 := map_at hx99; rw [Nat.add_sub_cancel] at hc2; rw [hs2 j (by omega)] at hc2; have hc3 : x124.1 = x77 := (Option.some.inj hc1).symm; rw [hc3] at hgt; intro q y hq hy; by_cases e : q = j; (subst e; rw [List.getElem?_append_left (by rw [List.length_take, List.length_map]; omega)] at hc2; rw [hc2] at hy; cases hy; exact hgt); exact hk2 q y (by omega) hy), (by intro z hz; rcases List.mem_or_eq_of_mem_set hz with hz | hz; (rcases List.mem_or_eq_of_mem_set hz with hz | hz; exact hM2 z hz; (subst hz; exact hM2 _ (List.mem_of_getElem? hx124))); (subst hz; exact hM2 _ (List.mem_of_getElem? hx99)))⟩
         ·show (((k - 1)) : Nat) < k; omega
       ·
        rw [decide_eq_false c148] at ha147
        refine cond_f ha147 rfl ?_
        refine wp_exit ?_
        refine then_e ?_
        refine then_e ?_
        refine block_hit ?_
        refine block_n ?_
        refine then_n ?_
        refine wp_region_lit ?_
        refine wl_val ha147 rfl rfl rfl ((op_add ha147 rfl rfl rfl).int (IntWalk.i64_in _ (by omega))) ?_
        intro a223 ha223; clear ha147 a147
        refine wl_val ha223 rfl rfl rfl (op_move ha223 rfl rfl) ?_
        intro a224 ha224; clear ha223 a223
        refine wpList_nil ?_
        refine round_end (x := (i, zs)) ((i + 1), ys) ?_ ?_
        ·
         refine ⟨(Sl.cons_ ha224 rfl rfl (Sl.cons_ ha224 rfl rfl (Sl.cons_ ha224 rfl rfl (Sl.cons_ ha224 rfl rfl (Sl.cons_ ha224 rfl (int_eq (by omega)) (Sl.nil_ ha224)))))), hx89, hf80, hf81, (hf82.fin (by omega) (by omega) (by omega)), (hf83.fin (by omega) (by omega)), hf84, (by omega), (by omega), (by exact hl2), (by have hl3 : ((zs.map (·.1)).take i).length = i := (by rw [List.length_take, List.length_map]; omega); obtain ⟨hp1, hp2⟩ := ins_split (S := (zs.map (·.1)).take i) (T := t.2.drop (i + 1)) (x := x77) (k := k) (by omega); rw [← hG, hl3] at hp1 hp2; have hng : ¬ rowC column x124.1 < rowC column x99.1 := (by rw [rowC_eq hx136, rowC_eq hx111]; omega); have hs9 := swap_at hG (by rw [List.length_append, List.length_take, List.length_drop, List.length_map]; omega); have hc1 := map_at hx124; rw [hs9.1] at hc1; have hc2 := map_at hx99; rw [hs9.2 (k - 1) (by omega), List.getElem?_append_left (by omega)] at hc2; rw [← Option.some.inj hc1] at hng; have hic := insK_back (x := x77) hU hk2 (.inr ⟨_, hc2, hng⟩); exact hp2), (by have hl3 : ((zs.map (·.1)).take i).length = i := (by rw [List.length_take, List.length_map]; omega); obtain ⟨hp1, hp2⟩ := ins_split (S := (zs.map (·.1)).take i) (T := t.2.drop (i + 1)) (x := x77) (k := k) (by omega); rw [← hG, hl3] at hp1 hp2; have hng : ¬ rowC column x124.1 < rowC column x99.1 := (by rw [rowC_eq hx136, rowC_eq hx111]; omega); have hs9 := swap_at hG (by rw [List.length_append, List.length_take, List.length_drop, List.length_map]; omega); have hc1 := map_at hx124; rw [hs9.1] at hc1; have hc2 := map_at hx99; rw [hs9.2 (k - 1) (by omega), List.getElem?_append_left (by omega)] at hc2; rw [← Option.some.inj hc1] at hng; have hic := insK_back (x := x77) hU hk2 (.inr ⟨_, hc2, hng⟩); rw [hp1, ← hic]; rw [drop_cons hx77, srGo] at hF; exact hF), (by have hl3 : ((zs.map (·.1)).take i).length = i := (by rw [List.length_take, List.length_map]; omega); obtain ⟨hp1, hp2⟩ := ins_split (S := (zs.map (·.1)).take i) (T := t.2.drop (i + 1)) (x := x77) (k := k) (by omega); rw [← hG, hl3] at hp1 hp2; have hng : ¬ rowC column x124.1 < rowC column x99.1 := (by rw [rowC_eq hx136, rowC_eq hx111]; omega); have hs9 := swap_at hG (by rw [List.length_append, List.length_take, List.length_drop, List.length_map]; omega); have hc1 := map_at hx124; rw [hs9.1] at hc1; have hc2 := map_at hx99; rw [hs9.2 (k - 1) (by omega), List.getElem?_append_left (by omega)] at hc2; rw [← Option.some.inj hc1] at hng; have hic := insK_back (x := x77) hU hk2 (.inr ⟨_, hc2, hng⟩); rw [hp1, ← hic]; exact insK_up hU), (by exact hM2)⟩
        ·show (t.2.length - ((i + 1)) : Nat) < t.2.length - i; omega
      ·
       rw [decide_eq_false c94] at ha93
       refine dr_skip (i := 3) ha93 rfl (by kernel_rfl) (by kernel_rfl) (by kernel_rfl) rfl rfl rfl hs90 ?_
       intro a225 ha225; clear ha93 a93
       refine dr_skip (i := 4) ha225 rfl (by kernel_rfl) (by kernel_rfl) (by kernel_rfl) rfl rfl rfl hs90 ?_
       intro a226 ha226; clear ha225 a225
       refine dr_skip (i := 5) ha226 rfl (by kernel_rfl) (by kernel_rfl) (by kernel_rfl) rfl rfl rfl hs90 ?_
       intro a227 ha227; clear ha226 a226
       refine dr_skip (i := 6) ha227 rfl (by kernel_rfl) (by kernel_rfl) (by kernel_rfl) rfl rfl rfl hs90 ?_
       intro a228 ha228; clear ha227 a227
       refine dr_skip (i := 7) ha228 rfl (by kernel_rfl) (by kernel_rfl) (by kernel_rfl) rfl rfl rfl hs90 ?_
       intro a229 ha229; clear ha228 a228
       refine dr_skip (i := 8) ha229 rfl (by kernel_rfl) (by kernel_rfl) (by kernel_rfl) rfl rfl rfl hs90 ?_
       intro a230 ha230; clear ha229 a229
       refine dr_skip (i := 9) ha230 rfl (by kernel_rfl) (by kernel_rfl) (by kernel_rfl) rfl rfl rfl hs90 ?_
       intro a231 ha231; clear ha230 a230
       refine dr_skip (i := 10) ha231 rfl (by kernel_rfl) (by kernel_rfl) (by kernel_rfl) rfl rfl rfl hs90 ?_
       intro a232 ha232; clear ha231 a231
       refine dr_skip (i := 11) ha232 rfl (by kernel_rfl) (by kernel_rfl) (by kernel_rfl) rfl rfl rfl hs90 ?_
       intro a233 ha233; clear ha232 a232
       refine dr_skip (i := 12) ha233 rfl (by kernel_rfl) (by kernel_rfl) (by kernel_rfl) rfl rfl rfl hs90 ?_
       intro a234 ha234; clear ha233 a233
       refine dr_skip (i := 13) ha234 rfl (by kernel_rfl) (by kernel_rfl) (by kernel_rfl) rfl rfl rfl hs90 ?_
       intro a235 ha235; clear ha234 a234
       refine dr_skip (i := 14) ha235 rfl (by kernel_rfl) (by kernel_rfl) (by kernel_rfl) rfl rfl rfl hs90 ?_
       intro a236 ha236; clear ha235 a235
       refine dr_skip (i := 15) ha236 rfl (by kernel_rfl) (by kernel_rfl) (by kernel_rfl) rfl rfl rfl hs90 ?_
       intro a237 ha237; clear ha236 a236
       refine dr_skip (i := 16) ha237 rfl (by kernel_rfl) (by kernel_rfl) (by kernel_rfl) rfl rfl rfl hs90 ?_
       intro a238 ha238; clear ha237 a237
       refine dr_skip (i := 17) ha238 rfl (by kernel_rfl) (by kernel_rfl) (by kernel_rfl) rfl rfl rfl hs90 ?_
       intro a239 ha239; clear ha238 a238
       refine dr_skip (i := 18) ha239 rfl (by kernel_rfl) (by kernel_rfl) (by kernel_rfl) rfl rfl rfl hs90 ?_
       intro a240 ha240; clear ha239 a239
       refine dr_skip (i := 19) ha240 rfl (by kernel_rfl) (by kernel_rfl) (by kernel_rfl) rfl rfl rfl hs90 ?_
       intro a241 ha241; clear ha240 a240
       refine dr_skip (i := 20) ha241 rfl (by kernel_rfl) (by kernel_rfl) (by kernel_rfl) rfl rfl rfl hs90 ?_
       intro a242 ha242; clear ha241 a241
       refine dr_val (i := 21) ha242 rfl (by kernel_rfl) (by kernel_rfl) (by kernel_rfl) rfl rfl rfl hs90 (fun w' hw' => op_pick_f ha242 rfl rfl rfl) ?_
       intro a243 ha243; clear ha242 a242
       refine dr_end (by kernel_rfl) ?_
       replace hf80 := hf80.ext hs90
       replace hf81 := hf81.ext hs90
       replace hf82 := hf82.ext hs90
       replace hf83 := hf83.ext hs90
       replace hf84 := hf84.ext hs90
       refine then_n ?_
       refine cond_f ha243 rfl ?_
       refine wp_exit ?_
       refine then_e ?_
       refine then_e ?_
       refine block_hit ?_
       refine block_n ?_
       refine then_n ?_
       refine wp_region_lit ?_
       refine wl_val ha243 rfl rfl rfl ((op_add ha243 rfl rfl rfl).int (IntWalk.i64_in _ (by omega))) ?_
       intro a244 ha244; clear ha243 a243
       refine wl_val ha244 rfl rfl rfl (op_move ha244 rfl rfl) ?_
       intro a245 ha245; clear ha244 a244
       refine wpList_nil ?_
       refine round_end (x := (i, zs)) ((i + 1), ys) ?_ ?_
       ·
        refine ⟨(Sl.cons_ ha245 rfl rfl (Sl.cons_ ha245 rfl rfl (Sl.cons_ ha245 rfl rfl (Sl.cons_ ha245 rfl rfl (Sl.cons_ ha245 rfl (int_eq (by omega)) (Sl.nil_ ha245)))))), hx89, hf80, hf81, (hf82.fin (by omega) (by omega) (by omega)), (hf83.fin (by omega) (by omega)), hf84, (by omega), (by omega), (by exact hl2), (by have hl3 : ((zs.map (·.1)).take i).length = i := (by rw [List.length_take, List.length_map]; omega); obtain ⟨hp1, hp2⟩ := ins_split (S := (zs.map (·.1)).take i) (T := t.2.drop (i + 1)) (x := x77) (k := k) (by omega); rw [← hG, hl3] at hp1 hp2; have hic := insK_back (x := x77) hU hk2 (.inl (by omega)); exact hp2), (by have hl3 : ((zs.map (·.1)).take i).length = i := (by rw [List.length_take, List.length_map]; omega); obtain ⟨hp1, hp2⟩ := ins_split (S := (zs.map (·.1)).take i) (T := t.2.drop (i + 1)) (x := x77) (k := k) (by omega); rw [← hG, hl3] at hp1 hp2; have hic := insK_back (x := x77) hU hk2 (.inl (by omega)); rw [hp1, ← hic]; rw [drop_cons hx77, srGo] at hF; exact hF), (by have hl3 : ((zs.map (·.1)).take i).length = i := (by rw [List.length_take, List.length_map]; omega); obtain ⟨hp1, hp2⟩ := ins_split (S := (zs.map (·.1)).take i) (T := t.2.drop (i + 1)) (x := x77) (k := k) (by omega); rw [← hG, hl3] at hp1 hp2; have hic := insK_back (x := x77) hU hk2 (.inl (by omega)); rw [hp1, ← hic]; exact insK_up hU), (by exact hM2)⟩
       ·show (t.2.length - ((i + 1)) : Nat) < t.2.length - i; omega
    ·
     rw [decide_eq_false c72] at ha71
     refine cond_f ha71 rfl ?_
     refine wp_exit ?_
     refine then_e ?_
     refine then_e ?_
     refine block_hit ?_
     refine then_n ?_
     refine wp_seq ?_
     refine wp_region_lit ?_
     refine wl_val ha71 rfl rfl rfl (op_loadS ha71 rfl Try.underlying28 ti28 rfl rfl hf68.cells) ?_
     intro a246 ha246; clear ha71 a71
     refine wl_effS ha246 rfl rfl (op_storeAll' ha246 rfl ti28 rfl rfl hf64 rfl rfl (by intro u hu; have hu : u ∈ ([u37, u39] : List Value) := hu; simp only [List.mem_cons, List.mem_nil_iff, or_false] at hu; rcases hu with rfl | rfl <;> first | rfl | exact hf65.one | exact hf66.one) rfl) ?_
     rintro w247 ⟨hb249, hst248, hz250⟩
     have hx251 := hx63.stp hst248 (by intro q hq; cases hq; exact (by omega))
     have hzhx251 := hst248.size
     replace hf65 := hf65.stp hst248 (by intro q hq; cases hq; omega)
     replace hf66 := hf66.stp hst248 (by intro q hq; cases hq; omega)
     replace hf67 := hf67.stp hst248 (by intro q hq; cases hq; omega)
     replace hf68 := hf68.stp hst248 (by intro q hq; cases hq; omega)
     clear hf64
     refine wl_val ha246 rfl rfl rfl (op_assign ha246 rfl rfl) ?_
     intro a252 ha252; clear ha246 a246
     refine wpList_nil ?_
     refine then_n ?_
     refine wp_ret ?_
     refine retct ha252 rfl rfl rfl Try.underlying28 ti28 rfl hb249.cells ?_
     clear ha252 a252
     have hr := (cdT_0 c23 c32)
     have hF2 : zs.map (·.1) = srGo column t.2 [] := (by rw [drop_nil (by omega), srGo, List.take_of_length_le (by rw [List.length_map]; omega)] at hF; exact hF)
     refine ret_mk hx251 ⟨u37, u39, zs, (tup2_eq (by rfl) (int_eq (by first | exact hr.symm | exact hr | rfl | omega))), ?_, hf66.fin (by omega) (by omega) (by omega), hf67.fin (by omega) (by omega), ?_⟩
     ·
      refine (hf65.fin (by omega) (by omega) (by omega)).cast ?_
      rw [srT_ok hr]
     ·
      rw [srT_ok hr]; exact hF2
  ·
   rw [c32] at ha31
   refine cond_t ha31 rfl ?_
   refine wp_seq ?_
   refine wp_region_lit ?_
   refine wl_val ha31 rfl rfl rfl (op_build (vs := []) (cs := #[.slice none 0 0, .slice none 0 0]) ha31 rfl Try.underlying28 ti28 bp28 rfl rfl) ?_
   intro a253 ha253; clear ha31 a31
   refine wl_effS ha253 rfl rfl (op_storeAll' ha253 rfl ti28 rfl rfl hb11 rfl rfl (by simp [Value.oneCell']) rfl) ?_
   rintro w254 ⟨hb256, hst255, hz257⟩
   have hx258 := hx30.stp hst255 (by intro q hq; cases hq; exact (by omega))
   have hzhx258 := hst255.size
   replace hb4 := hb4.stp hst255 (by intro q hq; cases hq; omega)
   clear hb11
   refine wl_val ha253 rfl rfl rfl (op_assign ha253 rfl rfl) ?_
   intro a259 ha259; clear ha253 a253
   refine wpList_nil ?_
   refine then_n ?_
   refine wp_ret ?_
   refine then_r ?_
   refine retct ha259 rfl rfl rfl Try.underlying28 ti28 rfl hb256.cells ?_
   clear ha259 a259
   have hr := (cdT_2 c23 c32)
   refine ret_mk hx258 ⟨(.slice none 0 0), (.slice none 0 0), [], (tup2_eq (by rfl) (int_eq (by first | exact hr.symm | exact hr | rfl | omega))), ?_, Own.nil _ _ _ _ _ _, Nst.nil _ _ _ _ _ _, ?_⟩
   ·
    refine Own.nil_ _ _ _ _ _ _ ?_
    rw [srT_no (by first | exact hr | (rw [hr]; decide))]
   ·
    rw [srT_no (by first | exact hr | (rw [hr]; decide))]; rfl
 ·
  rw [c23] at ha22
  refine cond_t ha22 rfl ?_
  refine wp_seq ?_
  refine wp_region_lit ?_
  refine wl_val ha22 rfl rfl rfl (op_build (vs := []) (cs := #[.slice none 0 0, .slice none 0 0]) ha22 rfl Try.underlying28 ti28 bp28 rfl rfl) ?_
  intro a260 ha260; clear ha22 a22
  refine wl_effS ha260 rfl rfl (op_storeAll' ha260 rfl ti28 rfl rfl hb11 rfl rfl (by simp [Value.oneCell']) rfl) ?_
  rintro w261 ⟨hb263, hst262, hz264⟩
  have hx265 := hx21.stp hst262 (by intro q hq; cases hq; exact (by omega))
  have hzhx265 := hst262.size
  replace hb4 := hb4.stp hst262 (by intro q hq; cases hq; omega)
  clear hb11
  refine wl_val ha260 rfl rfl rfl (op_assign ha260 rfl rfl) ?_
  intro a266 ha266; clear ha260 a260
  refine wpList_nil ?_
  refine then_n ?_
  refine wp_ret ?_
  refine then_r ?_
  refine retct ha266 rfl rfl rfl Try.underlying28 ti28 rfl hb263.cells ?_
  clear ha266 a266
  have hr := (cdT_1 (c := column) c23)
  refine ret_mk hx265 ⟨(.slice none 0 0), (.slice none 0 0), [], (tup2_eq (by rfl) (int_eq (by first | exact hr.symm | exact hr | rfl | omega))), ?_, Own.nil _ _ _ _ _ _, Nst.nil _ _ _ _ _ _, ?_⟩
  ·
   refine Own.nil_ _ _ _ _ _ _ ?_
   rw [srT_no (by first | exact hr | (rw [hr]; decide))]
  ·
   rw [srT_no (by first | exact hr | (rw [hr]; decide))]; rfl


end Go.Proofs.Ytjpldgicibnkcaa
