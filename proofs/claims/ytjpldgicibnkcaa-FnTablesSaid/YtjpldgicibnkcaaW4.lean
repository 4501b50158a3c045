/- Copies of tables. -/
import Derived.Test.YtjpldgicibnkcaaW2
namespace Go.Proofs.Ytjpldgicibnkcaa
open Go Go.RowKit

/-- A row of slices that belong to somebody else, read as a list of lists. -/
theorem rdsR_shRowN {e : TypeId} {lo hi : Nat} {S : Nat → Prop} {w0 w : World} {v : Value} {zs : List (List Int × Value)} (ho : Own shRowN e lo lo hi w v zs) (hn : ∀ z ∈ zs, Rds shI64 S w0 z.2 z.1) (hx : Ext w0 w) : Rds shRow (fun i => Iv lo hi i ∨ S i) w v (zs.map (·.1)) :=
  own_rds pos_shRowN rfl ho (fun _ h => .inl h) fun _ c z h hz => by
    obtain ⟨rfl, _⟩ := h
    exact ⟨_, rfl, ((hn z hz).ext pos_shI64 hx).keep pos_shI64 fun k hk _ => ⟨.inr hk, rfl⟩⟩

theorem c_impl_copyList (w0 : World) (v_list : Value) (list : List Int) {S_list : Nat → Prop} (h_list : Rds shI64 S_list w0 v_list list) (g0 : list.length ≤ 1048576) :
  Calls Try.prog 84 #[v_list] w0 (Ret w0 (fun v w1 => Own shI64 2 w0.heap.size w0.heap.size w1.heap.size w1 v (list))) := by
 refine enter (N := 6) Try.func84 rfl rfl rfl ?_
 intro a0 ha0
 have hx0 := Ext.rfl' w0
 have hl_list := h_list.length_le
 refine wp_seq ?_
 refine wp_region_lit ?_
 refine wl_val ha0 rfl rfl rfl (op_assign ha0 rfl rfl) ?_
 intro a1 ha1; clear ha0 a0
 refine wpList_nil ?_
 refine then_n ?_
 refine wp_seq ?_
 refine wp_region_lit ?_
 refine wl_eff ha1 rfl rfl rfl (op_buildSlice (s := shI64) (xs := ([] : List Int)) (cs := []) (vs := []) (S := fun _ => False) (le := w0.heap.size) ha1 rfl pos_shI64 Try.underlying41 ti2 rfl rfl (by decide) (by kernel_rfl) rfl (fun _ h => h.elim)) ?_
 rintro v2 w3 ⟨ho4, he5, hob6⟩ a7 ha7; clear ha1 a1
 have hx8 := hx0.trans' he5
 have hzhx8 := he5.size
 refine wl_val ha7 rfl rfl rfl (op_move ha7 rfl rfl) ?_
 intro a9 ha9; clear ha7 a7
 refine wl_eff ha9 rfl rfl rfl (op_append (ts := #[]) (s := shI64) ha9 rfl Try.underlying41 ti2 rfl pos_shI64 rfl rfl ho4 (h_list.ext pos_shI64 hx8) (by omega) (by omega) (by first | omega | (simp; omega)) (by first | omega | (simp; omega)) (.inl flat_shI64)) ?_
 rintro v10 w11 ⟨ho12, hst13, hob14⟩ a15 ha15; clear ha9 a9
 replace ho12 := ho12.cast (List.nil_append _)
 have hx16 := hx8.stp hst13 (by intro q hq; have hq0 := ho4.lt q hq; omega)
 have hzhx16 := hst13.size
 refine wl_val ha15 rfl rfl rfl (op_assign ha15 rfl rfl) ?_
 intro a17 ha17; clear ha15 a15
 refine wpList_nil ?_
 refine then_n ?_
 refine wp_ret ?_
 refine ret1 ha17 rfl rfl ?_
 clear ha17 a17
 refine ret_mk hx16 ?_
 refine (ho12.fin (by omega) (by omega) (by omega)).cast ?_
 rfl

theorem c_spec_l01Own (w0 : World) (v_list : Value) (list : List Int) {S_list : Nat → Prop} (h_list : Rds shI64 S_list w0 v_list list) (g0 : list.length ≤ 1048576) :
  Calls Try.prog 86 #[v_list] w0 (Ret w0 (fun v w1 => Own shI64 2 w0.heap.size w0.heap.size w1.heap.size w1 v (list))) := by
 refine enter (N := 6) Try.func86 rfl rfl rfl ?_
 intro a0 ha0
 have hx0 := Ext.rfl' w0
 have hl_list := h_list.length_le
 refine wp_seq ?_
 refine wp_region_lit ?_
 refine wl_val ha0 rfl rfl rfl (op_assign ha0 rfl rfl) ?_
 intro a1 ha1; clear ha0 a0
 refine wpList_nil ?_
 refine then_n ?_
 refine wp_seq ?_
 refine wp_region_lit ?_
 refine wl_eff ha1 rfl rfl rfl (op_buildSlice (s := shI64) (xs := ([] : List Int)) (cs := []) (vs := []) (S := fun _ => False) (le := w0.heap.size) ha1 rfl pos_shI64 Try.underlying41 ti2 rfl rfl (by decide) (by kernel_rfl) rfl (fun _ h => h.elim)) ?_
 rintro v2 w3 ⟨ho4, he5, hob6⟩ a7 ha7; clear ha1 a1
 have hx8 := hx0.trans' he5
 have hzhx8 := he5.size
 refine wl_val ha7 rfl rfl rfl (op_move ha7 rfl rfl) ?_
 intro a9 ha9; clear ha7 a7
 refine wl_eff ha9 rfl rfl rfl (op_append (ts := #[]) (s := shI64) ha9 rfl Try.underlying41 ti2 rfl pos_shI64 rfl rfl ho4 (h_list.ext pos_shI64 hx8) (by omega) (by omega) (by first | omega | (simp; omega)) (by first | omega | (simp; omega)) (.inl flat_shI64)) ?_
 rintro v10 w11 ⟨ho12, hst13, hob14⟩ a15 ha15; clear ha9 a9
 replace ho12 := ho12.cast (List.nil_append _)
 have hx16 := hx8.stp hst13 (by intro q hq; have hq0 := ho4.lt q hq; omega)
 have hzhx16 := hst13.size
 refine wl_val ha15 rfl rfl rfl (op_assign ha15 rfl rfl) ?_
 intro a17 ha17; clear ha15 a15
 refine wpList_nil ?_
 refine then_n ?_
 refine wp_ret ?_
 refine ret1 ha17 rfl rfl ?_
 clear ha17 a17
 refine ret_mk hx16 ?_
 refine (ho12.fin (by omega) (by omega) (by omega)).cast ?_
 rfl

theorem c_impl_copyTable (w0 : World) (v_t0 : Value) (v_t1 : Value) (t : List Str × List (List Int)) {S_t0 : Nat → Prop} {S_t1 : Nat → Prop} (h_t0 : Rds shStr S_t0 w0 v_t0 t.1) (h_t1 : Rds shRow S_t1 w0 v_t1 t.2) (g0 : tabB t = true) :
  Calls Try.prog 75 #[.agg #[v_t0, v_t1]] w0 (Ret w0 (fun v w1 => ∃ r0_0 r0_1 z0_1, v = .agg #[r0_0, r0_1] ∧ Own shStr 9 w0.heap.size w0.heap.size w1.heap.size w1 r0_0 ((t).1) ∧ Own shRowN 41 w0.heap.size w0.heap.size w1.heap.size w1 r0_1 z0_1 ∧ Nst shI64 2 (fun x : List Int => x) w0.heap.size w1.heap.size w1 z0_1 ∧ z0_1.map (·.1) = ((t).2))) := by
 refine enter (N := 27) Try.func75 rfl rfl rfl ?_
 intro a0 ha0
 have hx0 := Ext.rfl' w0
 have hl_t0 := h_t0.length_le
 have hl_t1 := h_t1.length_le
 have htr := tab_rows g0
 have htb := tab_bd g0
 refine wp_seq ?_
 refine wp_region_lit ?_
 refine wl_eff ha0 rfl rfl rfl (op_box' ha0 rfl rfl rfl) ?_
 rintro _ w2 ⟨rfl, he3, hb4, hz5⟩ a6 ha6; clear ha0 a0
 have hx7 := hx0.trans' he3
 have hzhx7 := he3.size
 refine wl_eff ha6 rfl rfl rfl (op_alloc' rfl ti28 rfl) ?_
 rintro _ w9 ⟨rfl, he10, hb11, hz12⟩ a13 ha13; clear ha6 a6
 have hx14 := hx7.trans' he10
 have hzhx14 := he10.size
 replace hb4 := hb4.ext he10
 refine wpList_nil ?_
 refine then_n ?_
 refine wp_seq ?_
 refine wp_region_lit ?_
 refine wl_eff ha13 rfl rfl rfl (op_buildSlice (s := shStr) (xs := ([] : List Str)) (cs := []) (vs := []) (S := fun _ => False) (le := w9.heap.size) ha13 rfl pos_shStr Try.underlying22 ti9 rfl rfl (by decide) (by kernel_rfl) rfl (fun _ h => h.elim)) ?_
 rintro v15 w16 ⟨ho17, he18, hob19⟩ a20 ha20; clear ha13 a13
 have hx21 := hx14.trans' he18
 have hzhx21 := he18.size
 replace hb4 := hb4.ext he18
 replace hb11 := hb11.ext he18
 refine wl_val ha20 rfl rfl rfl (op_fieldAddr (sz := 0) ha20 rfl Try.underlying28 rfl rfl ti22 rfl) ?_
 intro a22 ha22; clear ha20 a20
 refine wl_val ha22 rfl rfl rfl (op_loadF (off := 0) ha22 rfl Try.underlying22 rfl rfl hb4.cells rfl) ?_
 intro a23 ha23; clear ha22 a22
 refine wl_eff ha23 rfl rfl rfl (op_append (ts := #[]) (s := shStr) ha23 rfl Try.underlying22 ti9 rfl pos_shStr rfl rfl ho17 (h_t0.ext pos_shStr hx21) (by omega) (by omega) (by first | omega | (simp; omega)) (by first | omega | (simp; omega)) (.inl flat_shStr)) ?_
 rintro v24 w25 ⟨ho26, hst27, hob28⟩ a29 ha29; clear ha23 a23
 replace ho26 := ho26.cast (List.nil_append _)
 have hx30 := hx21.stp hst27 (by intro q hq; have hq0 := ho17.lt q hq; omega)
 have hzhx30 := hst27.size
 replace hb4 := hb4.stp hst27 (by intro q hq; have hq0 := ho17.lt q hq; omega)
 replace hb11 := hb11.stp hst27 (by intro q hq; have hq0 := ho17.lt q hq; omega)
 refine wl_val ha29 rfl rfl rfl (op_build (vs := [(0, v24)]) (cs := #[v24, .slice none 0 0]) ha29 rfl Try.underlying28 ti28 bp28 rfl ((fill_one ho26.cells1 rfl rfl).trans rfl)) ?_
 intro a31 ha31; clear ha29 a29
 refine wl_eff ha31 rfl rfl rfl (op_alloc' rfl ti28 rfl) ?_
 rintro _ w33 ⟨rfl, he34, hb35, hz36⟩ a37 ha37; clear ha31 a31
 have hx38 := hx30.trans' he34
 have hzhx38 := he34.size
 replace hb4 := hb4.ext he34
 replace hb11 := hb11.ext he34
 replace ho26 := ho26.ext he34
 refine wl_effS ha37 rfl rfl (op_storeAll' ha37 rfl ti28 rfl rfl hb35 rfl rfl (by intro u hu; have hu : u ∈ ([v24, .slice none 0 0] : List Value) := hu; simp only [List.mem_cons, List.mem_nil_iff, or_false] at hu; rcases hu with rfl | rfl <;> first | rfl | exact ho26.one) rfl) ?_
 rintro w39 ⟨hb41, hst40, hz42⟩
 have hx43 := hx38.stp hst40 (by intro q hq; cases hq; exact (by omega))
 have hzhx43 := hst40.size
 replace hb4 := hb4.stp hst40 (by intro q hq; cases hq; omega)
 replace hb11 := hb11.stp hst40 (by intro q hq; cases hq; omega)
 replace ho26 := ho26.stp hst40 (by intro q hq; cases hq; omega)
 clear hb35
 refine wpList_nil ?_
 refine then_n ?_
 refine wp_seq ?_
 refine wp_seq ?_
 refine wp_region_lit ?_
 refine wl_val ha37 rfl rfl rfl (op_fieldAddr (sz := 0) ha37 rfl Try.underlying28 rfl rfl ti23 rfl) ?_
 intro a44 ha44; clear ha37 a37
 refine wl_val ha44 rfl rfl rfl (op_loadF (off := 1) ha44 rfl Try.underlying23 rfl rfl hb4.cells rfl) ?_
 intro a45 ha45; clear ha44 a44
 refine wl_val ha45 rfl rfl rfl (op_len_sl ha45 rfl Try.underlying23 rfl h_t1) ?_
 intro a46 ha46; clear ha45 a45
 refine wl_val ha46 rfl rfl rfl (op_move ha46 rfl rfl) ?_
 intro a47 ha47; clear ha46 a46
 refine wpList_nil ?_
 refine then_n ?_
 refine wp_block ?_
 refine loop_inv (X := Nat × Value × (List (List Int × Value))) (fun (⟨i, v, zs⟩ : Nat × Value × (List (List Int × Value))) fr wl => Sl 27 fr [(2, .pointer (some (⟨w2.heap.size, 0, none⟩ : Addr))), (3, .pointer (some (⟨w25.heap.size, 0, none⟩ : Addr))), (12, v_t1), (13, .int .i64 ((t.2.length : Nat) : Int)), (14, .int .i64 ((i : Nat) : Int))] ∧ Ext w0 wl ∧ Box wl w2.heap.size 28 [.slice none 0 0, .slice none 0 0] ∧ Own shStr 9 w9.heap.size w9.heap.size w25.heap.size wl v24 t.1 ∧ Own shRowN 41 w39.heap.size w39.heap.size wl.heap.size wl v zs ∧ Nst shI64 2 (fun x : List Int => x) w39.heap.size wl.heap.size wl zs ∧ Box wl w25.heap.size 28 [v24, v] ∧ w39.heap.size ≤ wl.heap.size ∧ (i ≤ t.2.length) ∧ (zs.length = i) ∧ (zs.map (·.1) = t.2.take i)) (fun (⟨i, v, zs⟩ : Nat × Value × (List (List Int × Value))) => t.2.length - i) (0, (.slice none 0 0), []) ?_ ?_
 ·
  exact ⟨(Sl.cons_ ha47 rfl rfl (Sl.cons_ ha47 rfl rfl (Sl.cons_ ha47 rfl rfl (Sl.cons_ ha47 rfl rfl (Sl.cons_ ha47 rfl (int_eq (by omega)) (Sl.nil_ ha47)))))), hx43, hb11, ho26, (Own.nil _ _ _ _ _ _), (Nst.nil _ _ _ _ _ _), hb41, (by omega), (by omega), (by rfl), (by simp)⟩
 ·
  clear ha47 a47
  rintro ⟨i, v, zs⟩ a55 w48 ⟨ha55, hx49, hf50, hf51, hf52, hf53, hf54, hzl56, hi, hl, hF⟩
  have hzhx49 := hx49.size
  refine wp_seq ?_
  refine wp_region_lit ?_
  refine wl_val ha55 rfl rfl rfl (op_lss ha55 rfl rfl rfl) ?_
  intro a57 ha57; clear ha55 a55
  refine wpList_nil ?_
  refine then_n ?_
  refine wp_seq ?_
  by_cases c58 : ((i : Nat) : Int) < ((t.2.length : Nat) : Int)
  ·
   rw [decide_eq_true c58] at ha57
   refine cond_t ha57 rfl ?_
   refine wp_skip ?_
   refine then_n ?_
   refine wp_seq ?_
   refine wp_block ?_
   refine wp_seq ?_
   refine wp_region_lit ?_
   obtain ⟨x59, hx59⟩ := get_ex (xs := t.2) (j := i) (by omega)
   obtain ⟨p60, c61, hi62, hc63, hr64, hs65⟩ := Rds.at_ h_t1 hx59
   obtain ⟨v66, rfl, b67⟩ := inv_shRow hr64
   have hlb67 := b67.length_le
   refine wl_val ha57 rfl rfl rfl (op_indexAddr ha57 rfl Try.underlying23 ti41 rfl rfl (by omega) hi62) ?_
   intro a68 ha68; clear ha57 a57
   refine wl_val ha68 rfl rfl rfl (op_loadH ha68 rfl Try.underlying41 rfl rfl (hc63.ext hx49) rfl) ?_
   intro a69 ha69; clear ha68 a68
   refine wl_val ha69 rfl rfl rfl (op_assign ha69 rfl rfl) ?_
   intro a70 ha70; clear ha69 a69
   refine wpList_nil ?_
   refine then_n ?_
   refine dr_enter (fun wa_ wb_ => StpL wa_ wb_ (fun i => Value.ownBlock v = some i ∨ i = w25.heap.size)) follows_mixed ?_
   intro w71 he72
   have hx73 := hx49.trans' he72
   have hzhx73 := he72.size
   replace hf50 := hf50.ext he72
   replace hf51 := hf51.ext he72
   replace hf52 := hf52.ext he72
   replace hf53 := hf53.ext he72
   replace hf54 := hf54.ext he72
   have hs74 : Ext w71 w71 := Ext.rfl' _
   refine dr_val (i := 0) ha70 rfl (by kernel_rfl) (by kernel_rfl) (by kernel_rfl) rfl rfl rfl (StpL.of_ext hs74) (fun w' hw' => op_fieldAddr (sz := 0) ha70 rfl Try.underlying28 rfl rfl ti23 rfl) ?_
   intro a75 ha75; clear ha70 a70
   refine dr_val (i := 2) ha75 rfl (by kernel_rfl) (by kernel_rfl) (by kernel_rfl) rfl rfl rfl (StpL.of_ext hs74) (fun w' hw' => op_move ha75 rfl rfl) ?_
   intro a76 ha76; clear ha75 a75
   refine dr_two (i := 1) (j := 3) (by kernel_rfl) ?_ ?_
   ·
    refine po_to ha76 rfl rfl rfl rfl (op_loadF (off := 1) ha76 rfl Try.underlying23 rfl rfl (hf54.ext hs74).cells rfl) ?_
    intro a77 ha77; clear ha76 a76
    refine ⟨(StpL.of_ext hs74), ?_⟩
    refine dr_one (i := 3) (by kernel_rfl) ?_
    refine po_callR ha77 rfl rfl rfl rfl (op_call ha77 rfl cb84 rfl) (c_impl_copyList _ v66 x59 (b67.ext pos_shI64 (hx73.trans' hs74)) (by first | assumption | omega | (have h7 := htr _ (List.mem_of_getElem? (by assumption)); omega))) ?_
    rintro v78 w79 he80 ho81 a82 ha82; clear ha77 a77
    have hs83 := hs74.trans' he80
    have hx84 := hx73.trans' he80
    have hzhx84 := he80.size
    refine ⟨(StpL.of_ext hs83), ?_⟩
    refine dr_one (i := 4) (by kernel_rfl) ?_
    refine po_eff ha82 rfl rfl rfl rfl (op_buildSlice (s := shRowN) (xs := [(((x59) : List Int), (v78 : Value))]) (cs := [v78]) (vs := [(0, v78)]) (S := fun _ => False) (le := w79.heap.size) ha82 rfl pos_shRowN Try.underlying23 ti41 rfl rfl (by decide) ((fill_one (off := 0) ho81.cells1 (by kernel_rfl) (by kernel_rfl)).trans (by kernel_rfl)) (Els.single (mk_shRowN ((((x59) : List Int), (v78 : Value))) ho81.one)) (fun _ h => h.elim)) ?_
    rintro v85 w86 ⟨ho87, he88, hob89⟩ a90 ha90; clear ha82 a82
    have hs91 := hs83.trans' he88
    have hx92 := hx84.trans' he88
    have hzhx92 := he88.size
    replace ho81 := ho81.ext he88
    refine ⟨(StpL.of_ext hs91), ?_⟩
    have hN93 : Nst shI64 2 (fun x : List Int => x) w71.heap.size w86.heap.size w86 ([(((x59) : List Int), (v78 : Value))]) := Nst.one (ho81.fin (by omega) (by omega) (by omega))
    refine dr_one (i := 5) (by kernel_rfl) ?_
    replace hf50 := hf50.ext hs91
    replace hf51 := hf51.ext hs91
    replace hf52 := hf52.ext hs91
    replace hf53 := hf53.ext hs91
    replace hf54 := hf54.ext hs91
    refine po_eff ha90 rfl rfl rfl rfl (op_append (ts := #[]) (s := shRowN) ha90 rfl Try.underlying23 ti41 rfl pos_shRowN rfl rfl hf52 (ho87.rds pos_shRowN) (by omega) (by omega) (by first | omega | (simp; omega)) (by first | omega | (simp; omega)) (.inl flat_shRowN)) ?_
    rintro v94 w95 ⟨ho96, hst97, hob98⟩ a99 ha99; clear ha90 a90
    have hx100 := hx92.stp hst97 (by intro q hq; have hq0 := hf52.lt q hq; omega)
    have hzhx100 := hst97.size
    replace hf50 := hf50.stp hst97 (by intro q hq; have hq0 := hf52.lt q hq; omega)
    replace hf51 := hf51.stp hst97 (by intro q hq; have hq0 := hf52.lt q hq; omega)
    first | replace hf53 := hf53.stpF flat_shI64 hst97 hf52 rfl | replace hf53 := hf53.stp hst97 (by intro q hq; have hq0 := hf52.lt q hq; omega)
    replace hf54 := hf54.stp hst97 (by intro q hq; have hq0 := hf52.lt q hq; omega)
    replace ho81 := ho81.stp hst97 (by intro q hq; have hq0 := hf52.lt q hq; omega)
    replace ho87 := ho87.stp hst97 (by intro q hq; have hq0 := hf52.lt q hq; omega)
    replace hN93 := hN93.stp hst97 (by intro q hq; have hq0 := hf52.lt q hq; omega)
    have hsp101 : ∀ q, Value.ownBlock v94 = some q → Value.ownBlock v85 ≠ some q := by intro q hq hb; have hq0 := ho87.lt q hb; rcases hob98 with h | h; (rw [h] at hq; first | (have hq1 := hf52.lt q hq; omega)); (rw [h] at hq; cases hq; omega)
    have hN102 : Nst shI64 2 (fun x : List Int => x) w39.heap.size w95.heap.size w95 ((zs ++ [(((x59) : List Int), (v78 : Value))])) := (hf53.app hN93 (by omega) (by omega) (by omega)).fin (by omega) (by omega)
    have hs103 := (StpL.of_ext (B := fun i => Value.ownBlock v = some i ∨ i = w25.heap.size) hs91).trans' (Stp.toL hst97 (by intro q hq; exact Or.inl hq))
    refine ⟨hs103, ?_⟩
    refine dr_val (i := 6) ha99 rfl (by kernel_rfl) (by kernel_rfl) (by kernel_rfl) rfl rfl rfl hs103 (fun w' hw' => op_fieldAddr (sz := 0) ha99 rfl Try.underlying28 rfl rfl ti23 rfl) ?_
    intro a104 ha104; clear ha99 a99
    refine dr_one (i := 7) (by kernel_rfl) ?_
    refine po_effS ha104 rfl rfl rfl (op_store' (off := 1) ha104 rfl ti23 rfl rfl hf54 ho96.cells1 rfl (by intro u hu; have hu : u ∈ ([v94] : List Value) := hu; simp only [List.mem_cons, List.mem_nil_iff, or_false] at hu; rcases hu with rfl <;> first | rfl | exact ho96.one) (Nat.le_of_ble_eq_true rfl)) ?_
    rintro w105 ⟨hb107, hst106, hz108⟩
    have hx109 := hx100.stp hst106 (by intro q hq; cases hq; exact (by omega))
    have hzhx109 := hst106.size
    replace hf50 := hf50.stp hst106 (by intro q hq; cases hq; omega)
    replace hf51 := hf51.stp hst106 (by intro q hq; cases hq; omega)
    replace ho81 := ho81.stp hst106 (by intro q hq; cases hq; omega)
    replace ho87 := ho87.stp hst106 (by intro q hq; cases hq; omega)
    replace ho96 := ho96.stp hst106 (by intro q hq; cases hq; omega)
    replace hN102 := hN102.stp hst106 (by intro q hq; cases hq; omega)
    clear hf54
    have hs110 := hs103.trans' (Stp.toL hst106 (by intro q hq; cases hq; exact Or.inr (rfl)))
    refine ⟨hs110, ?_⟩
    refine dr_end (by kernel_rfl) ?_
    refine block_n ?_
    refine then_n ?_
    refine wp_region_lit ?_
    refine wl_val ha104 rfl rfl rfl ((op_add ha104 rfl rfl rfl).int (IntWalk.i64_in _ (by omega))) ?_
    intro a111 ha111; clear ha104 a104
    refine wl_val ha111 rfl rfl rfl (op_move ha111 rfl rfl) ?_
    intro a112 ha112; clear ha111 a111
    refine wpList_nil ?_
    refine round_end (x := (i, v, zs)) ((i + 1), v94, (zs ++ [(((x59) : List Int), (v78 : Value))])) ?_ ?_
    ·
     refine ⟨(Sl.cons_ ha112 rfl rfl (Sl.cons_ ha112 rfl rfl (Sl.cons_ ha112 rfl rfl (Sl.cons_ ha112 rfl rfl (Sl.cons_ ha112 rfl (int_eq (by omega)) (Sl.nil_ ha112)))))), hx109, hf50, hf51, (ho96.fin (by omega) (by omega) (by omega)), (hN102.fin (by omega) (by omega)), hb107, (by omega), (by omega), (by (simp; omega)), (by rw [take_snoc hx59, ← hF]; simp)⟩
    ·show (t.2.length - ((i + 1)) : Nat) < t.2.length - i; omega
   ·
    refine po_callR ha76 rfl rfl rfl rfl (op_call ha76 rfl cb84 rfl) (c_impl_copyList _ v66 x59 (b67.ext pos_shI64 (hx73.trans' hs74)) (by first | assumption | omega | (have h7 := htr _ (List.mem_of_getElem? (by assumption)); omega))) ?_
    rintro v113 w114 he115 ho116 a117 ha117; clear ha76 a76
    have hs118 := hs74.trans' he115
    have hx119 := hx73.trans' he115
    have hzhx119 := he115.size
    refine ⟨(StpL.of_ext hs118), ?_⟩
    refine dr_two (i := 1) (j := 4) (by kernel_rfl) ?_ ?_
    ·
     refine po_to ha117 rfl rfl rfl rfl (op_loadF (off := 1) ha117 rfl Try.underlying23 rfl rfl (hf54.ext hs118).cells rfl) ?_
     intro a120 ha120; clear ha117 a117
     refine ⟨(StpL.of_ext hs118), ?_⟩
     refine dr_one (i := 4) (by kernel_rfl) ?_
     refine po_eff ha120 rfl rfl rfl rfl (op_buildSlice (s := shRowN) (xs := [(((x59) : List Int), (v113 : Value))]) (cs := [v113]) (vs := [(0, v113)]) (S := fun _ => False) (le := w114.heap.size) ha120 rfl pos_shRowN Try.underlying23 ti41 rfl rfl (by decide) ((fill_one (off := 0) ho116.cells1 (by kernel_rfl) (by kernel_rfl)).trans (by kernel_rfl)) (Els.single (mk_shRowN ((((x59) : List Int), (v113 : Value))) ho116.one)) (fun _ h => h.elim)) ?_
     rintro v121 w122 ⟨ho123, he124, hob125⟩ a126 ha126; clear ha120 a120
     have hs127 := hs118.trans' he124
     have hx128 := hx119.trans' he124
     have hzhx128 := he124.size
     replace ho116 := ho116.ext he124
     refine ⟨(StpL.of_ext hs127), ?_⟩
     have hN129 : Nst shI64 2 (fun x : List Int => x) w71.heap.size w122.heap.size w122 ([(((x59) : List Int), (v113 : Value))]) := Nst.one (ho116.fin (by omega) (by omega) (by omega))
     refine dr_one (i := 5) (by kernel_rfl) ?_
     replace hf50 := hf50.ext hs127
     replace hf51 := hf51.ext hs127
     replace hf52 := hf52.ext hs127
     replace hf53 := hf53.ext hs127
     replace hf54 := hf54.ext hs127
     refine po_eff ha126 rfl rfl rfl rfl (op_append (ts := #[]) (s := shRowN) ha126 rfl Try.underlying23 ti41 rfl pos_shRowN rfl rfl hf52 (ho123.rds pos_shRowN) (by omega) (by omega) (by first | omega | (simp; omega)) (by first | omega | (simp; omega)) (.inl flat_shRowN)) ?_
     rintro v130 w131 ⟨ho132, hst133, hob134⟩ a135 ha135; clear ha126 a126
     have hx136 := hx128.stp hst133 (by intro q hq; have hq0 := hf52.lt q hq; omega)
     have hzhx136 := hst133.size
     replace hf50 := hf50.stp hst133 (by intro q hq; have hq0 := hf52.lt q hq; omega)
     replace hf51 := hf51.stp hst133 (by intro q hq; have hq0 := hf52.lt q hq; omega)
     first | replace hf53 := hf53.stpF flat_shI64 hst133 hf52 rfl | replace hf53 := hf53.stp hst133 (by intro q hq; have hq0 := hf52.lt q hq; omega)
     replace hf54 := hf54.stp hst133 (by intro q hq; have hq0 := hf52.lt q hq; omega)
     replace ho116 := ho116.stp hst133 (by intro q hq; have hq0 := hf52.lt q hq; omega)
     replace ho123 := ho123.stp hst133 (by intro q hq; have hq0 := hf52.lt q hq; omega)
     replace hN129 := hN129.stp hst133 (by intro q hq; have hq0 := hf52.lt q hq; omega)
     have hsp137 : ∀ q, Value.ownBlock v130 = some q → Value.ownBlock v121 ≠ some q := by intro q hq hb; have hq0 := ho123.lt q hb; rcases hob134 with h | h; (rw [h] at hq; first | (have hq1 := hf52.lt q hq; omega)); (rw [h] at hq; cases hq; omega)
     have hN138 : Nst shI64 2 (fun x : List Int => x) w39.heap.size w131.heap.size w131 ((zs ++ [(((x59) : List Int), (v113 : Value))])) := (hf53.app hN129 (by omega) (by omega) (by omega)).fin (by omega) (by omega)
     have hs139 := (StpL.of_ext (B := fun i => Value.ownBlock v = some i ∨ i = w25.heap.size) hs127).trans' (Stp.toL hst133 (by intro q hq; exact Or.inl hq))
     refine ⟨hs139, ?_⟩
     refine dr_val (i := 6) ha135 rfl (by kernel_rfl) (by kernel_rfl) (by kernel_rfl) rfl rfl rfl hs139 (fun w' hw' => op_fieldAddr (sz := 0) ha135 rfl Try.underlying28 rfl rfl ti23 rfl) ?_
     intro a140 ha140; clear ha135 a135
     refine dr_one (i := 7) (by kernel_rfl) ?_
     refine po_effS ha140 rfl rfl rfl (op_store' (off := 1) ha140 rfl ti23 rfl rfl hf54 ho132.cells1 rfl (by intro u hu; have hu : u ∈ ([v130] : List Value) := hu; simp only [List.mem_cons, List.mem_nil_iff, or_false] at hu; rcases hu with rfl <;> first | rfl | exact ho132.one) (Nat.le_of_ble_eq_true rfl)) ?_
     rintro w141 ⟨hb143, hst142, hz144⟩
     have hx145 := hx136.stp hst142 (by intro q hq; cases hq; exact (by omega))
     have hzhx145 := hst142.size
     replace hf50 := hf50.stp hst142 (by intro q hq; cases hq; omega)
     replace hf51 := hf51.stp hst142 (by intro q hq; cases hq; omega)
     replace ho116 := ho116.stp hst142 (by intro q hq; cases hq; omega)
     replace ho123 := ho123.stp hst142 (by intro q hq; cases hq; omega)
     replace ho132 := ho132.stp hst142 (by intro q hq; cases hq; omega)
     replace hN138 := hN138.stp hst142 (by intro q hq; cases hq; omega)
     clear hf54
     have hs146 := hs139.trans' (Stp.toL hst142 (by intro q hq; cases hq; exact Or.inr (rfl)))
     refine ⟨hs146, ?_⟩
     refine dr_end (by kernel_rfl) ?_
     refine block_n ?_
     refine then_n ?_
     refine wp_region_lit ?_
     refine wl_val ha140 rfl rfl rfl ((op_add ha140 rfl rfl rfl).int (IntWalk.i64_in _ (by omega))) ?_
     intro a147 ha147; clear ha140 a140
     refine wl_val ha147 rfl rfl rfl (op_move ha147 rfl rfl) ?_
     intro a148 ha148; clear ha147 a147
     refine wpList_nil ?_
     refine round_end (x := (i, v, zs)) ((i + 1), v130, (zs ++ [(((x59) : List Int), (v113 : Value))])) ?_ ?_
     ·
      refine ⟨(Sl.cons_ ha148 rfl rfl (Sl.cons_ ha148 rfl rfl (Sl.cons_ ha148 rfl rfl (Sl.cons_ ha148 rfl rfl (Sl.cons_ ha148 rfl (int_eq (by omega)) (Sl.nil_ ha148)))))), hx145, hf50, hf51, (ho132.fin (by omega) (by omega) (by omega)), (hN138.fin (by omega) (by omega)), hb143, (by omega), (by omega), (by (simp; omega)), (by rw [take_snoc hx59, ← hF]; simp)⟩
     ·show (t.2.length - ((i + 1)) : Nat) < t.2.length - i; omega
    ·
     refine po_eff ha117 rfl rfl rfl rfl (op_buildSlice (s := shRowN) (xs := [(((x59) : List Int), (v113 : Value))]) (cs := [v113]) (vs := [(0, v113)]) (S := fun _ => False) (le := w114.heap.size) ha117 rfl pos_shRowN Try.underlying23 ti41 rfl rfl (by decide) ((fill_one (off := 0) ho116.cells1 (by kernel_rfl) (by kernel_rfl)).trans (by kernel_rfl)) (Els.single (mk_shRowN ((((x59) : List Int), (v113 : Value))) ho116.one)) (fun _ h => h.elim)) ?_
     rintro v149 w150 ⟨ho151, he152, hob153⟩ a154 ha154; clear ha117 a117
     have hs155 := hs118.trans' he152
     have hx156 := hx119.trans' he152
     have hzhx156 := he152.size
     replace ho116 := ho116.ext he152
     refine ⟨(StpL.of_ext hs155), ?_⟩
     have hN157 : Nst shI64 2 (fun x : List Int => x) w71.heap.size w150.heap.size w150 ([(((x59) : List Int), (v113 : Value))]) := Nst.one (ho116.fin (by omega) (by omega) (by omega))
     refine dr_one (i := 1) (by kernel_rfl) ?_
     refine po_to ha154 rfl rfl rfl rfl (op_loadF (off := 1) ha154 rfl Try.underlying23 rfl rfl (hf54.ext hs155).cells rfl) ?_
     intro a158 ha158; clear ha154 a154
     refine ⟨(StpL.of_ext hs155), ?_⟩
     refine dr_one (i := 5) (by kernel_rfl) ?_
     replace hf50 := hf50.ext hs155
     replace hf51 := hf51.ext hs155
     replace hf52 := hf52.ext hs155
     replace hf53 := hf53.ext hs155
     replace hf54 := hf54.ext hs155
     refine po_eff ha158 rfl rfl rfl rfl (op_append (ts := #[]) (s := shRowN) ha158 rfl Try.underlying23 ti41 rfl pos_shRowN rfl rfl hf52 (ho151.rds pos_shRowN) (by omega) (by omega) (by first | omega | (simp; omega)) (by first | omega | (simp; omega)) (.inl flat_shRowN)) ?_
     rintro v159 w160 ⟨ho161, hst162, hob163⟩ a164 ha164; clear ha158 a158
     have hx165 := hx156.stp hst162 (by intro q hq; have hq0 := hf52.lt q hq; omega)
     have hzhx165 := hst162.size
     replace hf50 := hf50.stp hst162 (by intro q hq; have hq0 := hf52.lt q hq; omega)
     replace hf51 := hf51.stp hst162 (by intro q hq; have hq0 := hf52.lt q hq; omega)
     first | replace hf53 := hf53.stpF flat_shI64 hst162 hf52 rfl | replace hf53 := hf53.stp hst162 (by intro q hq; have hq0 := hf52.lt q hq; omega)
     replace hf54 := hf54.stp hst162 (by intro q hq; have hq0 := hf52.lt q hq; omega)
     replace ho116 := ho116.stp hst162 (by intro q hq; have hq0 := hf52.lt q hq; omega)
     replace ho151 := ho151.stp hst162 (by intro q hq; have hq0 := hf52.lt q hq; omega)
     replace hN157 := hN157.stp hst162 (by intro q hq; have hq0 := hf52.lt q hq; omega)
     have hsp166 : ∀ q, Value.ownBlock v159 = some q → Value.ownBlock v149 ≠ some q := by intro q hq hb; have hq0 := ho151.lt q hb; rcases hob163 with h | h; (rw [h] at hq; first | (have hq1 := hf52.lt q hq; omega)); (rw [h] at hq; cases hq; omega)
     have hN167 : Nst shI64 2 (fun x : List Int => x) w39.heap.size w160.heap.size w160 ((zs ++ [(((x59) : List Int), (v113 : Value))])) := (hf53.app hN157 (by omega) (by omega) (by omega)).fin (by omega) (by omega)
     have hs168 := (StpL.of_ext (B := fun i => Value.ownBlock v = some i ∨ i = w25.heap.size) hs155).trans' (Stp.toL hst162 (by intro q hq; exact Or.inl hq))
     refine ⟨hs168, ?_⟩
     refine dr_val (i := 6) ha164 rfl (by kernel_rfl) (by kernel_rfl) (by kernel_rfl) rfl rfl rfl hs168 (fun w' hw' => op_fieldAddr (sz := 0) ha164 rfl Try.underlying28 rfl rfl ti23 rfl) ?_
     intro a169 ha169; clear ha164 a164
     refine dr_one (i := 7) (by kernel_rfl) ?_
     refine po_effS ha169 rfl rfl rfl (op_store' (off := 1) ha169 rfl ti23 rfl rfl hf54 ho161.cells1 rfl (by intro u hu; have hu : u ∈ ([v159] : List Value) := hu; simp only [List.mem_cons, List.mem_nil_iff, or_false] at hu; rcases hu with rfl <;> first | rfl | exact ho161.one) (Nat.le_of_ble_eq_true rfl)) ?_
     rintro w170 ⟨hb172, hst171, hz173⟩
     have hx174 := hx165.stp hst171 (by intro q hq; cases hq; exact (by omega))
     have hzhx174 := hst171.size
     replace hf50 := hf50.stp hst171 (by intro q hq; cases hq; omega)
     replace hf51 := hf51.stp hst171 (by intro q hq; cases hq; omega)
     replace ho116 := ho116.stp hst171 (by intro q hq; cases hq; omega)
     replace ho151 := ho151.stp hst171 (by intro q hq; cases hq; omega)
     replace ho161 := ho161.stp hst171 (by intro q hq; cases hq; omega)
     replace hN167 := hN167.stp hst171 (by intro q hq; cases hq; omega)
     clear hf54
     have hs175 := hs168.trans' (Stp.toL hst171 (by intro q hq; cases hq; exact Or.inr (rfl)))
     refine ⟨hs175, ?_⟩
     refine dr_end (by kernel_rfl) ?_
     refine block_n ?_
     refine then_n ?_
     refine wp_region_lit ?_
     refine wl_val ha169 rfl rfl rfl ((op_add ha169 rfl rfl rfl).int (IntWalk.i64_in _ (by omega))) ?_
     intro a176 ha176; clear ha169 a169
     refine wl_val ha176 rfl rfl rfl (op_move ha176 rfl rfl) ?_
     intro a177 ha177; clear ha176 a176
     refine wpList_nil ?_
     refine round_end (x := (i, v, zs)) ((i + 1), v159, (zs ++ [(((x59) : List Int), (v113 : Value))])) ?_ ?_
     ·
      refine ⟨(Sl.cons_ ha177 rfl rfl (Sl.cons_ ha177 rfl rfl (Sl.cons_ ha177 rfl rfl (Sl.cons_ ha177 rfl rfl (Sl.cons_ ha177 rfl (int_eq (by omega)) (Sl.nil_ ha177)))))), hx174, hf50, hf51, (ho161.fin (by omega) (by omega) (by omega)), (hN167.fin (by omega) (by omega)), hb172, (by omega), (by omega), (by (simp; omega)), (by rw [take_snoc hx59, ← hF]; simp)⟩
     ·show (t.2.length - ((i + 1)) : Nat) < t.2.length - i; omega
  ·
   rw [decide_eq_false c58] at ha57
   refine cond_f ha57 rfl ?_
   refine wp_exit ?_
   refine then_e ?_
   refine then_e ?_
   refine block_hit ?_
   refine then_n ?_
   refine wp_seq ?_
   refine wp_region_lit ?_
   refine wl_val ha57 rfl rfl rfl (op_loadS ha57 rfl Try.underlying28 ti28 rfl rfl hf54.cells) ?_
   intro a178 ha178; clear ha57 a57
   refine wl_effS ha178 rfl rfl (op_storeAll' ha178 rfl ti28 rfl rfl hf50 rfl rfl (by intro u hu; have hu : u ∈ ([v24, v] : List Value) := hu; simp only [List.mem_cons, List.mem_nil_iff, or_false] at hu; rcases hu with rfl | rfl <;> first | rfl | exact hf51.one | exact hf52.one) rfl) ?_
   rintro w179 ⟨hb181, hst180, hz182⟩
   have hx183 := hx49.stp hst180 (by intro q hq; cases hq; exact (by omega))
   have hzhx183 := hst180.size
   replace hf51 := hf51.stp hst180 (by intro q hq; cases hq; omega)
   replace hf52 := hf52.stp hst180 (by intro q hq; cases hq; omega)
   replace hf53 := hf53.stp hst180 (by intro q hq; cases hq; omega)
   replace hf54 := hf54.stp hst180 (by intro q hq; cases hq; omega)
   clear hf50
   refine wpList_nil ?_
   refine then_n ?_
   refine wp_ret ?_
   refine retc ha178 rfl rfl Try.underlying28 ti28 rfl hb181.cells ?_
   clear ha178 a178
   refine ret_mk hx183 ⟨v24, v, zs, (by rfl), ?_, hf52.fin (by omega) (by omega) (by omega), hf53.fin (by omega) (by omega), ?_⟩
   ·
    refine (hf51.fin (by omega) (by omega) (by omega)).cast ?_
    rfl
   ·
    rw [hF]; exact List.take_of_length_le (by omega)

theorem c_spec_l31With (w0 : World) (v_heads : Value) (heads : List Str) {S_heads : Nat → Prop} (v_rows : Value) (rows : List (List Int)) {S_rows : Nat → Prop} (h_heads : Rds shStr S_heads w0 v_heads heads) (h_rows : Rds shRow S_rows w0 v_rows rows) (g0 : heads.length ≤ 1048576) (g1 : rows.length ≤ 1048576) (g2 : ∀ r ∈ rows, r.length ≤ 1048576) :
  Calls Try.prog 74 #[v_heads, v_rows] w0 (Ret w0 (fun v w1 => ∃ r0_0 r0_1 z0_1, v = .agg #[r0_0, r0_1] ∧ Own shStr 9 w0.heap.size w0.heap.size w1.heap.size w1 r0_0 ((((heads, rows) : Tab)).1) ∧ Own shRowN 41 w0.heap.size w0.heap.size w1.heap.size w1 r0_1 z0_1 ∧ Nst shI64 2 (fun x : List Int => x) w0.heap.size w1.heap.size w1 z0_1 ∧ z0_1.map (·.1) = ((((heads, rows) : Tab)).2))) := by
 refine enter (N := 29) Try.func74 rfl rfl rfl ?_
 intro a0 ha0
 have hx0 := Ext.rfl' w0
 have hl_heads := h_heads.length_le
 have hl_rows := h_rows.length_le
 refine wp_seq ?_
 refine wp_region_lit ?_
 refine wl_eff ha0 rfl rfl rfl (op_alloc' rfl ti28 rfl) ?_
 rintro _ w2 ⟨rfl, he3, hb4, hz5⟩ a6 ha6; clear ha0 a0
 have hx7 := hx0.trans' he3
 have hzhx7 := he3.size
 refine wpList_nil ?_
 refine then_n ?_
 refine wp_seq ?_
 refine wp_region_lit ?_
 refine wl_eff ha6 rfl rfl rfl (op_buildSlice (s := shStr) (xs := ([] : List Str)) (cs := []) (vs := []) (S := fun _ => False) (le := w2.heap.size) ha6 rfl pos_shStr Try.underlying22 ti9 rfl rfl (by decide) (by kernel_rfl) rfl (fun _ h => h.elim)) ?_
 rintro v8 w9 ⟨ho10, he11, hob12⟩ a13 ha13; clear ha6 a6
 have hx14 := hx7.trans' he11
 have hzhx14 := he11.size
 replace hb4 := hb4.ext he11
 refine wl_val ha13 rfl rfl rfl (op_move ha13 rfl rfl) ?_
 intro a15 ha15; clear ha13 a13
 refine wl_eff ha15 rfl rfl rfl (op_append (ts := #[]) (s := shStr) ha15 rfl Try.underlying22 ti9 rfl pos_shStr rfl rfl ho10 (h_heads.ext pos_shStr hx14) (by omega) (by omega) (by first | omega | (simp; omega)) (by first | omega | (simp; omega)) (.inl flat_shStr)) ?_
 rintro v16 w17 ⟨ho18, hst19, hob20⟩ a21 ha21; clear ha15 a15
 replace ho18 := ho18.cast (List.nil_append _)
 have hx22 := hx14.stp hst19 (by intro q hq; have hq0 := ho10.lt q hq; omega)
 have hzhx22 := hst19.size
 replace hb4 := hb4.stp hst19 (by intro q hq; have hq0 := ho10.lt q hq; omega)
 refine wl_eff ha21 rfl rfl rfl (op_buildSlice (s := shRowN) (xs := ([] : List ((List Int) × Value))) (cs := []) (vs := []) (S := fun _ => False) (le := w17.heap.size) ha21 rfl pos_shRowN Try.underlying23 ti41 rfl rfl (by decide) (by kernel_rfl) rfl (fun _ h => h.elim)) ?_
 rintro v23 w24 ⟨ho25, he26, hob27⟩ a28 ha28; clear ha21 a21
 have hx29 := hx22.trans' he26
 have hzhx29 := he26.size
 replace hb4 := hb4.ext he26
 replace ho18 := ho18.ext he26
 have hN30 : Nst shI64 2 (fun x : List Int => x) w17.heap.size w24.heap.size w24 (([] : List ((List Int) × Value))) := Nst.nil _ _ _ _ _ _
 refine wl_val ha28 rfl rfl rfl (op_build (vs := [(0, v16), (1, v23)]) (cs := #[v16, v23]) ha28 rfl Try.underlying28 ti28 bp28 rfl ((fill_one ho18.cells1 rfl rfl).trans ((fill_one ho25.cells1 rfl rfl).trans rfl))) ?_
 intro a31 ha31; clear ha28 a28
 refine wl_eff ha31 rfl rfl rfl (op_alloc' rfl ti28 rfl) ?_
 rintro _ w33 ⟨rfl, he34, hb35, hz36⟩ a37 ha37; clear ha31 a31
 have hx38 := hx29.trans' he34
 have hzhx38 := he34.size
 replace hb4 := hb4.ext he34
 replace ho18 := ho18.ext he34
 replace ho25 := ho25.ext he34
 replace hN30 := hN30.ext he34
 refine wl_effS ha37 rfl rfl (op_storeAll' ha37 rfl ti28 rfl rfl hb35 rfl rfl (by intro u hu; have hu : u ∈ ([v16, v23] : List Value) := hu; simp only [List.mem_cons, List.mem_nil_iff, or_false] at hu; rcases hu with rfl | rfl <;> first | rfl | exact ho18.one | exact ho25.one) rfl) ?_
 rintro w39 ⟨hb41, hst40, hz42⟩
 have hx43 := hx38.stp hst40 (by intro q hq; cases hq; exact (by omega))
 have hzhx43 := hst40.size
 replace hb4 := hb4.stp hst40 (by intro q hq; cases hq; omega)
 replace ho18 := ho18.stp hst40 (by intro q hq; cases hq; omega)
 replace ho25 := ho25.stp hst40 (by intro q hq; cases hq; omega)
 replace hN30 := hN30.stp hst40 (by intro q hq; cases hq; omega)
 clear hb35
 refine wpList_nil ?_
 refine then_n ?_
 refine wp_seq ?_
 refine wp_seq ?_
 refine wp_region_lit ?_
 refine wl_val ha37 rfl rfl rfl (op_assign ha37 rfl rfl) ?_
 intro a44 ha44; clear ha37 a37
 refine wpList_nil ?_
 refine then_n ?_
 refine wp_block ?_
 refine loop_inv (X := Nat × Value × (List (List Int × Value))) (fun (⟨i, v, zs⟩ : Nat × Value × (List (List Int × Value))) fr wl => Sl 29 fr [(1, v_rows), (4, .pointer (some (⟨w0.heap.size, 0, none⟩ : Addr))), (5, .pointer (some (⟨w24.heap.size, 0, none⟩ : Addr))), (6, .int .i64 ((i : Nat) : Int))] ∧ Ext w0 wl ∧ Box wl w0.heap.size 28 [.slice none 0 0, .slice none 0 0] ∧ Own shStr 9 w2.heap.size w2.heap.size w17.heap.size wl v16 heads ∧ Own shRowN 41 w17.heap.size w17.heap.size wl.heap.size wl v zs ∧ Nst shI64 2 (fun x : List Int => x) w17.heap.size wl.heap.size wl zs ∧ Box wl w24.heap.size 28 [v16, v] ∧ w39.heap.size ≤ wl.heap.size ∧ (i ≤ rows.length) ∧ (zs.length = i) ∧ (zs.map (·.1) = rows.take i)) (fun (⟨i, v, zs⟩ : Nat × Value × (List (List Int × Value))) => rows.length - i) (0, v23, ([] : List ((List Int) × Value))) ?_ ?_
 ·
  exact ⟨(Sl.cons_ ha44 rfl rfl (Sl.cons_ ha44 rfl rfl (Sl.cons_ ha44 rfl rfl (Sl.cons_ ha44 rfl (int_eq (by omega)) (Sl.nil_ ha44))))), hx43, hb4, ho18, (ho25.fin (by omega) (by omega) (by omega)), (hN30.fin (by omega) (by omega)), hb41, (by omega), (by omega), (by rfl), (by simp)⟩
 ·
  clear ha44 a44
  rintro ⟨i, v, zs⟩ a52 w45 ⟨ha52, hx46, hf47, hf48, hf49, hf50, hf51, hzl53, hi, hl, hF⟩
  have hzhx46 := hx46.size
  refine wp_seq ?_
  refine wp_seq ?_
  refine wp_region_lit ?_
  refine wl_val ha52 rfl rfl rfl (op_move ha52 rfl rfl) ?_
  intro a54 ha54; clear ha52 a52
  refine wl_val ha54 rfl rfl rfl (op_move ha54 rfl rfl) ?_
  intro a55 ha55; clear ha54 a54
  refine wl_val ha55 rfl rfl rfl (op_len_sl ha55 rfl Try.underlying23 rfl h_rows) ?_
  intro a56 ha56; clear ha55 a55
  refine wl_val ha56 rfl rfl rfl (op_lss ha56 rfl rfl rfl) ?_
  intro a57 ha57; clear ha56 a56
  refine wpList_nil ?_
  refine then_n ?_
  by_cases c58 : ((i : Nat) : Int) < ((rows.length : Nat) : Int)
  ·
   rw [decide_eq_true c58] at ha57
   refine cond_t ha57 rfl ?_
   refine wp_skip ?_
   refine then_n ?_
   refine wp_seq ?_
   refine wp_block ?_
   refine dr_enter (fun wa_ wb_ => StpL wa_ wb_ (fun i => Value.ownBlock v = some i ∨ i = w24.heap.size)) follows_mixed ?_
   intro w59 he60
   have hx61 := hx46.trans' he60
   have hzhx61 := he60.size
   replace hf47 := hf47.ext he60
   replace hf48 := hf48.ext he60
   replace hf49 := hf49.ext he60
   replace hf50 := hf50.ext he60
   replace hf51 := hf51.ext he60
   have hs62 : Ext w59 w59 := Ext.rfl' _
   refine dr_val (i := 0) ha57 rfl (by kernel_rfl) (by kernel_rfl) (by kernel_rfl) rfl rfl rfl (StpL.of_ext hs62) (fun w' hw' => op_fieldAddr (sz := 0) ha57 rfl Try.underlying28 rfl rfl ti23 rfl) ?_
   intro a63 ha63; clear ha57 a57
   refine dr_val (i := 2) ha63 rfl (by kernel_rfl) (by kernel_rfl) (by kernel_rfl) rfl rfl rfl (StpL.of_ext hs62) (fun w' hw' => op_move ha63 rfl rfl) ?_
   intro a64 ha64; clear ha63 a63
   refine dr_val (i := 3) ha64 rfl (by kernel_rfl) (by kernel_rfl) (by kernel_rfl) rfl rfl rfl (StpL.of_ext hs62) (fun w' hw' => op_move ha64 rfl rfl) ?_
   intro a65 ha65; clear ha64 a64
   obtain ⟨x66, hx66⟩ := get_ex (xs := rows) (j := i) (by omega)
   obtain ⟨p67, c68, hi69, hc70, hr71, hs72⟩ := Rds.at_ h_rows hx66
   obtain ⟨v73, rfl, b74⟩ := inv_shRow hr71
   have hlb74 := b74.length_le
   refine dr_val (i := 4) ha65 rfl (by kernel_rfl) (by kernel_rfl) (by kernel_rfl) rfl rfl rfl (StpL.of_ext hs62) (fun w' hw' => op_indexAddr ha65 rfl Try.underlying23 ti41 rfl rfl (by omega) hi69) ?_
   intro a75 ha75; clear ha65 a65
   refine dr_val (i := 5) ha75 rfl (by kernel_rfl) (by kernel_rfl) (by kernel_rfl) rfl rfl rfl (StpL.of_ext hs62) (fun w' hw' => op_loadH ha75 rfl Try.underlying41 rfl rfl (hc70.ext (hx61.stpL hw' (by rintro _ (q | q) <;> first | omega | (have hq0 := hf49.lt _ q; omega)))) rfl) ?_
   intro a76 ha76; clear ha75 a75
   refine dr_two (i := 1) (j := 6) (by kernel_rfl) ?_ ?_
   ·
    refine po_to ha76 rfl rfl rfl rfl (op_loadF (off := 1) ha76 rfl Try.underlying23 rfl rfl (hf51.ext hs62).cells rfl) ?_
    intro a77 ha77; clear ha76 a76
    refine ⟨(StpL.of_ext hs62), ?_⟩
    refine dr_one (i := 6) (by kernel_rfl) ?_
    refine po_callR ha77 rfl rfl rfl rfl (op_call ha77 rfl cb86 rfl) (c_spec_l01Own _ v73 x66 (b74.ext pos_shI64 (hx61.trans' hs62)) (by first | assumption | omega | exact g2 _ (List.mem_of_getElem? (by assumption)))) ?_
    rintro v78 w79 he80 ho81 a82 ha82; clear ha77 a77
    have hs83 := hs62.trans' he80
    have hx84 := hx61.trans' he80
    have hzhx84 := he80.size
    refine ⟨(StpL.of_ext hs83), ?_⟩
    refine dr_one (i := 7) (by kernel_rfl) ?_
    refine po_eff ha82 rfl rfl rfl rfl (op_buildSlice (s := shRowN) (xs := [(((x66) : List Int), (v78 : Value))]) (cs := [v78]) (vs := [(0, v78)]) (S := fun _ => False) (le := w79.heap.size) ha82 rfl pos_shRowN Try.underlying23 ti41 rfl rfl (by decide) ((fill_one (off := 0) ho81.cells1 (by kernel_rfl) (by kernel_rfl)).trans (by kernel_rfl)) (Els.single (mk_shRowN ((((x66) : List Int), (v78 : Value))) ho81.one)) (fun _ h => h.elim)) ?_
    rintro v85 w86 ⟨ho87, he88, hob89⟩ a90 ha90; clear ha82 a82
    have hs91 := hs83.trans' he88
    have hx92 := hx84.trans' he88
    have hzhx92 := he88.size
    replace ho81 := ho81.ext he88
    refine ⟨(StpL.of_ext hs91), ?_⟩
    have hN93 : Nst shI64 2 (fun x : List Int => x) w59.heap.size w86.heap.size w86 ([(((x66) : List Int), (v78 : Value))]) := Nst.one (ho81.fin (by omega) (by omega) (by omega))
    refine dr_one (i := 8) (by kernel_rfl) ?_
    replace hf47 := hf47.ext hs91
    replace hf48 := hf48.ext hs91
    replace hf49 := hf49.ext hs91
    replace hf50 := hf50.ext hs91
    replace hf51 := hf51.ext hs91
    refine po_eff ha90 rfl rfl rfl rfl (op_append (ts := #[]) (s := shRowN) ha90 rfl Try.underlying23 ti41 rfl pos_shRowN rfl rfl hf49 (ho87.rds pos_shRowN) (by omega) (by omega) (by first | omega | (simp; omega)) (by first | omega | (simp; omega)) (.inl flat_shRowN)) ?_
    rintro v94 w95 ⟨ho96, hst97, hob98⟩ a99 ha99; clear ha90 a90
    have hx100 := hx92.stp hst97 (by intro q hq; have hq0 := hf49.lt q hq; omega)
    have hzhx100 := hst97.size
    replace hf47 := hf47.stp hst97 (by intro q hq; have hq0 := hf49.lt q hq; omega)
    replace hf48 := hf48.stp hst97 (by intro q hq; have hq0 := hf49.lt q hq; omega)
    first | replace hf50 := hf50.stpF flat_shI64 hst97 hf49 rfl | replace hf50 := hf50.stp hst97 (by intro q hq; have hq0 := hf49.lt q hq; omega)
    first | replace hf51 := hf51.stp hst97 (by intro q hq; have hq0 := hf49.lt q hq; omega) | replace hf51 := hf51.stp hst97 (by intro q hq e; subst e; exact hf49.ne_box hf51 rfl hq)
    replace ho81 := ho81.stp hst97 (by intro q hq; have hq0 := hf49.lt q hq; omega)
    replace ho87 := ho87.stp hst97 (by intro q hq; have hq0 := hf49.lt q hq; omega)
    replace hN93 := hN93.stp hst97 (by intro q hq; have hq0 := hf49.lt q hq; omega)
    have hsp101 : ∀ q, Value.ownBlock v94 = some q → Value.ownBlock v85 ≠ some q := by intro q hq hb; have hq0 := ho87.lt q hb; rcases hob98 with h | h; (rw [h] at hq; first | (have hq1 := hf49.lt q hq; omega)); (rw [h] at hq; cases hq; omega)
    have hN102 : Nst shI64 2 (fun x : List Int => x) w17.heap.size w95.heap.size w95 ((zs ++ [(((x66) : List Int), (v78 : Value))])) := (hf50.app hN93 (by omega) (by omega) (by omega)).fin (by omega) (by omega)
    have hs103 := (StpL.of_ext (B := fun i => Value.ownBlock v = some i ∨ i = w24.heap.size) hs91).trans' (Stp.toL hst97 (by intro q hq; exact Or.inl hq))
    refine ⟨hs103, ?_⟩
    refine dr_val (i := 9) ha99 rfl (by kernel_rfl) (by kernel_rfl) (by kernel_rfl) rfl rfl rfl hs103 (fun w' hw' => op_fieldAddr (sz := 0) ha99 rfl Try.underlying28 rfl rfl ti23 rfl) ?_
    intro a104 ha104; clear ha99 a99
    refine dr_one (i := 10) (by kernel_rfl) ?_
    refine po_effS ha104 rfl rfl rfl (op_store' (off := 1) ha104 rfl ti23 rfl rfl hf51 ho96.cells1 rfl (by intro u hu; have hu : u ∈ ([v94] : List Value) := hu; simp only [List.mem_cons, List.mem_nil_iff, or_false] at hu; rcases hu with rfl <;> first | rfl | exact ho96.one) (Nat.le_of_ble_eq_true rfl)) ?_
    rintro w105 ⟨hb107, hst106, hz108⟩
    have hx109 := hx100.stp hst106 (by intro q hq; cases hq; exact (by omega))
    have hzhx109 := hst106.size
    replace hf47 := hf47.stp hst106 (by intro q hq; cases hq; omega)
    replace hf48 := hf48.stp hst106 (by intro q hq; cases hq; omega)
    replace ho81 := ho81.stp hst106 (by intro q hq; cases hq; omega)
    replace ho87 := ho87.stp hst106 (by intro q hq; cases hq; omega)
    first | replace ho96 := ho96.stp hst106 (by intro q hq; cases hq; omega) | replace ho96 := ho96.stpF flat_shRowN hst106 (by intro q hq; cases hq; exact ho96.ne_box (by assumption) rfl)
    first | replace hN102 := hN102.stp hst106 (by intro q hq; cases hq; omega) | replace hN102 := hN102.stpB flat_shI64 hst106 (by assumption) rfl
    clear hf51
    have hs110 := hs103.trans' (Stp.toL hst106 (by intro q hq; cases hq; exact Or.inr (rfl)))
    refine ⟨hs110, ?_⟩
    refine dr_end (by kernel_rfl) ?_
    refine block_n ?_
    refine then_n ?_
    refine wp_region_lit ?_
    refine wl_val ha104 rfl rfl rfl (op_move ha104 rfl rfl) ?_
    intro a111 ha111; clear ha104 a104
    refine wl_val ha111 rfl rfl rfl ((op_add ha111 rfl rfl rfl).int (IntWalk.i64_in _ (by omega))) ?_
    intro a112 ha112; clear ha111 a111
    refine wl_val ha112 rfl rfl rfl (op_assign ha112 rfl rfl) ?_
    intro a113 ha113; clear ha112 a112
    refine wpList_nil ?_
    refine round_end (x := (i, v, zs)) ((i + 1), v94, (zs ++ [(((x66) : List Int), (v78 : Value))])) ?_ ?_
    ·
     refine ⟨(Sl.cons_ ha113 rfl rfl (Sl.cons_ ha113 rfl rfl (Sl.cons_ ha113 rfl rfl (Sl.cons_ ha113 rfl (int_eq (by omega)) (Sl.nil_ ha113))))), hx109, hf47, hf48, (ho96.fin (by omega) (by omega) (by omega)), (hN102.fin (by omega) (by omega)), hb107, (by omega), (by omega), (by (simp; omega)), (by rw [take_snoc hx66, ← hF]; simp)⟩
    ·show (rows.length - ((i + 1)) : Nat) < rows.length - i; omega
   ·
    refine po_callR ha76 rfl rfl rfl rfl (op_call ha76 rfl cb86 rfl) (c_spec_l01Own _ v73 x66 (b74.ext pos_shI64 (hx61.trans' hs62)) (by first | assumption | omega | exact g2 _ (List.mem_of_getElem? (by assumption)))) ?_
    rintro v114 w115 he116 ho117 a118 ha118; clear ha76 a76
    have hs119 := hs62.trans' he116
    have hx120 := hx61.trans' he116
    have hzhx120 := he116.size
    refine ⟨(StpL.of_ext hs119), ?_⟩
    refine dr_two (i := 1) (j := 7) (by kernel_rfl) ?_ ?_
    ·
     refine po_to ha118 rfl rfl rfl rfl (op_loadF (off := 1) ha118 rfl Try.underlying23 rfl rfl (hf51.ext hs119).cells rfl) ?_
     intro a121 ha121; clear ha118 a118
     refine ⟨(StpL.of_ext hs119), ?_⟩
     refine dr_one (i := 7) (by kernel_rfl) ?_
     refine po_eff ha121 rfl rfl rfl rfl (op_buildSlice (s := shRowN) (xs := [(((x66) : List Int), (v114 : Value))]) (cs := [v114]) (vs := [(0, v114)]) (S := fun _ => False) (le := w115.heap.size) ha121 rfl pos_shRowN Try.underlying23 ti41 rfl rfl (by decide) ((fill_one (off := 0) ho117.cells1 (by kernel_rfl) (by kernel_rfl)).trans (by kernel_rfl)) (Els.single (mk_shRowN ((((x66) : List Int), (v114 : Value))) ho117.one)) (fun _ h => h.elim)) ?_
     rintro v122 w123 ⟨ho124, he125, hob126⟩ a127 ha127; clear ha121 a121
     have hs128 := hs119.trans' he125
     have hx129 := hx120.trans' he125
     have hzhx129 := he125.size
     replace ho117 := ho117.ext he125
     refine ⟨(StpL.of_ext hs128), ?_⟩
     have hN130 : Nst shI64 2 (fun x : List Int => x) w59.heap.size w123.heap.size w123 ([(((x66) : List Int), (v114 : Value))]) := Nst.one (ho117.fin (by omega) (by omega) (by omega))
     refine dr_one (i := 8) (by kernel_rfl) ?_
     replace hf47 := hf47.ext hs128
     replace hf48 := hf48.ext hs128
     replace hf49 := hf49.ext hs128
     replace hf50 := hf50.ext hs128
     replace hf51 := hf51.ext hs128
     refine po_eff ha127 rfl rfl rfl rfl (op_append (ts := #[]) (s := shRowN) ha127 rfl Try.underlying23 ti41 rfl pos_shRowN rfl rfl hf49 (ho124.rds pos_shRowN) (by omega) (by omega) (by first | omega | (simp; omega)) (by first | omega | (simp; omega)) (.inl flat_shRowN)) ?_
     rintro v131 w132 ⟨ho133, hst134, hob135⟩ a136 ha136; clear ha127 a127
     have hx137 := hx129.stp hst134 (by intro q hq; have hq0 := hf49.lt q hq; omega)
     have hzhx137 := hst134.size
     replace hf47 := hf47.stp hst134 (by intro q hq; have hq0 := hf49.lt q hq; omega)
     replace hf48 := hf48.stp hst134 (by intro q hq; have hq0 := hf49.lt q hq; omega)
     first | replace hf50 := hf50.stpF flat_shI64 hst134 hf49 rfl | replace hf50 := hf50.stp hst134 (by intro q hq; have hq0 := hf49.lt q hq; omega)
     first | replace hf51 := hf51.stp hst134 (by intro q hq; have hq0 := hf49.lt q hq; omega) | replace hf51 := hf51.stp hst134 (by intro q hq e; subst e; exact hf49.ne_box hf51 rfl hq)
     replace ho117 := ho117.stp hst134 (by intro q hq; have hq0 := hf49.lt q hq; omega)
     replace ho124 := ho124.stp hst134 (by intro q hq; have hq0 := hf49.lt q hq; omega)
     replace hN130 := hN130.stp hst134 (by intro q hq; have hq0 := hf49.lt q hq; omega)
     have hsp138 : ∀ q, Value.ownBlock v131 = some q → Value.ownBlock v122 ≠ some q := by intro q hq hb; have hq0 := ho124.lt q hb; rcases hob135 with h | h; (rw [h] at hq; first | (have hq1 := hf49.lt q hq; omega)); (rw [h] at hq; cases hq; omega)
     have hN139 : Nst shI64 2 (fun x : List Int => x) w17.heap.size w132.heap.size w132 ((zs ++ [(((x66) : List Int), (v114 : Value))])) := (hf50.app hN130 (by omega) (by omega) (by omega)).fin (by omega) (by omega)
     have hs140 := (StpL.of_ext (B := fun i => Value.ownBlock v = some i ∨ i = w24.heap.size) hs128).trans' (Stp.toL hst134 (by intro q hq; exact Or.inl hq))
     refine ⟨hs140, ?_⟩
     refine dr_val (i := 9) ha136 rfl (by kernel_rfl) (by kernel_rfl) (by kernel_rfl) rfl rfl rfl hs140 (fun w' hw' => op_fieldAddr (sz := 0) ha136 rfl Try.underlying28 rfl rfl ti23 rfl) ?_
     intro a141 ha141; clear ha136 a136
     refine dr_one (i := 10) (by kernel_rfl) ?_
     refine po_effS ha141 rfl rfl rfl (op_store' (off := 1) ha141 rfl ti23 rfl rfl hf51 ho133.cells1 rfl (by intro u hu; have hu : u ∈ ([v131] : List Value) := hu; simp only [List.mem_cons, List.mem_nil_iff, or_false] at hu; rcases hu with rfl <;> first | rfl | exact ho133.one) (Nat.le_of_ble_eq_true rfl)) ?_
     rintro w142 ⟨hb144, hst143, hz145⟩
     have hx146 := hx137.stp hst143 (by intro q hq; cases hq; exact (by omega))
     have hzhx146 := hst143.size
     replace hf47 := hf47.stp hst143 (by intro q hq; cases hq; omega)
     replace hf48 := hf48.stp hst143 (by intro q hq; cases hq; omega)
     replace ho117 := ho117.stp hst143 (by intro q hq; cases hq; omega)
     replace ho124 := ho124.stp hst143 (by intro q hq; cases hq; omega)
     first | replace ho133 := ho133.stp hst143 (by intro q hq; cases hq; omega) | replace ho133 := ho133.stpF flat_shRowN hst143 (by intro q hq; cases hq; exact ho133.ne_box (by assumption) rfl)
     first | replace hN139 := hN139.stp hst143 (by intro q hq; cases hq; omega) | replace hN139 := hN139.stpB flat_shI64 hst143 (by assumption) rfl
     clear hf51
     have hs147 := hs140.trans' (Stp.toL hst143 (by intro q hq; cases hq; exact Or.inr (rfl)))
     refine ⟨hs147, ?_⟩
     refine dr_end (by kernel_rfl) ?_
     refine block_n ?_
     refine then_n ?_
     refine wp_region_lit ?_
     refine wl_val ha141 rfl rfl rfl (op_move ha141 rfl rfl) ?_
     intro a148 ha148; clear ha141 a141
     refine wl_val ha148 rfl rfl rfl ((op_add ha148 rfl rfl rfl).int (IntWalk.i64_in _ (by omega))) ?_
     intro a149 ha149; clear ha148 a148
     refine wl_val ha149 rfl rfl rfl (op_assign ha149 rfl rfl) ?_
     intro a150 ha150; clear ha149 a149
     refine wpList_nil ?_
     refine round_end (x := (i, v, zs)) ((i + 1), v131, (zs ++ [(((x66) : List Int), (v114 : Value))])) ?_ ?_
     ·
      refine ⟨(Sl.cons_ ha150 rfl rfl (Sl.cons_ ha150 rfl rfl (Sl.cons_ ha150 rfl rfl (Sl.cons_ ha150 rfl (int_eq (by omega)) (Sl.nil_ ha150))))), hx146, hf47, hf48, (ho133.fin (by omega) (by omega) (by omega)), (hN139.fin (by omega) (by omega)), hb144, (by omega), (by omega), (by (simp; omega)), (by rw [take_snoc hx66, ← hF]; simp)⟩
     ·show (rows.length - ((i + 1)) : Nat) < rows.length - i; omega
    ·
     refine po_eff ha118 rfl rfl rfl rfl (op_buildSlice (s := shRowN) (xs := [(((x66) : List Int), (v114 : Value))]) (cs := [v114]) (vs := [(0, v114)]) (S := fun _ => False) (le := w115.heap.size) ha118 rfl pos_shRowN Try.underlying23 ti41 rfl rfl (by decide) ((fill_one (off := 0) ho117.cells1 (by kernel_rfl) (by kernel_rfl)).trans (by kernel_rfl)) (Els.single (mk_shRowN ((((x66) : List Int), (v114 : Value))) ho117.one)) (fun _ h => h.elim)) ?_
     rintro v151 w152 ⟨ho153, he154, hob155⟩ a156 ha156; clear ha118 a118
     have hs157 := hs119.trans' he154
     have hx158 := hx120.trans' he154
     have hzhx158 := he154.size
     replace ho117 := ho117.ext he154
     refine ⟨(StpL.of_ext hs157), ?_⟩
     have hN159 : Nst shI64 2 (fun x : List Int => x) w59.heap.size w152.heap.size w152 ([(((x66) : List Int), (v114 : Value))]) := Nst.one (ho117.fin (by omega) (by omega) (by omega))
     refine dr_one (i := 1) (by kernel_rfl) ?_
     refine po_to ha156 rfl rfl rfl rfl (op_loadF (off := 1) ha156 rfl Try.underlying23 rfl rfl (hf51.ext hs157).cells rfl) ?_
     intro a160 ha160; clear ha156 a156
     refine ⟨(StpL.of_ext hs157), ?_⟩
     refine dr_one (i := 8) (by kernel_rfl) ?_
     replace hf47 := hf47.ext hs157
     replace hf48 := hf48.ext hs157
     replace hf49 := hf49.ext hs157
     replace hf50 := hf50.ext hs157
     replace hf51 := hf51.ext hs157
     refine po_eff ha160 rfl rfl rfl rfl (op_append (ts := #[]) (s := shRowN) ha160 rfl Try.underlying23 ti41 rfl pos_shRowN rfl rfl hf49 (ho153.rds pos_shRowN) (by omega) (by omega) (by first | omega | (simp; omega)) (by first | omega | (simp; omega)) (.inl flat_shRowN)) ?_
     rintro v161 w162 ⟨ho163, hst164, hob165⟩ a166 ha166; clear ha160 a160
     have hx167 := hx158.stp hst164 (by intro q hq; have hq0 := hf49.lt q hq; omega)
     have hzhx167 := hst164.size
     replace hf47 := hf47.stp hst164 (by intro q hq; have hq0 := hf49.lt q hq; omega)
     replace hf48 := hf48.stp hst164 (by intro q hq; have hq0 := hf49.lt q hq; omega)
     first | replace hf50 := hf50.stpF flat_shI64 hst164 hf49 rfl | replace hf50 := hf50.stp hst164 (by intro q hq; have hq0 := hf49.lt q hq; omega)
     first | replace hf51 := hf51.stp hst164 (by intro q hq; have hq0 := hf49.lt q hq; omega) | replace hf51 := hf51.stp hst164 (by intro q hq e; subst e; exact hf49.ne_box hf51 rfl hq)
     replace ho117 := ho117.stp hst164 (by intro q hq; have hq0 := hf49.lt q hq; omega)
     replace ho153 := ho153.stp hst164 (by intro q hq; have hq0 := hf49.lt q hq; omega)
     replace hN159 := hN159.stp hst164 (by intro q hq; have hq0 := hf49.lt q hq; omega)
     have hsp168 : ∀ q, Value.ownBlock v161 = some q → Value.ownBlock v151 ≠ some q := by intro q hq hb; have hq0 := ho153.lt q hb; rcases hob165 with h | h; (rw [h] at hq; first | (have hq1 := hf49.lt q hq; omega)); (rw [h] at hq; cases hq; omega)
     have hN169 : Nst shI64 2 (fun x : List Int => x) w17.heap.size w162.heap.size w162 ((zs ++ [(((x66) : List Int), (v114 : Value))])) := (hf50.app hN159 (by omega) (by omega) (by omega)).fin (by omega) (by omega)
     have hs170 := (StpL.of_ext (B := fun i => Value.ownBlock v = some i ∨ i = w24.heap.size) hs157).trans' (Stp.toL hst164 (by intro q hq; exact Or.inl hq))
     refine ⟨hs170, ?_⟩
     refine dr_val (i := 9) ha166 rfl (by kernel_rfl) (by kernel_rfl) (by kernel_rfl) rfl rfl rfl hs170 (fun w' hw' => op_fieldAddr (sz := 0) ha166 rfl Try.underlying28 rfl rfl ti23 rfl) ?_
     intro a171 ha171; clear ha166 a166
     refine dr_one (i := 10) (by kernel_rfl) ?_
     refine po_effS ha171 rfl rfl rfl (op_store' (off := 1) ha171 rfl ti23 rfl rfl hf51 ho163.cells1 rfl (by intro u hu; have hu : u ∈ ([v161] : List Value) := hu; simp only [List.mem_cons, List.mem_nil_iff, or_false] at hu; rcases hu with rfl <;> first | rfl | exact ho163.one) (Nat.le_of_ble_eq_true rfl)) ?_
     rintro w172 ⟨hb174, hst173, hz175⟩
     have hx176 := hx167.stp hst173 (by intro q hq; cases hq; exact (by omega))
     have hzhx176 := hst173.size
     replace hf47 := hf47.stp hst173 (by intro q hq; cases hq; omega)
     replace hf48 := hf48.stp hst173 (by intro q hq; cases hq; omega)
     replace ho117 := ho117.stp hst173 (by intro q hq; cases hq; omega)
     replace ho153 := ho153.stp hst173 (by intro q hq; cases hq; omega)
     first | replace ho163 := ho163.stp hst173 (by intro q hq; cases hq; omega) | replace ho163 := ho163.stpF flat_shRowN hst173 (by intro q hq; cases hq; exact ho163.ne_box (by assumption) rfl)
     first | replace hN169 := hN169.stp hst173 (by intro q hq; cases hq; omega) | replace hN169 := hN169.stpB flat_shI64 hst173 (by assumption) rfl
     clear hf51
     have hs177 := hs170.trans' (Stp.toL hst173 (by intro q hq; cases hq; exact Or.inr (rfl)))
     refine ⟨hs177, ?_⟩
     refine dr_end (by kernel_rfl) ?_
     refine block_n ?_
     refine then_n ?_
     refine wp_region_lit ?_
     refine wl_val ha171 rfl rfl rfl (op_move ha171 rfl rfl) ?_
     intro a178 ha178; clear ha171 a171
     refine wl_val ha178 rfl rfl rfl ((op_add ha178 rfl rfl rfl).int (IntWalk.i64_in _ (by omega))) ?_
     intro a179 ha179; clear ha178 a178
     refine wl_val ha179 rfl rfl rfl (op_assign ha179 rfl rfl) ?_
     intro a180 ha180; clear ha179 a179
     refine wpList_nil ?_
     refine round_end (x := (i, v, zs)) ((i + 1), v161, (zs ++ [(((x66) : List Int), (v114 : Value))])) ?_ ?_
     ·
      refine ⟨(Sl.cons_ ha180 rfl rfl (Sl.cons_ ha180 rfl rfl (Sl.cons_ ha180 rfl rfl (Sl.cons_ ha180 rfl (int_eq (by omega)) (Sl.nil_ ha180))))), hx176, hf47, hf48, (ho163.fin (by omega) (by omega) (by omega)), (hN169.fin (by omega) (by omega)), hb174, (by omega), (by omega), (by (simp; omega)), (by rw [take_snoc hx66, ← hF]; simp)⟩
     ·show (rows.length - ((i + 1)) : Nat) < rows.length - i; omega
  ·
   rw [decide_eq_false c58] at ha57
   refine cond_f ha57 rfl ?_
   refine wp_exit ?_
   refine then_e ?_
   refine then_e ?_
   refine block_hit ?_
   refine then_n ?_
   refine wp_seq ?_
   refine wp_region_lit ?_
   refine wl_val ha57 rfl rfl rfl (op_loadS ha57 rfl Try.underlying28 ti28 rfl rfl hf51.cells) ?_
   intro a181 ha181; clear ha57 a57
   refine wl_effS ha181 rfl rfl (op_storeAll' ha181 rfl ti28 rfl rfl hf47 rfl rfl (by intro u hu; have hu : u ∈ ([v16, v] : List Value) := hu; simp only [List.mem_cons, List.mem_nil_iff, or_false] at hu; rcases hu with rfl | rfl <;> first | rfl | exact hf48.one | exact hf49.one) rfl) ?_
   rintro w182 ⟨hb184, hst183, hz185⟩
   have hx186 := hx46.stp hst183 (by intro q hq; cases hq; exact (by omega))
   have hzhx186 := hst183.size
   replace hf48 := hf48.stp hst183 (by intro q hq; cases hq; omega)
   replace hf49 := hf49.stp hst183 (by intro q hq; cases hq; omega)
   replace hf50 := hf50.stp hst183 (by intro q hq; cases hq; omega)
   replace hf51 := hf51.stp hst183 (by intro q hq; cases hq; omega)
   clear hf47
   refine wpList_nil ?_
   refine then_n ?_
   refine wp_ret ?_
   refine retc ha181 rfl rfl Try.underlying28 ti28 rfl hb184.cells ?_
   clear ha181 a181
   refine ret_mk hx186 ⟨v16, v, zs, (by rfl), ?_, hf49.fin (by omega) (by omega) (by omega), hf50.fin (by omega) (by omega), ?_⟩
   ·
    refine (hf48.fin (by omega) (by omega) (by omega)).cast ?_
    rfl
   ·
    rw [hF]; exact List.take_of_length_le (by omega)


end Go.Proofs.Ytjpldgicibnkcaa
