/- Ways to the first version. -/
import Derived.Test.YtllpdkidaldkiaaW2
namespace Go.Proofs.Ytllpdkidaldkiaa
open Go Go.RowKit

theorem c_spec_l29Way (w0 : World) (v_list : Value) (list : List (Int × List (Str × Int))) {S_list : Nat → Prop} (version : Int) (h_list : Rds shVer S_list w0 v_list list) (g0 : veB list = true) (g1 : version < (list.length : Nat)) :
  Calls Try.prog 75 #[v_list, .int .i64 version] w0 (Ret w0 (fun v w1 => Own shI64 2 w0.heap.size w0.heap.size w1.heap.size w1 v (wayV list version))) := by
 refine enter (N := 19) Try.func75 rfl rfl rfl ?_
 intro a0 ha0
 have hx0 := Ext.rfl' w0
 have hl_list := h_list.length_le
 have hlen := veB_len g0
 have hpk := par_ok g0
 have hwl := wayV_len hpk (version + 1).toNat version (by omega)
 refine wp_seq ?_
 refine wp_region_lit ?_
 refine wl_val ha0 rfl rfl rfl (op_assign ha0 rfl rfl) ?_
 intro a1 ha1; clear ha0 a0
 refine wpList_nil ?_
 refine then_n ?_
 refine wp_seq ?_
 refine wp_region_lit ?_
 refine wl_eff ha1 rfl rfl rfl (op_buildSlice (s := shI64) (xs := ([] : List Int)) (cs := []) (vs := []) (S := fun _ => False) (le := w0.heap.size) ha1 rfl pos_shI64 Try.underlying46 ti2 rfl rfl (by decide) (by kernel_rfl) rfl (fun _ h => h.elim)) ?_
 rintro v2 w3 ⟨ho4, he5, hob6⟩ a7 ha7; clear ha1 a1
 have hx8 := hx0.trans' he5
 have hzhx8 := he5.size
 refine wl_val ha7 rfl rfl rfl (op_assign ha7 rfl rfl) ?_
 intro a9 ha9; clear ha7 a7
 refine wpList_nil ?_
 refine then_n ?_
 refine wp_seq ?_
 refine wp_block ?_
 refine loop_inv (X := Int × Value × (List Int)) (fun (⟨u, v, acc⟩ : Int × Value × (List Int)) fr wl => Sl 19 fr [(0, v_list), (1, .int .i64 u), (5, v)] ∧ Ext w0 wl ∧ Own shI64 2 w0.heap.size w0.heap.size wl.heap.size wl v acc ∧ w3.heap.size ≤ wl.heap.size ∧ (u ≤ version) ∧ (-1 ≤ u ∨ u = version) ∧ ((acc.length : Int) + u ≤ version) ∧ (acc ++ wayV list u = wayV list version)) (fun (⟨u, v, acc⟩ : Int × Value × (List Int)) => (u + 1).toNat) (version, v2, ([] : List Int)) ?_ ?_
 ·
  exact ⟨(Sl.cons_ ha9 rfl rfl (Sl.cons_ ha9 rfl (int_eq (by omega)) (Sl.cons_ ha9 rfl rfl (Sl.nil_ ha9)))), hx8, (ho4.fin (by omega) (by omega) (by omega)), (by omega), (by omega), (by omega), (by simp), (by rfl)⟩
 ·
  clear ha9 a9
  rintro ⟨u, v, acc⟩ a13 w10 ⟨ha13, hx11, hf12, hzl14, hu, hu2, hl, hF⟩
  have hzhx11 := hx11.size
  refine wp_seq ?_
  refine wp_seq ?_
  refine wp_region_lit ?_
  refine wl_val ha13 rfl rfl rfl (op_move ha13 rfl rfl) ?_
  intro a15 ha15; clear ha13 a13
  refine wl_val ha15 rfl rfl rfl (op_geq ha15 rfl rfl rfl) ?_
  intro a16 ha16; clear ha15 a15
  refine wpList_nil ?_
  refine then_n ?_
  by_cases c17 : (0 : Int) ≤ u
  ·
   rw [decide_eq_true c17] at ha16
   refine cond_t ha16 rfl ?_
   refine wp_skip ?_
   refine then_n ?_
   refine wp_block ?_
   refine wp_seq ?_
   refine wp_region_lit ?_
   refine wl_val ha16 rfl rfl rfl (op_move ha16 rfl rfl) ?_
   intro a18 ha18; clear ha16 a16
   refine wl_val ha18 rfl rfl rfl (op_move ha18 rfl rfl) ?_
   intro a19 ha19; clear ha18 a18
   refine wl_eff ha19 rfl rfl rfl (op_buildSlice (s := shI64) (xs := [u]) (cs := [.int .i64 u]) (vs := [(0, .int .i64 u)]) (S := fun _ => False) (le := w10.heap.size) ha19 rfl pos_shI64 Try.underlying46 ti2 rfl rfl (by decide) (by kernel_rfl) (Els.single (mk_shI64 u (by first | assumption | omega | (simp; omega)))) (fun _ h => h.elim)) ?_
   rintro v20 w21 ⟨ho22, he23, hob24⟩ a25 ha25; clear ha19 a19
   have hx26 := hx11.trans' he23
   have hzhx26 := he23.size
   replace hf12 := hf12.ext he23
   refine wl_eff ha25 rfl rfl rfl (op_append (ts := #[]) (s := shI64) ha25 rfl Try.underlying46 ti2 rfl pos_shI64 rfl rfl hf12 (ho22.rds pos_shI64) (by omega) (by omega) (by first | omega | (simp; omega)) (by first | omega | (simp; omega)) (.inl flat_shI64)) ?_
   rintro v27 w28 ⟨ho29, hst30, hob31⟩ a32 ha32; clear ha25 a25
   have hx33 := hx26.stp hst30 (by intro q hq; have hq0 := hf12.lt q hq; omega)
   have hzhx33 := hst30.size
   replace ho22 := ho22.stp hst30 (by intro q hq; have hq0 := hf12.lt q hq; omega)
   have hsp34 : ∀ q, Value.ownBlock v27 = some q → Value.ownBlock v20 ≠ some q := by intro q hq hb; have hq0 := ho22.lt q hb; rcases hob31 with h | h; (rw [h] at hq; first | (have hq1 := hf12.lt q hq; omega)); (rw [h] at hq; cases hq; omega)
   refine wl_val ha32 rfl rfl rfl (op_assign ha32 rfl rfl) ?_
   intro a35 ha35; clear ha32 a32
   refine wpList_nil ?_
   refine then_n ?_
   refine wp_region_lit ?_
   refine wl_val ha35 rfl rfl rfl (op_move ha35 rfl rfl) ?_
   intro a36 ha36; clear ha35 a35
   refine wl_val ha36 rfl rfl rfl (op_move ha36 rfl rfl) ?_
   intro a37 ha37; clear ha36 a36
   obtain ⟨x38, hx38⟩ := get_ex (xs := list) (j := u.toNat) (by omega)
   obtain ⟨p39, c40, hi41, hc42, hr43, hs44⟩ := Rds.at_ h_list hx38
   obtain ⟨v45, rfl, b46, b47⟩ := inv_shVer hr43
   have hlb47 := b47.length_le
   have hvex38 := veB_at g0 hx38
   have hpex38 := parV_eq hx38
   have hlxx38 := shB_len hvex38.1
   refine wl_val ha37 rfl rfl rfl (op_indexAddr ha37 rfl Try.underlying27 ti56 rfl rfl (by omega) hi41) ?_
   intro a48 ha48; clear ha37 a37
   refine wl_val ha48 rfl rfl rfl (op_fieldAddr (sz := 0) ha48 rfl Try.underlying56 rfl rfl ti2 rfl) ?_
   intro a49 ha49; clear ha48 a48
   refine wl_val ha49 rfl rfl rfl (op_loadF (off := 0) ha49 rfl Try.underlying2 rfl rfl (hc42.ext hx33) rfl) ?_
   intro a50 ha50; clear ha49 a49
   refine wl_val ha50 rfl rfl rfl (op_assign ha50 rfl rfl) ?_
   intro a51 ha51; clear ha50 a50
   refine wpList_nil ?_
   refine block_n ?_
   refine round_end (x := (u, v, acc)) (x38.1, v27, (acc ++ [u])) ?_ ?_
   ·
    refine ⟨(Sl.cons_ ha51 rfl rfl (Sl.cons_ ha51 rfl (int_eq (by omega)) (Sl.cons_ ha51 rfl rfl (Sl.nil_ ha51)))), hx33, (ho29.fin (by omega) (by omega) (by omega)), (by omega), (by have := hpk u (by omega); omega), (by have := hpk u (by omega); omega), (by have := hpk u (by omega); simp only [List.length_append, List.length_singleton]; omega), (by rw [wayV_step hpk (by omega)] at hF; rw [hpex38] at hF; rw [List.append_assoc]; exact hF)⟩
   ·show ((x38.1 + 1).toNat : Nat) < (u + 1).toNat; have := hpk u (by omega); omega
  ·
   rw [decide_eq_false c17] at ha16
   refine cond_f ha16 rfl ?_
   refine wp_exit ?_
   refine then_e ?_
   refine then_e ?_
   refine block_hit ?_
   refine then_n ?_
   refine wp_seq ?_
   refine wp_region_lit ?_
   refine wl_val ha16 rfl rfl rfl (op_move ha16 rfl rfl) ?_
   intro a52 ha52; clear ha16 a16
   refine wl_val ha52 rfl rfl rfl (op_assign ha52 rfl rfl) ?_
   intro a53 ha53; clear ha52 a52
   refine wpList_nil ?_
   refine then_n ?_
   refine wp_ret ?_
   refine ret1 ha53 rfl rfl ?_
   clear ha53 a53
   refine ret_mk hx11 ?_
   refine (hf12.fin (by omega) (by omega) (by omega)).cast ?_
   rw [wayV_neg (by omega), List.append_nil] at hF; exact hF

theorem c_spec_l01Has (w0 : World) (v_list : Value) (list : List Int) {S_list : Nat → Prop} (x : Int) (h_list : Rds shI64 S_list w0 v_list list) :
  Calls Try.prog 88 #[v_list, .int .i64 x] w0 (Ret w0 (fun v _ => v = .bool (decide (x ∈ list)))) := by
 refine enter (N := 18) Try.func88 rfl rfl rfl ?_
 intro a0 ha0
 have hx0 := Ext.rfl' w0
 have hl_list := h_list.length_le
 refine wp_seq ?_
 refine wp_region_lit ?_
 refine wl_val ha0 rfl rfl rfl (op_assign ha0 rfl rfl) ?_
 intro a1 ha1; clear ha0 a0
 refine wpList_nil ?_
 refine then_n ?_
 refine wp_seq ?_
 refine wp_seq ?_
 refine wp_region_lit ?_
 refine wl_val ha1 rfl rfl rfl (op_assign ha1 rfl rfl) ?_
 intro a2 ha2; clear ha1 a1
 refine wpList_nil ?_
 refine then_n ?_
 refine wp_block ?_
 refine loop_inv (X := Nat) (fun (i : Nat) fr wl => Sl 18 fr [(0, v_list), (1, .int .i64 x), (5, .int .i64 ((i : Nat) : Int))] ∧ Ext w0 wl ∧ w0.heap.size ≤ wl.heap.size ∧ (i ≤ list.length) ∧ (∀ (j : Nat) (y : Int), j < i → list[j]? = some y → y ≠ x)) (fun (i : Nat) => list.length - i) (0) ?_ ?_
 ·
  exact ⟨(Sl.cons_ ha2 rfl rfl (Sl.cons_ ha2 rfl rfl (Sl.cons_ ha2 rfl (int_eq (by omega)) (Sl.nil_ ha2)))), hx0, (by omega), (by omega), (by exact all_zero)⟩
 ·
  clear ha2 a2
  rintro i a5 w3 ⟨ha5, hx4, hzl6, hi, hA⟩
  have hzhx4 := hx4.size
  refine wp_seq ?_
  refine wp_seq ?_
  refine wp_region_lit ?_
  refine wl_val ha5 rfl rfl rfl (op_move ha5 rfl rfl) ?_
  intro a7 ha7; clear ha5 a5
  refine wl_val ha7 rfl rfl rfl (op_move ha7 rfl rfl) ?_
  intro a8 ha8; clear ha7 a7
  refine wl_val ha8 rfl rfl rfl (op_len_sl ha8 rfl Try.underlying46 rfl h_list) ?_
  intro a9 ha9; clear ha8 a8
  refine wl_val ha9 rfl rfl rfl (op_lss ha9 rfl rfl rfl) ?_
  intro a10 ha10; clear ha9 a9
  refine wpList_nil ?_
  refine then_n ?_
  by_cases c11 : ((i : Nat) : Int) < ((list.length : Nat) : Int)
  ·
   rw [decide_eq_true c11] at ha10
   refine cond_t ha10 rfl ?_
   refine wp_skip ?_
   refine then_n ?_
   refine wp_seq ?_
   refine wp_block ?_
   refine wp_seq ?_
   refine wp_region_lit ?_
   refine wl_val ha10 rfl rfl rfl (op_move ha10 rfl rfl) ?_
   intro a12 ha12; clear ha10 a10
   refine wl_val ha12 rfl rfl rfl (op_move ha12 rfl rfl) ?_
   intro a13 ha13; clear ha12 a12
   obtain ⟨x14, hx14⟩ := get_ex (xs := list) (j := i) (by omega)
   obtain ⟨p15, c16, hi17, hc18, hr19, hs20⟩ := Rds.at_ h_list hx14
   obtain ⟨rfl, b21⟩ := inv_shI64 hr19
   refine wl_val ha13 rfl rfl rfl (op_indexAddr ha13 rfl Try.underlying46 ti2 rfl rfl (by omega) hi17) ?_
   intro a22 ha22; clear ha13 a13
   refine wl_val ha22 rfl rfl rfl (op_loadH ha22 rfl Try.underlying2 rfl rfl (hc18.ext hx4) rfl) ?_
   intro a23 ha23; clear ha22 a22
   refine wl_val ha23 rfl rfl rfl (op_move ha23 rfl rfl) ?_
   intro a24 ha24; clear ha23 a23
   refine wl_val ha24 rfl rfl rfl (op_eql ha24 rfl rfl rfl) ?_
   intro a25 ha25; clear ha24 a24
   refine wpList_nil ?_
   refine then_n ?_
   by_cases c26 : x14 = x
   ·
    rw [decide_eq_true c26] at ha25
    refine cond_t ha25 rfl ?_
    refine wp_seq ?_
    refine wp_region_lit ?_
    refine wl_val ha25 rfl rfl rfl (op_assign ha25 rfl rfl) ?_
    intro a27 ha27; clear ha25 a25
    refine wpList_nil ?_
    refine then_n ?_
    refine wp_ret ?_
    refine block_r ?_
    refine then_r ?_
    refine then_r ?_
    refine block_r ?_
    refine then_r ?_
    refine ret1 ha27 rfl rfl ?_
    clear ha27 a27
    exact ret_mk hx4 (congrArg Value.bool (by rw [decide_eq_true]; exact c26 ▸ List.mem_of_getElem? hx14))
   ·
    rw [decide_eq_false c26] at ha25
    refine cond_f ha25 rfl ?_
    refine wp_skip ?_
    refine block_n ?_
    refine then_n ?_
    refine wp_region_lit ?_
    refine wl_val ha25 rfl rfl rfl (op_move ha25 rfl rfl) ?_
    intro a28 ha28; clear ha25 a25
    refine wl_val ha28 rfl rfl rfl ((op_add ha28 rfl rfl rfl).int (IntWalk.i64_in _ (by omega))) ?_
    intro a29 ha29; clear ha28 a28
    refine wl_val ha29 rfl rfl rfl (op_assign ha29 rfl rfl) ?_
    intro a30 ha30; clear ha29 a29
    refine wpList_nil ?_
    refine round_end (x := i) ((i + 1)) ?_ ?_
    ·
     refine ⟨(Sl.cons_ ha30 rfl rfl (Sl.cons_ ha30 rfl rfl (Sl.cons_ ha30 rfl (int_eq (by omega)) (Sl.nil_ ha30)))), hx4, (by omega), (by omega), (by exact all_snoc (p := fun y => y ≠ x) hA hx14 (by assumption))⟩
    ·show (list.length - ((i + 1)) : Nat) < list.length - i; omega
  ·
   rw [decide_eq_false c11] at ha10
   refine cond_f ha10 rfl ?_
   refine wp_exit ?_
   refine then_e ?_
   refine then_e ?_
   refine block_hit ?_
   refine then_n ?_
   refine wp_seq ?_
   refine wp_region_lit ?_
   refine wl_val ha10 rfl rfl rfl (op_assign ha10 rfl rfl) ?_
   intro a31 ha31; clear ha10 a10
   refine wpList_nil ?_
   refine then_n ?_
   refine wp_ret ?_
   refine ret1 ha31 rfl rfl ?_
   clear ha31 a31
   refine ret_mk hx4 (congrArg Value.bool (by symm; rw [decide_eq_false_iff_not]; intro hm; obtain ⟨j, hj⟩ := List.getElem?_of_mem hm; exact hA j _ (by have := (List.getElem?_eq_some_iff.1 hj).1; omega) hj rfl))

theorem c_impl_commonVersion (w0 : World) (v_list : Value) (list : List (Int × List (Str × Int))) {S_list : Nat → Prop} (ca : Int) (cb : Int) (h_list : Rds shVer S_list w0 v_list list) (g0 : veB list = true) (g1 : 0 ≤ ca) (g2 : ca < (list.length : Nat)) (g3 : 0 ≤ cb) (g4 : cb < (list.length : Nat)) :
  Calls Try.prog 81 #[v_list, .int .i64 ca, .int .i64 cb] w0 (Ret w0 (fun v _ => v = .int .i64 (cmV list ca cb))) := by
 refine enter (N := 24) Try.func81 rfl rfl rfl ?_
 intro a0 ha0
 have hx0 := Ext.rfl' w0
 have hl_list := h_list.length_le
 have hlen := veB_len g0
 have hpk := par_ok g0
 refine wp_seq ?_
 refine wp_region_lit ?_
 refine wl_val ha0 rfl rfl rfl (op_assign ha0 rfl rfl) ?_
 intro a1 ha1; clear ha0 a0
 refine wpList_nil ?_
 refine then_n ?_
 refine wp_seq ?_
 refine wp_block ?_
 refine loop_inv (X := Int × Int) (fun (⟨a1, b1⟩ : Int × Int) fr wl => Sl 24 fr [(0, v_list), (1, .int .i64 a1), (2, .int .i64 b1)] ∧ Ext w0 wl ∧ w0.heap.size ≤ wl.heap.size ∧ (0 ≤ a1) ∧ (a1 < (list.length : Nat)) ∧ (0 ≤ b1) ∧ (b1 < (list.length : Nat)) ∧ (cmV list a1 b1 = cmV list ca cb)) (fun (⟨a1, b1⟩ : Int × Int) => a1.toNat + b1.toNat) (ca, cb) ?_ ?_
 ·
  exact ⟨(Sl.cons_ ha1 rfl rfl (Sl.cons_ ha1 rfl (int_eq (by omega)) (Sl.cons_ ha1 rfl (int_eq (by omega)) (Sl.nil_ ha1)))), hx0, (by omega), (by omega), (by omega), (by omega), (by omega), (by rfl)⟩
 ·
  clear ha1 a1
  rintro ⟨a1, b1⟩ a4 w2 ⟨ha4, hx3, hzl5, ha0, ha1, hb0, hb1, hF⟩
  have hzhx3 := hx3.size
  refine wp_seq ?_
  refine wp_seq ?_
  refine wp_region_lit ?_
  refine wl_val ha4 rfl rfl rfl (op_move ha4 rfl rfl) ?_
  intro a6 ha6; clear ha4 a4
  refine wl_val ha6 rfl rfl rfl (op_move ha6 rfl rfl) ?_
  intro a7 ha7; clear ha6 a6
  refine wl_val ha7 rfl rfl rfl ((op_neq ha7 rfl rfl rfl).to (congrArg Value.bool decide_not)) ?_
  intro a8 ha8; clear ha7 a7
  refine wpList_nil ?_
  refine then_n ?_
  by_cases c9 : a1 = b1
  ·
   rw [decide_eq_true c9] at ha8
   refine cond_f ha8 rfl ?_
   refine wp_exit ?_
   refine then_e ?_
   refine then_e ?_
   refine block_hit ?_
   refine then_n ?_
   refine wp_seq ?_
   refine wp_region_lit ?_
   refine wl_val ha8 rfl rfl rfl (op_move ha8 rfl rfl) ?_
   intro a10 ha10; clear ha8 a8
   refine wl_val ha10 rfl rfl rfl (op_assign ha10 rfl rfl) ?_
   intro a11 ha11; clear ha10 a10
   refine wpList_nil ?_
   refine then_n ?_
   refine wp_ret ?_
   refine ret1 ha11 rfl rfl ?_
   clear ha11 a11
   exact ret_mk hx3 (int_eq (by have e9 : a1 = b1 := (by omega); subst e9; rw [cmV_eq hpk (by omega)] at hF; exact hF))
  ·
   rw [decide_eq_false c9] at ha8
   refine cond_t ha8 rfl ?_
   refine wp_skip ?_
   refine then_n ?_
   refine wp_block ?_
   refine wp_seq ?_
   refine wp_region_lit ?_
   refine wl_val ha8 rfl rfl rfl (op_move ha8 rfl rfl) ?_
   intro a12 ha12; clear ha8 a8
   refine wl_val ha12 rfl rfl rfl (op_move ha12 rfl rfl) ?_
   intro a13 ha13; clear ha12 a12
   refine wl_val ha13 rfl rfl rfl (op_gtr ha13 rfl rfl rfl) ?_
   intro a14 ha14; clear ha13 a13
   refine wpList_nil ?_
   refine then_n ?_
   by_cases c15 : b1 < a1
   ·
    rw [decide_eq_true c15] at ha14
    refine cond_t ha14 rfl ?_
    refine wp_region_lit ?_
    refine wl_val ha14 rfl rfl rfl (op_move ha14 rfl rfl) ?_
    intro a16 ha16; clear ha14 a14
    refine wl_val ha16 rfl rfl rfl (op_move ha16 rfl rfl) ?_
    intro a17 ha17; clear ha16 a16
    obtain ⟨x18, hx18⟩ := get_ex (xs := list) (j := a1.toNat) (by omega)
    obtain ⟨p19, c20, hi21, hc22, hr23, hs24⟩ := Rds.at_ h_list hx18
    obtain ⟨v25, rfl, b26, b27⟩ := inv_shVer hr23
    have hlb27 := b27.length_le
    have hvex18 := veB_at g0 hx18
    have hpex18 := parV_eq hx18
    have hlxx18 := shB_len hvex18.1
    refine wl_val ha17 rfl rfl rfl (op_indexAddr ha17 rfl Try.underlying27 ti56 rfl rfl (by omega) hi21) ?_
    intro a28 ha28; clear ha17 a17
    refine wl_val ha28 rfl rfl rfl (op_fieldAddr (sz := 0) ha28 rfl Try.underlying56 rfl rfl ti2 rfl) ?_
    intro a29 ha29; clear ha28 a28
    refine wl_val ha29 rfl rfl rfl (op_loadF (off := 0) ha29 rfl Try.underlying2 rfl rfl (hc22.ext hx3) rfl) ?_
    intro a30 ha30; clear ha29 a29
    refine wl_val ha30 rfl rfl rfl (op_assign ha30 rfl rfl) ?_
    intro a31 ha31; clear ha30 a30
    refine wpList_nil ?_
    refine block_n ?_
    refine round_end (x := (a1, b1)) (x18.1, b1) ?_ ?_
    ·
     refine ⟨(Sl.cons_ ha31 rfl rfl (Sl.cons_ ha31 rfl (int_eq (by omega)) (Sl.cons_ ha31 rfl (int_eq (by omega)) (Sl.nil_ ha31)))), hx3, (by omega), (by omega), (by omega), (by omega), (by omega), (by rw [cmV_a hpk (by omega) (by omega), hpex18] at hF; exact hF)⟩
    ·show (x18.1.toNat + b1.toNat : Nat) < a1.toNat + b1.toNat; omega
   ·
    rw [decide_eq_false c15] at ha14
    refine cond_f ha14 rfl ?_
    refine wp_region_lit ?_
    refine wl_val ha14 rfl rfl rfl (op_move ha14 rfl rfl) ?_
    intro a32 ha32; clear ha14 a14
    refine wl_val ha32 rfl rfl rfl (op_move ha32 rfl rfl) ?_
    intro a33 ha33; clear ha32 a32
    obtain ⟨x34, hx34⟩ := get_ex (xs := list) (j := b1.toNat) (by omega)
    obtain ⟨p35, c36, hi37, hc38, hr39, hs40⟩ := Rds.at_ h_list hx34
    obtain ⟨v41, rfl, b42, b43⟩ := inv_shVer hr39
    have hlb43 := b43.length_le
    have hvex34 := veB_at g0 hx34
    have hpex34 := parV_eq hx34
    have hlxx34 := shB_len hvex34.1
    refine wl_val ha33 rfl rfl rfl (op_indexAddr ha33 rfl Try.underlying27 ti56 rfl rfl (by omega) hi37) ?_
    intro a44 ha44; clear ha33 a33
    refine wl_val ha44 rfl rfl rfl (op_fieldAddr (sz := 0) ha44 rfl Try.underlying56 rfl rfl ti2 rfl) ?_
    intro a45 ha45; clear ha44 a44
    refine wl_val ha45 rfl rfl rfl (op_loadF (off := 0) ha45 rfl Try.underlying2 rfl rfl (hc38.ext hx3) rfl) ?_
    intro a46 ha46; clear ha45 a45
    refine wl_val ha46 rfl rfl rfl (op_assign ha46 rfl rfl) ?_
    intro a47 ha47; clear ha46 a46
    refine wpList_nil ?_
    refine block_n ?_
    refine round_end (x := (a1, b1)) (a1, x34.1) ?_ ?_
    ·
     refine ⟨(Sl.cons_ ha47 rfl rfl (Sl.cons_ ha47 rfl (int_eq (by omega)) (Sl.cons_ ha47 rfl (int_eq (by omega)) (Sl.nil_ ha47)))), hx3, (by omega), (by omega), (by omega), (by omega), (by omega), (by rw [cmV_b hpk (by omega) (by omega), hpex34] at hF; exact hF)⟩
    ·show (a1.toNat + x34.1.toNat : Nat) < a1.toNat + b1.toNat; omega

theorem c_spec_l29Common (w0 : World) (v_list : Value) (list : List (Int × List (Str × Int))) {S_list : Nat → Prop} (ca : Int) (cb : Int) (h_list : Rds shVer S_list w0 v_list list) (g0 : veB list = true) (g1 : 0 ≤ ca) (g2 : ca < (list.length : Nat)) (g3 : 0 ≤ cb) (g4 : cb < (list.length : Nat)) :
  Calls Try.prog 82 #[v_list, .int .i64 ca, .int .i64 cb] w0 (Ret w0 (fun v _ => v = .int .i64 (cmV list ca cb))) := by
 refine enter (N := 32) Try.func82 rfl rfl rfl ?_
 intro a0 ha0
 have hx0 := Ext.rfl' w0
 have hl_list := h_list.length_le
 have hlen := veB_len g0
 have hpk := par_ok g0
 have hwl := wayV_len hpk 20 ca (by omega)
 refine wp_seq ?_
 refine wp_region_lit ?_
 refine wl_val ha0 rfl rfl rfl (op_assign ha0 rfl rfl) ?_
 intro a1 ha1; clear ha0 a0
 refine wpList_nil ?_
 refine then_n ?_
 refine wp_seq ?_
 refine wp_region_lit ?_
 refine wl_val ha1 rfl rfl rfl (op_move ha1 rfl rfl) ?_
 intro a2 ha2; clear ha1 a1
 refine wl_val ha2 rfl rfl rfl (op_move ha2 rfl rfl) ?_
 intro a3 ha3; clear ha2 a2
 refine wl_callR ha3 rfl rfl rfl (op_call ha3 rfl cb75 rfl) (c_spec_l29Way _ v_list list cb (h_list.ext pos_shVer hx0) (by first | assumption | omega | (simp; omega) | (simp [mkN_length]; omega)) (by first | assumption | omega | (simp; omega) | (simp [mkN_length]; omega))) ?_
 rintro v4 w5 he6 ho7 a8 ha8; clear ha3 a3
 have hx9 := hx0.trans' he6
 have hzhx9 := he6.size
 refine wl_val ha8 rfl rfl rfl (op_assign ha8 rfl rfl) ?_
 intro a10 ha10; clear ha8 a8
 refine wpList_nil ?_
 refine then_n ?_
 refine wp_seq ?_
 refine wp_region_lit ?_
 refine wl_val ha10 rfl rfl rfl (op_move ha10 rfl rfl) ?_
 intro a11 ha11; clear ha10 a10
 refine wl_val ha11 rfl rfl rfl (op_move ha11 rfl rfl) ?_
 intro a12 ha12; clear ha11 a11
 refine wl_callR ha12 rfl rfl rfl (op_call ha12 rfl cb75 rfl) (c_spec_l29Way _ v_list list ca (h_list.ext pos_shVer hx9) (by first | assumption | omega | (simp; omega) | (simp [mkN_length]; omega)) (by first | assumption | omega | (simp; omega) | (simp [mkN_length]; omega))) ?_
 rintro v13 w14 he15 ho16 a17 ha17; clear ha12 a12
 have hx18 := hx9.trans' he15
 have hzhx18 := he15.size
 replace ho7 := ho7.ext he15
 refine wl_val ha17 rfl rfl rfl (op_assign ha17 rfl rfl) ?_
 intro a19 ha19; clear ha17 a17
 refine wpList_nil ?_
 refine then_n ?_
 refine wp_seq ?_
 refine wp_seq ?_
 refine wp_region_lit ?_
 refine wl_val ha19 rfl rfl rfl (op_assign ha19 rfl rfl) ?_
 intro a20 ha20; clear ha19 a19
 refine wpList_nil ?_
 refine then_n ?_
 refine wp_block ?_
 refine loop_inv (X := Nat) (fun (i : Nat) fr wl => Sl 32 fr [(7, v4), (8, v13), (9, .int .i64 ((i : Nat) : Int))] ∧ Ext w0 wl ∧ Own shI64 2 w0.heap.size w0.heap.size w5.heap.size wl v4 ((wayV list cb)) ∧ Own shI64 2 w5.heap.size w5.heap.size w14.heap.size wl v13 ((wayV list ca)) ∧ w14.heap.size ≤ wl.heap.size ∧ (i ≤ (wayV list ca).length) ∧ (cmF (wayV list cb) ((wayV list ca).drop i) = cmV list ca cb)) (fun (i : Nat) => (wayV list ca).length - i) (0) ?_ ?_
 ·
  exact ⟨(Sl.cons_ ha20 rfl rfl (Sl.cons_ ha20 rfl rfl (Sl.cons_ ha20 rfl (int_eq (by omega)) (Sl.nil_ ha20)))), hx18, ho7, ho16, (by omega), (by omega), (by rfl)⟩
 ·
  clear ha20 a20
  rintro i a25 w21 ⟨ha25, hx22, hf23, hf24, hzl26, hi, hF⟩
  have hzhx22 := hx22.size
  refine wp_seq ?_
  refine wp_seq ?_
  refine wp_region_lit ?_
  refine wl_val ha25 rfl rfl rfl (op_move ha25 rfl rfl) ?_
  intro a27 ha27; clear ha25 a25
  refine wl_val ha27 rfl rfl rfl (op_move ha27 rfl rfl) ?_
  intro a28 ha28; clear ha27 a27
  refine wl_val ha28 rfl rfl rfl (op_len_sl ha28 rfl Try.underlying46 rfl (hf24.rds pos_shI64)) ?_
  intro a29 ha29; clear ha28 a28
  refine wl_val ha29 rfl rfl rfl (op_lss ha29 rfl rfl rfl) ?_
  intro a30 ha30; clear ha29 a29
  refine wpList_nil ?_
  refine then_n ?_
  by_cases c31 : ((i : Nat) : Int) < ((((wayV list ca)).length : Nat) : Int)
  ·
   rw [decide_eq_true c31] at ha30
   refine cond_t ha30 rfl ?_
   refine wp_skip ?_
   refine then_n ?_
   refine wp_seq ?_
   refine wp_block ?_
   refine wp_seq ?_
   refine wp_region_lit ?_
   refine wl_val ha30 rfl rfl rfl (op_move ha30 rfl rfl) ?_
   intro a32 ha32; clear ha30 a30
   refine wl_val ha32 rfl rfl rfl (op_move ha32 rfl rfl) ?_
   intro a33 ha33; clear ha32 a32
   refine wl_val ha33 rfl rfl rfl (op_move ha33 rfl rfl) ?_
   intro a34 ha34; clear ha33 a33
   obtain ⟨x35, hx35⟩ := get_ex (xs := (wayV list ca)) (j := i) (by omega)
   obtain ⟨p36, c37, hi38, hc39, hr40, hs41⟩ := Rds.at_ (hf24.rds pos_shI64) hx35
   obtain ⟨rfl, b42⟩ := inv_shI64 hr40
   obtain ⟨_, _⟩ : _ ∧ _ := hs41
   refine wl_val ha34 rfl rfl rfl (op_indexAddr ha34 rfl Try.underlying46 ti2 rfl rfl (by omega) hi38) ?_
   intro a43 ha43; clear ha34 a34
   refine wl_val ha43 rfl rfl rfl (op_loadH ha43 rfl Try.underlying2 rfl rfl hc39 rfl) ?_
   intro a44 ha44; clear ha43 a43
   refine wl_callR ha44 rfl rfl rfl (op_call ha44 rfl cb88 rfl) (c_spec_l01Has _ v4 ((wayV list cb)) x35 (hf23.rds pos_shI64)) ?_
   rintro v45 w46 he47 rfl a48 ha48; clear ha44 a44
   have hx49 := hx22.trans' he47
   have hzhx49 := he47.size
   replace hf23 := hf23.ext he47
   replace hf24 := hf24.ext he47
   replace hc39 := hc39.ext he47
   refine wpList_nil ?_
   refine then_n ?_
   rcases Bool.eq_false_or_eq_true (decide (x35 ∈ ((wayV list cb)))) with c50 | c50
   ·
    rw [c50] at ha48
    refine cond_t ha48 rfl ?_
    refine wp_seq ?_
    refine wp_region_lit ?_
    refine wl_val ha48 rfl rfl rfl (op_move ha48 rfl rfl) ?_
    intro a51 ha51; clear ha48 a48
    refine wl_val ha51 rfl rfl rfl (op_move ha51 rfl rfl) ?_
    intro a52 ha52; clear ha51 a51
    refine wl_val ha52 rfl rfl rfl (op_indexAddr ha52 rfl Try.underlying46 ti2 rfl rfl (by omega) hi38) ?_
    intro a53 ha53; clear ha52 a52
    refine wl_val ha53 rfl rfl rfl (op_loadH ha53 rfl Try.underlying2 rfl rfl hc39 rfl) ?_
    intro a54 ha54; clear ha53 a53
    refine wl_val ha54 rfl rfl rfl (op_assign ha54 rfl rfl) ?_
    intro a55 ha55; clear ha54 a54
    refine wpList_nil ?_
    refine then_n ?_
    refine wp_ret ?_
    refine block_r ?_
    refine then_r ?_
    refine then_r ?_
    refine block_r ?_
    refine then_r ?_
    refine ret1 ha55 rfl rfl ?_
    clear ha55 a55
    exact ret_mk hx49 (int_eq (by rw [← hF, drop_cons hx35, cmF, if_pos (by simpa using c50)]))
   ·
    rw [c50] at ha48
    refine cond_f ha48 rfl ?_
    refine wp_skip ?_
    refine block_n ?_
    refine then_n ?_
    refine wp_region_lit ?_
    refine wl_val ha48 rfl rfl rfl (op_move ha48 rfl rfl) ?_
    intro a56 ha56; clear ha48 a48
    refine wl_val ha56 rfl rfl rfl ((op_add ha56 rfl rfl rfl).int (IntWalk.i64_in _ (by omega))) ?_
    intro a57 ha57; clear ha56 a56
    refine wl_val ha57 rfl rfl rfl (op_assign ha57 rfl rfl) ?_
    intro a58 ha58; clear ha57 a57
    refine wpList_nil ?_
    refine round_end (x := i) ((i + 1)) ?_ ?_
    ·
     refine ⟨(Sl.cons_ ha58 rfl rfl (Sl.cons_ ha58 rfl rfl (Sl.cons_ ha58 rfl (int_eq (by omega)) (Sl.nil_ ha58)))), hx49, hf23, hf24, (by omega), (by omega), (by rw [drop_cons hx35, cmF, if_neg (by simpa using c50)] at hF; exact hF)⟩
    ·show ((wayV list ca).length - ((i + 1)) : Nat) < (wayV list ca).length - i; omega
  ·
   rw [decide_eq_false c31] at ha30
   refine cond_f ha30 rfl ?_
   refine wp_exit ?_
   refine then_e ?_
   refine then_e ?_
   refine block_hit ?_
   refine then_n ?_
   refine wp_seq ?_
   refine wp_region_lit ?_
   refine wl_val ha30 rfl rfl rfl (op_assign ha30 rfl rfl) ?_
   intro a59 ha59; clear ha30 a30
   refine wpList_nil ?_
   refine then_n ?_
   refine wp_ret ?_
   refine ret1 ha59 rfl rfl ?_
   clear ha59 a59
   exact ret_mk hx22 (int_eq (by rw [← hF, drop_nil (by omega)]; rfl))


end Go.Proofs.Ytllpdkidaldkiaa
