/- Lists out of a day book. -/
import Derived.Test.YtocedhbefdaefaaW3
namespace Go.Proofs.Ytocedhbefdaefaa
open Go Go.RowKit

theorem c_impl_ClosedDays (w0 : World) (v_list : Value) (list : List (Int × Int × Str × Int)) {S_list : Nat → Prop} (h_list : Rds shEnt S_list w0 v_list list) (g0 : list.length ≤ 1048576) :
  Calls Try.prog 35 #[v_list] w0 (Ret w0 (fun v w1 => ∃ r0, v = .tuple #[r0, .int .i64 (if dbB list then 0 else 1)] ∧ Own shI64 2 w0.heap.size w0.heap.size w1.heap.size w1 r0 (if dbB list then clL list else []))) := by
 refine enter (N := 26) Try.func35 rfl rfl rfl ?_
 intro a0 ha0
 have hx0 := Ext.rfl' w0
 have hl_list := h_list.length_le
 refine wp_seq ?_
 refine wp_region_lit ?_
 refine wl_val ha0 rfl rfl rfl (op_assign ha0 rfl rfl) ?_
 intro a1 ha1; clear ha0 a0
 refine wl_val ha1 rfl rfl rfl (op_assign ha1 rfl rfl) ?_
 intro a2 ha2; clear ha1 a1
 refine wpList_nil ?_
 refine then_n ?_
 refine wp_seq ?_
 refine wp_seq ?_
 refine wp_region_lit ?_
 refine wl_val ha2 rfl rfl rfl (op_move ha2 rfl rfl) ?_
 intro a3 ha3; clear ha2 a2
 refine wl_callR ha3 rfl rfl rfl (op_call ha3 rfl cb18 rfl) (c_impl_IsDayBook _ v_list list (h_list.ext pos_shEnt hx0) (by first | assumption | omega | exact dbB_ent (by assumption) | (simp; omega))) ?_
 rintro v4 w5 he6 rfl a7 ha7; clear ha3 a3
 have hx8 := hx0.trans' he6
 have hzhx8 := he6.size
 refine wl_val ha7 rfl rfl rfl (op_not ha7 rfl rfl) ?_
 intro a9 ha9; clear ha7 a7
 refine wpList_nil ?_
 refine then_n ?_
 rcases Bool.eq_false_or_eq_true (dbB list) with c10 | c10
 ·
  rw [c10] at ha9
  have hlenc10 := dbB_len c10
  have hentc10 := dbB_ent c10
  refine cond_f ha9 rfl ?_
  refine wp_skip ?_
  refine then_n ?_
  refine wp_seq ?_
  refine wp_region_lit ?_
  refine wl_val ha9 rfl rfl rfl (op_assign ha9 rfl rfl) ?_
  intro a11 ha11; clear ha9 a9
  refine wpList_nil ?_
  refine then_n ?_
  refine wp_seq ?_
  refine wp_seq ?_
  refine wp_region_lit ?_
  refine wl_val ha11 rfl rfl rfl (op_move ha11 rfl rfl) ?_
  intro a12 ha12; clear ha11 a11
  refine wl_val ha12 rfl rfl rfl (op_len_sl ha12 rfl Try.underlying25 rfl h_list) ?_
  intro a13 ha13; clear ha12 a12
  refine wl_val ha13 rfl rfl rfl (op_move ha13 rfl rfl) ?_
  intro a14 ha14; clear ha13 a13
  refine wpList_nil ?_
  refine then_n ?_
  refine wp_block ?_
  refine loop_inv (X := Nat × Value × (List Int)) (fun (⟨i, v, acc⟩ : Nat × Value × (List Int)) fr wl => Sl 26 fr [(4, v), (10, v_list), (11, .int .i64 ((list.length : Nat) : Int)), (12, .int .i64 ((i : Nat) : Int))] ∧ Ext w0 wl ∧ Own shI64 2 w5.heap.size w5.heap.size wl.heap.size wl v acc ∧ w5.heap.size ≤ wl.heap.size ∧ (i ≤ list.length) ∧ (acc.length ≤ i) ∧ (acc ++ clL (list.drop i) = clL list)) (fun (⟨i, v, acc⟩ : Nat × Value × (List Int)) => list.length - i) (0, (.slice none 0 0), []) ?_ ?_
  ·
   exact ⟨(Sl.cons_ ha14 rfl rfl (Sl.cons_ ha14 rfl rfl (Sl.cons_ ha14 rfl rfl (Sl.cons_ ha14 rfl (int_eq (by omega)) (Sl.nil_ ha14))))), hx8, (Own.nil _ _ _ _ _ _), (by omega), (by omega), (by simp), (by rfl)⟩
  ·
   clear ha14 a14
   rintro ⟨i, v, acc⟩ a18 w15 ⟨ha18, hx16, hf17, hzl19, hi, hl, hF⟩
   have hzhx16 := hx16.size
   refine wp_seq ?_
   refine wp_region_lit ?_
   refine wl_val ha18 rfl rfl rfl (op_lss ha18 rfl rfl rfl) ?_
   intro a20 ha20; clear ha18 a18
   refine wpList_nil ?_
   refine then_n ?_
   refine wp_seq ?_
   by_cases c21 : ((i : Nat) : Int) < ((list.length : Nat) : Int)
   ·
    rw [decide_eq_true c21] at ha20
    refine cond_t ha20 rfl ?_
    refine wp_skip ?_
    refine then_n ?_
    refine wp_seq ?_
    refine wp_block ?_
    refine wp_seq ?_
    refine wp_region_lit ?_
    obtain ⟨x22, hx22⟩ := get_ex (xs := list) (j := i) (by omega)
    obtain ⟨p23, c24, hi25, hc26, hr27, hs28⟩ := Rds.at_ h_list hx22
    obtain ⟨rfl, b29, b30, b31, b32⟩ := inv_shEnt hr27
    have hbx22 := ent_bd (hentc10 _ (List.mem_of_getElem? hx22))
    have hcbx22 := cashE_bd (hentc10 _ (List.mem_of_getElem? hx22))
    refine wl_val ha20 rfl rfl rfl (op_indexAddr ha20 rfl Try.underlying25 ti41 rfl rfl (by omega) hi25) ?_
    intro a33 ha33; clear ha20 a20
    refine wl_val ha33 rfl rfl rfl (op_loadS ha33 rfl Try.underlying41 ti41 rfl rfl (hc26.ext hx16)) ?_
    intro a34 ha34; clear ha33 a33
    refine wl_eff ha34 rfl rfl rfl (op_alloc' rfl ti41 rfl) ?_
    rintro _ w36 ⟨rfl, he37, hb38, hz39⟩ a40 ha40; clear ha34 a34
    have hx41 := hx16.trans' he37
    have hzhx41 := he37.size
    replace hf17 := hf17.ext he37
    refine wl_effS ha40 rfl rfl (op_storeAll' ha40 rfl ti41 rfl rfl hb38 rfl rfl (by simp [Value.oneCell']) rfl) ?_
    rintro w42 ⟨hb44, hst43, hz45⟩
    have hx46 := hx41.stp hst43 (by intro q hq; cases hq; exact (by omega))
    have hzhx46 := hst43.size
    replace hf17 := hf17.stp hst43 (by intro q hq; cases hq; omega)
    clear hb38
    refine wpList_nil ?_
    refine then_n ?_
    refine wp_seq ?_
    refine wp_region_lit ?_
    refine wl_val ha40 rfl rfl rfl (op_fieldAddr (sz := 0) ha40 rfl Try.underlying41 rfl rfl ti2 rfl) ?_
    intro a47 ha47; clear ha40 a40
    refine wl_val ha47 rfl rfl rfl (op_loadF (off := 1) ha47 rfl Try.underlying2 rfl rfl hb44.cells rfl) ?_
    intro a48 ha48; clear ha47 a47
    refine wl_val ha48 rfl rfl rfl (op_eql ha48 rfl rfl rfl) ?_
    intro a49 ha49; clear ha48 a48
    refine wpList_nil ?_
    refine then_n ?_
    by_cases c50 : x22.2.1 = (3 : Int)
    ·
     rw [decide_eq_true c50] at ha49
     refine cond_t ha49 rfl ?_
     refine wp_region_lit ?_
     refine wl_val ha49 rfl rfl rfl (op_move ha49 rfl rfl) ?_
     intro a51 ha51; clear ha49 a49
     refine wl_val ha51 rfl rfl rfl (op_fieldAddr (sz := 0) ha51 rfl Try.underlying41 rfl rfl ti2 rfl) ?_
     intro a52 ha52; clear ha51 a51
     refine wl_val ha52 rfl rfl rfl (op_loadF (off := 0) ha52 rfl Try.underlying2 rfl rfl hb44.cells rfl) ?_
     intro a53 ha53; clear ha52 a52
     refine wl_eff ha53 rfl rfl rfl (op_buildSlice (s := shI64) (xs := [x22.1]) (cs := [.int .i64 x22.1]) (vs := [(0, .int .i64 x22.1)]) (S := fun _ => False) (le := w42.heap.size) ha53 rfl pos_shI64 Try.underlying45 ti2 rfl rfl (by decide) (by kernel_rfl) (Els.single (mk_shI64 x22.1 (by first | assumption | omega | (simp; omega)))) (fun _ h => h.elim)) ?_
     rintro v54 w55 ⟨ho56, he57, hob58⟩ a59 ha59; clear ha53 a53
     have hx60 := hx46.trans' he57
     have hzhx60 := he57.size
     replace hf17 := hf17.ext he57
     replace hb44 := hb44.ext he57
     refine wl_eff ha59 rfl rfl rfl (op_append (ts := #[]) (s := shI64) ha59 rfl Try.underlying45 ti2 rfl pos_shI64 rfl rfl hf17 (ho56.rds pos_shI64) (by omega) (by omega) (by first | omega | (simp; omega)) (by first | omega | (simp; omega)) (.inl flat_shI64)) ?_
     rintro v61 w62 ⟨ho63, hst64, hob65⟩ a66 ha66; clear ha59 a59
     have hx67 := hx60.stp hst64 (by intro q hq; have hq0 := hf17.lt q hq; omega)
     have hzhx67 := hst64.size
     replace hb44 := hb44.stp hst64 (by intro q hq; have hq0 := hf17.lt q hq; omega)
     replace ho56 := ho56.stp hst64 (by intro q hq; have hq0 := hf17.lt q hq; omega)
     have hsp68 : ∀ q, Value.ownBlock v61 = some q → Value.ownBlock v54 ≠ some q := by intro q hq hb; have hq0 := ho56.lt q hb; rcases hob65 with h | h; (rw [h] at hq; first | (have hq1 := hf17.lt q hq; omega)); (rw [h] at hq; cases hq; omega)
     refine wl_val ha66 rfl rfl rfl (op_assign ha66 rfl rfl) ?_
     intro a69 ha69; clear ha66 a66
     refine wpList_nil ?_
     refine block_n ?_
     refine then_n ?_
     refine wp_region_lit ?_
     refine wl_val ha69 rfl rfl rfl ((op_add ha69 rfl rfl rfl).int (IntWalk.i64_in _ (by omega))) ?_
     intro a70 ha70; clear ha69 a69
     refine wl_val ha70 rfl rfl rfl (op_move ha70 rfl rfl) ?_
     intro a71 ha71; clear ha70 a70
     refine wpList_nil ?_
     refine round_end (x := (i, v, acc)) ((i + 1), v61, (acc ++ [x22.1])) ?_ ?_
     ·
      refine ⟨(Sl.cons_ ha71 rfl rfl (Sl.cons_ ha71 rfl rfl (Sl.cons_ ha71 rfl rfl (Sl.cons_ ha71 rfl (int_eq (by omega)) (Sl.nil_ ha71))))), hx67, (ho63.fin (by omega) (by omega) (by omega)), (by omega), (by omega), (by first | omega | (simp; omega)), (by rw [drop_cons hx22, clL] at hF; first | (rw [if_pos (by assumption)] at hF; rw [← hF]; simp; done) | (rw [if_neg (by assumption)] at hF; exact hF))⟩
     ·show (list.length - ((i + 1)) : Nat) < list.length - i; omega
    ·
     rw [decide_eq_false c50] at ha49
     refine cond_f ha49 rfl ?_
     refine wp_skip ?_
     refine block_n ?_
     refine then_n ?_
     refine wp_region_lit ?_
     refine wl_val ha49 rfl rfl rfl ((op_add ha49 rfl rfl rfl).int (IntWalk.i64_in _ (by omega))) ?_
     intro a72 ha72; clear ha49 a49
     refine wl_val ha72 rfl rfl rfl (op_move ha72 rfl rfl) ?_
     intro a73 ha73; clear ha72 a72
     refine wpList_nil ?_
     refine round_end (x := (i, v, acc)) ((i + 1), v, acc) ?_ ?_
     ·
      refine ⟨(Sl.cons_ ha73 rfl rfl (Sl.cons_ ha73 rfl rfl (Sl.cons_ ha73 rfl rfl (Sl.cons_ ha73 rfl (int_eq (by omega)) (Sl.nil_ ha73))))), hx46, (hf17.fin (by omega) (by omega) (by omega)), (by omega), (by omega), (by first | omega | (simp; omega)), (by rw [drop_cons hx22, clL] at hF; first | (rw [if_pos (by assumption)] at hF; rw [← hF]; simp; done) | (rw [if_neg (by assumption)] at hF; exact hF))⟩
     ·show (list.length - ((i + 1)) : Nat) < list.length - i; omega
   ·
    rw [decide_eq_false c21] at ha20
    refine cond_f ha20 rfl ?_
    refine wp_exit ?_
    refine then_e ?_
    refine then_e ?_
    refine block_hit ?_
    refine then_n ?_
    refine wp_seq ?_
    refine wp_region_lit ?_
    refine wl_val ha20 rfl rfl rfl (op_move ha20 rfl rfl) ?_
    intro a74 ha74; clear ha20 a20
    refine wl_val ha74 rfl rfl rfl (op_assign ha74 rfl rfl) ?_
    intro a75 ha75; clear ha74 a74
    refine wl_val ha75 rfl rfl rfl (op_assign ha75 rfl rfl) ?_
    intro a76 ha76; clear ha75 a75
    refine wpList_nil ?_
    refine then_n ?_
    refine wp_ret ?_
    refine ret2 ha76 rfl rfl rfl ?_
    clear ha76 a76
    refine ret_mk hx16 ⟨v, (tup2_eq rfl (int_eq (by simp [c10, c21]))), ?_⟩
    ·refine (hf17.fin (by omega) (by omega) (by omega)).cast ?_
     rw [drop_nil (by omega), clL, List.append_nil] at hF
     rw [hF]; simp [c10, c21]
 ·
  rw [c10] at ha9
  refine cond_t ha9 rfl ?_
  refine wp_seq ?_
  refine wp_region_lit ?_
  refine wl_val ha9 rfl rfl rfl (op_assign ha9 rfl rfl) ?_
  intro a77 ha77; clear ha9 a9
  refine wl_val ha77 rfl rfl rfl (op_assign ha77 rfl rfl) ?_
  intro a78 ha78; clear ha77 a77
  refine wpList_nil ?_
  refine then_n ?_
  refine wp_ret ?_
  refine then_r ?_
  refine ret2 ha78 rfl rfl rfl ?_
  clear ha78 a78
  refine ret_mk hx8 ⟨.slice none 0 0, (tup2_eq rfl (int_eq (by simp [c10]))), ?_⟩
  ·refine Own.nil_ _ _ _ _ _ _ ?_
   simp [c10]

theorem c_spec_ClosedDays (w0 : World) (v_list : Value) (list : List (Int × Int × Str × Int)) {S_list : Nat → Prop} (h_list : Rds shEnt S_list w0 v_list list) (g0 : list.length ≤ 1048576) :
  Calls Try.prog 34 #[v_list] w0 (Ret w0 (fun v w1 => ∃ r0, v = .tuple #[r0, .int .i64 (if dbB list then 0 else 1)] ∧ Own shI64 2 w0.heap.size w0.heap.size w1.heap.size w1 r0 (if dbB list then clL list else []))) := by
 refine enter (N := 31) Try.func34 rfl rfl rfl ?_
 intro a0 ha0
 have hx0 := Ext.rfl' w0
 have hl_list := h_list.length_le
 refine wp_seq ?_
 refine wp_region_lit ?_
 refine wl_val ha0 rfl rfl rfl (op_assign ha0 rfl rfl) ?_
 intro a1 ha1; clear ha0 a0
 refine wl_val ha1 rfl rfl rfl (op_assign ha1 rfl rfl) ?_
 intro a2 ha2; clear ha1 a1
 refine wpList_nil ?_
 refine then_n ?_
 refine wp_seq ?_
 refine wp_seq ?_
 refine wp_region_lit ?_
 refine wl_val ha2 rfl rfl rfl (op_move ha2 rfl rfl) ?_
 intro a3 ha3; clear ha2 a2
 refine wl_callR ha3 rfl rfl rfl (op_call ha3 rfl cb16 rfl) (c_spec_IsDayBook _ v_list list (h_list.ext pos_shEnt hx0) (by first | assumption | omega | exact dbB_ent (by assumption) | (simp; omega))) ?_
 rintro v4 w5 he6 rfl a7 ha7; clear ha3 a3
 have hx8 := hx0.trans' he6
 have hzhx8 := he6.size
 refine wl_val ha7 rfl rfl rfl (op_not ha7 rfl rfl) ?_
 intro a9 ha9; clear ha7 a7
 refine wpList_nil ?_
 refine then_n ?_
 rcases Bool.eq_false_or_eq_true (dbB list) with c10 | c10
 ·
  rw [c10] at ha9
  have hlenc10 := dbB_len c10
  have hentc10 := dbB_ent c10
  refine cond_f ha9 rfl ?_
  refine wp_skip ?_
  refine then_n ?_
  refine wp_seq ?_
  refine wp_region_lit ?_
  refine wl_eff ha9 rfl rfl rfl (op_buildSlice (s := shI64) (xs := ([] : List Int)) (cs := []) (vs := []) (S := fun _ => False) (le := w5.heap.size) ha9 rfl pos_shI64 Try.underlying45 ti2 rfl rfl (by decide) (by kernel_rfl) rfl (fun _ h => h.elim)) ?_
  rintro v11 w12 ⟨ho13, he14, hob15⟩ a16 ha16; clear ha9 a9
  have hx17 := hx8.trans' he14
  have hzhx17 := he14.size
  refine wl_val ha16 rfl rfl rfl (op_assign ha16 rfl rfl) ?_
  intro a18 ha18; clear ha16 a16
  refine wpList_nil ?_
  refine then_n ?_
  refine wp_seq ?_
  refine wp_seq ?_
  refine wp_region_lit ?_
  refine wl_val ha18 rfl rfl rfl (op_assign ha18 rfl rfl) ?_
  intro a19 ha19; clear ha18 a18
  refine wpList_nil ?_
  refine then_n ?_
  refine wp_block ?_
  refine loop_inv (X := Nat × Value × (List Int)) (fun (⟨i, v, acc⟩ : Nat × Value × (List Int)) fr wl => Sl 31 fr [(0, v_list), (4, v), (5, .int .i64 ((i : Nat) : Int))] ∧ Ext w0 wl ∧ Own shI64 2 w5.heap.size w5.heap.size wl.heap.size wl v acc ∧ w12.heap.size ≤ wl.heap.size ∧ (i ≤ list.length) ∧ (acc.length ≤ i) ∧ (acc ++ clL (list.drop i) = clL list)) (fun (⟨i, v, acc⟩ : Nat × Value × (List Int)) => list.length - i) (0, v11, ([] : List Int)) ?_ ?_
  ·
   exact ⟨(Sl.cons_ ha19 rfl rfl (Sl.cons_ ha19 rfl rfl (Sl.cons_ ha19 rfl (int_eq (by omega)) (Sl.nil_ ha19)))), hx17, (ho13.fin (by omega) (by omega) (by omega)), (by omega), (by omega), (by simp), (by rfl)⟩
  ·
   clear ha19 a19
   rintro ⟨i, v, acc⟩ a23 w20 ⟨ha23, hx21, hf22, hzl24, hi, hl, hF⟩
   have hzhx21 := hx21.size
   refine wp_seq ?_
   refine wp_seq ?_
   refine wp_region_lit ?_
   refine wl_val ha23 rfl rfl rfl (op_move ha23 rfl rfl) ?_
   intro a25 ha25; clear ha23 a23
   refine wl_val ha25 rfl rfl rfl (op_move ha25 rfl rfl) ?_
   intro a26 ha26; clear ha25 a25
   refine wl_val ha26 rfl rfl rfl (op_len_sl ha26 rfl Try.underlying25 rfl h_list) ?_
   intro a27 ha27; clear ha26 a26
   refine wl_val ha27 rfl rfl rfl (op_lss ha27 rfl rfl rfl) ?_
   intro a28 ha28; clear ha27 a27
   refine wpList_nil ?_
   refine then_n ?_
   by_cases c29 : ((i : Nat) : Int) < ((list.length : Nat) : Int)
   ·
    rw [decide_eq_true c29] at ha28
    refine cond_t ha28 rfl ?_
    refine wp_skip ?_
    refine then_n ?_
    refine wp_seq ?_
    refine wp_block ?_
    refine wp_seq ?_
    refine wp_region_lit ?_
    refine wl_val ha28 rfl rfl rfl (op_move ha28 rfl rfl) ?_
    intro a30 ha30; clear ha28 a28
    refine wl_val ha30 rfl rfl rfl (op_move ha30 rfl rfl) ?_
    intro a31 ha31; clear ha30 a30
    obtain ⟨x32, hx32⟩ := get_ex (xs := list) (j := i) (by omega)
    obtain ⟨p33, c34, hi35, hc36, hr37, hs38⟩ := Rds.at_ h_list hx32
    obtain ⟨rfl, b39, b40, b41, b42⟩ := inv_shEnt hr37
    have hbx32 := ent_bd (hentc10 _ (List.mem_of_getElem? hx32))
    have hcbx32 := cashE_bd (hentc10 _ (List.mem_of_getElem? hx32))
    refine wl_val ha31 rfl rfl rfl (op_indexAddr ha31 rfl Try.underlying25 ti41 rfl rfl (by omega) hi35) ?_
    intro a43 ha43; clear ha31 a31
    refine wl_val ha43 rfl rfl rfl (op_fieldAddr (sz := 0) ha43 rfl Try.underlying41 rfl rfl ti2 rfl) ?_
    intro a44 ha44; clear ha43 a43
    refine wl_val ha44 rfl rfl rfl (op_loadF (off := 1) ha44 rfl Try.underlying2 rfl rfl (hc36.ext hx21) rfl) ?_
    intro a45 ha45; clear ha44 a44
    refine wl_val ha45 rfl rfl rfl (op_eql ha45 rfl rfl rfl) ?_
    intro a46 ha46; clear ha45 a45
    refine wpList_nil ?_
    refine then_n ?_
    by_cases c47 : x32.2.1 = (3 : Int)
    ·
     rw [decide_eq_true c47] at ha46
     refine cond_t ha46 rfl ?_
     refine wp_region_lit ?_
     refine wl_val ha46 rfl rfl rfl (op_move ha46 rfl rfl) ?_
     intro a48 ha48; clear ha46 a46
     refine wl_val ha48 rfl rfl rfl (op_move ha48 rfl rfl) ?_
     intro a49 ha49; clear ha48 a48
     refine wl_val ha49 rfl rfl rfl (op_move ha49 rfl rfl) ?_
     intro a50 ha50; clear ha49 a49
     refine wl_val ha50 rfl rfl rfl (op_indexAddr ha50 rfl Try.underlying25 ti41 rfl rfl (by omega) hi35) ?_
     intro a51 ha51; clear ha50 a50
     refine wl_val ha51 rfl rfl rfl (op_fieldAddr (sz := 0) ha51 rfl Try.underlying41 rfl rfl ti2 rfl) ?_
     intro a52 ha52; clear ha51 a51
     refine wl_val ha52 rfl rfl rfl (op_loadF (off := 0) ha52 rfl Try.underlying2 rfl rfl (hc36.ext hx21) rfl) ?_
     intro a53 ha53; clear ha52 a52
     refine wl_eff ha53 rfl rfl rfl (op_buildSlice (s := shI64) (xs := [x32.1]) (cs := [.int .i64 x32.1]) (vs := [(0, .int .i64 x32.1)]) (S := fun _ => False) (le := w20.heap.size) ha53 rfl pos_shI64 Try.underlying45 ti2 rfl rfl (by decide) (by kernel_rfl) (Els.single (mk_shI64 x32.1 (by first | assumption | omega | (simp; omega)))) (fun _ h => h.elim)) ?_
     rintro v54 w55 ⟨ho56, he57, hob58⟩ a59 ha59; clear ha53 a53
     have hx60 := hx21.trans' he57
     have hzhx60 := he57.size
     replace hf22 := hf22.ext he57
     refine wl_eff ha59 rfl rfl rfl (op_append (ts := #[]) (s := shI64) ha59 rfl Try.underlying45 ti2 rfl pos_shI64 rfl rfl hf22 (ho56.rds pos_shI64) (by omega) (by omega) (by first | omega | (simp; omega)) (by first | omega | (simp; omega)) (.inl flat_shI64)) ?_
     rintro v61 w62 ⟨ho63, hst64, hob65⟩ a66 ha66; clear ha59 a59
     have hx67 := hx60.stp hst64 (by intro q hq; have hq0 := hf22.lt q hq; omega)
     have hzhx67 := hst64.size
     replace ho56 := ho56.stp hst64 (by intro q hq; have hq0 := hf22.lt q hq; omega)
     have hsp68 : ∀ q, Value.ownBlock v61 = some q → Value.ownBlock v54 ≠ some q := by intro q hq hb; have hq0 := ho56.lt q hb; rcases hob65 with h | h; (rw [h] at hq; first | (have hq1 := hf22.lt q hq; omega)); (rw [h] at hq; cases hq; omega)
     refine wl_val ha66 rfl rfl rfl (op_assign ha66 rfl rfl) ?_
     intro a69 ha69; clear ha66 a66
     refine wpList_nil ?_
     refine block_n ?_
     refine then_n ?_
     refine wp_region_lit ?_
     refine wl_val ha69 rfl rfl rfl (op_move ha69 rfl rfl) ?_
     intro a70 ha70; clear ha69 a69
     refine wl_val ha70 rfl rfl rfl ((op_add ha70 rfl rfl rfl).int (IntWalk.i64_in _ (by omega))) ?_
     intro a71 ha71; clear ha70 a70
     refine wl_val ha71 rfl rfl rfl (op_assign ha71 rfl rfl) ?_
     intro a72 ha72; clear ha71 a71
     refine wpList_nil ?_
     refine round_end (x := (i, v, acc)) ((i + 1), v61, (acc ++ [x32.1])) ?_ ?_
     ·
      refine ⟨(Sl.cons_ ha72 rfl rfl (Sl.cons_ ha72 rfl rfl (Sl.cons_ ha72 rfl (int_eq (by omega)) (Sl.nil_ ha72)))), hx67, (ho63.fin (by omega) (by omega) (by omega)), (by omega), (by omega), (by first | omega | (simp; omega)), (by rw [drop_cons hx32, clL] at hF; first | (rw [if_pos (by assumption)] at hF; rw [← hF]; simp; done) | (rw [if_neg (by assumption)] at hF; exact hF))⟩
     ·show (list.length - ((i + 1)) : Nat) < list.length - i; omega
    ·
     rw [decide_eq_false c47] at ha46
     refine cond_f ha46 rfl ?_
     refine wp_skip ?_
     refine block_n ?_
     refine then_n ?_
     refine wp_region_lit ?_
     refine wl_val ha46 rfl rfl rfl (op_move ha46 rfl rfl) ?_
     intro a73 ha73; clear ha46 a46
     refine wl_val ha73 rfl rfl rfl ((op_add ha73 rfl rfl rfl).int (IntWalk.i64_in _ (by omega))) ?_
     intro a74 ha74; clear ha73 a73
     refine wl_val ha74 rfl rfl rfl (op_assign ha74 rfl rfl) ?_
     intro a75 ha75; clear ha74 a74
     refine wpList_nil ?_
     refine round_end (x := (i, v, acc)) ((i + 1), v, acc) ?_ ?_
     ·
      refine ⟨(Sl.cons_ ha75 rfl rfl (Sl.cons_ ha75 rfl rfl (Sl.cons_ ha75 rfl (int_eq (by omega)) (Sl.nil_ ha75)))), hx21, (hf22.fin (by omega) (by omega) (by omega)), (by omega), (by omega), (by first | omega | (simp; omega)), (by rw [drop_cons hx32, clL] at hF; first | (rw [if_pos (by assumption)] at hF; rw [← hF]; simp; done) | (rw [if_neg (by assumption)] at hF; exact hF))⟩
     ·show (list.length - ((i + 1)) : Nat) < list.length - i; omega
   ·
    rw [decide_eq_false c29] at ha28
    refine cond_f ha28 rfl ?_
    refine wp_exit ?_
    refine then_e ?_
    refine then_e ?_
    refine block_hit ?_
    refine then_n ?_
    refine wp_seq ?_
    refine wp_region_lit ?_
    refine wl_val ha28 rfl rfl rfl (op_move ha28 rfl rfl) ?_
    intro a76 ha76; clear ha28 a28
    refine wl_val ha76 rfl rfl rfl (op_assign ha76 rfl rfl) ?_
    intro a77 ha77; clear ha76 a76
    refine wl_val ha77 rfl rfl rfl (op_assign ha77 rfl rfl) ?_
    intro a78 ha78; clear ha77 a77
    refine wpList_nil ?_
    refine then_n ?_
    refine wp_ret ?_
    refine ret2 ha78 rfl rfl rfl ?_
    clear ha78 a78
    refine ret_mk hx21 ⟨v, (tup2_eq rfl (int_eq (by simp [c10, c29]))), ?_⟩
    ·refine (hf22.fin (by omega) (by omega) (by omega)).cast ?_
     rw [drop_nil (by omega), clL, List.append_nil] at hF
     rw [hF]; simp [c10, c29]
 ·
  rw [c10] at ha9
  refine cond_t ha9 rfl ?_
  refine wp_seq ?_
  refine wp_region_lit ?_
  refine wl_val ha9 rfl rfl rfl (op_assign ha9 rfl rfl) ?_
  intro a79 ha79; clear ha9 a9
  refine wl_val ha79 rfl rfl rfl (op_assign ha79 rfl rfl) ?_
  intro a80 ha80; clear ha79 a79
  refine wpList_nil ?_
  refine then_n ?_
  refine wp_ret ?_
  refine then_r ?_
  refine ret2 ha80 rfl rfl rfl ?_
  clear ha80 a80
  refine ret_mk hx8 ⟨.slice none 0 0, (tup2_eq rfl (int_eq (by simp [c10]))), ?_⟩
  ·refine Own.nil_ _ _ _ _ _ _ ?_
   simp [c10]

theorem c_impl_DaySums (w0 : World) (v_list : Value) (list : List (Int × Int × Str × Int)) {S_list : Nat → Prop} (day : Int) (h_list : Rds shEnt S_list w0 v_list list) (g0 : list.length ≤ 1048576) :
  Calls Try.prog 40 #[v_list, .int .i64 day] w0 (Ret w0 (fun v w1 => ∃ r0, v = .tuple #[r0, .int .i64 (codeD list day)] ∧ Own shI64 2 w0.heap.size w0.heap.size w1.heap.size w1 r0 (if codeD list day = 0 then dsS day list else []))) := by
 refine enter (N := 42) Try.func40 rfl rfl rfl ?_
 intro a0 ha0
 have hx0 := Ext.rfl' w0
 have hl_list := h_list.length_le
 refine wp_seq ?_
 refine wp_region_lit ?_
 refine wl_val ha0 rfl rfl rfl (op_assign ha0 rfl rfl) ?_
 intro a1 ha1; clear ha0 a0
 refine wl_val ha1 rfl rfl rfl (op_assign ha1 rfl rfl) ?_
 intro a2 ha2; clear ha1 a1
 refine wpList_nil ?_
 refine then_n ?_
 refine wp_seq ?_
 refine wp_seq ?_
 refine wp_region_lit ?_
 refine wl_val ha2 rfl rfl rfl (op_move ha2 rfl rfl) ?_
 intro a3 ha3; clear ha2 a2
 refine wl_callR ha3 rfl rfl rfl (op_call ha3 rfl cb18 rfl) (c_impl_IsDayBook _ v_list list (h_list.ext pos_shEnt hx0) (by first | assumption | omega | exact dbB_ent (by assumption) | (simp; omega))) ?_
 rintro v4 w5 he6 rfl a7 ha7; clear ha3 a3
 have hx8 := hx0.trans' he6
 have hzhx8 := he6.size
 refine wl_val ha7 rfl rfl rfl (op_not ha7 rfl rfl) ?_
 intro a9 ha9; clear ha7 a7
 refine wpList_nil ?_
 refine then_n ?_
 rcases Bool.eq_false_or_eq_true (dbB list) with c10 | c10
 ·
  rw [c10] at ha9
  have hlenc10 := dbB_len c10
  have hentc10 := dbB_ent c10
  refine cond_f ha9 rfl ?_
  refine wp_skip ?_
  refine then_n ?_
  refine wp_seq ?_
  refine wp_seq ?_
  refine wp_region_lit ?_
  refine wl_val ha9 rfl rfl rfl (op_move ha9 rfl rfl) ?_
  intro a11 ha11; clear ha9 a9
  refine wl_callR ha11 rfl rfl rfl (op_call ha11 rfl cb66 rfl) (c_impl_isDate _ day ) ?_
  rintro v12 w13 he14 rfl a15 ha15; clear ha11 a11
  have hx16 := hx8.trans' he14
  have hzhx16 := he14.size
  refine wl_val ha15 rfl rfl rfl (op_not ha15 rfl rfl) ?_
  intro a17 ha17; clear ha15 a15
  refine wpList_nil ?_
  refine then_n ?_
  rcases Bool.eq_false_or_eq_true (dateB day) with c18 | c18
  ·
   rw [c18] at ha17
   refine cond_f ha17 rfl ?_
   refine wp_skip ?_
   refine then_n ?_
   refine wp_seq ?_
   refine wp_region_lit ?_
   refine wl_eff ha17 rfl rfl rfl (op_make (s := shI64) (n := 3) (k' := .i64) ha17 rfl Try.underlying45 ti2 pos_shI64 rfl (by omega) zero_shI64 (by omega) (by omega)) ?_
   rintro v19 w20 ⟨ho21, he22⟩ a23 ha23; clear ha17 a17
   have hx24 := hx16.trans' he22
   have hzhx24 := he22.size
   refine wl_val ha23 rfl rfl rfl (op_assign ha23 rfl rfl) ?_
   intro a25 ha25; clear ha23 a23
   refine wpList_nil ?_
   refine then_n ?_
   refine wp_seq ?_
   refine wp_seq ?_
   refine wp_region_lit ?_
   refine wl_val ha25 rfl rfl rfl (op_move ha25 rfl rfl) ?_
   intro a26 ha26; clear ha25 a25
   refine wl_val ha26 rfl rfl rfl (op_len_sl ha26 rfl Try.underlying25 rfl h_list) ?_
   intro a27 ha27; clear ha26 a26
   refine wl_val ha27 rfl rfl rfl (op_move ha27 rfl rfl) ?_
   intro a28 ha28; clear ha27 a27
   refine wpList_nil ?_
   refine then_n ?_
   refine wp_block ?_
   refine loop_inv (X := Nat × (List Int)) (fun (⟨i, acc⟩ : Nat × (List Int)) fr wl => Sl 42 fr [(1, .int .i64 day), (6, v19), (16, v_list), (17, .int .i64 ((list.length : Nat) : Int)), (18, .int .i64 ((i : Nat) : Int))] ∧ Ext w0 wl ∧ Own shI64 2 w13.heap.size w13.heap.size w20.heap.size wl v19 acc ∧ w20.heap.size ≤ wl.heap.size ∧ (i ≤ list.length) ∧ (acc.length = 3) ∧ (∀ (j : Nat) (x : Int), acc[j]? = some x → 0 ≤ x ∧ x ≤ 10000000 * (i : Int)) ∧ (dsGo day (list.drop i) acc = dsGo day list (List.replicate 3 0))) (fun (⟨i, acc⟩ : Nat × (List Int)) => list.length - i) (0, (List.replicate 3 (0 : Int))) ?_ ?_
   ·
    exact ⟨(Sl.cons_ ha28 rfl rfl (Sl.cons_ ha28 rfl rfl (Sl.cons_ ha28 rfl rfl (Sl.cons_ ha28 rfl rfl (Sl.cons_ ha28 rfl (int_eq (by omega)) (Sl.nil_ ha28)))))), hx24, ho21, (by omega), (by omega), (by simp), (by intro j x hx; have := List.eq_of_mem_replicate (List.mem_of_getElem? hx); omega), (by rfl)⟩
   ·
    clear ha28 a28
    rintro ⟨i, acc⟩ a32 w29 ⟨ha32, hx30, hf31, hzl33, hi, hl, hbd, hF⟩
    have hzhx30 := hx30.size
    refine wp_seq ?_
    refine wp_region_lit ?_
    refine wl_val ha32 rfl rfl rfl (op_lss ha32 rfl rfl rfl) ?_
    intro a34 ha34; clear ha32 a32
    refine wpList_nil ?_
    refine then_n ?_
    refine wp_seq ?_
    by_cases c35 : ((i : Nat) : Int) < ((list.length : Nat) : Int)
    ·
     rw [decide_eq_true c35] at ha34
     refine cond_t ha34 rfl ?_
     refine wp_skip ?_
     refine then_n ?_
     refine wp_seq ?_
     refine wp_block ?_
     refine wp_seq ?_
     refine wp_region_lit ?_
     obtain ⟨x36, hx36⟩ := get_ex (xs := list) (j := i) (by omega)
     obtain ⟨p37, c38, hi39, hc40, hr41, hs42⟩ := Rds.at_ h_list hx36
     obtain ⟨rfl, b43, b44, b45, b46⟩ := inv_shEnt hr41
     have hbx36 := ent_bd (hentc10 _ (List.mem_of_getElem? hx36))
     have hcbx36 := cashE_bd (hentc10 _ (List.mem_of_getElem? hx36))
     refine wl_val ha34 rfl rfl rfl (op_indexAddr ha34 rfl Try.underlying25 ti41 rfl rfl (by omega) hi39) ?_
     intro a47 ha47; clear ha34 a34
     refine wl_val ha47 rfl rfl rfl (op_loadS ha47 rfl Try.underlying41 ti41 rfl rfl (hc40.ext hx30)) ?_
     intro a48 ha48; clear ha47 a47
     refine wl_eff ha48 rfl rfl rfl (op_alloc' rfl ti41 rfl) ?_
     rintro _ w50 ⟨rfl, he51, hb52, hz53⟩ a54 ha54; clear ha48 a48
     have hx55 := hx30.trans' he51
     have hzhx55 := he51.size
     replace hf31 := hf31.ext he51
     refine wl_effS ha54 rfl rfl (op_storeAll' ha54 rfl ti41 rfl rfl hb52 rfl rfl (by simp [Value.oneCell']) rfl) ?_
     rintro w56 ⟨hb58, hst57, hz59⟩
     have hx60 := hx55.stp hst57 (by intro q hq; cases hq; exact (by omega))
     have hzhx60 := hst57.size
     replace hf31 := hf31.stp hst57 (by intro q hq; cases hq; omega)
     clear hb52
     refine wpList_nil ?_
     refine then_n ?_
     refine wp_seq ?_
     refine wp_region_lit ?_
     refine wl_val ha54 rfl rfl rfl (op_fieldAddr (sz := 0) ha54 rfl Try.underlying41 rfl rfl ti2 rfl) ?_
     intro a61 ha61; clear ha54 a54
     refine wl_val ha61 rfl rfl rfl (op_loadF (off := 0) ha61 rfl Try.underlying2 rfl rfl hb58.cells rfl) ?_
     intro a62 ha62; clear ha61 a61
     refine wl_val ha62 rfl rfl rfl (op_move ha62 rfl rfl) ?_
     intro a63 ha63; clear ha62 a62
     refine wl_val ha63 rfl rfl rfl (op_eql ha63 rfl rfl rfl) ?_
     intro a64 ha64; clear ha63 a63
     refine wl_val ha64 rfl rfl rfl (op_move ha64 rfl rfl) ?_
     intro a65 ha65; clear ha64 a64
     by_cases c66 : x36.1 = day
     ·
      rw [decide_eq_true c66] at ha65
      refine wl_val ha65 rfl rfl rfl (op_fieldAddr (sz := 0) ha65 rfl Try.underlying41 rfl rfl ti2 rfl) ?_
      intro a67 ha67; clear ha65 a65
      refine wl_val ha67 rfl rfl rfl (op_loadF (off := 1) ha67 rfl Try.underlying2 rfl rfl hb58.cells rfl) ?_
      intro a68 ha68; clear ha67 a67
      refine wl_val ha68 rfl rfl rfl ((op_neq ha68 rfl rfl rfl).to (congrArg Value.bool decide_not)) ?_
      intro a69 ha69; clear ha68 a68
      refine wl_val ha69 rfl rfl rfl (op_pick_t ha69 rfl rfl rfl) ?_
      intro a70 ha70; clear ha69 a69
      refine wpList_nil ?_
      refine then_n ?_
      by_cases c71 : x36.2.1 = (3 : Int)
      ·
       rw [decide_eq_true c71] at ha70
       refine cond_f ha70 rfl ?_
       refine wp_skip ?_
       refine block_n ?_
       refine then_n ?_
       refine wp_region_lit ?_
       refine wl_val ha70 rfl rfl rfl ((op_add ha70 rfl rfl rfl).int (IntWalk.i64_in _ (by omega))) ?_
       intro a72 ha72; clear ha70 a70
       refine wl_val ha72 rfl rfl rfl (op_move ha72 rfl rfl) ?_
       intro a73 ha73; clear ha72 a72
       refine wpList_nil ?_
       refine round_end (x := (i, acc)) ((i + 1), acc) ?_ ?_
       ·
        refine ⟨(Sl.cons_ ha73 rfl rfl (Sl.cons_ ha73 rfl rfl (Sl.cons_ ha73 rfl rfl (Sl.cons_ ha73 rfl rfl (Sl.cons_ ha73 rfl (int_eq (by omega)) (Sl.nil_ ha73)))))), hx60, hf31, (by omega), (by omega), (by first | assumption | (simp; omega)), (by intro j x hx; have := hbd j x hx; omega), (by exact ds_skip hx36 (by rintro ⟨h1, h2⟩; first | (exact absurd h1 (by assumption)) | (exact h2 (by assumption))) hF)⟩
       ·show (list.length - ((i + 1)) : Nat) < list.length - i; omega
      ·
       rw [decide_eq_false c71] at ha70
       refine cond_t ha70 rfl ?_
       refine dr_enter (fun wa_ wb_ => Stp wa_ wb_ (Value.ownBlock v19)) follows_mixed ?_
       intro w74 he75
       have hx76 := hx60.trans' he75
       have hzhx76 := he75.size
       replace hf31 := hf31.ext he75
       replace hb58 := hb58.ext he75
       have hs77 : Ext w74 w74 := Ext.rfl' _
       refine dr_val (i := 0) ha70 rfl (by kernel_rfl) (by kernel_rfl) (by kernel_rfl) rfl rfl rfl (Stp.of_ext hs77 _) (fun w' hw' => op_move ha70 rfl rfl) ?_
       intro a78 ha78; clear ha70 a70
       refine dr_val (i := 1) ha78 rfl (by kernel_rfl) (by kernel_rfl) (by kernel_rfl) rfl rfl rfl (Stp.of_ext hs77 _) (fun w' hw' => op_fieldAddr (sz := 0) ha78 rfl Try.underlying41 rfl rfl ti2 rfl) ?_
       intro a79 ha79; clear ha78 a78
       refine dr_val (i := 2) ha79 rfl (by kernel_rfl) (by kernel_rfl) (by kernel_rfl) rfl rfl rfl (Stp.of_ext hs77 _) (fun w' hw' => op_loadF (off := 1) ha79 rfl Try.underlying2 rfl rfl (hb58.stp hw' (by intro q hq; first | (have hq0 := hf31.lt q hq; omega) | (intro e; subst e; exact hf31.ne_box hb58 rfl hq))).cells rfl) ?_
       intro a80 ha80; clear ha79 a79
       obtain ⟨x81, hx81⟩ := get_ex (xs := acc) (j := x36.2.1.toNat) (by omega)
       obtain ⟨p82, c83, hi84, hc85, hr86, hs87⟩ := Rds.at_ (hf31.rds pos_shI64) hx81
       obtain ⟨rfl, b88⟩ := inv_shI64 hr86
       obtain ⟨_, _⟩ : _ ∧ _ := hs87
       have hbdx81 := hbd _ _ hx81
       refine dr_val (i := 3) ha80 rfl (by kernel_rfl) (by kernel_rfl) (by kernel_rfl) rfl rfl rfl (Stp.of_ext hs77 _) (fun w' hw' => op_indexAddr ha80 rfl Try.underlying45 ti2 rfl rfl (by omega) hi84) ?_
       intro a89 ha89; clear ha80 a80
       refine dr_val (i := 5) ha89 rfl (by kernel_rfl) (by kernel_rfl) (by kernel_rfl) rfl rfl rfl (Stp.of_ext hs77 _) (fun w' hw' => op_fieldAddr (sz := 0) ha89 rfl Try.underlying41 rfl rfl ti2 rfl) ?_
       intro a90 ha90; clear ha89 a89
       refine dr_val (i := 6) ha90 rfl (by kernel_rfl) (by kernel_rfl) (by kernel_rfl) rfl rfl rfl (Stp.of_ext hs77 _) (fun w' hw' => op_loadF (off := 3) ha90 rfl Try.underlying2 rfl rfl (hb58.stp hw' (by intro q hq; first | (have hq0 := hf31.lt q hq; omega) | (intro e; subst e; exact hf31.ne_box hb58 rfl hq))).cells rfl) ?_
       intro a91 ha91; clear ha90 a90
       refine dr_one (i := 4) (by kernel_rfl) ?_
       refine po_to ha91 rfl rfl rfl rfl (op_loadH ha91 rfl Try.underlying2 rfl rfl (hc85.ext hs77) rfl) ?_
       intro a92 ha92; clear ha91 a91
       refine ⟨(Stp.of_ext hs77 _), ?_⟩
       refine dr_val (i := 7) ha92 rfl (by kernel_rfl) (by kernel_rfl) (by kernel_rfl) rfl rfl rfl (Stp.of_ext hs77 _) (fun w' hw' => (op_add ha92 rfl rfl rfl).int (IntWalk.i64_in _ (by omega))) ?_
       intro a93 ha93; clear ha92 a92
       refine dr_val (i := 8) ha93 rfl (by kernel_rfl) (by kernel_rfl) (by kernel_rfl) rfl rfl rfl (Stp.of_ext hs77 _) (fun w' hw' => op_indexAddr ha93 rfl Try.underlying45 ti2 rfl rfl (by omega) hi84) ?_
       intro a94 ha94; clear ha93 a93
       refine dr_one (i := 9) (by kernel_rfl) ?_
       replace hf31 := hf31.ext hs77
       replace hb58 := hb58.ext hs77
       replace hc85 := hc85.ext hs77
       refine po_effS ha94 rfl rfl rfl (op_setElem (s := shI64) (ds := [.int .i64 (x81 + x36.2.2.2)]) (S' := fun _ => False) ha94 rfl ti2 rfl rfl rfl hf31 pos_shI64 hi84 (by omega) (mk_shI64 ((x81 + x36.2.2.2)) (by first | assumption | omega | (simp; omega))) (fun _ h => h.elim)) ?_
       rintro w95 ⟨ho97, hst96, hz98⟩
       have hx99 := hx76.stp hst96 (by intro q hq; have hq0 := hf31.lt q hq; omega)
       have hzhx99 := hst96.size
       replace hb58 := hb58.stp hst96 (by intro q hq; have hq0 := hf31.lt q hq; omega)
       clear hf31
       have hlsho97 : ((acc.set x36.2.1.toNat ((x81 + x36.2.2.2)))).length = acc.length := List.length_set
       have hs100 := (Stp.of_ext hs77 (Value.ownBlock v19)).trans' hst96
       refine ⟨hs100, ?_⟩
       refine dr_end (by kernel_rfl) ?_
       refine block_n ?_
       refine then_n ?_
       refine wp_region_lit ?_
       refine wl_val ha94 rfl rfl rfl ((op_add ha94 rfl rfl rfl).int (IntWalk.i64_in _ (by omega))) ?_
       intro a101 ha101; clear ha94 a94
       refine wl_val ha101 rfl rfl rfl (op_move ha101 rfl rfl) ?_
       intro a102 ha102; clear ha101 a101
       refine wpList_nil ?_
       refine round_end (x := (i, acc)) ((i + 1), (acc.set x36.2.1.toNat ((x81 + x36.2.2.2)))) ?_ ?_
       ·
        refine ⟨(Sl.cons_ ha102 rfl rfl (Sl.cons_ ha102 rfl rfl (Sl.cons_ ha102 rfl rfl (Sl.cons_ ha102 rfl rfl (Sl.cons_ ha102 rfl (int_eq (by omega)) (Sl.nil_ ha102)))))), hx99, ho97, (by omega), (by omega), (by first | assumption | (simp; omega)), (by exact ds_bd hbd (by omega)), (by exact ds_step hx36 hx81 (by assumption) (by assumption) hF)⟩
       ·show (list.length - ((i + 1)) : Nat) < list.length - i; omega
     ·
      rw [decide_eq_false c66] at ha65
      refine wl_skip ha65 rfl rfl rfl ?_
      intro a103 ha103; clear ha65 a65
      refine wl_skip ha103 rfl rfl rfl ?_
      intro a104 ha104; clear ha103 a103
      refine wl_skip ha104 rfl rfl rfl ?_
      intro a105 ha105; clear ha104 a104
      refine wl_val ha105 rfl rfl rfl (op_pick_f ha105 rfl rfl rfl) ?_
      intro a106 ha106; clear ha105 a105
      refine wpList_nil ?_
      refine then_n ?_
      refine cond_f ha106 rfl ?_
      refine wp_skip ?_
      refine block_n ?_
      refine then_n ?_
      refine wp_region_lit ?_
      refine wl_val ha106 rfl rfl rfl ((op_add ha106 rfl rfl rfl).int (IntWalk.i64_in _ (by omega))) ?_
      intro a107 ha107; clear ha106 a106
      refine wl_val ha107 rfl rfl rfl (op_move ha107 rfl rfl) ?_
      intro a108 ha108; clear ha107 a107
      refine wpList_nil ?_
      refine round_end (x := (i, acc)) ((i + 1), acc) ?_ ?_
      ·
       refine ⟨(Sl.cons_ ha108 rfl rfl (Sl.cons_ ha108 rfl rfl (Sl.cons_ ha108 rfl rfl (Sl.cons_ ha108 rfl rfl (Sl.cons_ ha108 rfl (int_eq (by omega)) (Sl.nil_ ha108)))))), hx60, hf31, (by omega), (by omega), (by first | assumption | (simp; omega)), (by intro j x hx; have := hbd j x hx; omega), (by exact ds_skip hx36 (by rintro ⟨h1, h2⟩; first | (exact absurd h1 (by assumption)) | (exact h2 (by assumption))) hF)⟩
      ·show (list.length - ((i + 1)) : Nat) < list.length - i; omega
    ·
     rw [decide_eq_false c35] at ha34
     refine cond_f ha34 rfl ?_
     refine wp_exit ?_
     refine then_e ?_
     refine then_e ?_
     refine block_hit ?_
     refine then_n ?_
     refine wp_seq ?_
     refine wp_region_lit ?_
     refine wl_val ha34 rfl rfl rfl (op_move ha34 rfl rfl) ?_
     intro a109 ha109; clear ha34 a34
     refine wl_val ha109 rfl rfl rfl (op_assign ha109 rfl rfl) ?_
     intro a110 ha110; clear ha109 a109
     refine wl_val ha110 rfl rfl rfl (op_assign ha110 rfl rfl) ?_
     intro a111 ha111; clear ha110 a110
     refine wpList_nil ?_
     refine then_n ?_
     refine wp_ret ?_
     refine ret2 ha111 rfl rfl rfl ?_
     clear ha111 a111
     refine ret_mk hx30 ⟨v19, (tup2_eq rfl (int_eq (by first | (simp [c10, c18, c35]; done) | first | (simp [codeD, c10, c18, c35]; done) | (simp [codeD, c10, c18, c35]; omega) | (simp_all [codeD]; done) | (simp_all [codeD]; omega)))), ?_⟩
     ·refine (hf31.fin (by omega) (by omega) (by omega)).cast ?_
      rw [drop_nil (by omega), dsGo] at hF
      rw [hF]; first | (simp [c10, c18, c35, dsS]; done) | (simp [codeD, c10, c18, c35, dsS]; done)
  ·
   rw [c18] at ha17
   refine cond_t ha17 rfl ?_
   refine wp_seq ?_
   refine wp_region_lit ?_
   refine wl_val ha17 rfl rfl rfl (op_assign ha17 rfl rfl) ?_
   intro a112 ha112; clear ha17 a17
   refine wl_val ha112 rfl rfl rfl (op_assign ha112 rfl rfl) ?_
   intro a113 ha113; clear ha112 a112
   refine wpList_nil ?_
   refine then_n ?_
   refine wp_ret ?_
   refine then_r ?_
   refine ret2 ha113 rfl rfl rfl ?_
   clear ha113 a113
   refine ret_mk hx16 ⟨.slice none 0 0, (tup2_eq rfl (int_eq (by first | (simp [c10, c18]; done) | first | (simp [codeD, c10, c18]; done) | (simp [codeD, c10, c18]; omega) | (simp_all [codeD]; done) | (simp_all [codeD]; omega)))), ?_⟩
   ·refine Own.nil_ _ _ _ _ _ _ ?_
    first | (simp [c10, c18]; done) | first | (simp [codeD, c10, c18]; done) | (simp [codeD, c10, c18]; omega) | (simp_all [codeD]; done) | (simp_all [codeD]; omega)
 ·
  rw [c10] at ha9
  refine cond_t ha9 rfl ?_
  refine wp_seq ?_
  refine wp_region_lit ?_
  refine wl_val ha9 rfl rfl rfl (op_assign ha9 rfl rfl) ?_
  intro a114 ha114; clear ha9 a9
  refine wl_val ha114 rfl rfl rfl (op_assign ha114 rfl rfl) ?_
  intro a115 ha115; clear ha114 a114
  refine wpList_nil ?_
  refine then_n ?_
  refine wp_ret ?_
  refine then_r ?_
  refine ret2 ha115 rfl rfl rfl ?_
  clear ha115 a115
  refine ret_mk hx8 ⟨.slice none 0 0, (tup2_eq rfl (int_eq (by first | (simp [c10]; done) | first | (simp [codeD, c10]; done) | (simp [codeD, c10]; omega) | (simp_all [codeD]; done) | (simp_all [codeD]; omega)))), ?_⟩
  ·refine Own.nil_ _ _ _ _ _ _ ?_
   first | (simp [c10]; done) | first | (simp [codeD, c10]; done) | (simp [codeD, c10]; omega) | (simp_all [codeD]; done) | (simp_all [codeD]; omega)

theorem c_spec_DaySums (w0 : World) (v_list : Value) (list : List (Int × Int × Str × Int)) {S_list : Nat → Prop} (day : Int) (h_list : Rds shEnt S_list w0 v_list list) (g0 : list.length ≤ 1048576) :
  Calls Try.prog 39 #[v_list, .int .i64 day] w0 (Ret w0 (fun v w1 => ∃ r0, v = .tuple #[r0, .int .i64 (codeD list day)] ∧ Own shI64 2 w0.heap.size w0.heap.size w1.heap.size w1 r0 (if codeD list day = 0 then dsS day list else []))) := by
 refine enter (N := 59) Try.func39 rfl rfl rfl ?_
 intro a0 ha0
 have hx0 := Ext.rfl' w0
 have hl_list := h_list.length_le
 refine wp_seq ?_
 refine wp_region_lit ?_
 refine wl_val ha0 rfl rfl rfl (op_assign ha0 rfl rfl) ?_
 intro a1 ha1; clear ha0 a0
 refine wl_val ha1 rfl rfl rfl (op_assign ha1 rfl rfl) ?_
 intro a2 ha2; clear ha1 a1
 refine wpList_nil ?_
 refine then_n ?_
 refine wp_seq ?_
 refine wp_region_lit ?_
 refine wl_val ha2 rfl rfl rfl (op_move ha2 rfl rfl) ?_
 intro a3 ha3; clear ha2 a2
 refine wl_val ha3 rfl rfl rfl (op_move ha3 rfl rfl) ?_
 intro a4 ha4; clear ha3 a3
 refine wl_callR ha4 rfl rfl rfl (op_call ha4 rfl cb65 rfl) (c_spec_l33Code _ v_list list day (h_list.ext pos_shEnt hx0) (by first | assumption | omega | exact dbB_ent (by assumption) | (simp; omega))) ?_
 rintro v5 w6 he7 rfl a8 ha8; clear ha4 a4
 have hx9 := hx0.trans' he7
 have hzhx9 := he7.size
 refine wl_val ha8 rfl rfl rfl (op_assign ha8 rfl rfl) ?_
 intro a10 ha10; clear ha8 a8
 refine wpList_nil ?_
 refine then_n ?_
 refine wp_seq ?_
 refine wp_seq ?_
 refine wp_region_lit ?_
 refine wl_val ha10 rfl rfl rfl (op_move ha10 rfl rfl) ?_
 intro a11 ha11; clear ha10 a10
 refine wl_val ha11 rfl rfl rfl ((op_neq ha11 rfl rfl rfl).to (congrArg Value.bool decide_not)) ?_
 intro a12 ha12; clear ha11 a11
 refine wpList_nil ?_
 refine then_n ?_
 by_cases c13 : (codeD list day : Int) = (0 : Int)
 ·
  rw [decide_eq_true c13] at ha12
  have hcdc13 := codeD_ok c13
  have hlenc13 := dbB_len hcdc13.1
  have hentc13 := dbB_ent hcdc13.1
  refine cond_f ha12 rfl ?_
  refine wp_skip ?_
  refine then_n ?_
  refine wp_seq ?_
  refine wp_region_lit ?_
  refine wl_eff ha12 rfl rfl rfl (op_make (s := shI64) (n := 3) (k' := .i64) ha12 rfl Try.underlying45 ti2 pos_shI64 rfl (by omega) zero_shI64 (by omega) (by omega)) ?_
  rintro v14 w15 ⟨ho16, he17⟩ a18 ha18; clear ha12 a12
  have hx19 := hx9.trans' he17
  have hzhx19 := he17.size
  refine wl_val ha18 rfl rfl rfl (op_assign ha18 rfl rfl) ?_
  intro a20 ha20; clear ha18 a18
  refine wpList_nil ?_
  refine then_n ?_
  refine wp_seq ?_
  refine wp_seq ?_
  refine wp_region_lit ?_
  refine wl_val ha20 rfl rfl rfl (op_assign ha20 rfl rfl) ?_
  intro a21 ha21; clear ha20 a20
  refine wpList_nil ?_
  refine then_n ?_
  refine wp_block ?_
  refine loop_inv (X := Nat × (List Int)) (fun (⟨i, acc⟩ : Nat × (List Int)) fr wl => Sl 59 fr [(0, v_list), (1, .int .i64 day), (7, v14), (8, .int .i64 ((i : Nat) : Int))] ∧ Ext w0 wl ∧ Own shI64 2 w6.heap.size w6.heap.size w15.heap.size wl v14 acc ∧ w15.heap.size ≤ wl.heap.size ∧ (i ≤ list.length) ∧ (acc.length = 3) ∧ (∀ (j : Nat) (x : Int), acc[j]? = some x → 0 ≤ x ∧ x ≤ 10000000 * (i : Int)) ∧ (dsGo day (list.drop i) acc = dsGo day list (List.replicate 3 0))) (fun (⟨i, acc⟩ : Nat × (List Int)) => list.length - i) (0, (List.replicate 3 (0 : Int))) ?_ ?_
  ·
   exact ⟨(Sl.cons_ ha21 rfl rfl (Sl.cons_ ha21 rfl rfl (Sl.cons_ ha21 rfl rfl (Sl.cons_ ha21 rfl (int_eq (by omega)) (Sl.nil_ ha21))))), hx19, ho16, (by omega), (by omega), (by simp), (by intro j x hx; have := List.eq_of_mem_replicate (List.mem_of_getElem? hx); omega), (by rfl)⟩
  ·
   clear ha21 a21
   rintro ⟨i, acc⟩ a25 w22 ⟨ha25, hx23, hf24, hzl26, hi, hl, hbd, hF⟩
   have hzhx23 := hx23.size
   refine wp_seq ?_
   refine wp_seq ?_
   refine wp_region_lit ?_
   refine wl_val ha25 rfl rfl rfl (op_move ha25 rfl rfl) ?_
   intro a27 ha27; clear ha25 a25
   refine wl_val ha27 rfl rfl rfl (op_move ha27 rfl rfl) ?_
   intro a28 ha28; clear ha27 a27
   refine wl_val ha28 rfl rfl rfl (op_len_sl ha28 rfl Try.underlying25 rfl h_list) ?_
   intro a29 ha29; clear ha28 a28
   refine wl_val ha29 rfl rfl rfl (op_lss ha29 rfl rfl rfl) ?_
   intro a30 ha30; clear ha29 a29
   refine wpList_nil ?_
   refine then_n ?_
   by_cases c31 : ((i : Nat) : Int) < ((list.length : Nat) : Int)
   ·
    rw [decide_eq_true c31] at ha30
    refine cond_t ha30 rfl ?_
    refine wp_skip ?_
    refine then_n ?_
    refine wp_seq ?_
    refine wp_block ?_
    refine wp_seq ?_
    refine wp_region_lit ?_
    refine wl_val ha30 rfl rfl rfl (op_move ha30 rfl rfl) ?_
    intro a32 ha32; clear ha30 a30
    refine wl_val ha32 rfl rfl rfl (op_move ha32 rfl rfl) ?_
    intro a33 ha33; clear ha32 a32
    obtain ⟨x34, hx34⟩ := get_ex (xs := list) (j := i) (by omega)
    obtain ⟨p35, c36, hi37, hc38, hr39, hs40⟩ := Rds.at_ h_list hx34
    obtain ⟨rfl, b41, b42, b43, b44⟩ := inv_shEnt hr39
    have hbx34 := ent_bd (hentc13 _ (List.mem_of_getElem? hx34))
    have hcbx34 := cashE_bd (hentc13 _ (List.mem_of_getElem? hx34))
    refine wl_val ha33 rfl rfl rfl (op_indexAddr ha33 rfl Try.underlying25 ti41 rfl rfl (by omega) hi37) ?_
    intro a45 ha45; clear ha33 a33
    refine wl_val ha45 rfl rfl rfl (op_fieldAddr (sz := 0) ha45 rfl Try.underlying41 rfl rfl ti2 rfl) ?_
    intro a46 ha46; clear ha45 a45
    refine wl_val ha46 rfl rfl rfl (op_loadF (off := 0) ha46 rfl Try.underlying2 rfl rfl (hc38.ext hx23) rfl) ?_
    intro a47 ha47; clear ha46 a46
    refine wl_val ha47 rfl rfl rfl (op_move ha47 rfl rfl) ?_
    intro a48 ha48; clear ha47 a47
    refine wl_val ha48 rfl rfl rfl (op_eql ha48 rfl rfl rfl) ?_
    intro a49 ha49; clear ha48 a48
    refine wl_val ha49 rfl rfl rfl (op_move ha49 rfl rfl) ?_
    intro a50 ha50; clear ha49 a49
    by_cases c51 : x34.1 = day
    ·
     rw [decide_eq_true c51] at ha50
     refine wl_val ha50 rfl rfl rfl (op_move ha50 rfl rfl) ?_
     intro a52 ha52; clear ha50 a50
     refine wl_val ha52 rfl rfl rfl (op_move ha52 rfl rfl) ?_
     intro a53 ha53; clear ha52 a52
     refine wl_val ha53 rfl rfl rfl (op_indexAddr ha53 rfl Try.underlying25 ti41 rfl rfl (by omega) hi37) ?_
     intro a54 ha54; clear ha53 a53
     refine wl_val ha54 rfl rfl rfl (op_fieldAddr (sz := 0) ha54 rfl Try.underlying41 rfl rfl ti2 rfl) ?_
     intro a55 ha55; clear ha54 a54
     refine wl_val ha55 rfl rfl rfl (op_loadF (off := 1) ha55 rfl Try.underlying2 rfl rfl (hc38.ext hx23) rfl) ?_
     intro a56 ha56; clear ha55 a55
     refine wl_val ha56 rfl rfl rfl ((op_neq ha56 rfl rfl rfl).to (congrArg Value.bool decide_not)) ?_
     intro a57 ha57; clear ha56 a56
     refine wl_val ha57 rfl rfl rfl (op_pick_t ha57 rfl rfl rfl) ?_
     intro a58 ha58; clear ha57 a57
     refine wpList_nil ?_
     refine then_n ?_
     by_cases c59 : x34.2.1 = (3 : Int)
     ·
      rw [decide_eq_true c59] at ha58
      refine cond_f ha58 rfl ?_
      refine wp_skip ?_
      refine block_n ?_
      refine then_n ?_
      refine wp_region_lit ?_
      refine wl_val ha58 rfl rfl rfl (op_move ha58 rfl rfl) ?_
      intro a60 ha60; clear ha58 a58
      refine wl_val ha60 rfl rfl rfl ((op_add ha60 rfl rfl rfl).int (IntWalk.i64_in _ (by omega))) ?_
      intro a61 ha61; clear ha60 a60
      refine wl_val ha61 rfl rfl rfl (op_assign ha61 rfl rfl) ?_
      intro a62 ha62; clear ha61 a61
      refine wpList_nil ?_
      refine round_end (x := (i, acc)) ((i + 1), acc) ?_ ?_
      ·
       refine ⟨(Sl.cons_ ha62 rfl rfl (Sl.cons_ ha62 rfl rfl (Sl.cons_ ha62 rfl rfl (Sl.cons_ ha62 rfl (int_eq (by omega)) (Sl.nil_ ha62))))), hx23, hf24, (by omega), (by omega), (by first | assumption | (simp; omega)), (by intro j x hx; have := hbd j x hx; omega), (by exact ds_skip hx34 (by rintro ⟨h1, h2⟩; first | (exact absurd h1 (by assumption)) | (exact h2 (by assumption))) hF)⟩
      ·show (list.length - ((i + 1)) : Nat) < list.length - i; omega
     ·
      rw [decide_eq_false c59] at ha58
      refine cond_t ha58 rfl ?_
      refine dr_enter (fun wa_ wb_ => Stp wa_ wb_ (Value.ownBlock v14)) follows_mixed ?_
      intro w63 he64
      have hx65 := hx23.trans' he64
      have hzhx65 := he64.size
      replace hf24 := hf24.ext he64
      have hs66 : Ext w63 w63 := Ext.rfl' _
      refine dr_val (i := 0) ha58 rfl (by kernel_rfl) (by kernel_rfl) (by kernel_rfl) rfl rfl rfl (Stp.of_ext hs66 _) (fun w' hw' => op_move ha58 rfl rfl) ?_
      intro a67 ha67; clear ha58 a58
      refine dr_val (i := 1) ha67 rfl (by kernel_rfl) (by kernel_rfl) (by kernel_rfl) rfl rfl rfl (Stp.of_ext hs66 _) (fun w' hw' => op_move ha67 rfl rfl) ?_
      intro a68 ha68; clear ha67 a67
      refine dr_val (i := 2) ha68 rfl (by kernel_rfl) (by kernel_rfl) (by kernel_rfl) rfl rfl rfl (Stp.of_ext hs66 _) (fun w' hw' => op_move ha68 rfl rfl) ?_
      intro a69 ha69; clear ha68 a68
      refine dr_val (i := 3) ha69 rfl (by kernel_rfl) (by kernel_rfl) (by kernel_rfl) rfl rfl rfl (Stp.of_ext hs66 _) (fun w' hw' => op_indexAddr ha69 rfl Try.underlying25 ti41 rfl rfl (by omega) hi37) ?_
      intro a70 ha70; clear ha69 a69
      refine dr_val (i := 4) ha70 rfl (by kernel_rfl) (by kernel_rfl) (by kernel_rfl) rfl rfl rfl (Stp.of_ext hs66 _) (fun w' hw' => op_fieldAddr (sz := 0) ha70 rfl Try.underlying41 rfl rfl ti2 rfl) ?_
      intro a71 ha71; clear ha70 a70
      refine dr_val (i := 5) ha71 rfl (by kernel_rfl) (by kernel_rfl) (by kernel_rfl) rfl rfl rfl (Stp.of_ext hs66 _) (fun w' hw' => op_loadF (off := 1) ha71 rfl Try.underlying2 rfl rfl (hc38.ext (hx65.stp hw' (by intro q hq; have hq0 := hf24.lt q hq; omega))) rfl) ?_
      intro a72 ha72; clear ha71 a71
      refine dr_val (i := 6) ha72 rfl (by kernel_rfl) (by kernel_rfl) (by kernel_rfl) rfl rfl rfl (Stp.of_ext hs66 _) (fun w' hw' => op_move ha72 rfl rfl) ?_
      intro a73 ha73; clear ha72 a72
      refine dr_val (i := 7) ha73 rfl (by kernel_rfl) (by kernel_rfl) (by kernel_rfl) rfl rfl rfl (Stp.of_ext hs66 _) (fun w' hw' => op_move ha73 rfl rfl) ?_
      intro a74 ha74; clear ha73 a73
      refine dr_val (i := 8) ha74 rfl (by kernel_rfl) (by kernel_rfl) (by kernel_rfl) rfl rfl rfl (Stp.of_ext hs66 _) (fun w' hw' => op_move ha74 rfl rfl) ?_
      intro a75 ha75; clear ha74 a74
      refine dr_val (i := 9) ha75 rfl (by kernel_rfl) (by kernel_rfl) (by kernel_rfl) rfl rfl rfl (Stp.of_ext hs66 _) (fun w' hw' => op_indexAddr ha75 rfl Try.underlying25 ti41 rfl rfl (by omega) hi37) ?_
      intro a76 ha76; clear ha75 a75
      refine dr_val (i := 10) ha76 rfl (by kernel_rfl) (by kernel_rfl) (by kernel_rfl) rfl rfl rfl (Stp.of_ext hs66 _) (fun w' hw' => op_fieldAddr (sz := 0) ha76 rfl Try.underlying41 rfl rfl ti2 rfl) ?_
      intro a77 ha77; clear ha76 a76
      refine dr_val (i := 11) ha77 rfl (by kernel_rfl) (by kernel_rfl) (by kernel_rfl) rfl rfl rfl (Stp.of_ext hs66 _) (fun w' hw' => op_loadF (off := 1) ha77 rfl Try.underlying2 rfl rfl (hc38.ext (hx65.stp hw' (by intro q hq; have hq0 := hf24.lt q hq; omega))) rfl) ?_
      intro a78 ha78; clear ha77 a77
      obtain ⟨x79, hx79⟩ := get_ex (xs := acc) (j := x34.2.1.toNat) (by omega)
      obtain ⟨p80, c81, hi82, hc83, hr84, hs85⟩ := Rds.at_ (hf24.rds pos_shI64) hx79
      obtain ⟨rfl, b86⟩ := inv_shI64 hr84
      obtain ⟨_, _⟩ : _ ∧ _ := hs85
      have hbdx79 := hbd _ _ hx79
      refine dr_val (i := 12) ha78 rfl (by kernel_rfl) (by kernel_rfl) (by kernel_rfl) rfl rfl rfl (Stp.of_ext hs66 _) (fun w' hw' => op_indexAddr ha78 rfl Try.underlying45 ti2 rfl rfl (by omega) hi82) ?_
      intro a87 ha87; clear ha78 a78
      refine dr_val (i := 14) ha87 rfl (by kernel_rfl) (by kernel_rfl) (by kernel_rfl) rfl rfl rfl (Stp.of_ext hs66 _) (fun w' hw' => op_move ha87 rfl rfl) ?_
      intro a88 ha88; clear ha87 a87
      refine dr_val (i := 15) ha88 rfl (by kernel_rfl) (by kernel_rfl) (by kernel_rfl) rfl rfl rfl (Stp.of_ext hs66 _) (fun w' hw' => op_move ha88 rfl rfl) ?_
      intro a89 ha89; clear ha88 a88
      refine dr_val (i := 16) ha89 rfl (by kernel_rfl) (by kernel_rfl) (by kernel_rfl) rfl rfl rfl (Stp.of_ext hs66 _) (fun w' hw' => op_indexAddr ha89 rfl Try.underlying25 ti41 rfl rfl (by omega) hi37) ?_
      intro a90 ha90; clear ha89 a89
      refine dr_val (i := 17) ha90 rfl (by kernel_rfl) (by kernel_rfl) (by kernel_rfl) rfl rfl rfl (Stp.of_ext hs66 _) (fun w' hw' => op_fieldAddr (sz := 0) ha90 rfl Try.underlying41 rfl rfl ti2 rfl) ?_
      intro a91 ha91; clear ha90 a90
      refine dr_val (i := 18) ha91 rfl (by kernel_rfl) (by kernel_rfl) (by kernel_rfl) rfl rfl rfl (Stp.of_ext hs66 _) (fun w' hw' => op_loadF (off := 3) ha91 rfl Try.underlying2 rfl rfl (hc38.ext (hx65.stp hw' (by intro q hq; have hq0 := hf24.lt q hq; omega))) rfl) ?_
      intro a92 ha92; clear ha91 a91
      refine dr_one (i := 13) (by kernel_rfl) ?_
      refine po_to ha92 rfl rfl rfl rfl (op_loadH ha92 rfl Try.underlying2 rfl rfl (hc83.ext hs66) rfl) ?_
      intro a93 ha93; clear ha92 a92
      refine ⟨(Stp.of_ext hs66 _), ?_⟩
      refine dr_val (i := 19) ha93 rfl (by kernel_rfl) (by kernel_rfl) (by kernel_rfl) rfl rfl rfl (Stp.of_ext hs66 _) (fun w' hw' => (op_add ha93 rfl rfl rfl).int (IntWalk.i64_in _ (by omega))) ?_
      intro a94 ha94; clear ha93 a93
      refine dr_val (i := 20) ha94 rfl (by kernel_rfl) (by kernel_rfl) (by kernel_rfl) rfl rfl rfl (Stp.of_ext hs66 _) (fun w' hw' => op_indexAddr ha94 rfl Try.underlying45 ti2 rfl rfl (by omega) hi82) ?_
      intro a95 ha95; clear ha94 a94
      refine dr_one (i := 21) (by kernel_rfl) ?_
      replace hf24 := hf24.ext hs66
      replace hc83 := hc83.ext hs66
      refine po_effS ha95 rfl rfl rfl (op_setElem (s := shI64) (ds := [.int .i64 (x79 + x34.2.2.2)]) (S' := fun _ => False) ha95 rfl ti2 rfl rfl rfl hf24 pos_shI64 hi82 (by omega) (mk_shI64 ((x79 + x34.2.2.2)) (by first | assumption | omega | (simp; omega))) (fun _ h => h.elim)) ?_
      rintro w96 ⟨ho98, hst97, hz99⟩
      have hx100 := hx65.stp hst97 (by intro q hq; have hq0 := hf24.lt q hq; omega)
      have hzhx100 := hst97.size
      clear hf24
      have hlsho98 : ((acc.set x34.2.1.toNat ((x79 + x34.2.2.2)))).length = acc.length := List.length_set
      have hs101 := (Stp.of_ext hs66 (Value.ownBlock v14)).trans' hst97
      refine ⟨hs101, ?_⟩
      refine dr_end (by kernel_rfl) ?_
      refine block_n ?_
      refine then_n ?_
      refine wp_region_lit ?_
      refine wl_val ha95 rfl rfl rfl (op_move ha95 rfl rfl) ?_
      intro a102 ha102; clear ha95 a95
      refine wl_val ha102 rfl rfl rfl ((op_add ha102 rfl rfl rfl).int (IntWalk.i64_in _ (by omega))) ?_
      intro a103 ha103; clear ha102 a102
      refine wl_val ha103 rfl rfl rfl (op_assign ha103 rfl rfl) ?_
      intro a104 ha104; clear ha103 a103
      refine wpList_nil ?_
      refine round_end (x := (i, acc)) ((i + 1), (acc.set x34.2.1.toNat ((x79 + x34.2.2.2)))) ?_ ?_
      ·
       refine ⟨(Sl.cons_ ha104 rfl rfl (Sl.cons_ ha104 rfl rfl (Sl.cons_ ha104 rfl rfl (Sl.cons_ ha104 rfl (int_eq (by omega)) (Sl.nil_ ha104))))), hx100, ho98, (by omega), (by omega), (by first | assumption | (simp; omega)), (by exact ds_bd hbd (by omega)), (by exact ds_step hx34 hx79 (by assumption) (by assumption) hF)⟩
      ·show (list.length - ((i + 1)) : Nat) < list.length - i; omega
    ·
     rw [decide_eq_false c51] at ha50
     refine wl_skip ha50 rfl rfl rfl ?_
     intro a105 ha105; clear ha50 a50
     refine wl_skip ha105 rfl rfl rfl ?_
     intro a106 ha106; clear ha105 a105
     refine wl_skip ha106 rfl rfl rfl ?_
     intro a107 ha107; clear ha106 a106
     refine wl_skip ha107 rfl rfl rfl ?_
     intro a108 ha108; clear ha107 a107
     refine wl_skip ha108 rfl rfl rfl ?_
     intro a109 ha109; clear ha108 a108
     refine wl_skip ha109 rfl rfl rfl ?_
     intro a110 ha110; clear ha109 a109
     refine wl_val ha110 rfl rfl rfl (op_pick_f ha110 rfl rfl rfl) ?_
     intro a111 ha111; clear ha110 a110
     refine wpList_nil ?_
     refine then_n ?_
     refine cond_f ha111 rfl ?_
     refine wp_skip ?_
     refine block_n ?_
     refine then_n ?_
     refine wp_region_lit ?_
     refine wl_val ha111 rfl rfl rfl (op_move ha111 rfl rfl) ?_
     intro a112 ha112; clear ha111 a111
     refine wl_val ha112 rfl rfl rfl ((op_add ha112 rfl rfl rfl).int (IntWalk.i64_in _ (by omega))) ?_
     intro a113 ha113; clear ha112 a112
     refine wl_val ha113 rfl rfl rfl (op_assign ha113 rfl rfl) ?_
     intro a114 ha114; clear ha113 a113
     refine wpList_nil ?_
     refine round_end (x := (i, acc)) ((i + 1), acc) ?_ ?_
     ·
      refine ⟨(Sl.cons_ ha114 rfl rfl (Sl.cons_ ha114 rfl rfl (Sl.cons_ ha114 rfl rfl (Sl.cons_ ha114 rfl (int_eq (by omega)) (Sl.nil_ ha114))))), hx23, hf24, (by omega), (by omega), (by first | assumption | (simp; omega)), (by intro j x hx; have := hbd j x hx; omega), (by exact ds_skip hx34 (by rintro ⟨h1, h2⟩; first | (exact absurd h1 (by assumption)) | (exact h2 (by assumption))) hF)⟩
     ·show (list.length - ((i + 1)) : Nat) < list.length - i; omega
   ·
    rw [decide_eq_false c31] at ha30
    refine cond_f ha30 rfl ?_
    refine wp_exit ?_
    refine then_e ?_
    refine then_e ?_
    refine block_hit ?_
    refine then_n ?_
    refine wp_seq ?_
    refine wp_region_lit ?_
    refine wl_val ha30 rfl rfl rfl (op_move ha30 rfl rfl) ?_
    intro a115 ha115; clear ha30 a30
    refine wl_val ha115 rfl rfl rfl (op_assign ha115 rfl rfl) ?_
    intro a116 ha116; clear ha115 a115
    refine wl_val ha116 rfl rfl rfl (op_assign ha116 rfl rfl) ?_
    intro a117 ha117; clear ha116 a116
    refine wpList_nil ?_
    refine then_n ?_
    refine wp_ret ?_
    refine ret2 ha117 rfl rfl rfl ?_
    clear ha117 a117
    refine ret_mk hx23 ⟨v14, (tup2_eq rfl (int_eq (by first | (simp [c13, c31]; done) | first | (simp [codeD, c13, c31]; done) | (simp [codeD, c13, c31]; omega) | (simp_all [codeD]; done) | (simp_all [codeD]; omega)))), ?_⟩
    ·refine (hf24.fin (by omega) (by omega) (by omega)).cast ?_
     rw [drop_nil (by omega), dsGo] at hF
     rw [hF]; first | (simp [c13, c31, dsS]; done) | (simp [codeD, c13, c31, dsS]; done)
 ·
  rw [decide_eq_false c13] at ha12
  refine cond_t ha12 rfl ?_
  refine wp_seq ?_
  refine wp_region_lit ?_
  refine wl_val ha12 rfl rfl rfl (op_move ha12 rfl rfl) ?_
  intro a118 ha118; clear ha12 a12
  refine wl_val ha118 rfl rfl rfl (op_assign ha118 rfl rfl) ?_
  intro a119 ha119; clear ha118 a118
  refine wl_val ha119 rfl rfl rfl (op_assign ha119 rfl rfl) ?_
  intro a120 ha120; clear ha119 a119
  refine wpList_nil ?_
  refine then_n ?_
  refine wp_ret ?_
  refine then_r ?_
  refine ret2 ha120 rfl rfl rfl ?_
  clear ha120 a120
  refine ret_mk hx9 ⟨.slice none 0 0, (tup2_eq rfl (int_eq (by first | (simp [c13]; done) | first | (simp [codeD, c13]; done) | (simp [codeD, c13]; omega) | (simp_all [codeD]; done) | (simp_all [codeD]; omega)))), ?_⟩
  ·refine Own.nil_ _ _ _ _ _ _ ?_
   first | (simp [c13]; done) | first | (simp [codeD, c13]; done) | (simp [codeD, c13]; omega) | (simp_all [codeD]; done) | (simp_all [codeD]; omega)

theorem c_impl_AddEntry (w0 : World) (v_list : Value) (list : List (Int × Int × Str × Int)) {S_list : Nat → Prop} (e : Int × Int × Str × Int) (h_list : Rds shEnt S_list w0 v_list list) (g0 : list.length ≤ 1048576) (g1 : I64 e.1) (g2 : I64 e.2.1) (g3 : e.2.2.1.length ≤ 9223372036854775807) (g4 : I64 e.2.2.2) :
  Calls Try.prog 31 #[v_list, .agg #[.int .i64 e.1, .int .i64 e.2.1, St e.2.2.1, .int .i64 e.2.2.2]] w0 (Ret w0 (fun v w1 => ∃ r0, v = .tuple #[r0, .int .i64 (addC list e)] ∧ Own shEnt 41 w0.heap.size w0.heap.size w1.heap.size w1 r0 (addL list e))) := by
 refine enter (N := 23) Try.func31 rfl rfl rfl ?_
 intro a0 ha0
 have hx0 := Ext.rfl' w0
 have hl_list := h_list.length_le
 refine wp_seq ?_
 refine wp_region_lit ?_
 refine wl_eff ha0 rfl rfl rfl (op_box' ha0 rfl rfl rfl) ?_
 rintro _ w2 ⟨rfl, he3, hb4, hz5⟩ a6 ha6; clear ha0 a0
 have hx7 := hx0.trans' he3
 have hzhx7 := he3.size
 refine wl_val ha6 rfl rfl rfl (op_assign ha6 rfl rfl) ?_
 intro a8 ha8; clear ha6 a6
 refine wl_val ha8 rfl rfl rfl (op_assign ha8 rfl rfl) ?_
 intro a9 ha9; clear ha8 a8
 refine wpList_nil ?_
 refine then_n ?_
 refine wp_seq ?_
 refine wp_seq ?_
 refine wp_region_lit ?_
 refine wl_val ha9 rfl rfl rfl (op_move ha9 rfl rfl) ?_
 intro a10 ha10; clear ha9 a9
 refine wl_callR ha10 rfl rfl rfl (op_call ha10 rfl cb18 rfl) (c_impl_IsDayBook _ v_list list (h_list.ext pos_shEnt hx7) (by first | assumption | omega | exact dbB_ent (by assumption) | (simp; omega))) ?_
 rintro v11 w12 he13 rfl a14 ha14; clear ha10 a10
 have hx15 := hx7.trans' he13
 have hzhx15 := he13.size
 replace hb4 := hb4.ext he13
 refine wl_val ha14 rfl rfl rfl (op_not ha14 rfl rfl) ?_
 intro a16 ha16; clear ha14 a14
 refine wpList_nil ?_
 refine then_n ?_
 rcases Bool.eq_false_or_eq_true (dbB list) with c17 | c17
 ·
  rw [c17] at ha16
  have hlenc17 := dbB_len c17
  have hentc17 := dbB_ent c17
  refine cond_f ha16 rfl ?_
  refine wp_skip ?_
  refine then_n ?_
  refine wp_seq ?_
  refine wp_seq ?_
  refine wp_region_lit ?_
  refine wl_val ha16 rfl rfl rfl (op_move ha16 rfl rfl) ?_
  intro a18 ha18; clear ha16 a16
  refine wl_val ha18 rfl rfl rfl (op_len_sl ha18 rfl Try.underlying25 rfl h_list) ?_
  intro a19 ha19; clear ha18 a18
  refine wl_val ha19 rfl rfl rfl (op_eql ha19 rfl rfl rfl) ?_
  intro a20 ha20; clear ha19 a19
  refine wpList_nil ?_
  refine then_n ?_
  by_cases c21 : ((list.length : Nat) : Int) = (60 : Int)
  ·
   rw [decide_eq_true c21] at ha20
   refine cond_t ha20 rfl ?_
   refine wp_seq ?_
   refine wp_region_lit ?_
   refine wl_val ha20 rfl rfl rfl (op_assign ha20 rfl rfl) ?_
   intro a22 ha22; clear ha20 a20
   refine wl_val ha22 rfl rfl rfl (op_assign ha22 rfl rfl) ?_
   intro a23 ha23; clear ha22 a22
   refine wpList_nil ?_
   refine then_n ?_
   refine wp_ret ?_
   refine then_r ?_
   refine ret2 ha23 rfl rfl rfl ?_
   clear ha23 a23
   refine ret_mk hx15 ⟨.slice none 0 0, (tup2_eq rfl (int_eq (by first | (simp [addC, c17, c21]; done) | (simp [addC, c17, c21]; omega) | (simp_all [addC]; done) | (simp_all [addC]; omega)))), ?_⟩
   ·refine Own.nil_ _ _ _ _ _ _ ?_
    first | (simp [addL, c17, c21]; done) | (simp_all [addL]; done) | (simp_all [addL]; omega)
  ·
   rw [decide_eq_false c21] at ha20
   refine cond_f ha20 rfl ?_
   refine wp_skip ?_
   refine then_n ?_
   refine wp_seq ?_
   refine dr_enter Ext follows_mixed ?_
   intro w24 he25
   have hx26 := hx15.trans' he25
   have hzhx26 := he25.size
   replace hb4 := hb4.ext he25
   have hs27 : Ext w24 w24 := Ext.rfl' _
   refine dr_val (i := 1) ha20 rfl (by kernel_rfl) (by kernel_rfl) (by kernel_rfl) rfl rfl rfl hs27 (fun w' hw' => op_move ha20 rfl rfl) ?_
   intro a28 ha28; clear ha20 a20
   refine dr_val (i := 3) ha28 rfl (by kernel_rfl) (by kernel_rfl) (by kernel_rfl) rfl rfl rfl hs27 (fun w' hw' => op_loadS ha28 rfl Try.underlying41 ti41 rfl rfl (hb4.ext hw').cells) ?_
   intro a29 ha29; clear ha28 a28
   refine dr_two (i := 0) (j := 4) (by kernel_rfl) ?_ ?_
   ·
    refine po_eff ha29 rfl rfl rfl rfl (op_buildSlice (s := shEnt) (xs := ([] : List (Int × Int × Str × Int))) (cs := []) (vs := []) (S := fun _ => False) (le := w24.heap.size) ha29 rfl pos_shEnt Try.underlying25 ti41 rfl rfl (by decide) (by kernel_rfl) rfl (fun _ h => h.elim)) ?_
    rintro v30 w31 ⟨ho32, he33, hob34⟩ a35 ha35; clear ha29 a29
    have hs36 := hs27.trans' he33
    have hx37 := hx26.trans' he33
    have hzhx37 := he33.size
    refine ⟨hs36, ?_⟩
    refine dr_two (i := 2) (j := 4) (by kernel_rfl) ?_ ?_
    ·
     refine po_eff ha35 rfl rfl rfl rfl (op_append (ts := #[]) (s := shEnt) ha35 rfl Try.underlying25 ti41 rfl pos_shEnt rfl rfl ho32 (h_list.ext pos_shEnt (hx26.trans' hs36)) (by omega) (by omega) (by first | omega | (simp; omega)) (by first | omega | (simp; omega)) (.inl flat_shEnt)) ?_
     rintro v38 w39 ⟨ho40, hst41, hob42⟩ a43 ha43; clear ha35 a35
     replace ho40 := ho40.cast (List.nil_append _)
     have hs44 := hs36.stp hst41 (by intro q hq; have hq0 := ho32.lt q hq; omega)
     have hx45 := hx37.stp hst41 (by intro q hq; have hq0 := ho32.lt q hq; omega)
     have hzhx45 := hst41.size
     have hsp46 : ∀ q, Value.ownBlock v38 = some q → q ≠ w0.heap.size := by intro q hq; have hq0 := hb4.lt; rcases hob42 with h | h; (rw [h] at hq; first | (have hq1 := ho32.lt q hq; omega)); (rw [h] at hq; cases hq; omega)
     refine ⟨hs44, ?_⟩
     refine dr_one (i := 4) (by kernel_rfl) ?_
     refine po_eff ha43 rfl rfl rfl rfl (op_buildSlice (s := shEnt) (xs := [e]) (cs := [.int .i64 e.1, .int .i64 e.2.1, St e.2.2.1, .int .i64 e.2.2.2]) (vs := [(0, .agg #[.int .i64 e.1, .int .i64 e.2.1, St e.2.2.1, .int .i64 e.2.2.2])]) (S := fun _ => False) (le := w39.heap.size) ha43 rfl pos_shEnt Try.underlying25 ti41 rfl rfl (by decide) (by kernel_rfl) (Els.single (mk_shEnt e (by first | assumption | omega | (simp; omega)) (by first | assumption | omega | (simp; omega)) (by first | assumption | omega | (simp; omega)) (by first | assumption | omega | (simp; omega)))) (fun _ h => h.elim)) ?_
     rintro v47 w48 ⟨ho49, he50, hob51⟩ a52 ha52; clear ha43 a43
     have hs53 := hs44.trans' he50
     have hx54 := hx45.trans' he50
     have hzhx54 := he50.size
     replace ho40 := ho40.ext he50
     refine ⟨hs53, ?_⟩
     refine dr_one (i := 5) (by kernel_rfl) ?_
     refine po_eff ha52 rfl rfl rfl rfl (op_append (ts := #[]) (s := shEnt) ha52 rfl Try.underlying25 ti41 rfl pos_shEnt rfl rfl ho40 (ho49.rds pos_shEnt) (by omega) (by omega) (by first | omega | (simp; omega)) (by first | omega | (simp; omega)) (.inl flat_shEnt)) ?_
     rintro v55 w56 ⟨ho57, hst58, hob59⟩ a60 ha60; clear ha52 a52
     have hs61 := hs53.stp hst58 (by intro q hq; have hq0 := ho40.lt q hq; omega)
     have hx62 := hx54.stp hst58 (by intro q hq; have hq0 := ho40.lt q hq; omega)
     have hzhx62 := hst58.size
     replace ho49 := ho49.stp hst58 (by intro q hq; have hq0 := ho40.lt q hq; omega)
     have hsp63 : ∀ q, Value.ownBlock v55 = some q → q ≠ w0.heap.size := by intro q hq; have hq0 := hb4.lt; rcases hob59 with h | h; (rw [h] at hq; first | (have hq1 := ho40.lt q hq; omega) | exact hsp46 q hq); (rw [h] at hq; cases hq; omega)
     have hsp64 : ∀ q, Value.ownBlock v55 = some q → Value.ownBlock v47 ≠ some q := by intro q hq hb; have hq0 := ho49.lt q hb; rcases hob59 with h | h; (rw [h] at hq; first | (have hq1 := ho40.lt q hq; omega)); (rw [h] at hq; cases hq; omega)
     refine ⟨hs61, ?_⟩
     refine dr_val (i := 6) ha60 rfl (by kernel_rfl) (by kernel_rfl) (by kernel_rfl) rfl rfl rfl hs61 (fun w' hw' => op_assign ha60 rfl rfl) ?_
     intro a65 ha65; clear ha60 a60
     refine dr_end (by kernel_rfl) ?_
     replace hb4 := hb4.ext hs61
     refine then_n ?_
     refine wp_seq ?_
     refine wp_seq ?_
     refine wp_region_lit ?_
     refine wl_val ha65 rfl rfl rfl (op_move ha65 rfl rfl) ?_
     intro a66 ha66; clear ha65 a65
     refine wl_callR ha66 rfl rfl rfl (op_call ha66 rfl cb18 rfl) (c_impl_IsDayBook _ v55 ((list ++ [e])) (ho57.rds pos_shEnt) (by first | assumption | omega | exact dbB_ent (by assumption) | (simp; omega))) ?_
     rintro v67 w68 he69 rfl a70 ha70; clear ha66 a66
     have hx71 := hx62.trans' he69
     have hzhx71 := he69.size
     replace hb4 := hb4.ext he69
     replace ho49 := ho49.ext he69
     replace ho57 := ho57.ext he69
     refine wl_val ha70 rfl rfl rfl (op_not ha70 rfl rfl) ?_
     intro a72 ha72; clear ha70 a70
     refine wpList_nil ?_
     refine then_n ?_
     rcases Bool.eq_false_or_eq_true (dbB ((list ++ [e]))) with c73 | c73
     ·
      rw [c73] at ha72
      have hlenc73 := dbB_len c73
      have hentc73 := dbB_ent c73
      refine cond_f ha72 rfl ?_
      refine wp_skip ?_
      refine then_n ?_
      refine wp_seq ?_
      refine wp_region_lit ?_
      refine wl_val ha72 rfl rfl rfl (op_move ha72 rfl rfl) ?_
      intro a74 ha74; clear ha72 a72
      refine wl_val ha74 rfl rfl rfl (op_assign ha74 rfl rfl) ?_
      intro a75 ha75; clear ha74 a74
      refine wl_val ha75 rfl rfl rfl (op_assign ha75 rfl rfl) ?_
      intro a76 ha76; clear ha75 a75
      refine wpList_nil ?_
      refine then_n ?_
      refine wp_ret ?_
      refine ret2 ha76 rfl rfl rfl ?_
      clear ha76 a76
      refine ret_mk hx71 ⟨v55, (tup2_eq rfl (int_eq (by first | (simp [addC, c17, c21, c73]; done) | (simp [addC, c17, c21, c73]; omega) | (simp_all [addC]; done) | (simp_all [addC]; omega)))), ?_⟩
      ·refine (ho57.fin (by omega) (by omega) (by omega)).cast ?_
       first | (simp [addL, c17, c21, c73]; done) | (simp_all [addL]; done) | (simp_all [addL]; omega)
     ·
      rw [c73] at ha72
      refine cond_t ha72 rfl ?_
      refine wp_seq ?_
      refine wp_region_lit ?_
      refine wl_val ha72 rfl rfl rfl (op_assign ha72 rfl rfl) ?_
      intro a77 ha77; clear ha72 a72
      refine wl_val ha77 rfl rfl rfl (op_assign ha77 rfl rfl) ?_
      intro a78 ha78; clear ha77 a77
      refine wpList_nil ?_
      refine then_n ?_
      refine wp_ret ?_
      refine then_r ?_
      refine ret2 ha78 rfl rfl rfl ?_
      clear ha78 a78
      refine ret_mk hx71 ⟨.slice none 0 0, (tup2_eq rfl (int_eq (by first | (simp [addC, c17, c21, c73]; done) | (simp [addC, c17, c21, c73]; omega) | (simp_all [addC]; done) | (simp_all [addC]; omega)))), ?_⟩
      ·refine Own.nil_ _ _ _ _ _ _ ?_
       first | (simp [addL, c17, c21, c73]; done) | (simp_all [addL]; done) | (simp_all [addL]; omega)
    ·
     refine po_eff ha35 rfl rfl rfl rfl (op_buildSlice (s := shEnt) (xs := [e]) (cs := [.int .i64 e.1, .int .i64 e.2.1, St e.2.2.1, .int .i64 e.2.2.2]) (vs := [(0, .agg #[.int .i64 e.1, .int .i64 e.2.1, St e.2.2.1, .int .i64 e.2.2.2])]) (S := fun _ => False) (le := w31.heap.size) ha35 rfl pos_shEnt Try.underlying25 ti41 rfl rfl (by decide) (by kernel_rfl) (Els.single (mk_shEnt e (by first | assumption | omega | (simp; omega)) (by first | assumption | omega | (simp; omega)) (by first | assumption | omega | (simp; omega)) (by first | assumption | omega | (simp; omega)))) (fun _ h => h.elim)) ?_
     rintro v79 w80 ⟨ho81, he82, hob83⟩ a84 ha84; clear ha35 a35
     have hs85 := hs36.trans' he82
     have hx86 := hx37.trans' he82
     have hzhx86 := he82.size
     replace ho32 := ho32.ext he82
     refine ⟨hs85, ?_⟩
     refine dr_one (i := 2) (by kernel_rfl) ?_
     refine po_eff ha84 rfl rfl rfl rfl (op_append (ts := #[]) (s := shEnt) ha84 rfl Try.underlying25 ti41 rfl pos_shEnt rfl rfl ho32 (h_list.ext pos_shEnt (hx26.trans' hs85)) (by omega) (by omega) (by first | omega | (simp; omega)) (by first | omega | (simp; omega)) (.inl flat_shEnt)) ?_
     rintro v87 w88 ⟨ho89, hst90, hob91⟩ a92 ha92; clear ha84 a84
     replace ho89 := ho89.cast (List.nil_append _)
     have hs93 := hs85.stp hst90 (by intro q hq; have hq0 := ho32.lt q hq; omega)
     have hx94 := hx86.stp hst90 (by intro q hq; have hq0 := ho32.lt q hq; omega)
     have hzhx94 := hst90.size
     replace ho81 := ho81.stp hst90 (by intro q hq; have hq0 := ho32.lt q hq; omega)
     have hsp95 : ∀ q, Value.ownBlock v87 = some q → q ≠ w0.heap.size := by intro q hq; have hq0 := hb4.lt; rcases hob91 with h | h; (rw [h] at hq; first | (have hq1 := ho32.lt q hq; omega)); (rw [h] at hq; cases hq; omega)
     have hsp96 : ∀ q, Value.ownBlock v87 = some q → Value.ownBlock v79 ≠ some q := by intro q hq hb; have hq0 := ho81.lt q hb; rcases hob91 with h | h; (rw [h] at hq; first | (have hq1 := ho32.lt q hq; omega)); (rw [h] at hq; cases hq; omega)
     refine ⟨hs93, ?_⟩
     refine dr_one (i := 5) (by kernel_rfl) ?_
     refine po_eff ha92 rfl rfl rfl rfl (op_append (ts := #[]) (s := shEnt) ha92 rfl Try.underlying25 ti41 rfl pos_shEnt rfl rfl ho89 (ho81.rds pos_shEnt) (by omega) (by omega) (by first | omega | (simp; omega)) (by first | omega | (simp; omega)) (.inl flat_shEnt)) ?_
     rintro v97 w98 ⟨ho99, hst100, hob101⟩ a102 ha102; clear ha92 a92
     have hs103 := hs93.stp hst100 (by intro q hq; have hq0 := ho89.lt q hq; omega)
     have hx104 := hx94.stp hst100 (by intro q hq; have hq0 := ho89.lt q hq; omega)
     have hzhx104 := hst100.size
     first | replace ho81 := ho81.stp hst100 (by intro q hq; have hq0 := ho89.lt q hq; omega) | replace ho81 := ho81.stpF flat_shEnt hst100 (fun q hq => hsp96 q hq)
     have hsp105 : ∀ q, Value.ownBlock v97 = some q → q ≠ w0.heap.size := by intro q hq; have hq0 := hb4.lt; rcases hob101 with h | h; (rw [h] at hq; first | (have hq1 := ho89.lt q hq; omega) | exact hsp95 q hq); (rw [h] at hq; cases hq; omega)
     have hsp106 : ∀ q, Value.ownBlock v97 = some q → Value.ownBlock v79 ≠ some q := by intro q hq hb; have hq0 := ho81.lt q hb; rcases hob101 with h | h; (rw [h] at hq; first | (have hq1 := ho89.lt q hq; omega) | exact hsp96 q hq hb); (rw [h] at hq; cases hq; omega)
     refine ⟨hs103, ?_⟩
     refine dr_val (i := 6) ha102 rfl (by kernel_rfl) (by kernel_rfl) (by kernel_rfl) rfl rfl rfl hs103 (fun w' hw' => op_assign ha102 rfl rfl) ?_
     intro a107 ha107; clear ha102 a102
     refine dr_end (by kernel_rfl) ?_
     replace hb4 := hb4.ext hs103
     refine then_n ?_
     refine wp_seq ?_
     refine wp_seq ?_
     refine wp_region_lit ?_
     refine wl_val ha107 rfl rfl rfl (op_move ha107 rfl rfl) ?_
     intro a108 ha108; clear ha107 a107
     refine wl_callR ha108 rfl rfl rfl (op_call ha108 rfl cb18 rfl) (c_impl_IsDayBook _ v97 ((list ++ [e])) (ho99.rds pos_shEnt) (by first | assumption | omega | exact dbB_ent (by assumption) | (simp; omega))) ?_
     rintro v109 w110 he111 rfl a112 ha112; clear ha108 a108
     have hx113 := hx104.trans' he111
     have hzhx113 := he111.size
     replace hb4 := hb4.ext he111
     replace ho81 := ho81.ext he111
     replace ho99 := ho99.ext he111
     refine wl_val ha112 rfl rfl rfl (op_not ha112 rfl rfl) ?_
     intro a114 ha114; clear ha112 a112
     refine wpList_nil ?_
     refine then_n ?_
     rcases Bool.eq_false_or_eq_true (dbB ((list ++ [e]))) with c115 | c115
     ·
      rw [c115] at ha114
      have hlenc115 := dbB_len c115
      have hentc115 := dbB_ent c115
      refine cond_f ha114 rfl ?_
      refine wp_skip ?_
      refine then_n ?_
      refine wp_seq ?_
      refine wp_region_lit ?_
      refine wl_val ha114 rfl rfl rfl (op_move ha114 rfl rfl) ?_
      intro a116 ha116; clear ha114 a114
      refine wl_val ha116 rfl rfl rfl (op_assign ha116 rfl rfl) ?_
      intro a117 ha117; clear ha116 a116
      refine wl_val ha117 rfl rfl rfl (op_assign ha117 rfl rfl) ?_
      intro a118 ha118; clear ha117 a117
      refine wpList_nil ?_
      refine then_n ?_
      refine wp_ret ?_
      refine ret2 ha118 rfl rfl rfl ?_
      clear ha118 a118
      refine ret_mk hx113 ⟨v97, (tup2_eq rfl (int_eq (by first | (simp [addC, c17, c21, c115]; done) | (simp [addC, c17, c21, c115]; omega) | (simp_all [addC]; done) | (simp_all [addC]; omega)))), ?_⟩
      ·refine (ho99.fin (by omega) (by omega) (by omega)).cast ?_
       first | (simp [addL, c17, c21, c115]; done) | (simp_all [addL]; done) | (simp_all [addL]; omega)
     ·
      rw [c115] at ha114
      refine cond_t ha114 rfl ?_
      refine wp_seq ?_
      refine wp_region_lit ?_
      refine wl_val ha114 rfl rfl rfl (op_assign ha114 rfl rfl) ?_
      intro a119 ha119; clear ha114 a114
      refine wl_val ha119 rfl rfl rfl (op_assign ha119 rfl rfl) ?_
      intro a120 ha120; clear ha119 a119
      refine wpList_nil ?_
      refine then_n ?_
      refine wp_ret ?_
      refine then_r ?_
      refine ret2 ha120 rfl rfl rfl ?_
      clear ha120 a120
      refine ret_mk hx113 ⟨.slice none 0 0, (tup2_eq rfl (int_eq (by first | (simp [addC, c17, c21, c115]; done) | (simp [addC, c17, c21, c115]; omega) | (simp_all [addC]; done) | (simp_all [addC]; omega)))), ?_⟩
      ·refine Own.nil_ _ _ _ _ _ _ ?_
       first | (simp [addL, c17, c21, c115]; done) | (simp_all [addL]; done) | (simp_all [addL]; omega)
   ·
    refine po_eff ha29 rfl rfl rfl rfl (op_buildSlice (s := shEnt) (xs := [e]) (cs := [.int .i64 e.1, .int .i64 e.2.1, St e.2.2.1, .int .i64 e.2.2.2]) (vs := [(0, .agg #[.int .i64 e.1, .int .i64 e.2.1, St e.2.2.1, .int .i64 e.2.2.2])]) (S := fun _ => False) (le := w24.heap.size) ha29 rfl pos_shEnt Try.underlying25 ti41 rfl rfl (by decide) (by kernel_rfl) (Els.single (mk_shEnt e (by first | assumption | omega | (simp; omega)) (by first | assumption | omega | (simp; omega)) (by first | assumption | omega | (simp; omega)) (by first | assumption | omega | (simp; omega)))) (fun _ h => h.elim)) ?_
    rintro v121 w122 ⟨ho123, he124, hob125⟩ a126 ha126; clear ha29 a29
    have hs127 := hs27.trans' he124
    have hx128 := hx26.trans' he124
    have hzhx128 := he124.size
    refine ⟨hs127, ?_⟩
    refine dr_one (i := 0) (by kernel_rfl) ?_
    refine po_eff ha126 rfl rfl rfl rfl (op_buildSlice (s := shEnt) (xs := ([] : List (Int × Int × Str × Int))) (cs := []) (vs := []) (S := fun _ => False) (le := w122.heap.size) ha126 rfl pos_shEnt Try.underlying25 ti41 rfl rfl (by decide) (by kernel_rfl) rfl (fun _ h => h.elim)) ?_
    rintro v129 w130 ⟨ho131, he132, hob133⟩ a134 ha134; clear ha126 a126
    have hs135 := hs127.trans' he132
    have hx136 := hx128.trans' he132
    have hzhx136 := he132.size
    replace ho123 := ho123.ext he132
    refine ⟨hs135, ?_⟩
    refine dr_one (i := 2) (by kernel_rfl) ?_
    refine po_eff ha134 rfl rfl rfl rfl (op_append (ts := #[]) (s := shEnt) ha134 rfl Try.underlying25 ti41 rfl pos_shEnt rfl rfl ho131 (h_list.ext pos_shEnt (hx26.trans' hs135)) (by omega) (by omega) (by first | omega | (simp; omega)) (by first | omega | (simp; omega)) (.inl flat_shEnt)) ?_
    rintro v137 w138 ⟨ho139, hst140, hob141⟩ a142 ha142; clear ha134 a134
    replace ho139 := ho139.cast (List.nil_append _)
    have hs143 := hs135.stp hst140 (by intro q hq; have hq0 := ho131.lt q hq; omega)
    have hx144 := hx136.stp hst140 (by intro q hq; have hq0 := ho131.lt q hq; omega)
    have hzhx144 := hst140.size
    replace ho123 := ho123.stp hst140 (by intro q hq; have hq0 := ho131.lt q hq; omega)
    have hsp145 : ∀ q, Value.ownBlock v137 = some q → q ≠ w0.heap.size := by intro q hq; have hq0 := hb4.lt; rcases hob141 with h | h; (rw [h] at hq; first | (have hq1 := ho131.lt q hq; omega)); (rw [h] at hq; cases hq; omega)
    have hsp146 : ∀ q, Value.ownBlock v137 = some q → Value.ownBlock v121 ≠ some q := by intro q hq hb; have hq0 := ho123.lt q hb; rcases hob141 with h | h; (rw [h] at hq; first | (have hq1 := ho131.lt q hq; omega)); (rw [h] at hq; cases hq; omega)
    refine ⟨hs143, ?_⟩
    refine dr_one (i := 5) (by kernel_rfl) ?_
    refine po_eff ha142 rfl rfl rfl rfl (op_append (ts := #[]) (s := shEnt) ha142 rfl Try.underlying25 ti41 rfl pos_shEnt rfl rfl ho139 (ho123.rds pos_shEnt) (by omega) (by omega) (by first | omega | (simp; omega)) (by first | omega | (simp; omega)) (.inl flat_shEnt)) ?_
    rintro v147 w148 ⟨ho149, hst150, hob151⟩ a152 ha152; clear ha142 a142
    have hs153 := hs143.stp hst150 (by intro q hq; have hq0 := ho139.lt q hq; omega)
    have hx154 := hx144.stp hst150 (by intro q hq; have hq0 := ho139.lt q hq; omega)
    have hzhx154 := hst150.size
    replace ho123 := ho123.stp hst150 (by intro q hq; have hq0 := ho139.lt q hq; omega)
    have hsp155 : ∀ q, Value.ownBlock v147 = some q → q ≠ w0.heap.size := by intro q hq; have hq0 := hb4.lt; rcases hob151 with h | h; (rw [h] at hq; first | (have hq1 := ho139.lt q hq; omega) | exact hsp145 q hq); (rw [h] at hq; cases hq; omega)
    have hsp156 : ∀ q, Value.ownBlock v147 = some q → Value.ownBlock v121 ≠ some q := by intro q hq hb; have hq0 := ho123.lt q hb; rcases hob151 with h | h; (rw [h] at hq; first | (have hq1 := ho139.lt q hq; omega) | exact hsp146 q hq hb); (rw [h] at hq; cases hq; omega)
    refine ⟨hs153, ?_⟩
    refine dr_val (i := 6) ha152 rfl (by kernel_rfl) (by kernel_rfl) (by kernel_rfl) rfl rfl rfl hs153 (fun w' hw' => op_assign ha152 rfl rfl) ?_
    intro a157 ha157; clear ha152 a152
    refine dr_end (by kernel_rfl) ?_
    replace hb4 := hb4.ext hs153
    refine then_n ?_
    refine wp_seq ?_
    refine wp_seq ?_
    refine wp_region_lit ?_
    refine wl_val ha157 rfl rfl rfl (op_move ha157 rfl rfl) ?_
    intro a158 ha158; clear ha157 a157
    refine wl_callR ha158 rfl rfl rfl (op_call ha158 rfl cb18 rfl) (c_impl_IsDayBook _ v147 ((list ++ [e])) (ho149.rds pos_shEnt) (by first | assumption | omega | exact dbB_ent (by assumption) | (simp; omega))) ?_
    rintro v159 w160 he161 rfl a162 ha162; clear ha158 a158
    have hx163 := hx154.trans' he161
    have hzhx163 := he161.size
    replace hb4 := hb4.ext he161
    replace ho123 := ho123.ext he161
    replace ho149 := ho149.ext he161
    refine wl_val ha162 rfl rfl rfl (op_not ha162 rfl rfl) ?_
    intro a164 ha164; clear ha162 a162
    refine wpList_nil ?_
    refine then_n ?_
    rcases Bool.eq_false_or_eq_true (dbB ((list ++ [e]))) with c165 | c165
    ·
     rw [c165] at ha164
     have hlenc165 := dbB_len c165
     have hentc165 := dbB_ent c165
     refine cond_f ha164 rfl ?_
     refine wp_skip ?_
     refine then_n ?_
     refine wp_seq ?_
     refine wp_region_lit ?_
     refine wl_val ha164 rfl rfl rfl (op_move ha164 rfl rfl) ?_
     intro a166 ha166; clear ha164 a164
     refine wl_val ha166 rfl rfl rfl (op_assign ha166 rfl rfl) ?_
     intro a167 ha167; clear ha166 a166
     refine wl_val ha167 rfl rfl rfl (op_assign ha167 rfl rfl) ?_
     intro a168 ha168; clear ha167 a167
     refine wpList_nil ?_
     refine then_n ?_
     refine wp_ret ?_
     refine ret2 ha168 rfl rfl rfl ?_
     clear ha168 a168
     refine ret_mk hx163 ⟨v147, (tup2_eq rfl (int_eq (by first | (simp [addC, c17, c21, c165]; done) | (simp [addC, c17, c21, c165]; omega) | (simp_all [addC]; done) | (simp_all [addC]; omega)))), ?_⟩
     ·refine (ho149.fin (by omega) (by omega) (by omega)).cast ?_
      first | (simp [addL, c17, c21, c165]; done) | (simp_all [addL]; done) | (simp_all [addL]; omega)
    ·
     rw [c165] at ha164
     refine cond_t ha164 rfl ?_
     refine wp_seq ?_
     refine wp_region_lit ?_
     refine wl_val ha164 rfl rfl rfl (op_assign ha164 rfl rfl) ?_
     intro a169 ha169; clear ha164 a164
     refine wl_val ha169 rfl rfl rfl (op_assign ha169 rfl rfl) ?_
     intro a170 ha170; clear ha169 a169
     refine wpList_nil ?_
     refine then_n ?_
     refine wp_ret ?_
     refine then_r ?_
     refine ret2 ha170 rfl rfl rfl ?_
     clear ha170 a170
     refine ret_mk hx163 ⟨.slice none 0 0, (tup2_eq rfl (int_eq (by first | (simp [addC, c17, c21, c165]; done) | (simp [addC, c17, c21, c165]; omega) | (simp_all [addC]; done) | (simp_all [addC]; omega)))), ?_⟩
     ·refine Own.nil_ _ _ _ _ _ _ ?_
      first | (simp [addL, c17, c21, c165]; done) | (simp_all [addL]; done) | (simp_all [addL]; omega)
 ·
  rw [c17] at ha16
  refine cond_t ha16 rfl ?_
  refine wp_seq ?_
  refine wp_region_lit ?_
  refine wl_val ha16 rfl rfl rfl (op_assign ha16 rfl rfl) ?_
  intro a171 ha171; clear ha16 a16
  refine wl_val ha171 rfl rfl rfl (op_assign ha171 rfl rfl) ?_
  intro a172 ha172; clear ha171 a171
  refine wpList_nil ?_
  refine then_n ?_
  refine wp_ret ?_
  refine then_r ?_
  refine ret2 ha172 rfl rfl rfl ?_
  clear ha172 a172
  refine ret_mk hx15 ⟨.slice none 0 0, (tup2_eq rfl (int_eq (by first | (simp [addC, c17]; done) | (simp [addC, c17]; omega) | (simp_all [addC]; done) | (simp_all [addC]; omega)))), ?_⟩
  ·refine Own.nil_ _ _ _ _ _ _ ?_
   first | (simp [addL, c17]; done) | (simp_all [addL]; done) | (simp_all [addL]; omega)

theorem c_spec_AddEntry (w0 : World) (v_list : Value) (list : List (Int × Int × Str × Int)) {S_list : Nat → Prop} (e : Int × Int × Str × Int) (h_list : Rds shEnt S_list w0 v_list list) (g0 : list.length ≤ 1048576) (g1 : I64 e.1) (g2 : I64 e.2.1) (g3 : e.2.2.1.length ≤ 9223372036854775807) (g4 : I64 e.2.2.2) :
  Calls Try.prog 29 #[v_list, .agg #[.int .i64 e.1, .int .i64 e.2.1, St e.2.2.1, .int .i64 e.2.2.2]] w0 (Ret w0 (fun v w1 => ∃ r0, v = .tuple #[r0, .int .i64 (addC list e)] ∧ Own shEnt 41 w0.heap.size w0.heap.size w1.heap.size w1 r0 (addL list e))) := by
 refine enter (N := 23) Try.func29 rfl rfl rfl ?_
 intro a0 ha0
 have hx0 := Ext.rfl' w0
 have hl_list := h_list.length_le
 refine wp_seq ?_
 refine wp_region_lit ?_
 refine wl_eff ha0 rfl rfl rfl (op_box' ha0 rfl rfl rfl) ?_
 rintro _ w2 ⟨rfl, he3, hb4, hz5⟩ a6 ha6; clear ha0 a0
 have hx7 := hx0.trans' he3
 have hzhx7 := he3.size
 refine wl_val ha6 rfl rfl rfl (op_assign ha6 rfl rfl) ?_
 intro a8 ha8; clear ha6 a6
 refine wl_val ha8 rfl rfl rfl (op_assign ha8 rfl rfl) ?_
 intro a9 ha9; clear ha8 a8
 refine wpList_nil ?_
 refine then_n ?_
 refine wp_seq ?_
 refine wp_seq ?_
 refine wp_region_lit ?_
 refine wl_val ha9 rfl rfl rfl (op_move ha9 rfl rfl) ?_
 intro a10 ha10; clear ha9 a9
 refine wl_callR ha10 rfl rfl rfl (op_call ha10 rfl cb16 rfl) (c_spec_IsDayBook _ v_list list (h_list.ext pos_shEnt hx7) (by first | assumption | omega | exact dbB_ent (by assumption) | (simp; omega))) ?_
 rintro v11 w12 he13 rfl a14 ha14; clear ha10 a10
 have hx15 := hx7.trans' he13
 have hzhx15 := he13.size
 replace hb4 := hb4.ext he13
 refine wl_val ha14 rfl rfl rfl (op_not ha14 rfl rfl) ?_
 intro a16 ha16; clear ha14 a14
 refine wpList_nil ?_
 refine then_n ?_
 rcases Bool.eq_false_or_eq_true (dbB list) with c17 | c17
 ·
  rw [c17] at ha16
  have hlenc17 := dbB_len c17
  have hentc17 := dbB_ent c17
  refine cond_f ha16 rfl ?_
  refine wp_skip ?_
  refine then_n ?_
  refine wp_seq ?_
  refine wp_seq ?_
  refine wp_region_lit ?_
  refine wl_val ha16 rfl rfl rfl (op_move ha16 rfl rfl) ?_
  intro a18 ha18; clear ha16 a16
  refine wl_val ha18 rfl rfl rfl (op_len_sl ha18 rfl Try.underlying25 rfl h_list) ?_
  intro a19 ha19; clear ha18 a18
  refine wl_val ha19 rfl rfl rfl (op_eql ha19 rfl rfl rfl) ?_
  intro a20 ha20; clear ha19 a19
  refine wpList_nil ?_
  refine then_n ?_
  by_cases c21 : ((list.length : Nat) : Int) = (60 : Int)
  ·
   rw [decide_eq_true c21] at ha20
   refine cond_t ha20 rfl ?_
   refine wp_seq ?_
   refine wp_region_lit ?_
   refine wl_val ha20 rfl rfl rfl (op_assign ha20 rfl rfl) ?_
   intro a22 ha22; clear ha20 a20
   refine wl_val ha22 rfl rfl rfl (op_assign ha22 rfl rfl) ?_
   intro a23 ha23; clear ha22 a22
   refine wpList_nil ?_
   refine then_n ?_
   refine wp_ret ?_
   refine then_r ?_
   refine ret2 ha23 rfl rfl rfl ?_
   clear ha23 a23
   refine ret_mk hx15 ⟨.slice none 0 0, (tup2_eq rfl (int_eq (by first | (simp [addC, c17, c21]; done) | (simp [addC, c17, c21]; omega) | (simp_all [addC]; done) | (simp_all [addC]; omega)))), ?_⟩
   ·refine Own.nil_ _ _ _ _ _ _ ?_
    first | (simp [addL, c17, c21]; done) | (simp_all [addL]; done) | (simp_all [addL]; omega)
  ·
   rw [decide_eq_false c21] at ha20
   refine cond_f ha20 rfl ?_
   refine wp_skip ?_
   refine then_n ?_
   refine wp_seq ?_
   refine dr_enter Ext follows_mixed ?_
   intro w24 he25
   have hx26 := hx15.trans' he25
   have hzhx26 := he25.size
   replace hb4 := hb4.ext he25
   have hs27 : Ext w24 w24 := Ext.rfl' _
   refine dr_val (i := 1) ha20 rfl (by kernel_rfl) (by kernel_rfl) (by kernel_rfl) rfl rfl rfl hs27 (fun w' hw' => op_move ha20 rfl rfl) ?_
   intro a28 ha28; clear ha20 a20
   refine dr_val (i := 3) ha28 rfl (by kernel_rfl) (by kernel_rfl) (by kernel_rfl) rfl rfl rfl hs27 (fun w' hw' => op_loadS ha28 rfl Try.underlying41 ti41 rfl rfl (hb4.ext hw').cells) ?_
   intro a29 ha29; clear ha28 a28
   refine dr_two (i := 0) (j := 4) (by kernel_rfl) ?_ ?_
   ·
    refine po_eff ha29 rfl rfl rfl rfl (op_buildSlice (s := shEnt) (xs := ([] : List (Int × Int × Str × Int))) (cs := []) (vs := []) (S := fun _ => False) (le := w24.heap.size) ha29 rfl pos_shEnt Try.underlying25 ti41 rfl rfl (by decide) (by kernel_rfl) rfl (fun _ h => h.elim)) ?_
    rintro v30 w31 ⟨ho32, he33, hob34⟩ a35 ha35; clear ha29 a29
    have hs36 := hs27.trans' he33
    have hx37 := hx26.trans' he33
    have hzhx37 := he33.size
    refine ⟨hs36, ?_⟩
    refine dr_two (i := 2) (j := 4) (by kernel_rfl) ?_ ?_
    ·
     refine po_eff ha35 rfl rfl rfl rfl (op_append (ts := #[]) (s := shEnt) ha35 rfl Try.underlying25 ti41 rfl pos_shEnt rfl rfl ho32 (h_list.ext pos_shEnt (hx26.trans' hs36)) (by omega) (by omega) (by first | omega | (simp; omega)) (by first | omega | (simp; omega)) (.inl flat_shEnt)) ?_
     rintro v38 w39 ⟨ho40, hst41, hob42⟩ a43 ha43; clear ha35 a35
     replace ho40 := ho40.cast (List.nil_append _)
     have hs44 := hs36.stp hst41 (by intro q hq; have hq0 := ho32.lt q hq; omega)
     have hx45 := hx37.stp hst41 (by intro q hq; have hq0 := ho32.lt q hq; omega)
     have hzhx45 := hst41.size
     have hsp46 : ∀ q, Value.ownBlock v38 = some q → q ≠ w0.heap.size := by intro q hq; have hq0 := hb4.lt; rcases hob42 with h | h; (rw [h] at hq; first | (have hq1 := ho32.lt q hq; omega)); (rw [h] at hq; cases hq; omega)
     refine ⟨hs44, ?_⟩
     refine dr_one (i := 4) (by kernel_rfl) ?_
     refine po_eff ha43 rfl rfl rfl rfl (op_buildSlice (s := shEnt) (xs := [e]) (cs := [.int .i64 e.1, .int .i64 e.2.1, St e.2.2.1, .int .i64 e.2.2.2]) (vs := [(0, .agg #[.int .i64 e.1, .int .i64 e.2.1, St e.2.2.1, .int .i64 e.2.2.2])]) (S := fun _ => False) (le := w39.heap.size) ha43 rfl pos_shEnt Try.underlying25 ti41 rfl rfl (by decide) (by kernel_rfl) (Els.single (mk_shEnt e (by first | assumption | omega | (simp; omega)) (by first | assumption | omega | (simp; omega)) (by first | assumption | omega | (simp; omega)) (by first | assumption | omega | (simp; omega)))) (fun _ h => h.elim)) ?_
     rintro v47 w48 ⟨ho49, he50, hob51⟩ a52 ha52; clear ha43 a43
     have hs53 := hs44.trans' he50
     have hx54 := hx45.trans' he50
     have hzhx54 := he50.size
     replace ho40 := ho40.ext he50
     refine ⟨hs53, ?_⟩
     refine dr_one (i := 5) (by kernel_rfl) ?_
     refine po_eff ha52 rfl rfl rfl rfl (op_append (ts := #[]) (s := shEnt) ha52 rfl Try.underlying25 ti41 rfl pos_shEnt rfl rfl ho40 (ho49.rds pos_shEnt) (by omega) (by omega) (by first | omega | (simp; omega)) (by first | omega | (simp; omega)) (.inl flat_shEnt)) ?_
     rintro v55 w56 ⟨ho57, hst58, hob59⟩ a60 ha60; clear ha52 a52
     have hs61 := hs53.stp hst58 (by intro q hq; have hq0 := ho40.lt q hq; omega)
     have hx62 := hx54.stp hst58 (by intro q hq; have hq0 := ho40.lt q hq; omega)
     have hzhx62 := hst58.size
     replace ho49 := ho49.stp hst58 (by intro q hq; have hq0 := ho40.lt q hq; omega)
     have hsp63 : ∀ q, Value.ownBlock v55 = some q → q ≠ w0.heap.size := by intro q hq; have hq0 := hb4.lt; rcases hob59 with h | h; (rw [h] at hq; first | (have hq1 := ho40.lt q hq; omega) | exact hsp46 q hq); (rw [h] at hq; cases hq; omega)
     have hsp64 : ∀ q, Value.ownBlock v55 = some q → Value.ownBlock v47 ≠ some q := by intro q hq hb; have hq0 := ho49.lt q hb; rcases hob59 with h | h; (rw [h] at hq; first | (have hq1 := ho40.lt q hq; omega)); (rw [h] at hq; cases hq; omega)
     refine ⟨hs61, ?_⟩
     refine dr_val (i := 6) ha60 rfl (by kernel_rfl) (by kernel_rfl) (by kernel_rfl) rfl rfl rfl hs61 (fun w' hw' => op_assign ha60 rfl rfl) ?_
     intro a65 ha65; clear ha60 a60
     refine dr_end (by kernel_rfl) ?_
     replace hb4 := hb4.ext hs61
     refine then_n ?_
     refine wp_seq ?_
     refine wp_seq ?_
     refine wp_region_lit ?_
     refine wl_val ha65 rfl rfl rfl (op_move ha65 rfl rfl) ?_
     intro a66 ha66; clear ha65 a65
     refine wl_callR ha66 rfl rfl rfl (op_call ha66 rfl cb16 rfl) (c_spec_IsDayBook _ v55 ((list ++ [e])) (ho57.rds pos_shEnt) (by first | assumption | omega | exact dbB_ent (by assumption) | (simp; omega))) ?_
     rintro v67 w68 he69 rfl a70 ha70; clear ha66 a66
     have hx71 := hx62.trans' he69
     have hzhx71 := he69.size
     replace hb4 := hb4.ext he69
     replace ho49 := ho49.ext he69
     replace ho57 := ho57.ext he69
     refine wl_val ha70 rfl rfl rfl (op_not ha70 rfl rfl) ?_
     intro a72 ha72; clear ha70 a70
     refine wpList_nil ?_
     refine then_n ?_
     rcases Bool.eq_false_or_eq_true (dbB ((list ++ [e]))) with c73 | c73
     ·
      rw [c73] at ha72
      have hlenc73 := dbB_len c73
      have hentc73 := dbB_ent c73
      refine cond_f ha72 rfl ?_
      refine wp_skip ?_
      refine then_n ?_
      refine wp_seq ?_
      refine wp_region_lit ?_
      refine wl_val ha72 rfl rfl rfl (op_move ha72 rfl rfl) ?_
      intro a74 ha74; clear ha72 a72
      refine wl_val ha74 rfl rfl rfl (op_assign ha74 rfl rfl) ?_
      intro a75 ha75; clear ha74 a74
      refine wl_val ha75 rfl rfl rfl (op_assign ha75 rfl rfl) ?_
      intro a76 ha76; clear ha75 a75
      refine wpList_nil ?_
      refine then_n ?_
      refine wp_ret ?_
      refine ret2 ha76 rfl rfl rfl ?_
      clear ha76 a76
      refine ret_mk hx71 ⟨v55, (tup2_eq rfl (int_eq (by first | (simp [addC, c17, c21, c73]; done) | (simp [addC, c17, c21, c73]; omega) | (simp_all [addC]; done) | (simp_all [addC]; omega)))), ?_⟩
      ·refine (ho57.fin (by omega) (by omega) (by omega)).cast ?_
       first | (simp [addL, c17, c21, c73]; done) | (simp_all [addL]; done) | (simp_all [addL]; omega)
     ·
      rw [c73] at ha72
      refine cond_t ha72 rfl ?_
      refine wp_seq ?_
      refine wp_region_lit ?_
      refine wl_val ha72 rfl rfl rfl (op_assign ha72 rfl rfl) ?_
      intro a77 ha77; clear ha72 a72
      refine wl_val ha77 rfl rfl rfl (op_assign ha77 rfl rfl) ?_
      intro a78 ha78; clear ha77 a77
      refine wpList_nil ?_
      refine then_n ?_
      refine wp_ret ?_
      refine then_r ?_
      refine ret2 ha78 rfl rfl rfl ?_
      clear ha78 a78
      refine ret_mk hx71 ⟨.slice none 0 0, (tup2_eq rfl (int_eq (by first | (simp [addC, c17, c21, c73]; done) | (simp [addC, c17, c21, c73]; omega) | (simp_all [addC]; done) | (simp_all [addC]; omega)))), ?_⟩
      ·refine Own.nil_ _ _ _ _ _ _ ?_
       first | (simp [addL, c17, c21, c73]; done) | (simp_all [addL]; done) | (simp_all [addL]; omega)
    ·
     refine po_eff ha35 rfl rfl rfl rfl (op_buildSlice (s := shEnt) (xs := [e]) (cs := [.int .i64 e.1, .int .i64 e.2.1, St e.2.2.1, .int .i64 e.2.2.2]) (vs := [(0, .agg #[.int .i64 e.1, .int .i64 e.2.1, St e.2.2.1, .int .i64 e.2.2.2])]) (S := fun _ => False) (le := w31.heap.size) ha35 rfl pos_shEnt Try.underlying25 ti41 rfl rfl (by decide) (by kernel_rfl) (Els.single (mk_shEnt e (by first | assumption | omega | (simp; omega)) (by first | assumption | omega | (simp; omega)) (by first | assumption | omega | (simp; omega)) (by first | assumption | omega | (simp; omega)))) (fun _ h => h.elim)) ?_
     rintro v79 w80 ⟨ho81, he82, hob83⟩ a84 ha84; clear ha35 a35
     have hs85 := hs36.trans' he82
     have hx86 := hx37.trans' he82
     have hzhx86 := he82.size
     replace ho32 := ho32.ext he82
     refine ⟨hs85, ?_⟩
     refine dr_one (i := 2) (by kernel_rfl) ?_
     refine po_eff ha84 rfl rfl rfl rfl (op_append (ts := #[]) (s := shEnt) ha84 rfl Try.underlying25 ti41 rfl pos_shEnt rfl rfl ho32 (h_list.ext pos_shEnt (hx26.trans' hs85)) (by omega) (by omega) (by first | omega | (simp; omega)) (by first | omega | (simp; omega)) (.inl flat_shEnt)) ?_
     rintro v87 w88 ⟨ho89, hst90, hob91⟩ a92 ha92; clear ha84 a84
     replace ho89 := ho89.cast (List.nil_append _)
     have hs93 := hs85.stp hst90 (by intro q hq; have hq0 := ho32.lt q hq; omega)
     have hx94 := hx86.stp hst90 (by intro q hq; have hq0 := ho32.lt q hq; omega)
     have hzhx94 := hst90.size
     replace ho81 := ho81.stp hst90 (by intro q hq; have hq0 := ho32.lt q hq; omega)
     have hsp95 : ∀ q, Value.ownBlock v87 = some q → q ≠ w0.heap.size := by intro q hq; have hq0 := hb4.lt; rcases hob91 with h | h; (rw [h] at hq; first | (have hq1 := ho32.lt q hq; omega)); (rw [h] at hq; cases hq; omega)
     have hsp96 : ∀ q, Value.ownBlock v87 = some q → Value.ownBlock v79 ≠ some q := by intro q hq hb; have hq0 := ho81.lt q hb; rcases hob91 with h | h; (rw [h] at hq; first | (have hq1 := ho32.lt q hq; omega)); (rw [h] at hq; cases hq; omega)
     refine ⟨hs93, ?_⟩
     refine dr_one (i := 5) (by kernel_rfl) ?_
     refine po_eff ha92 rfl rfl rfl rfl (op_append (ts := #[]) (s := shEnt) ha92 rfl Try.underlying25 ti41 rfl pos_shEnt rfl rfl ho89 (ho81.rds pos_shEnt) (by omega) (by omega) (by first | omega | (simp; omega)) (by first | omega | (simp; omega)) (.inl flat_shEnt)) ?_
     rintro v97 w98 ⟨ho99, hst100, hob101⟩ a102 ha102; clear ha92 a92
     have hs103 := hs93.stp hst100 (by intro q hq; have hq0 := ho89.lt q hq; omega)
     have hx104 := hx94.stp hst100 (by intro q hq; have hq0 := ho89.lt q hq; omega)
     have hzhx104 := hst100.size
     first | replace ho81 := ho81.stp hst100 (by intro q hq; have hq0 := ho89.lt q hq; omega) | replace ho81 := ho81.stpF flat_shEnt hst100 (fun q hq => hsp96 q hq)
     have hsp105 : ∀ q, Value.ownBlock v97 = some q → q ≠ w0.heap.size := by intro q hq; have hq0 := hb4.lt; rcases hob101 with h | h; (rw [h] at hq; first | (have hq1 := ho89.lt q hq; omega) | exact hsp95 q hq); (rw [h] at hq; cases hq; omega)
     have hsp106 : ∀ q, Value.ownBlock v97 = some q → Value.ownBlock v79 ≠ some q := by intro q hq hb; have hq0 := ho81.lt q hb; rcases hob101 with h | h; (rw [h] at hq; first | (have hq1 := ho89.lt q hq; omega) | exact hsp96 q hq hb); (rw [h] at hq; cases hq; omega)
     refine ⟨hs103, ?_⟩
     refine dr_val (i := 6) ha102 rfl (by kernel_rfl) (by kernel_rfl) (by kernel_rfl) rfl rfl rfl hs103 (fun w' hw' => op_assign ha102 rfl rfl) ?_
     intro a107 ha107; clear ha102 a102
     refine dr_end (by kernel_rfl) ?_
     replace hb4 := hb4.ext hs103
     refine then_n ?_
     refine wp_seq ?_
     refine wp_seq ?_
     refine wp_region_lit ?_
     refine wl_val ha107 rfl rfl rfl (op_move ha107 rfl rfl) ?_
     intro a108 ha108; clear ha107 a107
     refine wl_callR ha108 rfl rfl rfl (op_call ha108 rfl cb16 rfl) (c_spec_IsDayBook _ v97 ((list ++ [e])) (ho99.rds pos_shEnt) (by first | assumption | omega | exact dbB_ent (by assumption) | (simp; omega))) ?_
     rintro v109 w110 he111 rfl a112 ha112; clear ha108 a108
     have hx113 := hx104.trans' he111
     have hzhx113 := he111.size
     replace hb4 := hb4.ext he111
     replace ho81 := ho81.ext he111
     replace ho99 := ho99.ext he111
     refine wl_val ha112 rfl rfl rfl (op_not ha112 rfl rfl) ?_
     intro a114 ha114; clear ha112 a112
     refine wpList_nil ?_
     refine then_n ?_
     rcases Bool.eq_false_or_eq_true (dbB ((list ++ [e]))) with c115 | c115
     ·
      rw [c115] at ha114
      have hlenc115 := dbB_len c115
      have hentc115 := dbB_ent c115
      refine cond_f ha114 rfl ?_
      refine wp_skip ?_
      refine then_n ?_
      refine wp_seq ?_
      refine wp_region_lit ?_
      refine wl_val ha114 rfl rfl rfl (op_move ha114 rfl rfl) ?_
      intro a116 ha116; clear ha114 a114
      refine wl_val ha116 rfl rfl rfl (op_assign ha116 rfl rfl) ?_
      intro a117 ha117; clear ha116 a116
      refine wl_val ha117 rfl rfl rfl (op_assign ha117 rfl rfl) ?_
      intro a118 ha118; clear ha117 a117
      refine wpList_nil ?_
      refine then_n ?_
      refine wp_ret ?_
      refine ret2 ha118 rfl rfl rfl ?_
      clear ha118 a118
      refine ret_mk hx113 ⟨v97, (tup2_eq rfl (int_eq (by first | (simp [addC, c17, c21, c115]; done) | (simp [addC, c17, c21, c115]; omega) | (simp_all [addC]; done) | (simp_all [addC]; omega)))), ?_⟩
      ·refine (ho99.fin (by omega) (by omega) (by omega)).cast ?_
       first | (simp [addL, c17, c21, c115]; done) | (simp_all [addL]; done) | (simp_all [addL]; omega)
     ·
      rw [c115] at ha114
      refine cond_t ha114 rfl ?_
      refine wp_seq ?_
      refine wp_region_lit ?_
      refine wl_val ha114 rfl rfl rfl (op_assign ha114 rfl rfl) ?_
      intro a119 ha119; clear ha114 a114
      refine wl_val ha119 rfl rfl rfl (op_assign ha119 rfl rfl) ?_
      intro a120 ha120; clear ha119 a119
      refine wpList_nil ?_
      refine then_n ?_
      refine wp_ret ?_
      refine then_r ?_
      refine ret2 ha120 rfl rfl rfl ?_
      clear ha120 a120
      refine ret_mk hx113 ⟨.slice none 0 0, (tup2_eq rfl (int_eq (by first | (simp [addC, c17, c21, c115]; done) | (simp [addC, c17, c21, c115]; omega) | (simp_all [addC]; done) | (simp_all [addC]; omega)))), ?_⟩
      ·refine Own.nil_ _ _ _ _ _ _ ?_
       first | (simp [addL, c17, c21, c115]; done) | (simp_all [addL]; done) | (simp_all [addL]; omega)
   ·
    refine po_eff ha29 rfl rfl rfl rfl (op_buildSlice (s := shEnt) (xs := [e]) (cs := [.int .i64 e.1, .int .i64 e.2.1, St e.2.2.1, .int .i64 e.2.2.2]) (vs := [(0, .agg #[.int .i64 e.1, .int .i64 e.2.1, St e.2.2.1, .int .i64 e.2.2.2])]) (S := fun _ => False) (le := w24.heap.size) ha29 rfl pos_shEnt Try.underlying25 ti41 rfl rfl (by decide) (by kernel_rfl) (Els.single (mk_shEnt e (by first | assumption | omega | (simp; omega)) (by first | assumption | omega | (simp; omega)) (by first | assumption | omega | (simp; omega)) (by first | assumption | omega | (simp; omega)))) (fun _ h => h.elim)) ?_
    rintro v121 w122 ⟨ho123, he124, hob125⟩ a126 ha126; clear ha29 a29
    have hs127 := hs27.trans' he124
    have hx128 := hx26.trans' he124
    have hzhx128 := he124.size
    refine ⟨hs127, ?_⟩
    refine dr_one (i := 0) (by kernel_rfl) ?_
    refine po_eff ha126 rfl rfl rfl rfl (op_buildSlice (s := shEnt) (xs := ([] : List (Int × Int × Str × Int))) (cs := []) (vs := []) (S := fun _ => False) (le := w122.heap.size) ha126 rfl pos_shEnt Try.underlying25 ti41 rfl rfl (by decide) (by kernel_rfl) rfl (fun _ h => h.elim)) ?_
    rintro v129 w130 ⟨ho131, he132, hob133⟩ a134 ha134; clear ha126 a126
    have hs135 := hs127.trans' he132
    have hx136 := hx128.trans' he132
    have hzhx136 := he132.size
    replace ho123 := ho123.ext he132
    refine ⟨hs135, ?_⟩
    refine dr_one (i := 2) (by kernel_rfl) ?_
    refine po_eff ha134 rfl rfl rfl rfl (op_append (ts := #[]) (s := shEnt) ha134 rfl Try.underlying25 ti41 rfl pos_shEnt rfl rfl ho131 (h_list.ext pos_shEnt (hx26.trans' hs135)) (by omega) (by omega) (by first | omega | (simp; omega)) (by first | omega | (simp; omega)) (.inl flat_shEnt)) ?_
    rintro v137 w138 ⟨ho139, hst140, hob141⟩ a142 ha142; clear ha134 a134
    replace ho139 := ho139.cast (List.nil_append _)
    have hs143 := hs135.stp hst140 (by intro q hq; have hq0 := ho131.lt q hq; omega)
    have hx144 := hx136.stp hst140 (by intro q hq; have hq0 := ho131.lt q hq; omega)
    have hzhx144 := hst140.size
    replace ho123 := ho123.stp hst140 (by intro q hq; have hq0 := ho131.lt q hq; omega)
    have hsp145 : ∀ q, Value.ownBlock v137 = some q → q ≠ w0.heap.size := by intro q hq; have hq0 := hb4.lt; rcases hob141 with h | h; (rw [h] at hq; first | (have hq1 := ho131.lt q hq; omega)); (rw [h] at hq; cases hq; omega)
    have hsp146 : ∀ q, Value.ownBlock v137 = some q → Value.ownBlock v121 ≠ some q := by intro q hq hb; have hq0 := ho123.lt q hb; rcases hob141 with h | h; (rw [h] at hq; first | (have hq1 := ho131.lt q hq; omega)); (rw [h] at hq; cases hq; omega)
    refine ⟨hs143, ?_⟩
    refine dr_one (i := 5) (by kernel_rfl) ?_
    refine po_eff ha142 rfl rfl rfl rfl (op_append (ts := #[]) (s := shEnt) ha142 rfl Try.underlying25 ti41 rfl pos_shEnt rfl rfl ho139 (ho123.rds pos_shEnt) (by omega) (by omega) (by first | omega | (simp; omega)) (by first | omega | (simp; omega)) (.inl flat_shEnt)) ?_
    rintro v147 w148 ⟨ho149, hst150, hob151⟩ a152 ha152; clear ha142 a142
    have hs153 := hs143.stp hst150 (by intro q hq; have hq0 := ho139.lt q hq; omega)
    have hx154 := hx144.stp hst150 (by intro q hq; have hq0 := ho139.lt q hq; omega)
    have hzhx154 := hst150.size
    replace ho123 := ho123.stp hst150 (by intro q hq; have hq0 := ho139.lt q hq; omega)
    have hsp155 : ∀ q, Value.ownBlock v147 = some q → q ≠ w0.heap.size := by intro q hq; have hq0 := hb4.lt; rcases hob151 with h | h; (rw [h] at hq; first | (have hq1 := ho139.lt q hq; omega) | exact hsp145 q hq); (rw [h] at hq; cases hq; omega)
    have hsp156 : ∀ q, Value.ownBlock v147 = some q → Value.ownBlock v121 ≠ some q := by intro q hq hb; have hq0 := ho123.lt q hb; rcases hob151 with h | h; (rw [h] at hq; first | (have hq1 := ho139.lt q hq; omega) | exact hsp146 q hq hb); (rw [h] at hq; cases hq; omega)
    refine ⟨hs153, ?_⟩
    refine dr_val (i := 6) ha152 rfl (by kernel_rfl) (by kernel_rfl) (by kernel_rfl) rfl rfl rfl hs153 (fun w' hw' => op_assign ha152 rfl rfl) ?_
    intro a157 ha157; clear ha152 a152
    refine dr_end (by kernel_rfl) ?_
    replace hb4 := hb4.ext hs153
    refine then_n ?_
    refine wp_seq ?_
    refine wp_seq ?_
    refine wp_region_lit ?_
    refine wl_val ha157 rfl rfl rfl (op_move ha157 rfl rfl) ?_
    intro a158 ha158; clear ha157 a157
    refine wl_callR ha158 rfl rfl rfl (op_call ha158 rfl cb16 rfl) (c_spec_IsDayBook _ v147 ((list ++ [e])) (ho149.rds pos_shEnt) (by first | assumption | omega | exact dbB_ent (by assumption) | (simp; omega))) ?_
    rintro v159 w160 he161 rfl a162 ha162; clear ha158 a158
    have hx163 := hx154.trans' he161
    have hzhx163 := he161.size
    replace hb4 := hb4.ext he161
    replace ho123 := ho123.ext he161
    replace ho149 := ho149.ext he161
    refine wl_val ha162 rfl rfl rfl (op_not ha162 rfl rfl) ?_
    intro a164 ha164; clear ha162 a162
    refine wpList_nil ?_
    refine then_n ?_
    rcases Bool.eq_false_or_eq_true (dbB ((list ++ [e]))) with c165 | c165
    ·
     rw [c165] at ha164
     have hlenc165 := dbB_len c165
     have hentc165 := dbB_ent c165
     refine cond_f ha164 rfl ?_
     refine wp_skip ?_
     refine then_n ?_
     refine wp_seq ?_
     refine wp_region_lit ?_
     refine wl_val ha164 rfl rfl rfl (op_move ha164 rfl rfl) ?_
     intro a166 ha166; clear ha164 a164
     refine wl_val ha166 rfl rfl rfl (op_assign ha166 rfl rfl) ?_
     intro a167 ha167; clear ha166 a166
     refine wl_val ha167 rfl rfl rfl (op_assign ha167 rfl rfl) ?_
     intro a168 ha168; clear ha167 a167
     refine wpList_nil ?_
     refine then_n ?_
     refine wp_ret ?_
     refine ret2 ha168 rfl rfl rfl ?_
     clear ha168 a168
     refine ret_mk hx163 ⟨v147, (tup2_eq rfl (int_eq (by first | (simp [addC, c17, c21, c165]; done) | (simp [addC, c17, c21, c165]; omega) | (simp_all [addC]; done) | (simp_all [addC]; omega)))), ?_⟩
     ·refine (ho149.fin (by omega) (by omega) (by omega)).cast ?_
      first | (simp [addL, c17, c21, c165]; done) | (simp_all [addL]; done) | (simp_all [addL]; omega)
    ·
     rw [c165] at ha164
     refine cond_t ha164 rfl ?_
     refine wp_seq ?_
     refine wp_region_lit ?_
     refine wl_val ha164 rfl rfl rfl (op_assign ha164 rfl rfl) ?_
     intro a169 ha169; clear ha164 a164
     refine wl_val ha169 rfl rfl rfl (op_assign ha169 rfl rfl) ?_
     intro a170 ha170; clear ha169 a169
     refine wpList_nil ?_
     refine then_n ?_
     refine wp_ret ?_
     refine then_r ?_
     refine ret2 ha170 rfl rfl rfl ?_
     clear ha170 a170
     refine ret_mk hx163 ⟨.slice none 0 0, (tup2_eq rfl (int_eq (by first | (simp [addC, c17, c21, c165]; done) | (simp [addC, c17, c21, c165]; omega) | (simp_all [addC]; done) | (simp_all [addC]; omega)))), ?_⟩
     ·refine Own.nil_ _ _ _ _ _ _ ?_
      first | (simp [addL, c17, c21, c165]; done) | (simp_all [addL]; done) | (simp_all [addL]; omega)
 ·
  rw [c17] at ha16
  refine cond_t ha16 rfl ?_
  refine wp_seq ?_
  refine wp_region_lit ?_
  refine wl_val ha16 rfl rfl rfl (op_assign ha16 rfl rfl) ?_
  intro a171 ha171; clear ha16 a16
  refine wl_val ha171 rfl rfl rfl (op_assign ha171 rfl rfl) ?_
  intro a172 ha172; clear ha171 a171
  refine wpList_nil ?_
  refine then_n ?_
  refine wp_ret ?_
  refine then_r ?_
  refine ret2 ha172 rfl rfl rfl ?_
  clear ha172 a172
  refine ret_mk hx15 ⟨.slice none 0 0, (tup2_eq rfl (int_eq (by first | (simp [addC, c17]; done) | (simp [addC, c17]; omega) | (simp_all [addC]; done) | (simp_all [addC]; omega)))), ?_⟩
  ·refine Own.nil_ _ _ _ _ _ _ ?_
   first | (simp [addL, c17]; done) | (simp_all [addL]; done) | (simp_all [addL]; omega)


end Go.Proofs.Ytocedhbefdaefaa
