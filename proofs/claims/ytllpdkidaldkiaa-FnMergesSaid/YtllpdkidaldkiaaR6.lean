/- Versions to be merged drawn. -/
import Derived.Test.YtllpdkidaldkiaaR5
namespace Go.Proofs.Ytllpdkidaldkiaa
open Go Go.RowKit

set_option maxHeartbeats 4000000 in
theorem c_spec_DrawMergeVersions (w0 : World) (v_code : Value) (code : List UInt8) {S_code : Nat → Prop} (h_code : Rds shU8 S_code w0 v_code code) :
  Calls Try.prog 42 #[v_code] w0 (Ret w0 (fun v w1 => ∃ (l : List Ver) (a : Int) (b : Int), (l.length ≤ 22) ∧ (∀ c ∈ l, c.2.length ≤ 9) ∧ (I64 a) ∧ (I64 b) ∧ (fun v w1 => ∃ r0 z0, v = .tuple #[r0, .int .i64 (a), .int .i64 (b)] ∧ Own shVerN 56 w0.heap.size w0.heap.size w1.heap.size w1 r0 z0 ∧ Nst shLine 83 (fun x : Int × List (Str × Int) => x.2) w0.heap.size w1.heap.size w1 z0 ∧ z0.map (·.1) = (l)) v w1)) := by
 refine enter (N := 47) Try.func42 rfl rfl rfl ?_
 intro a0 ha0
 have hx0 := Ext.rfl' w0
 have hl_code := h_code.length_le
 refine wp_seq ?_
 refine wp_region_lit ?_
 refine wl_val ha0 rfl rfl rfl (op_assign ha0 rfl rfl) ?_
 intro a1 ha1; clear ha0 a0
 refine wl_val ha1 rfl rfl rfl (op_assign ha1 rfl rfl) ?_
 intro a2 ha2; clear ha1 a1
 refine wl_val ha2 rfl rfl rfl (op_assign ha2 rfl rfl) ?_
 intro a3 ha3; clear ha2 a2
 refine wpList_nil ?_
 refine then_n ?_
 refine wp_seq ?_
 refine wp_region_lit ?_
 refine wl_val ha3 rfl rfl rfl (op_move ha3 rfl rfl) ?_
 intro a4 ha4; clear ha3 a3
 refine wl_callR ha4 rfl rfl rfl (op_call ha4 rfl cb63 rfl) (c_spec_l01From _ v_code code (h_code.low pos_shU8 hx0 (Nat.le_refl _)) (by omega)) ?_
 rintro v5 w6 he7 ⟨g8, rfl, hg9, hS10⟩ a11 ha11; clear ha4 a4
 have hx12 := hx0.trans' he7
 have hzhx12 := he7.size
 have hSlhS10 := hS10.lt
 refine wl_val ha11 rfl rfl rfl (op_assign ha11 rfl rfl) ?_
 intro a13 ha13; clear ha11 a11
 refine wpList_nil ?_
 refine then_n ?_
 refine wp_seq ?_
 refine wp_seq ?_
 refine wp_region_lit ?_
 refine wl_val ha13 rfl rfl rfl (op_move ha13 rfl rfl) ?_
 intro a14 ha14; clear ha13 a13
 refine wl_callS ha14 rfl rfl rfl (op_call ha14 rfl cb64 rfl) (c_spec_l01Next _ g8 w0.heap.size (30 : Int) hS10) ?_
 rintro v15 w16 he17 ⟨hS18, ⟨q19, hq20, hq21, hq22, rfl⟩⟩ a23 ha23; clear ha14 a14
 have hx24 := hx12.stp he17 (by intro q hq; cases hq; exact (by omega))
 have hzhx24 := he17.size
 clear hS10
 have hSlhS18 := hS18.lt
 refine wl_val ha23 rfl rfl rfl (op_eql ha23 rfl rfl rfl) ?_
 intro a25 ha25; clear ha23 a23
 refine wpList_nil ?_
 refine then_n ?_
 by_cases c26 : (q19 : Int) = (0 : Int)
 ·
  rw [decide_eq_true c26] at ha25
  refine cond_t ha25 rfl ?_
  refine wp_seq ?_
  clear hS18
  refine wp_region_lit ?_
  refine wl_eff ha25 rfl rfl rfl (op_buildSlice (s := shLine) (xs := ([] : List (Str × Int))) (cs := []) (vs := []) (S := fun _ => False) (le := w16.heap.size) ha25 rfl pos_shLine Try.underlying34 ti83 rfl rfl (by decide) (by kernel_rfl) rfl (fun _ h => h.elim)) ?_
  rintro v27 w28 ⟨ho29, he30, hob31⟩ a32 ha32; clear ha25 a25
  have hx33 := hx24.trans' he30
  have hzhx33 := he30.size
  refine wl_eff ha32 rfl rfl rfl (op_buildSlice (s := shLine) (xs := ([] : List (Str × Int))) (cs := []) (vs := []) (S := fun _ => False) (le := w28.heap.size) ha32 rfl pos_shLine Try.underlying34 ti83 rfl rfl (by decide) (by kernel_rfl) rfl (fun _ h => h.elim)) ?_
  rintro v34 w35 ⟨ho36, he37, hob38⟩ a39 ha39; clear ha32 a32
  have hx40 := hx33.trans' he37
  have hzhx40 := he37.size
  replace ho29 := ho29.ext he37
  refine wl_val ha39 rfl rfl rfl (op_assign ha39 rfl rfl) ?_
  intro a41 ha41; clear ha39 a39
  refine wl_val ha41 rfl rfl rfl (op_assign ha41 rfl rfl) ?_
  intro a42 ha42; clear ha41 a41
  refine wpList_nil ?_
  refine then_n ?_
  refine wp_seq ?_
  refine wp_seq ?_
  refine wp_region_lit ?_
  refine wl_val ha42 rfl rfl rfl (op_assign ha42 rfl rfl) ?_
  intro a43 ha43; clear ha42 a42
  refine wpList_nil ?_
  refine then_n ?_
  refine wp_block ?_
  refine loop_inv (X := Nat × Value × (List (Str × Int)) × Value × (List (Str × Int))) (fun (⟨k, va, la, vb, lb⟩ : Nat × Value × (List (Str × Int)) × Value × (List (Str × Int))) fr wl => Sl 47 fr [(6, va), (7, vb), (8, .int .i64 ((k : Nat) : Int))] ∧ Ext w0 wl ∧ Own shLine 83 w16.heap.size w16.heap.size wl.heap.size wl va la ∧ Own shLine 83 w28.heap.size w28.heap.size wl.heap.size wl vb lb ∧ w35.heap.size ≤ wl.heap.size ∧ (∀ q, Value.ownBlock va = some q → Value.ownBlock vb ≠ some q) ∧ (k ≤ 5) ∧ (la.length ≤ k) ∧ (lb.length ≤ k)) (fun (⟨k, va, la, vb, lb⟩ : Nat × Value × (List (Str × Int)) × Value × (List (Str × Int))) => 5 - k) (0, v27, ([] : List (Str × Int)), v34, ([] : List (Str × Int))) ?_ ?_
  ·
   exact ⟨(Sl.cons_ ha43 rfl rfl (Sl.cons_ ha43 rfl rfl (Sl.cons_ ha43 rfl (int_eq (by omega)) (Sl.nil_ ha43)))), hx40, (ho29.fin (by omega) (by omega) (by omega)), (ho36.fin (by omega) (by omega) (by omega)), (by omega), (by intro q hq; first | (intro hb; have hq0 := ho29.lt q hq; have hq1 := ho36.lt q hb; omega)), (by omega), (by exact Nat.le_refl _), (by exact Nat.le_refl _)⟩
  ·
   clear ha43 a43
   rintro ⟨k, va, la, vb, lb⟩ a49 w44 ⟨ha49, hx45, hf46, hf47, hzl50, hsp48, hk, hla, hlb⟩
   have hzhx45 := hx45.size
   refine wp_seq ?_
   refine wp_seq ?_
   refine wp_region_lit ?_
   refine wl_val ha49 rfl rfl rfl (op_move ha49 rfl rfl) ?_
   intro a51 ha51; clear ha49 a49
   refine wl_val ha51 rfl rfl rfl (op_lss ha51 rfl rfl rfl) ?_
   intro a52 ha52; clear ha51 a51
   refine wpList_nil ?_
   refine then_n ?_
   by_cases c53 : ((k : Nat) : Int) < (5 : Int)
   ·
    rw [decide_eq_true c53] at ha52
    refine cond_t ha52 rfl ?_
    refine wp_skip ?_
    refine then_n ?_
    refine wp_seq ?_
    refine wp_block ?_
    refine wp_seq ?_
    refine wp_region_lit ?_
    refine wl_val ha52 rfl rfl rfl (op_move ha52 rfl rfl) ?_
    intro a54 ha54; clear ha52 a52
    refine wl_val ha54 rfl rfl rfl (op_move ha54 rfl rfl) ?_
    intro a55 ha55; clear ha54 a54
    refine wl_val ha55 rfl rfl rfl (op_move ha55 rfl rfl) ?_
    intro a56 ha56; clear ha55 a55
    refine wl_val ha56 rfl rfl rfl ((op_add ha56 rfl rfl rfl).int (IntWalk.i64_in _ (by omega))) ?_
    intro a57 ha57; clear ha56 a56
    refine wl_val ha57 rfl rfl rfl (op_slice_str_b (i := k) (j := (k + 1)) (by omega) (by omega) ha57 rfl Try.underlying9 rfl rfl rfl (by first | omega | (simp; omega)) (by first | omega | (simp; omega))) ?_
    intro a58 ha58; clear ha57 a57
    refine wl_val ha58 rfl rfl rfl (op_build (vs := [(0, St (((([97, 98, 99, 100, 101] : Str)).take ((k + 1))).drop k))]) (cs := #[St (((([97, 98, 99, 100, 101] : Str)).take ((k + 1))).drop k), .int .i64 (0 : Int)]) ha58 rfl Try.underlying83 ti83 bp83 rfl rfl) ?_
    intro a59 ha59; clear ha58 a58
    refine wl_eff ha59 rfl rfl rfl (op_buildSlice (s := shLine) (xs := [(((([97, 98, 99, 100, 101] : Str)).take ((k + 1))).drop k, (0 : Int))]) (cs := [St (((([97, 98, 99, 100, 101] : Str)).take ((k + 1))).drop k), .int .i64 (0 : Int)]) (vs := [(0, .agg #[St (((([97, 98, 99, 100, 101] : Str)).take ((k + 1))).drop k), .int .i64 (0 : Int)])]) (S := fun _ => False) (le := w44.heap.size) ha59 rfl pos_shLine Try.underlying34 ti83 rfl rfl (by decide) (by kernel_rfl) (Els.single (mk_shLine ((((([97, 98, 99, 100, 101] : Str)).take ((k + 1))).drop k, (0 : Int))) (by first | omega | (simp only []; omega) | (simp; done) | (simp only [List.length_append, List.length_take, List.length_drop, List.length_cons, List.length_nil]; omega)) (by first | omega | (simp only []; omega) | (simp; done) | (simp only [List.length_append, List.length_take, List.length_drop, List.length_cons, List.length_nil]; omega)))) (fun _ h => h.elim)) ?_
    rintro v60 w61 ⟨ho62, he63, hob64⟩ a65 ha65; clear ha59 a59
    have hx66 := hx45.trans' he63
    have hzhx66 := he63.size
    replace hf46 := hf46.ext he63
    replace hf47 := hf47.ext he63
    refine wl_eff ha65 rfl rfl rfl (op_append (ts := #[]) (s := shLine) ha65 rfl Try.underlying34 ti83 rfl pos_shLine rfl rfl hf46 (ho62.rds pos_shLine) (by omega) (by omega) (by first | omega | (simp; omega)) (by first | omega | (simp; omega)) (.inl flat_shLine)) ?_
    rintro v67 w68 ⟨ho69, hst70, hob71⟩ a72 ha72; clear ha65 a65
    have hx73 := hx66.stp hst70 (by intro q hq; have hq0 := hf46.lt q hq; omega)
    have hzhx73 := hst70.size
    first | replace hf47 := hf47.stp hst70 (by intro q hq; have hq0 := hf46.lt q hq; omega) | replace hf47 := hf47.stpF flat_shLine hst70 (fun q hq => hsp48 q hq)
    replace ho62 := ho62.stp hst70 (by intro q hq; have hq0 := hf46.lt q hq; omega)
    have hsp74 : ∀ q, Value.ownBlock v67 = some q → Value.ownBlock vb ≠ some q := by intro q hq hb; have hq0 := hf47.lt q hb; rcases hob71 with h | h; (rw [h] at hq; first | (have hq1 := hf46.lt q hq; omega) | exact hsp48 q hq hb); (rw [h] at hq; cases hq; omega)
    have hsp75 : ∀ q, Value.ownBlock v67 = some q → Value.ownBlock v60 ≠ some q := by intro q hq hb; have hq0 := ho62.lt q hb; rcases hob71 with h | h; (rw [h] at hq; first | (have hq1 := hf46.lt q hq; omega)); (rw [h] at hq; cases hq; omega)
    refine wl_val ha72 rfl rfl rfl (op_assign ha72 rfl rfl) ?_
    intro a76 ha76; clear ha72 a72
    refine wpList_nil ?_
    refine then_n ?_
    clear ho62
    refine wp_region_lit ?_
    refine wl_val ha76 rfl rfl rfl (op_move ha76 rfl rfl) ?_
    intro a77 ha77; clear ha76 a76
    refine wl_val ha77 rfl rfl rfl (op_move ha77 rfl rfl) ?_
    intro a78 ha78; clear ha77 a77
    refine wl_val ha78 rfl rfl rfl (op_move ha78 rfl rfl) ?_
    intro a79 ha79; clear ha78 a78
    refine wl_val ha79 rfl rfl rfl ((op_add ha79 rfl rfl rfl).int (IntWalk.i64_in _ (by omega))) ?_
    intro a80 ha80; clear ha79 a79
    refine wl_val ha80 rfl rfl rfl (op_slice_str_b (i := k) (j := (k + 1)) (by omega) (by omega) ha80 rfl Try.underlying9 rfl rfl rfl (by first | omega | (simp; omega)) (by first | omega | (simp; omega))) ?_
    intro a81 ha81; clear ha80 a80
    refine wl_val ha81 rfl rfl rfl (op_build (vs := [(0, St (((([118, 119, 120, 121, 122] : Str)).take ((k + 1))).drop k))]) (cs := #[St (((([118, 119, 120, 121, 122] : Str)).take ((k + 1))).drop k), .int .i64 (0 : Int)]) ha81 rfl Try.underlying83 ti83 bp83 rfl rfl) ?_
    intro a82 ha82; clear ha81 a81
    refine wl_eff ha82 rfl rfl rfl (op_buildSlice (s := shLine) (xs := [(((([118, 119, 120, 121, 122] : Str)).take ((k + 1))).drop k, (0 : Int))]) (cs := [St (((([118, 119, 120, 121, 122] : Str)).take ((k + 1))).drop k), .int .i64 (0 : Int)]) (vs := [(0, .agg #[St (((([118, 119, 120, 121, 122] : Str)).take ((k + 1))).drop k), .int .i64 (0 : Int)])]) (S := fun _ => False) (le := w68.heap.size) ha82 rfl pos_shLine Try.underlying34 ti83 rfl rfl (by decide) (by kernel_rfl) (Els.single (mk_shLine ((((([118, 119, 120, 121, 122] : Str)).take ((k + 1))).drop k, (0 : Int))) (by first | omega | (simp only []; omega) | (simp; done) | (simp only [List.length_append, List.length_take, List.length_drop, List.length_cons, List.length_nil]; omega)) (by first | omega | (simp only []; omega) | (simp; done) | (simp only [List.length_append, List.length_take, List.length_drop, List.length_cons, List.length_nil]; omega)))) (fun _ h => h.elim)) ?_
    rintro v83 w84 ⟨ho85, he86, hob87⟩ a88 ha88; clear ha82 a82
    have hx89 := hx73.trans' he86
    have hzhx89 := he86.size
    replace hf47 := hf47.ext he86
    replace ho69 := ho69.ext he86
    refine wl_eff ha88 rfl rfl rfl (op_append (ts := #[]) (s := shLine) ha88 rfl Try.underlying34 ti83 rfl pos_shLine rfl rfl hf47 (ho85.rds pos_shLine) (by omega) (by omega) (by first | omega | (simp; omega)) (by first | omega | (simp; omega)) (.inl flat_shLine)) ?_
    rintro v90 w91 ⟨ho92, hst93, hob94⟩ a95 ha95; clear ha88 a88
    have hx96 := hx89.stp hst93 (by intro q hq; have hq0 := hf47.lt q hq; omega)
    have hzhx96 := hst93.size
    first | replace ho69 := ho69.stp hst93 (by intro q hq; have hq0 := hf47.lt q hq; omega) | replace ho69 := ho69.stpF flat_shLine hst93 (fun q hq => (fun q hq e => hsp74 q e hq) q hq)
    replace ho85 := ho85.stp hst93 (by intro q hq; have hq0 := hf47.lt q hq; omega)
    have hsp97 : ∀ q, Value.ownBlock v90 = some q → Value.ownBlock v67 ≠ some q := by intro q hq hb; have hq0 := ho69.lt q hb; rcases hob94 with h | h; (rw [h] at hq; first | (have hq1 := hf47.lt q hq; omega) | exact (fun q hq e => hsp74 q e hq) q hq hb); (rw [h] at hq; cases hq; omega)
    have hsp98 : ∀ q, Value.ownBlock v90 = some q → Value.ownBlock v83 ≠ some q := by intro q hq hb; have hq0 := ho85.lt q hb; rcases hob94 with h | h; (rw [h] at hq; first | (have hq1 := hf47.lt q hq; omega)); (rw [h] at hq; cases hq; omega)
    refine wl_val ha95 rfl rfl rfl (op_assign ha95 rfl rfl) ?_
    intro a99 ha99; clear ha95 a95
    refine wpList_nil ?_
    refine block_n ?_
    refine then_n ?_
    clear ho85
    refine wp_region_lit ?_
    refine wl_val ha99 rfl rfl rfl (op_move ha99 rfl rfl) ?_
    intro a100 ha100; clear ha99 a99
    refine wl_val ha100 rfl rfl rfl ((op_add ha100 rfl rfl rfl).int (IntWalk.i64_in _ (by omega))) ?_
    intro a101 ha101; clear ha100 a100
    refine wl_val ha101 rfl rfl rfl (op_assign ha101 rfl rfl) ?_
    intro a102 ha102; clear ha101 a101
    refine wpList_nil ?_
    refine round_end (x := (k, va, la, vb, lb)) ((k + 1), v67, (la ++ [(((([97, 98, 99, 100, 101] : Str)).take ((k + 1))).drop k, (0 : Int))]), v90, (lb ++ [(((([118, 119, 120, 121, 122] : Str)).take ((k + 1))).drop k, (0 : Int))])) ?_ ?_
    ·
     refine ⟨(Sl.cons_ ha102 rfl rfl (Sl.cons_ ha102 rfl rfl (Sl.cons_ ha102 rfl (int_eq (by omega)) (Sl.nil_ ha102)))), hx96, (ho69.fin (by omega) (by omega) (by omega)), (ho92.fin (by omega) (by omega) (by omega)), (by omega), (by intro q hq; first | (intro hb; have hq0 := ho69.lt q hq; have hq1 := ho92.lt q hb; omega) | exact (fun q hq e => hsp97 q e hq) q hq), (by omega), (by first | omega | (simp; omega)), (by first | omega | (simp; omega))⟩
    ·show (5 - ((k + 1)) : Nat) < 5 - k; omega
   ·
    rw [decide_eq_false c53] at ha52
    refine cond_f ha52 rfl ?_
    refine wp_exit ?_
    refine then_e ?_
    refine then_e ?_
    refine block_hit ?_
    refine then_n ?_
    refine wp_seq ?_
    refine wp_region_lit ?_
    refine wl_val ha52 rfl rfl rfl (op_build (vs := [(0, .int .i64 (-1 : Int))]) (cs := #[.int .i64 (-1 : Int), .slice none 0 0]) ha52 rfl Try.underlying56 ti56 bp56 rfl rfl) ?_
    intro a103 ha103; clear ha52 a52
    refine wl_val ha103 rfl rfl rfl (op_move ha103 rfl rfl) ?_
    intro a104 ha104; clear ha103 a103
    refine wl_val ha104 rfl rfl rfl (op_build (vs := [(1, va)]) (cs := #[.int .i64 (0 : Int), va]) ha104 rfl Try.underlying56 ti56 bp56 rfl ((fill_one hf46.cells1 rfl rfl).trans rfl)) ?_
    intro a105 ha105; clear ha104 a104
    refine wl_val ha105 rfl rfl rfl (op_move ha105 rfl rfl) ?_
    intro a106 ha106; clear ha105 a105
    refine wl_val ha106 rfl rfl rfl (op_build (vs := [(1, vb)]) (cs := #[.int .i64 (0 : Int), vb]) ha106 rfl Try.underlying56 ti56 bp56 rfl ((fill_one hf47.cells1 rfl rfl).trans rfl)) ?_
    intro a107 ha107; clear ha106 a106
    refine wl_eff ha107 rfl rfl rfl (op_buildSlice (s := shVerN) (xs := [((((-1 : Int), []) : Int × List (Str × Int)), (.slice none 0 0 : Value)), ((((0 : Int), la) : Int × List (Str × Int)), (va : Value)), ((((0 : Int), lb) : Int × List (Str × Int)), (vb : Value))]) (cs := [.int .i64 (-1 : Int), .slice none 0 0, .int .i64 (0 : Int), va, .int .i64 (0 : Int), vb]) (vs := [(0, .agg #[.int .i64 (-1 : Int), .slice none 0 0]), (1, .agg #[.int .i64 (0 : Int), va]), (2, .agg #[.int .i64 (0 : Int), vb])]) (S := fun _ => False) (le := w44.heap.size) ha107 rfl pos_shVerN Try.underlying27 ti56 rfl rfl (by decide) (by kernel_rfl) ⟨mk_shVerN (((((-1 : Int), []) : Int × List (Str × Int)), (.slice none 0 0 : Value))) (by first | omega | (simp only []; omega) | (simp; done) | (simp only [List.length_append, List.length_take, List.length_drop, List.length_cons, List.length_nil]; omega)) (by first | rfl | assumption | exact Own.one (by assumption) | exact Rds.one (by assumption)), mk_shVerN (((((0 : Int), la) : Int × List (Str × Int)), (va : Value))) (by first | omega | (simp only []; omega) | (simp; done) | (simp only [List.length_append, List.length_take, List.length_drop, List.length_cons, List.length_nil]; omega)) hf46.one, mk_shVerN (((((0 : Int), lb) : Int × List (Str × Int)), (vb : Value))) (by first | omega | (simp only []; omega) | (simp; done) | (simp only [List.length_append, List.length_take, List.length_drop, List.length_cons, List.length_nil]; omega)) hf47.one, rfl⟩ (fun _ h => h.elim)) ?_
    rintro v108 w109 ⟨ho110, he111, hob112⟩ a113 ha113; clear ha107 a107
    have hx114 := hx45.trans' he111
    have hzhx114 := he111.size
    replace hf46 := hf46.ext he111
    replace hf47 := hf47.ext he111
    have hN115 : Nst shLine 83 (fun x : Int × List (Str × Int) => x.2) w16.heap.size w109.heap.size w109 ([((((-1 : Int), []) : Int × List (Str × Int)), (.slice none 0 0 : Value)), ((((0 : Int), la) : Int × List (Str × Int)), (va : Value)), ((((0 : Int), lb) : Int × List (Str × Int)), (vb : Value))]) := ⟨by intro z hz; simp only [List.mem_cons, List.not_mem_nil, or_false] at hz; rcases hz with rfl | rfl | rfl; exact (Own.nil _ _ _ _ _ _); exact (hf46.fin (by omega) (by omega) (by omega)); exact (hf47.fin (by omega) (by omega) (by omega)), List.Pairwise.cons (by intro z hz g hg; cases hg) (List.Pairwise.cons (by intro z hz g hg; simp only [List.mem_cons, List.not_mem_nil, or_false] at hz; rcases hz with rfl; (first | (have hq0 := hf46.lt g hg; intro hb; have hq1 := hf47.lt g hb; omega) | exact hsp48 g hg)) (List.Pairwise.cons (by intro z hz; cases hz) (List.Pairwise.nil)))⟩
    refine wl_val ha113 rfl rfl rfl (op_assign ha113 rfl rfl) ?_
    intro a116 ha116; clear ha113 a113
    refine wl_val ha116 rfl rfl rfl (op_assign ha116 rfl rfl) ?_
    intro a117 ha117; clear ha116 a116
    refine wl_val ha117 rfl rfl rfl (op_assign ha117 rfl rfl) ?_
    intro a118 ha118; clear ha117 a117
    refine wpList_nil ?_
    refine then_n ?_
    refine wp_ret ?_
    refine then_r ?_
    refine ret3 ha118 rfl rfl rfl rfl ?_
    clear ha118 a118
    refine ret_mk hx114 ?_
    refine ⟨(([((((-1 : Int), []) : Int × List (Str × Int)), (.slice none 0 0 : Value)), ((((0 : Int), la) : Int × List (Str × Int)), (va : Value)), ((((0 : Int), lb) : Int × List (Str × Int)), (vb : Value))].map (·.1)) : List Ver), (1 : Int), (2 : Int), (by first | assumption | omega | (simp; done)), (by first | assumption | (intro c hc; simp only [List.map_cons, List.map_nil, List.mem_cons, List.not_mem_nil, or_false] at hc; rcases hc with rfl | rfl | rfl; exact Nat.zero_le _; exact Nat.le_trans hla (by omega); exact Nat.le_trans hlb (by omega))), (by first | assumption | omega | (constructor <;> omega)), (by first | assumption | omega | (constructor <;> omega)), ?_⟩
    refine ⟨v108, [((((-1 : Int), []) : Int × List (Str × Int)), (.slice none 0 0 : Value)), ((((0 : Int), la) : Int × List (Str × Int)), (va : Value)), ((((0 : Int), lb) : Int × List (Str × Int)), (vb : Value))], (tup3_eq rfl (int_eq (by rfl)) (int_eq (by rfl))), ho110.fin (by omega) (by omega) (by omega), hN115.fin (by omega) (by omega), ?_⟩
    ·
     rfl
 ·
  rw [decide_eq_false c26] at ha25
  refine cond_f ha25 rfl ?_
  refine wp_skip ?_
  refine then_n ?_
  refine wp_seq ?_
  clear hS18
  refine wp_region_lit ?_
  refine wl_val ha25 rfl rfl rfl (op_move ha25 rfl rfl) ?_
  intro a119 ha119; clear ha25 a25
  refine wl_callR ha119 rfl rfl rfl (op_call ha119 rfl cb80 rfl) (c_spec_DrawCommonVersion _ v_code code (h_code.ext pos_shU8 hx24)) ?_
  rintro v120 w121 he122 ⟨q123, q124, q125, hq126, hq127, hq128, hq129, ⟨u130, z132, rfl, ho131, hN133, hE134⟩⟩ a135 ha135; clear ha119 a119
  have hx136 := hx24.trans' he122
  have hzhx136 := he122.size
  have hlhE134 := absLen hE134
  refine wl_val ha135 rfl rfl rfl (op_extract ha135 rfl rfl rfl) ?_
  intro a137 ha137; clear ha135 a135
  refine wl_val ha137 rfl rfl rfl (op_extract ha137 rfl rfl rfl) ?_
  intro a138 ha138; clear ha137 a137
  refine wl_val ha138 rfl rfl rfl (op_extract ha138 rfl rfl rfl) ?_
  intro a139 ha139; clear ha138 a138
  refine wl_val ha139 rfl rfl rfl (op_assign ha139 rfl rfl) ?_
  intro a140 ha140; clear ha139 a139
  refine wl_val ha140 rfl rfl rfl (op_assign ha140 rfl rfl) ?_
  intro a141 ha141; clear ha140 a140
  refine wl_val ha141 rfl rfl rfl (op_assign ha141 rfl rfl) ?_
  intro a142 ha142; clear ha141 a141
  refine wpList_nil ?_
  refine then_n ?_
  refine wp_ret ?_
  refine ret3 ha142 rfl rfl rfl rfl ?_
  clear ha142 a142
  refine ret_mk hx136 ?_
  refine ⟨(((q123)) : List Ver), (q124 : Int), (q125 : Int), (by first | assumption | omega | (simp; done)), (by first | assumption | (intro c hc; simp only [List.map_cons, List.map_nil, List.mem_cons, List.not_mem_nil, or_false] at hc; rcases hc with rfl | rfl | rfl; exact Nat.zero_le _; exact Nat.le_trans hla (by omega); exact Nat.le_trans hlb (by omega))), (by first | assumption | omega | (constructor <;> omega)), (by first | assumption | omega | (constructor <;> omega)), ?_⟩
  refine ⟨u130, z132, (tup3_eq rfl (int_eq (by rfl)) (int_eq (by rfl))), ho131.fin (by omega) (by omega) (by omega), hN133.fin (by omega) (by omega), ?_⟩
  ·
   exact hE134


end Go.Proofs.Ytllpdkidaldkiaa
