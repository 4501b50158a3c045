/- Texts split. -/
import Derived.Test.YtjpldgicibnkcaaW9
namespace Go.Proofs.Ytjpldgicibnkcaa
open Go Go.RowKit

/-- A text, split at each place of a byte: the piece begun so far, and the rest. -/
def spl (b : UInt8) : Str → Str → List Str
  | cur, [] => [cur]
  | cur, c :: s => if c = b then cur :: spl b [] s else spl b (cur ++ [c]) s
theorem cut_snoc {s : Str} {f i : Nat} {c : UInt8} (hf : f ≤ i) (h : s[i]? = some c) : (s.take (i + 1)).drop f = (s.take i).drop f ++ [c] := by
  have hl := (List.getElem?_eq_some_iff.1 h).1
  rw [take_snoc h, List.drop_append_of_le_length (by rw [List.length_take]; omega)]
theorem cut_end (s : Str) (i : Nat) : (s.take i).drop i = [] := List.drop_eq_nil_of_le (by rw [List.length_take]; omega)
theorem spl_len (b : UInt8) : ∀ (s cur : Str), (spl b cur s).length ≤ s.length + 1
  | [], _ => Nat.le_refl _
  | c :: s, cur => by
    rw [spl]; split
    · have := spl_len b s []; simp only [List.length_cons]; omega
    · have := spl_len b s (cur ++ [c]); simp only [List.length_cons]; omega
theorem ub {a b : UInt8} (h : (a.toNat : Int) = (b.toNat : Int)) : a = b := UInt8.toNat_inj.1 (by omega)

theorem c_impl_splitAt (w0 : World) (s : Str) (b : UInt8) (g0 : s.length ≤ 1048576) :
  Calls Try.prog 94 #[St s, .int .u8 (b.toNat : Int)] w0 (Ret w0 (fun v w1 => Own shStr 9 w0.heap.size w0.heap.size w1.heap.size w1 v (spl b [] s))) := by
 refine enter (N := 34) Try.func94 rfl rfl rfl ?_
 intro a0 ha0
 have hx0 := Ext.rfl' w0
 refine wp_seq ?_
 refine wp_region_lit ?_
 refine wl_val ha0 rfl rfl rfl (op_assign ha0 rfl rfl) ?_
 intro a1 ha1; clear ha0 a0
 refine wpList_nil ?_
 refine then_n ?_
 refine wp_seq ?_
 refine wp_region_lit ?_
 refine wl_val ha1 rfl rfl rfl (op_assign ha1 rfl rfl) ?_
 intro a2 ha2; clear ha1 a1
 refine wpList_nil ?_
 refine then_n ?_
 refine wp_seq ?_
 refine wp_region_lit ?_
 refine wl_val ha2 rfl rfl rfl (op_assign ha2 rfl rfl) ?_
 intro a3 ha3; clear ha2 a2
 refine wpList_nil ?_
 refine then_n ?_
 refine wp_seq ?_
 refine wp_seq ?_
 refine wp_region_lit ?_
 refine wl_val ha3 rfl rfl rfl (op_assign ha3 rfl rfl) ?_
 intro a4 ha4; clear ha3 a3
 refine wpList_nil ?_
 refine then_n ?_
 refine wp_block ?_
 refine loop_inv (X := Nat × Nat × Value × (List Str)) (fun (⟨i, f, v, acc⟩ : Nat × Nat × Value × (List Str)) fr wl => Sl 34 fr [(0, St s), (1, .int .u8 (b.toNat : Int)), (5, v), (6, .int .i64 ((f : Nat) : Int)), (7, .int .i64 ((i : Nat) : Int))] ∧ Ext w0 wl ∧ Own shStr 9 w0.heap.size w0.heap.size wl.heap.size wl v acc ∧ w0.heap.size ≤ wl.heap.size ∧ (i ≤ s.length) ∧ (f ≤ i) ∧ (acc.length ≤ i) ∧ (acc ++ spl b ((s.take i).drop f) (s.drop i) = spl b [] s)) (fun (⟨i, f, v, acc⟩ : Nat × Nat × Value × (List Str)) => s.length - i) (0, 0, (.slice none 0 0), []) ?_ ?_
 ·
  exact ⟨(Sl.cons_ ha4 rfl rfl (Sl.cons_ ha4 rfl rfl (Sl.cons_ ha4 rfl rfl (Sl.cons_ ha4 rfl (int_eq (by omega)) (Sl.cons_ ha4 rfl (int_eq (by omega)) (Sl.nil_ ha4)))))), hx0, (Own.nil _ _ _ _ _ _), (by omega), (by omega), (by omega), (by exact Nat.le_refl _), (by rfl)⟩
 ·
  clear ha4 a4
  rintro ⟨i, f, v, acc⟩ a8 w5 ⟨ha8, hx6, hf7, hzl9, hi, hf0, hl, hF⟩
  have hzhx6 := hx6.size
  refine wp_seq ?_
  refine wp_seq ?_
  refine wp_region_lit ?_
  refine wl_val ha8 rfl rfl rfl (op_move ha8 rfl rfl) ?_
  intro a10 ha10; clear ha8 a8
  refine wl_val ha10 rfl rfl rfl (op_move ha10 rfl rfl) ?_
  intro a11 ha11; clear ha10 a10
  refine wl_val ha11 rfl rfl rfl (op_len_str ha11 rfl Try.underlying9 rfl) ?_
  intro a12 ha12; clear ha11 a11
  refine wl_val ha12 rfl rfl rfl (op_lss ha12 rfl rfl rfl) ?_
  intro a13 ha13; clear ha12 a12
  refine wpList_nil ?_
  refine then_n ?_
  by_cases c14 : ((i : Nat) : Int) < ((s.length : Nat) : Int)
  ·
   rw [decide_eq_true c14] at ha13
   refine cond_t ha13 rfl ?_
   refine wp_skip ?_
   refine then_n ?_
   refine wp_seq ?_
   refine wp_block ?_
   refine wp_seq ?_
   refine wp_region_lit ?_
   refine wl_val ha13 rfl rfl rfl (op_move ha13 rfl rfl) ?_
   intro a15 ha15; clear ha13 a13
   refine wl_val ha15 rfl rfl rfl (op_move ha15 rfl rfl) ?_
   intro a16 ha16; clear ha15 a15
   obtain ⟨b17, hb17⟩ := get_ex (xs := s) (j := i) (by omega)
   have b17_lt := b17.toNat_lt
   refine wl_val ha16 rfl rfl rfl (op_index_str ha16 rfl Try.underlying9 rfl rfl (by omega) hb17) ?_
   intro a18 ha18; clear ha16 a16
   refine wl_val ha18 rfl rfl rfl (op_move ha18 rfl rfl) ?_
   intro a19 ha19; clear ha18 a18
   refine wl_val ha19 rfl rfl rfl (op_eql ha19 rfl rfl rfl) ?_
   intro a20 ha20; clear ha19 a19
   refine wpList_nil ?_
   refine then_n ?_
   by_cases c21 : (b17.toNat : Int) = (b.toNat : Int)
   ·
    rw [decide_eq_true c21] at ha20
    refine cond_t ha20 rfl ?_
    refine wp_seq ?_
    refine wp_region_lit ?_
    refine wl_val ha20 rfl rfl rfl (op_move ha20 rfl rfl) ?_
    intro a22 ha22; clear ha20 a20
    refine wl_val ha22 rfl rfl rfl (op_move ha22 rfl rfl) ?_
    intro a23 ha23; clear ha22 a22
    refine wl_val ha23 rfl rfl rfl (op_move ha23 rfl rfl) ?_
    intro a24 ha24; clear ha23 a23
    refine wl_val ha24 rfl rfl rfl (op_move ha24 rfl rfl) ?_
    intro a25 ha25; clear ha24 a24
    refine wl_val ha25 rfl rfl rfl (op_slice_str_b (i := f) (j := i) (by omega) (by omega) ha25 rfl Try.underlying9 rfl rfl rfl (by omega) (by omega)) ?_
    intro a26 ha26; clear ha25 a25
    refine wl_eff ha26 rfl rfl rfl (op_buildSlice (s := shStr) (xs := [(s.take i).drop f]) (cs := [St ((s.take i).drop f)]) (vs := [(0, St ((s.take i).drop f))]) (S := fun _ => False) (le := w5.heap.size) ha26 rfl pos_shStr Try.underlying22 ti9 rfl rfl (by decide) (by kernel_rfl) (Els.single (mk_shStr ((s.take i).drop f) (by first | assumption | omega | (simp; omega)))) (fun _ h => h.elim)) ?_
    rintro v27 w28 ⟨ho29, he30, hob31⟩ a32 ha32; clear ha26 a26
    have hx33 := hx6.trans' he30
    have hzhx33 := he30.size
    replace hf7 := hf7.ext he30
    refine wl_eff ha32 rfl rfl rfl (op_append (ts := #[]) (s := shStr) ha32 rfl Try.underlying22 ti9 rfl pos_shStr rfl rfl hf7 (ho29.rds pos_shStr) (by omega) (by omega) (by first | omega | (simp; omega)) (by first | omega | (simp; omega)) (.inl flat_shStr)) ?_
    rintro v34 w35 ⟨ho36, hst37, hob38⟩ a39 ha39; clear ha32 a32
    have hx40 := hx33.stp hst37 (by intro q hq; have hq0 := hf7.lt q hq; omega)
    have hzhx40 := hst37.size
    replace ho29 := ho29.stp hst37 (by intro q hq; have hq0 := hf7.lt q hq; omega)
    have hsp41 : ∀ q, Value.ownBlock v34 = some q → Value.ownBlock v27 ≠ some q := by intro q hq hb; have hq0 := ho29.lt q hb; rcases hob38 with h | h; (rw [h] at hq; first | (have hq1 := hf7.lt q hq; omega)); (rw [h] at hq; cases hq; omega)
    refine wl_val ha39 rfl rfl rfl (op_assign ha39 rfl rfl) ?_
    intro a42 ha42; clear ha39 a39
    refine wpList_nil ?_
    refine then_n ?_
    refine wp_region_lit ?_
    refine wl_val ha42 rfl rfl rfl (op_move ha42 rfl rfl) ?_
    intro a43 ha43; clear ha42 a42
    refine wl_val ha43 rfl rfl rfl ((op_add ha43 rfl rfl rfl).int (IntWalk.i64_in _ (by omega))) ?_
    intro a44 ha44; clear ha43 a43
    refine wl_val ha44 rfl rfl rfl (op_assign ha44 rfl rfl) ?_
    intro a45 ha45; clear ha44 a44
    refine wpList_nil ?_
    refine block_n ?_
    refine then_n ?_
    refine wp_region_lit ?_
    refine wl_val ha45 rfl rfl rfl (op_move ha45 rfl rfl) ?_
    intro a46 ha46; clear ha45 a45
    refine wl_val ha46 rfl rfl rfl ((op_add ha46 rfl rfl rfl).int (IntWalk.i64_in _ (by omega))) ?_
    intro a47 ha47; clear ha46 a46
    refine wl_val ha47 rfl rfl rfl (op_assign ha47 rfl rfl) ?_
    intro a48 ha48; clear ha47 a47
    refine wpList_nil ?_
    refine round_end (x := (i, f, v, acc)) ((i + 1), (i + 1), v34, (acc ++ [(s.take i).drop f])) ?_ ?_
    ·
     refine ⟨(Sl.cons_ ha48 rfl rfl (Sl.cons_ ha48 rfl rfl (Sl.cons_ ha48 rfl rfl (Sl.cons_ ha48 rfl (int_eq (by omega)) (Sl.cons_ ha48 rfl (int_eq (by omega)) (Sl.nil_ ha48)))))), hx40, (ho36.fin (by omega) (by omega) (by omega)), (by omega), (by omega), (by omega), (by first | omega | (simp; omega)), (by rw [drop_cons hb17, spl, if_pos (ub c21)] at hF; rw [cut_end, ← hF]; simp)⟩
    ·show (s.length - ((i + 1)) : Nat) < s.length - i; omega
   ·
    rw [decide_eq_false c21] at ha20
    refine cond_f ha20 rfl ?_
    refine wp_skip ?_
    refine block_n ?_
    refine then_n ?_
    refine wp_region_lit ?_
    refine wl_val ha20 rfl rfl rfl (op_move ha20 rfl rfl) ?_
    intro a49 ha49; clear ha20 a20
    refine wl_val ha49 rfl rfl rfl ((op_add ha49 rfl rfl rfl).int (IntWalk.i64_in _ (by omega))) ?_
    intro a50 ha50; clear ha49 a49
    refine wl_val ha50 rfl rfl rfl (op_assign ha50 rfl rfl) ?_
    intro a51 ha51; clear ha50 a50
    refine wpList_nil ?_
    refine round_end (x := (i, f, v, acc)) ((i + 1), f, v, acc) ?_ ?_
    ·
     refine ⟨(Sl.cons_ ha51 rfl rfl (Sl.cons_ ha51 rfl rfl (Sl.cons_ ha51 rfl rfl (Sl.cons_ ha51 rfl (int_eq (by omega)) (Sl.cons_ ha51 rfl (int_eq (by omega)) (Sl.nil_ ha51)))))), hx6, (hf7.fin (by omega) (by omega) (by omega)), (by omega), (by omega), (by omega), (by first | omega | (simp; omega)), (by rw [drop_cons hb17, spl, if_neg (fun e => c21 (by rw [e]))] at hF; rw [cut_snoc (by omega) hb17]; exact hF)⟩
    ·show (s.length - ((i + 1)) : Nat) < s.length - i; omega
  ·
   rw [decide_eq_false c14] at ha13
   refine cond_f ha13 rfl ?_
   refine wp_exit ?_
   refine then_e ?_
   refine then_e ?_
   refine block_hit ?_
   refine then_n ?_
   refine wp_seq ?_
   refine wp_region_lit ?_
   refine wl_val ha13 rfl rfl rfl (op_move ha13 rfl rfl) ?_
   intro a52 ha52; clear ha13 a13
   refine wl_val ha52 rfl rfl rfl (op_move ha52 rfl rfl) ?_
   intro a53 ha53; clear ha52 a52
   refine wl_val ha53 rfl rfl rfl (op_move ha53 rfl rfl) ?_
   intro a54 ha54; clear ha53 a53
   refine wl_val ha54 rfl rfl rfl (op_slice_str_f (i := f) (by omega) ha54 rfl Try.underlying9 rfl rfl (by omega)) ?_
   intro a55 ha55; clear ha54 a54
   refine wl_eff ha55 rfl rfl rfl (op_buildSlice (s := shStr) (xs := [s.drop f]) (cs := [St (s.drop f)]) (vs := [(0, St (s.drop f))]) (S := fun _ => False) (le := w5.heap.size) ha55 rfl pos_shStr Try.underlying22 ti9 rfl rfl (by decide) (by kernel_rfl) (Els.single (mk_shStr (s.drop f) (by first | assumption | omega | (simp; omega)))) (fun _ h => h.elim)) ?_
   rintro v56 w57 ⟨ho58, he59, hob60⟩ a61 ha61; clear ha55 a55
   have hx62 := hx6.trans' he59
   have hzhx62 := he59.size
   replace hf7 := hf7.ext he59
   refine wl_eff ha61 rfl rfl rfl (op_append (ts := #[]) (s := shStr) ha61 rfl Try.underlying22 ti9 rfl pos_shStr rfl rfl hf7 (ho58.rds pos_shStr) (by omega) (by omega) (by first | omega | (simp; omega)) (by first | omega | (simp; omega)) (.inl flat_shStr)) ?_
   rintro v63 w64 ⟨ho65, hst66, hob67⟩ a68 ha68; clear ha61 a61
   have hx69 := hx62.stp hst66 (by intro q hq; have hq0 := hf7.lt q hq; omega)
   have hzhx69 := hst66.size
   replace ho58 := ho58.stp hst66 (by intro q hq; have hq0 := hf7.lt q hq; omega)
   have hsp70 : ∀ q, Value.ownBlock v63 = some q → Value.ownBlock v56 ≠ some q := by intro q hq hb; have hq0 := ho58.lt q hb; rcases hob67 with h | h; (rw [h] at hq; first | (have hq1 := hf7.lt q hq; omega)); (rw [h] at hq; cases hq; omega)
   refine wl_val ha68 rfl rfl rfl (op_assign ha68 rfl rfl) ?_
   intro a71 ha71; clear ha68 a68
   refine wpList_nil ?_
   refine then_n ?_
   refine wp_ret ?_
   refine ret1 ha71 rfl rfl ?_
   clear ha71 a71
   refine ret_mk hx69 ?_
   refine (ho65.fin (by omega) (by omega) (by omega)).cast ?_
   have hd : s.drop i = [] := drop_nil (by omega); rw [hd, spl, List.take_of_length_le (by omega)] at hF; exact hF

theorem c_spec_l01Split (w0 : World) (s : Str) (bt : UInt8) (g0 : s.length ≤ 1048576) :
  Calls Try.prog 91 #[St s, .int .u8 (bt.toNat : Int)] w0 (Ret w0 (fun v w1 => Own shStr 9 w0.heap.size w0.heap.size w1.heap.size w1 v (spl bt [] s))) := by
 refine enter (N := 36) Try.func91 rfl rfl rfl ?_
 intro a0 ha0
 have hx0 := Ext.rfl' w0
 refine wp_seq ?_
 refine wp_region_lit ?_
 refine wl_val ha0 rfl rfl rfl (op_assign ha0 rfl rfl) ?_
 intro a1 ha1; clear ha0 a0
 refine wpList_nil ?_
 refine then_n ?_
 refine wp_seq ?_
 refine wp_region_lit ?_
 refine wl_eff ha1 rfl rfl rfl (op_buildSlice (s := shStr) (xs := ([] : List Str)) (cs := []) (vs := []) (S := fun _ => False) (le := w0.heap.size) ha1 rfl pos_shStr Try.underlying22 ti9 rfl rfl (by decide) (by kernel_rfl) rfl (fun _ h => h.elim)) ?_
 rintro v2 w3 ⟨ho4, he5, hob6⟩ a7 ha7; clear ha1 a1
 have hx8 := hx0.trans' he5
 have hzhx8 := he5.size
 refine wl_val ha7 rfl rfl rfl (op_assign ha7 rfl rfl) ?_
 intro a9 ha9; clear ha7 a7
 refine wpList_nil ?_
 refine then_n ?_
 refine wp_seq ?_
 refine wp_region_lit ?_
 refine wl_val ha9 rfl rfl rfl (op_assign ha9 rfl rfl) ?_
 intro a10 ha10; clear ha9 a9
 refine wpList_nil ?_
 refine then_n ?_
 refine wp_seq ?_
 refine wp_seq ?_
 refine wp_region_lit ?_
 refine wl_val ha10 rfl rfl rfl (op_assign ha10 rfl rfl) ?_
 intro a11 ha11; clear ha10 a10
 refine wpList_nil ?_
 refine then_n ?_
 refine wp_block ?_
 refine loop_inv (X := Nat × Nat × Value × (List Str)) (fun (⟨i, f, v, acc⟩ : Nat × Nat × Value × (List Str)) fr wl => Sl 36 fr [(0, St s), (1, .int .u8 (bt.toNat : Int)), (5, v), (6, .int .i64 ((f : Nat) : Int)), (7, .int .i64 ((i : Nat) : Int))] ∧ Ext w0 wl ∧ Own shStr 9 w0.heap.size w0.heap.size wl.heap.size wl v acc ∧ w3.heap.size ≤ wl.heap.size ∧ (i ≤ s.length + 1) ∧ (f ≤ i) ∧ (acc.length ≤ i) ∧ ((if i ≤ s.length then acc ++ spl bt ((s.take i).drop f) (s.drop i) else acc) = spl bt [] s)) (fun (⟨i, f, v, acc⟩ : Nat × Nat × Value × (List Str)) => s.length + 1 - i) (0, 0, v2, ([] : List Str)) ?_ ?_
 ·
  exact ⟨(Sl.cons_ ha11 rfl rfl (Sl.cons_ ha11 rfl rfl (Sl.cons_ ha11 rfl rfl (Sl.cons_ ha11 rfl (int_eq (by omega)) (Sl.cons_ ha11 rfl (int_eq (by omega)) (Sl.nil_ ha11)))))), hx8, (ho4.fin (by omega) (by omega) (by omega)), (by omega), (by omega), (by omega), (by exact Nat.le_refl _), (by rw [if_pos (by omega)]; rfl)⟩
 ·
  clear ha11 a11
  rintro ⟨i, f, v, acc⟩ a15 w12 ⟨ha15, hx13, hf14, hzl16, hi, hf0, hl, hF⟩
  have hzhx13 := hx13.size
  refine wp_seq ?_
  refine wp_seq ?_
  refine wp_region_lit ?_
  refine wl_val ha15 rfl rfl rfl (op_move ha15 rfl rfl) ?_
  intro a17 ha17; clear ha15 a15
  refine wl_val ha17 rfl rfl rfl (op_move ha17 rfl rfl) ?_
  intro a18 ha18; clear ha17 a17
  refine wl_val ha18 rfl rfl rfl (op_len_str ha18 rfl Try.underlying9 rfl) ?_
  intro a19 ha19; clear ha18 a18
  refine wl_val ha19 rfl rfl rfl (op_leq ha19 rfl rfl rfl) ?_
  intro a20 ha20; clear ha19 a19
  refine wpList_nil ?_
  refine then_n ?_
  by_cases c21 : ((i : Nat) : Int) ≤ ((s.length : Nat) : Int)
  ·
   rw [decide_eq_true c21] at ha20
   refine cond_t ha20 rfl ?_
   refine wp_skip ?_
   refine then_n ?_
   refine wp_seq ?_
   refine wp_block ?_
   refine wp_seq ?_
   refine wp_region_lit ?_
   refine wl_val ha20 rfl rfl rfl (op_move ha20 rfl rfl) ?_
   intro a22 ha22; clear ha20 a20
   refine wl_val ha22 rfl rfl rfl (op_move ha22 rfl rfl) ?_
   intro a23 ha23; clear ha22 a22
   refine wl_val ha23 rfl rfl rfl (op_len_str ha23 rfl Try.underlying9 rfl) ?_
   intro a24 ha24; clear ha23 a23
   refine wl_val ha24 rfl rfl rfl (op_eql ha24 rfl rfl rfl) ?_
   intro a25 ha25; clear ha24 a24
   refine wl_val ha25 rfl rfl rfl (op_move ha25 rfl rfl) ?_
   intro a26 ha26; clear ha25 a25
   by_cases c27 : ((i : Nat) : Int) = ((s.length : Nat) : Int)
   ·
    rw [decide_eq_true c27] at ha26
    refine wl_skip ha26 rfl rfl rfl ?_
    intro a28 ha28; clear ha26 a26
    refine wl_skip ha28 rfl rfl rfl ?_
    intro a29 ha29; clear ha28 a28
    refine wl_skip ha29 rfl rfl rfl ?_
    intro a30 ha30; clear ha29 a29
    refine wl_skip ha30 rfl rfl rfl ?_
    intro a31 ha31; clear ha30 a30
    refine wl_skip ha31 rfl rfl rfl ?_
    intro a32 ha32; clear ha31 a31
    refine wl_val ha32 rfl rfl rfl (op_pick_t ha32 rfl rfl rfl) ?_
    intro a33 ha33; clear ha32 a32
    refine wpList_nil ?_
    refine then_n ?_
    refine cond_t ha33 rfl ?_
    refine wp_seq ?_
    refine wp_region_lit ?_
    refine wl_val ha33 rfl rfl rfl (op_move ha33 rfl rfl) ?_
    intro a34 ha34; clear ha33 a33
    refine wl_val ha34 rfl rfl rfl (op_move ha34 rfl rfl) ?_
    intro a35 ha35; clear ha34 a34
    refine wl_val ha35 rfl rfl rfl (op_move ha35 rfl rfl) ?_
    intro a36 ha36; clear ha35 a35
    refine wl_val ha36 rfl rfl rfl (op_move ha36 rfl rfl) ?_
    intro a37 ha37; clear ha36 a36
    refine wl_val ha37 rfl rfl rfl (op_slice_str_b (i := f) (j := i) (by omega) (by omega) ha37 rfl Try.underlying9 rfl rfl rfl (by omega) (by omega)) ?_
    intro a38 ha38; clear ha37 a37
    refine wl_eff ha38 rfl rfl rfl (op_buildSlice (s := shStr) (xs := [(s.take i).drop f]) (cs := [St ((s.take i).drop f)]) (vs := [(0, St ((s.take i).drop f))]) (S := fun _ => False) (le := w12.heap.size) ha38 rfl pos_shStr Try.underlying22 ti9 rfl rfl (by decide) (by kernel_rfl) (Els.single (mk_shStr ((s.take i).drop f) (by first | assumption | omega | (simp; omega)))) (fun _ h => h.elim)) ?_
    rintro v39 w40 ⟨ho41, he42, hob43⟩ a44 ha44; clear ha38 a38
    have hx45 := hx13.trans' he42
    have hzhx45 := he42.size
    replace hf14 := hf14.ext he42
    refine wl_eff ha44 rfl rfl rfl (op_append (ts := #[]) (s := shStr) ha44 rfl Try.underlying22 ti9 rfl pos_shStr rfl rfl hf14 (ho41.rds pos_shStr) (by omega) (by omega) (by first | omega | (simp; omega)) (by first | omega | (simp; omega)) (.inl flat_shStr)) ?_
    rintro v46 w47 ⟨ho48, hst49, hob50⟩ a51 ha51; clear ha44 a44
    have hx52 := hx45.stp hst49 (by intro q hq; have hq0 := hf14.lt q hq; omega)
    have hzhx52 := hst49.size
    replace ho41 := ho41.stp hst49 (by intro q hq; have hq0 := hf14.lt q hq; omega)
    have hsp53 : ∀ q, Value.ownBlock v46 = some q → Value.ownBlock v39 ≠ some q := by intro q hq hb; have hq0 := ho41.lt q hb; rcases hob50 with h | h; (rw [h] at hq; first | (have hq1 := hf14.lt q hq; omega)); (rw [h] at hq; cases hq; omega)
    refine wl_val ha51 rfl rfl rfl (op_assign ha51 rfl rfl) ?_
    intro a54 ha54; clear ha51 a51
    refine wpList_nil ?_
    refine then_n ?_
    refine wp_region_lit ?_
    refine wl_val ha54 rfl rfl rfl (op_move ha54 rfl rfl) ?_
    intro a55 ha55; clear ha54 a54
    refine wl_val ha55 rfl rfl rfl ((op_add ha55 rfl rfl rfl).int (IntWalk.i64_in _ (by omega))) ?_
    intro a56 ha56; clear ha55 a55
    refine wl_val ha56 rfl rfl rfl (op_assign ha56 rfl rfl) ?_
    intro a57 ha57; clear ha56 a56
    refine wpList_nil ?_
    refine block_n ?_
    refine then_n ?_
    refine wp_region_lit ?_
    refine wl_val ha57 rfl rfl rfl (op_move ha57 rfl rfl) ?_
    intro a58 ha58; clear ha57 a57
    refine wl_val ha58 rfl rfl rfl ((op_add ha58 rfl rfl rfl).int (IntWalk.i64_in _ (by omega))) ?_
    intro a59 ha59; clear ha58 a58
    refine wl_val ha59 rfl rfl rfl (op_assign ha59 rfl rfl) ?_
    intro a60 ha60; clear ha59 a59
    refine wpList_nil ?_
    refine round_end (x := (i, f, v, acc)) ((i + 1), (i + 1), v46, (acc ++ [(s.take i).drop f])) ?_ ?_
    ·
     refine ⟨(Sl.cons_ ha60 rfl rfl (Sl.cons_ ha60 rfl rfl (Sl.cons_ ha60 rfl rfl (Sl.cons_ ha60 rfl (int_eq (by omega)) (Sl.cons_ ha60 rfl (int_eq (by omega)) (Sl.nil_ ha60)))))), hx52, (ho48.fin (by omega) (by omega) (by omega)), (by omega), (by omega), (by omega), (by first | omega | (simp; omega)), (by have hd : s.drop i = [] := drop_nil (by omega); rw [if_pos (by omega), hd, spl] at hF; rw [if_neg (by omega)]; exact hF)⟩
    ·show (s.length + 1 - ((i + 1)) : Nat) < s.length + 1 - i; omega
   ·
    rw [decide_eq_false c27] at ha26
    refine wl_val ha26 rfl rfl rfl (op_move ha26 rfl rfl) ?_
    intro a61 ha61; clear ha26 a26
    refine wl_val ha61 rfl rfl rfl (op_move ha61 rfl rfl) ?_
    intro a62 ha62; clear ha61 a61
    obtain ⟨b63, hb63⟩ := get_ex (xs := s) (j := i) (by omega)
    have b63_lt := b63.toNat_lt
    refine wl_val ha62 rfl rfl rfl (op_index_str ha62 rfl Try.underlying9 rfl rfl (by omega) hb63) ?_
    intro a64 ha64; clear ha62 a62
    refine wl_val ha64 rfl rfl rfl (op_move ha64 rfl rfl) ?_
    intro a65 ha65; clear ha64 a64
    refine wl_val ha65 rfl rfl rfl (op_eql ha65 rfl rfl rfl) ?_
    intro a66 ha66; clear ha65 a65
    refine wl_val ha66 rfl rfl rfl (op_pick_f ha66 rfl rfl rfl) ?_
    intro a67 ha67; clear ha66 a66
    refine wpList_nil ?_
    refine then_n ?_
    by_cases c68 : (b63.toNat : Int) = (bt.toNat : Int)
    ·
     rw [decide_eq_true c68] at ha67
     refine cond_t ha67 rfl ?_
     refine wp_seq ?_
     refine wp_region_lit ?_
     refine wl_val ha67 rfl rfl rfl (op_move ha67 rfl rfl) ?_
     intro a69 ha69; clear ha67 a67
     refine wl_val ha69 rfl rfl rfl (op_move ha69 rfl rfl) ?_
     intro a70 ha70; clear ha69 a69
     refine wl_val ha70 rfl rfl rfl (op_move ha70 rfl rfl) ?_
     intro a71 ha71; clear ha70 a70
     refine wl_val ha71 rfl rfl rfl (op_move ha71 rfl rfl) ?_
     intro a72 ha72; clear ha71 a71
     refine wl_val ha72 rfl rfl rfl (op_slice_str_b (i := f) (j := i) (by omega) (by omega) ha72 rfl Try.underlying9 rfl rfl rfl (by omega) (by omega)) ?_
     intro a73 ha73; clear ha72 a72
     refine wl_eff ha73 rfl rfl rfl (op_buildSlice (s := shStr) (xs := [(s.take i).drop f]) (cs := [St ((s.take i).drop f)]) (vs := [(0, St ((s.take i).drop f))]) (S := fun _ => False) (le := w12.heap.size) ha73 rfl pos_shStr Try.underlying22 ti9 rfl rfl (by decide) (by kernel_rfl) (Els.single (mk_shStr ((s.take i).drop f) (by first | assumption | omega | (simp; omega)))) (fun _ h => h.elim)) ?_
     rintro v74 w75 ⟨ho76, he77, hob78⟩ a79 ha79; clear ha73 a73
     have hx80 := hx13.trans' he77
     have hzhx80 := he77.size
     replace hf14 := hf14.ext he77
     refine wl_eff ha79 rfl rfl rfl (op_append (ts := #[]) (s := shStr) ha79 rfl Try.underlying22 ti9 rfl pos_shStr rfl rfl hf14 (ho76.rds pos_shStr) (by omega) (by omega) (by first | omega | (simp; omega)) (by first | omega | (simp; omega)) (.inl flat_shStr)) ?_
     rintro v81 w82 ⟨ho83, hst84, hob85⟩ a86 ha86; clear ha79 a79
     have hx87 := hx80.stp hst84 (by intro q hq; have hq0 := hf14.lt q hq; omega)
     have hzhx87 := hst84.size
     replace ho76 := ho76.stp hst84 (by intro q hq; have hq0 := hf14.lt q hq; omega)
     have hsp88 : ∀ q, Value.ownBlock v81 = some q → Value.ownBlock v74 ≠ some q := by intro q hq hb; have hq0 := ho76.lt q hb; rcases hob85 with h | h; (rw [h] at hq; first | (have hq1 := hf14.lt q hq; omega)); (rw [h] at hq; cases hq; omega)
     refine wl_val ha86 rfl rfl rfl (op_assign ha86 rfl rfl) ?_
     intro a89 ha89; clear ha86 a86
     refine wpList_nil ?_
     refine then_n ?_
     refine wp_region_lit ?_
     refine wl_val ha89 rfl rfl rfl (op_move ha89 rfl rfl) ?_
     intro a90 ha90; clear ha89 a89
     refine wl_val ha90 rfl rfl rfl ((op_add ha90 rfl rfl rfl).int (IntWalk.i64_in _ (by omega))) ?_
     intro a91 ha91; clear ha90 a90
     refine wl_val ha91 rfl rfl rfl (op_assign ha91 rfl rfl) ?_
     intro a92 ha92; clear ha91 a91
     refine wpList_nil ?_
     refine block_n ?_
     refine then_n ?_
     refine wp_region_lit ?_
     refine wl_val ha92 rfl rfl rfl (op_move ha92 rfl rfl) ?_
     intro a93 ha93; clear ha92 a92
     refine wl_val ha93 rfl rfl rfl ((op_add ha93 rfl rfl rfl).int (IntWalk.i64_in _ (by omega))) ?_
     intro a94 ha94; clear ha93 a93
     refine wl_val ha94 rfl rfl rfl (op_assign ha94 rfl rfl) ?_
     intro a95 ha95; clear ha94 a94
     refine wpList_nil ?_
     refine round_end (x := (i, f, v, acc)) ((i + 1), (i + 1), v81, (acc ++ [(s.take i).drop f])) ?_ ?_
     ·
      refine ⟨(Sl.cons_ ha95 rfl rfl (Sl.cons_ ha95 rfl rfl (Sl.cons_ ha95 rfl rfl (Sl.cons_ ha95 rfl (int_eq (by omega)) (Sl.cons_ ha95 rfl (int_eq (by omega)) (Sl.nil_ ha95)))))), hx87, (ho83.fin (by omega) (by omega) (by omega)), (by omega), (by omega), (by omega), (by first | omega | (simp; omega)), (by rw [if_pos (by omega)] at hF ⊢; rw [drop_cons hb63, spl, if_pos (ub c68)] at hF; rw [cut_end, ← hF]; simp)⟩
     ·show (s.length + 1 - ((i + 1)) : Nat) < s.length + 1 - i; omega
    ·
     rw [decide_eq_false c68] at ha67
     refine cond_f ha67 rfl ?_
     refine wp_skip ?_
     refine block_n ?_
     refine then_n ?_
     refine wp_region_lit ?_
     refine wl_val ha67 rfl rfl rfl (op_move ha67 rfl rfl) ?_
     intro a96 ha96; clear ha67 a67
     refine wl_val ha96 rfl rfl rfl ((op_add ha96 rfl rfl rfl).int (IntWalk.i64_in _ (by omega))) ?_
     intro a97 ha97; clear ha96 a96
     refine wl_val ha97 rfl rfl rfl (op_assign ha97 rfl rfl) ?_
     intro a98 ha98; clear ha97 a97
     refine wpList_nil ?_
     refine round_end (x := (i, f, v, acc)) ((i + 1), f, v, acc) ?_ ?_
     ·
      refine ⟨(Sl.cons_ ha98 rfl rfl (Sl.cons_ ha98 rfl rfl (Sl.cons_ ha98 rfl rfl (Sl.cons_ ha98 rfl (int_eq (by omega)) (Sl.cons_ ha98 rfl (int_eq (by omega)) (Sl.nil_ ha98)))))), hx13, (hf14.fin (by omega) (by omega) (by omega)), (by omega), (by omega), (by omega), (by first | omega | (simp; omega)), (by rw [if_pos (by omega)] at hF ⊢; rw [drop_cons hb63, spl, if_neg (fun e => c68 (by rw [e]))] at hF; rw [cut_snoc (by omega) hb63]; exact hF)⟩
     ·show (s.length + 1 - ((i + 1)) : Nat) < s.length + 1 - i; omega
  ·
   rw [decide_eq_false c21] at ha20
   refine cond_f ha20 rfl ?_
   refine wp_exit ?_
   refine then_e ?_
   refine then_e ?_
   refine block_hit ?_
   refine then_n ?_
   refine wp_seq ?_
   refine wp_region_lit ?_
   refine wl_val ha20 rfl rfl rfl (op_move ha20 rfl rfl) ?_
   intro a99 ha99; clear ha20 a20
   refine wl_val ha99 rfl rfl rfl (op_assign ha99 rfl rfl) ?_
   intro a100 ha100; clear ha99 a99
   refine wpList_nil ?_
   refine then_n ?_
   refine wp_ret ?_
   refine ret1 ha100 rfl rfl ?_
   clear ha100 a100
   refine ret_mk hx13 ?_
   refine (hf14.fin (by omega) (by omega) (by omega)).cast ?_
   rw [if_neg (by omega)] at hF; exact hF


end Go.Proofs.Ytjpldgicibnkcaa
