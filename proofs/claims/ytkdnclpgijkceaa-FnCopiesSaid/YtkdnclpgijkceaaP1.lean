/- Pieces of a file. -/
import Derived.Test.YtkdnclpgijkceaaW1
namespace Go.Proofs.Ytkdnclpgijkceaa
open Go Go.RowKit

def pcGo : Str → Str → List Str
  | cur, [] => if cur = [] then [] else [cur]
  | cur, b :: s => if b = 10 then (cur ++ [b]) :: pcGo [] s else pcGo (cur ++ [b]) s
def pcS (s : Str) : List Str := pcGo [] s
theorem pcGo_flat : ∀ (s cur : Str), (pcGo cur s).flatten = cur ++ s
  | [], cur => by unfold pcGo; split <;> simp_all
  | b :: s, cur => by
    unfold pcGo; split
    · simp [pcGo_flat s []]
    · rw [pcGo_flat s]; simp
theorem pcS_flat (s : Str) : (pcS s).flatten = s := by unfold pcS; rw [pcGo_flat]; simp
theorem pcGo_ne : ∀ (s cur : Str), ∀ p ∈ pcGo cur s, 1 ≤ p.length
  | [], cur, p, h => by
    unfold pcGo at h; split at h
    · simp at h
    · simp at h; subst h; exact List.length_pos_iff.2 ‹_›
  | b :: s, cur, p, h => by
    unfold pcGo at h; split at h
    · rcases List.mem_cons.1 h with rfl | h
      · simp
      · exact pcGo_ne s _ p h
    · exact pcGo_ne s _ p h
theorem flat_len : ∀ (ps : List Str), (∀ p ∈ ps, 1 ≤ p.length) → ps.length ≤ ps.flatten.length
  | [], _ => by simp
  | p :: ps, h => by
    have h1 := h p (by simp)
    have h2 := flat_len ps (fun q hq => h q (by simp [hq]))
    rw [List.flatten_cons, List.length_append, List.length_cons]; omega
theorem pcS_len (s : Str) : (pcS s).length ≤ s.length := by
  have := flat_len (pcS s) (pcGo_ne s [])
  rwa [pcS_flat] at this
theorem pc_cut {s : Str} {f i : Nat} {b : UInt8} (h : s[i]? = some b) (hf : f ≤ i) : (s.take (i + 1)).drop f = (s.take i).drop f ++ [b] := by
  obtain ⟨hlt, _⟩ := List.getElem?_eq_some_iff.1 h
  rw [take_snoc h, List.drop_append_of_le_length (by rw [List.length_take]; omega)]
theorem pc_nl {s : Str} {f i : Nat} {b : UInt8} {acc : List Str} (h : s[i]? = some b) (hf : f ≤ i) (e : (b.toNat : Int) = 10) (hF : acc ++ pcGo ((s.take i).drop f) (s.drop i) = pcS s) :
    (acc ++ [(s.take (i + 1)).drop f]) ++ pcGo ((s.take (i + 1)).drop (i + 1)) (s.drop (i + 1)) = pcS s := by
  have e' : b = 10 := by apply UInt8.toNat_inj.1; show b.toNat = 10; omega
  rw [drop_cons h, pcGo, if_pos e', ← pc_cut h hf] at hF
  have e2 : (s.take (i + 1)).drop (i + 1) = [] := List.drop_of_length_le (by rw [List.length_take]; omega)
  rw [e2, ← hF]; simp
theorem pc_no {s : Str} {f i : Nat} {b : UInt8} {acc : List Str} (h : s[i]? = some b) (hf : f ≤ i) (e : ¬ (b.toNat : Int) = 10) (hF : acc ++ pcGo ((s.take i).drop f) (s.drop i) = pcS s) :
    acc ++ pcGo ((s.take (i + 1)).drop f) (s.drop (i + 1)) = pcS s := by
  have e' : ¬ b = 10 := fun q => e (by subst q; rfl)
  rw [drop_cons h, pcGo, if_neg e', ← pc_cut h hf] at hF
  exact hF
theorem pc_end {s : Str} {f i : Nat} {acc : List Str} (hi : i ≤ s.length) (hn : s.length ≤ i) (hF : acc ++ pcGo ((s.take i).drop f) (s.drop i) = pcS s) : if f < s.length then acc ++ [s.drop f] = pcS s else acc = pcS s := by
  rw [drop_nil hn, List.take_of_length_le hn, pcGo] at hF
  split
  · rw [if_neg (by intro q; have := congrArg List.length q; simp at this; omega)] at hF; exact hF
  · rw [if_pos (List.drop_of_length_le (by omega)), List.append_nil] at hF; exact hF

theorem c_impl_pieces (w0 : World) (s : Str) (g0 : s.length ≤ 1048576) :
  Calls Try.prog 71 #[St s] w0 (Ret w0 (fun v w1 => Own shStr 9 w0.heap.size w0.heap.size w1.heap.size w1 v (pcS s))) := by
 refine enter (N := 37) Try.func71 rfl rfl rfl ?_
 intro a0 ha0
 have hx0 := Ext.rfl' w0
 refine wp_seq ?_
 refine wp_region_lit ?_
 refine wl_val ha0 rfl rfl rfl (op_assign ha0 rfl rfl) ?_
 intro a1 ha1; clear ha0 a0
 refine wpList_nil ?_
 refine then_n ?_
 refine wp_seq ?_
 refine wp_region_lit ?_
 refine wl_val ha1 rfl rfl rfl (op_assign ha1 rfl rfl) ?_
 intro a2 ha2; clear ha1 a1
 refine wpList_nil ?_
 refine then_n ?_
 refine wp_seq ?_
 refine wp_region_lit ?_
 refine wl_val ha2 rfl rfl rfl (op_assign ha2 rfl rfl) ?_
 intro a3 ha3; clear ha2 a2
 refine wpList_nil ?_
 refine then_n ?_
 refine wp_seq ?_
 refine wp_seq ?_
 refine wp_region_lit ?_
 refine wl_val ha3 rfl rfl rfl (op_assign ha3 rfl rfl) ?_
 intro a4 ha4; clear ha3 a3
 refine wpList_nil ?_
 refine then_n ?_
 refine wp_block ?_
 refine loop_inv (X := Nat × Nat × Value × (List Str)) (fun (⟨i, f, v, acc⟩ : Nat × Nat × Value × (List Str)) fr wl => Sl 37 fr [(0, St s), (3, v), (4, .int .i64 ((f : Nat) : Int)), (5, .int .i64 ((i : Nat) : Int))] ∧ Ext w0 wl ∧ Own shStr 9 w0.heap.size w0.heap.size wl.heap.size wl v acc ∧ w0.heap.size ≤ wl.heap.size ∧ (i ≤ s.length) ∧ (f ≤ i) ∧ (acc.length ≤ i) ∧ (acc ++ pcGo ((s.take i).drop f) (s.drop i) = pcS s)) (fun (⟨i, f, v, acc⟩ : Nat × Nat × Value × (List Str)) => s.length - i) (0, 0, (.slice none 0 0), []) ?_ ?_
 ·
  exact ⟨(Sl.cons_ ha4 rfl rfl (Sl.cons_ ha4 rfl rfl (Sl.cons_ ha4 rfl (int_eq (by omega)) (Sl.cons_ ha4 rfl (int_eq (by omega)) (Sl.nil_ ha4))))), hx0, (Own.nil _ _ _ _ _ _), (by omega), (by omega), (by omega), (by simp), (by simp [pcS])⟩
 ·
  clear ha4 a4
  rintro ⟨i, f, v, acc⟩ a8 w5 ⟨ha8, hx6, hf7, hzl9, hi, hf, hl, hF⟩
  have hzhx6 := hx6.size
  refine wp_seq ?_
  refine wp_seq ?_
  refine wp_region_lit ?_
  refine wl_val ha8 rfl rfl rfl (op_move ha8 rfl rfl) ?_
  intro a10 ha10; clear ha8 a8
  refine wl_val ha10 rfl rfl rfl (op_move ha10 rfl rfl) ?_
  intro a11 ha11; clear ha10 a10
  refine wl_val ha11 rfl rfl rfl (op_len_str ha11 rfl Try.underlying9 rfl) ?_
  intro a12 ha12; clear ha11 a11
  refine wl_val ha12 rfl rfl rfl (op_lss ha12 rfl rfl rfl) ?_
  intro a13 ha13; clear ha12 a12
  refine wpList_nil ?_
  refine then_n ?_
  by_cases c14 : ((i : Nat) : Int) < ((s.length : Nat) : Int)
  ·
   rw [decide_eq_true c14] at ha13
   refine cond_t ha13 rfl ?_
   refine wp_skip ?_
   refine then_n ?_
   refine wp_seq ?_
   refine wp_block ?_
   refine wp_seq ?_
   refine wp_region_lit ?_
   refine wl_val ha13 rfl rfl rfl (op_move ha13 rfl rfl) ?_
   intro a15 ha15; clear ha13 a13
   refine wl_val ha15 rfl rfl rfl (op_move ha15 rfl rfl) ?_
   intro a16 ha16; clear ha15 a15
   obtain ⟨b17, hb17⟩ := get_ex (xs := s) (j := i) (by omega)
   have b17_lt := b17.toNat_lt
   refine wl_val ha16 rfl rfl rfl (op_index_str ha16 rfl Try.underlying9 rfl rfl (by omega) hb17) ?_
   intro a18 ha18; clear ha16 a16
   refine wl_val ha18 rfl rfl rfl (op_eql ha18 rfl rfl rfl) ?_
   intro a19 ha19; clear ha18 a18
   refine wpList_nil ?_
   refine then_n ?_
   by_cases c20 : (b17.toNat : Int) = (10 : Int)
   ·
    rw [decide_eq_true c20] at ha19
    refine cond_t ha19 rfl ?_
    refine wp_seq ?_
    refine wp_region_lit ?_
    refine wl_val ha19 rfl rfl rfl (op_move ha19 rfl rfl) ?_
    intro a21 ha21; clear ha19 a19
    refine wl_val ha21 rfl rfl rfl (op_move ha21 rfl rfl) ?_
    intro a22 ha22; clear ha21 a21
    refine wl_val ha22 rfl rfl rfl (op_move ha22 rfl rfl) ?_
    intro a23 ha23; clear ha22 a22
    refine wl_val ha23 rfl rfl rfl (op_move ha23 rfl rfl) ?_
    intro a24 ha24; clear ha23 a23
    refine wl_val ha24 rfl rfl rfl ((op_add ha24 rfl rfl rfl).int (IntWalk.i64_in _ (by omega))) ?_
    intro a25 ha25; clear ha24 a24
    refine wl_val ha25 rfl rfl rfl (op_slice_str_b (i := f) (j := (i + 1)) (by omega) (by omega) ha25 rfl Try.underlying9 rfl rfl rfl (by omega) (by omega)) ?_
    intro a26 ha26; clear ha25 a25
    refine wl_eff ha26 rfl rfl rfl (op_buildSlice (s := shStr) (xs := [(s.take ((i + 1))).drop f]) (cs := [St ((s.take ((i + 1))).drop f)]) (vs := [(0, St ((s.take ((i + 1))).drop f))]) (S := fun _ => False) (le := w5.heap.size) ha26 rfl pos_shStr Try.underlying82 ti9 rfl rfl (by decide) (by kernel_rfl) (Els.single (mk_shStr ((s.take ((i + 1))).drop f) (by first | assumption | omega | (simp; omega)))) (fun _ h => h.elim)) ?_
    rintro v27 w28 ⟨ho29, he30, hob31⟩ a32 ha32; clear ha26 a26
    have hx33 := hx6.trans' he30
    have hzhx33 := he30.size
    replace hf7 := hf7.ext he30
    refine wl_eff ha32 rfl rfl rfl (op_append (ts := #[]) (s := shStr) ha32 rfl Try.underlying82 ti9 rfl pos_shStr rfl rfl hf7 (ho29.rds pos_shStr) (by omega) (by omega) (by first | omega | (simp; omega)) (by first | omega | (simp; omega)) (.inl flat_shStr)) ?_
    rintro v34 w35 ⟨ho36, hst37, hob38⟩ a39 ha39; clear ha32 a32
    have hx40 := hx33.stp hst37 (by intro q hq; have hq0 := hf7.lt q hq; omega)
    have hzhx40 := hst37.size
    replace ho29 := ho29.stp hst37 (by intro q hq; have hq0 := hf7.lt q hq; omega)
    have hsp41 : ∀ q, Value.ownBlock v34 = some q → Value.ownBlock v27 ≠ some q := by intro q hq hb; have hq0 := ho29.lt q hb; rcases hob38 with h | h; (rw [h] at hq; first | (have hq1 := hf7.lt q hq; omega)); (rw [h] at hq; cases hq; omega)
    refine wl_val ha39 rfl rfl rfl (op_assign ha39 rfl rfl) ?_
    intro a42 ha42; clear ha39 a39
    refine wpList_nil ?_
    refine then_n ?_
    refine wp_region_lit ?_
    refine wl_val ha42 rfl rfl rfl (op_move ha42 rfl rfl) ?_
    intro a43 ha43; clear ha42 a42
    refine wl_val ha43 rfl rfl rfl ((op_add ha43 rfl rfl rfl).int (IntWalk.i64_in _ (by omega))) ?_
    intro a44 ha44; clear ha43 a43
    refine wl_val ha44 rfl rfl rfl (op_assign ha44 rfl rfl) ?_
    intro a45 ha45; clear ha44 a44
    refine wpList_nil ?_
    refine block_n ?_
    refine then_n ?_
    refine wp_region_lit ?_
    refine wl_val ha45 rfl rfl rfl (op_move ha45 rfl rfl) ?_
    intro a46 ha46; clear ha45 a45
    refine wl_val ha46 rfl rfl rfl ((op_add ha46 rfl rfl rfl).int (IntWalk.i64_in _ (by omega))) ?_
    intro a47 ha47; clear ha46 a46
    refine wl_val ha47 rfl rfl rfl (op_assign ha47 rfl rfl) ?_
    intro a48 ha48; clear ha47 a47
    refine wpList_nil ?_
    refine round_end (x := (i, f, v, acc)) ((i + 1), (i + 1), v34, (acc ++ [(s.take ((i + 1))).drop f])) ?_ ?_
    ·
     refine ⟨(Sl.cons_ ha48 rfl rfl (Sl.cons_ ha48 rfl rfl (Sl.cons_ ha48 rfl (int_eq (by omega)) (Sl.cons_ ha48 rfl (int_eq (by omega)) (Sl.nil_ ha48))))), hx40, (ho36.fin (by omega) (by omega) (by omega)), (by omega), (by omega), (by omega), (by first | omega | (simp; omega)), (by exact pc_nl hb17 (by omega) c20 hF)⟩
    ·show (s.length - ((i + 1)) : Nat) < s.length - i; omega
   ·
    rw [decide_eq_false c20] at ha19
    refine cond_f ha19 rfl ?_
    refine wp_skip ?_
    refine block_n ?_
    refine then_n ?_
    refine wp_region_lit ?_
    refine wl_val ha19 rfl rfl rfl (op_move ha19 rfl rfl) ?_
    intro a49 ha49; clear ha19 a19
    refine wl_val ha49 rfl rfl rfl ((op_add ha49 rfl rfl rfl).int (IntWalk.i64_in _ (by omega))) ?_
    intro a50 ha50; clear ha49 a49
    refine wl_val ha50 rfl rfl rfl (op_assign ha50 rfl rfl) ?_
    intro a51 ha51; clear ha50 a50
    refine wpList_nil ?_
    refine round_end (x := (i, f, v, acc)) ((i + 1), f, v, acc) ?_ ?_
    ·
     refine ⟨(Sl.cons_ ha51 rfl rfl (Sl.cons_ ha51 rfl rfl (Sl.cons_ ha51 rfl (int_eq (by omega)) (Sl.cons_ ha51 rfl (int_eq (by omega)) (Sl.nil_ ha51))))), hx6, (hf7.fin (by omega) (by omega) (by omega)), (by omega), (by omega), (by omega), (by first | omega | (simp; omega)), (by exact pc_no hb17 (by omega) c20 hF)⟩
    ·show (s.length - ((i + 1)) : Nat) < s.length - i; omega
  ·
   rw [decide_eq_false c14] at ha13
   refine cond_f ha13 rfl ?_
   refine wp_exit ?_
   refine then_e ?_
   refine then_e ?_
   refine block_hit ?_
   refine then_n ?_
   refine wp_seq ?_
   refine wp_seq ?_
   refine wp_region_lit ?_
   refine wl_val ha13 rfl rfl rfl (op_move ha13 rfl rfl) ?_
   intro a52 ha52; clear ha13 a13
   refine wl_val ha52 rfl rfl rfl (op_move ha52 rfl rfl) ?_
   intro a53 ha53; clear ha52 a52
   refine wl_val ha53 rfl rfl rfl (op_len_str ha53 rfl Try.underlying9 rfl) ?_
   intro a54 ha54; clear ha53 a53
   refine wl_val ha54 rfl rfl rfl (op_lss ha54 rfl rfl rfl) ?_
   intro a55 ha55; clear ha54 a54
   refine wpList_nil ?_
   refine then_n ?_
   by_cases c56 : ((f : Nat) : Int) < ((s.length : Nat) : Int)
   ·
    rw [decide_eq_true c56] at ha55
    refine cond_t ha55 rfl ?_
    refine wp_region_lit ?_
    refine wl_val ha55 rfl rfl rfl (op_move ha55 rfl rfl) ?_
    intro a57 ha57; clear ha55 a55
    refine wl_val ha57 rfl rfl rfl (op_move ha57 rfl rfl) ?_
    intro a58 ha58; clear ha57 a57
    refine wl_val ha58 rfl rfl rfl (op_move ha58 rfl rfl) ?_
    intro a59 ha59; clear ha58 a58
    refine wl_val ha59 rfl rfl rfl (op_slice_str_f (i := f) (by omega) ha59 rfl Try.underlying9 rfl rfl (by omega)) ?_
    intro a60 ha60; clear ha59 a59
    refine wl_eff ha60 rfl rfl rfl (op_buildSlice (s := shStr) (xs := [s.drop f]) (cs := [St (s.drop f)]) (vs := [(0, St (s.drop f))]) (S := fun _ => False) (le := w5.heap.size) ha60 rfl pos_shStr Try.underlying82 ti9 rfl rfl (by decide) (by kernel_rfl) (Els.single (mk_shStr (s.drop f) (by first | assumption | omega | (simp; omega)))) (fun _ h => h.elim)) ?_
    rintro v61 w62 ⟨ho63, he64, hob65⟩ a66 ha66; clear ha60 a60
    have hx67 := hx6.trans' he64
    have hzhx67 := he64.size
    replace hf7 := hf7.ext he64
    refine wl_eff ha66 rfl rfl rfl (op_append (ts := #[]) (s := shStr) ha66 rfl Try.underlying82 ti9 rfl pos_shStr rfl rfl hf7 (ho63.rds pos_shStr) (by omega) (by omega) (by first | omega | (simp; omega)) (by first | omega | (simp; omega)) (.inl flat_shStr)) ?_
    rintro v68 w69 ⟨ho70, hst71, hob72⟩ a73 ha73; clear ha66 a66
    have hx74 := hx67.stp hst71 (by intro q hq; have hq0 := hf7.lt q hq; omega)
    have hzhx74 := hst71.size
    replace ho63 := ho63.stp hst71 (by intro q hq; have hq0 := hf7.lt q hq; omega)
    have hsp75 : ∀ q, Value.ownBlock v68 = some q → Value.ownBlock v61 ≠ some q := by intro q hq hb; have hq0 := ho63.lt q hb; rcases hob72 with h | h; (rw [h] at hq; first | (have hq1 := hf7.lt q hq; omega)); (rw [h] at hq; cases hq; omega)
    refine wl_val ha73 rfl rfl rfl (op_assign ha73 rfl rfl) ?_
    intro a76 ha76; clear ha73 a73
    refine wpList_nil ?_
    refine then_n ?_
    refine wp_seq ?_
    refine wp_region_lit ?_
    refine wl_val ha76 rfl rfl rfl (op_move ha76 rfl rfl) ?_
    intro a77 ha77; clear ha76 a76
    refine wl_val ha77 rfl rfl rfl (op_assign ha77 rfl rfl) ?_
    intro a78 ha78; clear ha77 a77
    refine wpList_nil ?_
    refine then_n ?_
    refine wp_ret ?_
    refine ret1 ha78 rfl rfl ?_
    clear ha78 a78
    have hE := pc_end hi (by omega) hF
    first | rw [if_pos (by omega)] at hE | rw [if_neg (by omega)] at hE
    refine ret_mk hx74 ?_
    refine (ho70.fin (by omega) (by omega) (by omega)).cast ?_
    exact hE
   ·
    rw [decide_eq_false c56] at ha55
    refine cond_f ha55 rfl ?_
    refine wp_skip ?_
    refine then_n ?_
    refine wp_seq ?_
    refine wp_region_lit ?_
    refine wl_val ha55 rfl rfl rfl (op_move ha55 rfl rfl) ?_
    intro a79 ha79; clear ha55 a55
    refine wl_val ha79 rfl rfl rfl (op_assign ha79 rfl rfl) ?_
    intro a80 ha80; clear ha79 a79
    refine wpList_nil ?_
    refine then_n ?_
    refine wp_ret ?_
    refine ret1 ha80 rfl rfl ?_
    clear ha80 a80
    have hE := pc_end hi (by omega) hF
    first | rw [if_pos (by omega)] at hE | rw [if_neg (by omega)] at hE
    refine ret_mk hx6 ?_
    refine (hf7.fin (by omega) (by omega) (by omega)).cast ?_
    exact hE

theorem c_spec_l32Pieces (w0 : World) (s : Str) (g0 : s.length ≤ 1048576) :
  Calls Try.prog 69 #[St s] w0 (Ret w0 (fun v w1 => Own shStr 9 w0.heap.size w0.heap.size w1.heap.size w1 v (pcS s))) := by
 refine enter (N := 38) Try.func69 rfl rfl rfl ?_
 intro a0 ha0
 have hx0 := Ext.rfl' w0
 refine wp_seq ?_
 refine wp_region_lit ?_
 refine wl_val ha0 rfl rfl rfl (op_assign ha0 rfl rfl) ?_
 intro a1 ha1; clear ha0 a0
 refine wpList_nil ?_
 refine then_n ?_
 refine wp_seq ?_
 refine wp_region_lit ?_
 refine wl_eff ha1 rfl rfl rfl (op_buildSlice (s := shStr) (xs := ([] : List Str)) (cs := []) (vs := []) (S := fun _ => False) (le := w0.heap.size) ha1 rfl pos_shStr Try.underlying82 ti9 rfl rfl (by decide) (by kernel_rfl) rfl (fun _ h => h.elim)) ?_
 rintro v2 w3 ⟨ho4, he5, hob6⟩ a7 ha7; clear ha1 a1
 have hx8 := hx0.trans' he5
 have hzhx8 := he5.size
 refine wl_val ha7 rfl rfl rfl (op_assign ha7 rfl rfl) ?_
 intro a9 ha9; clear ha7 a7
 refine wpList_nil ?_
 refine then_n ?_
 refine wp_seq ?_
 refine wp_region_lit ?_
 refine wl_val ha9 rfl rfl rfl (op_assign ha9 rfl rfl) ?_
 intro a10 ha10; clear ha9 a9
 refine wpList_nil ?_
 refine then_n ?_
 refine wp_seq ?_
 refine wp_seq ?_
 refine wp_region_lit ?_
 refine wl_val ha10 rfl rfl rfl (op_assign ha10 rfl rfl) ?_
 intro a11 ha11; clear ha10 a10
 refine wpList_nil ?_
 refine then_n ?_
 refine wp_block ?_
 refine loop_inv (X := Nat × Nat × Value × (List Str)) (fun (⟨i, f, v, acc⟩ : Nat × Nat × Value × (List Str)) fr wl => Sl 38 fr [(0, St s), (3, v), (4, .int .i64 ((f : Nat) : Int)), (5, .int .i64 ((i : Nat) : Int))] ∧ Ext w0 wl ∧ Own shStr 9 w0.heap.size w0.heap.size wl.heap.size wl v acc ∧ w3.heap.size ≤ wl.heap.size ∧ (i ≤ s.length) ∧ (f ≤ i) ∧ (acc.length ≤ i) ∧ (acc ++ pcGo ((s.take i).drop f) (s.drop i) = pcS s)) (fun (⟨i, f, v, acc⟩ : Nat × Nat × Value × (List Str)) => s.length - i) (0, 0, v2, ([] : List Str)) ?_ ?_
 ·
  exact ⟨(Sl.cons_ ha11 rfl rfl (Sl.cons_ ha11 rfl rfl (Sl.cons_ ha11 rfl (int_eq (by omega)) (Sl.cons_ ha11 rfl (int_eq (by omega)) (Sl.nil_ ha11))))), hx8, (ho4.fin (by omega) (by omega) (by omega)), (by omega), (by omega), (by omega), (by simp), (by simp [pcS])⟩
 ·
  clear ha11 a11
  rintro ⟨i, f, v, acc⟩ a15 w12 ⟨ha15, hx13, hf14, hzl16, hi, hf, hl, hF⟩
  have hzhx13 := hx13.size
  refine wp_seq ?_
  refine wp_seq ?_
  refine wp_region_lit ?_
  refine wl_val ha15 rfl rfl rfl (op_move ha15 rfl rfl) ?_
  intro a17 ha17; clear ha15 a15
  refine wl_val ha17 rfl rfl rfl (op_move ha17 rfl rfl) ?_
  intro a18 ha18; clear ha17 a17
  refine wl_val ha18 rfl rfl rfl (op_len_str ha18 rfl Try.underlying9 rfl) ?_
  intro a19 ha19; clear ha18 a18
  refine wl_val ha19 rfl rfl rfl (op_lss ha19 rfl rfl rfl) ?_
  intro a20 ha20; clear ha19 a19
  refine wpList_nil ?_
  refine then_n ?_
  by_cases c21 : ((i : Nat) : Int) < ((s.length : Nat) : Int)
  ·
   rw [decide_eq_true c21] at ha20
   refine cond_t ha20 rfl ?_
   refine wp_skip ?_
   refine then_n ?_
   refine wp_seq ?_
   refine wp_block ?_
   refine wp_seq ?_
   refine wp_region_lit ?_
   refine wl_val ha20 rfl rfl rfl (op_move ha20 rfl rfl) ?_
   intro a22 ha22; clear ha20 a20
   refine wl_val ha22 rfl rfl rfl (op_move ha22 rfl rfl) ?_
   intro a23 ha23; clear ha22 a22
   obtain ⟨b24, hb24⟩ := get_ex (xs := s) (j := i) (by omega)
   have b24_lt := b24.toNat_lt
   refine wl_val ha23 rfl rfl rfl (op_index_str ha23 rfl Try.underlying9 rfl rfl (by omega) hb24) ?_
   intro a25 ha25; clear ha23 a23
   refine wl_val ha25 rfl rfl rfl (op_eql ha25 rfl rfl rfl) ?_
   intro a26 ha26; clear ha25 a25
   refine wpList_nil ?_
   refine then_n ?_
   by_cases c27 : (b24.toNat : Int) = (10 : Int)
   ·
    rw [decide_eq_true c27] at ha26
    refine cond_t ha26 rfl ?_
    refine wp_seq ?_
    refine wp_region_lit ?_
    refine wl_val ha26 rfl rfl rfl (op_move ha26 rfl rfl) ?_
    intro a28 ha28; clear ha26 a26
    refine wl_val ha28 rfl rfl rfl (op_move ha28 rfl rfl) ?_
    intro a29 ha29; clear ha28 a28
    refine wl_val ha29 rfl rfl rfl (op_move ha29 rfl rfl) ?_
    intro a30 ha30; clear ha29 a29
    refine wl_val ha30 rfl rfl rfl (op_move ha30 rfl rfl) ?_
    intro a31 ha31; clear ha30 a30
    refine wl_val ha31 rfl rfl rfl ((op_add ha31 rfl rfl rfl).int (IntWalk.i64_in _ (by omega))) ?_
    intro a32 ha32; clear ha31 a31
    refine wl_val ha32 rfl rfl rfl (op_slice_str_b (i := f) (j := (i + 1)) (by omega) (by omega) ha32 rfl Try.underlying9 rfl rfl rfl (by omega) (by omega)) ?_
    intro a33 ha33; clear ha32 a32
    refine wl_eff ha33 rfl rfl rfl (op_buildSlice (s := shStr) (xs := [(s.take ((i + 1))).drop f]) (cs := [St ((s.take ((i + 1))).drop f)]) (vs := [(0, St ((s.take ((i + 1))).drop f))]) (S := fun _ => False) (le := w12.heap.size) ha33 rfl pos_shStr Try.underlying82 ti9 rfl rfl (by decide) (by kernel_rfl) (Els.single (mk_shStr ((s.take ((i + 1))).drop f) (by first | assumption | omega | (simp; omega)))) (fun _ h => h.elim)) ?_
    rintro v34 w35 ⟨ho36, he37, hob38⟩ a39 ha39; clear ha33 a33
    have hx40 := hx13.trans' he37
    have hzhx40 := he37.size
    replace hf14 := hf14.ext he37
    refine wl_eff ha39 rfl rfl rfl (op_append (ts := #[]) (s := shStr) ha39 rfl Try.underlying82 ti9 rfl pos_shStr rfl rfl hf14 (ho36.rds pos_shStr) (by omega) (by omega) (by first | omega | (simp; omega)) (by first | omega | (simp; omega)) (.inl flat_shStr)) ?_
    rintro v41 w42 ⟨ho43, hst44, hob45⟩ a46 ha46; clear ha39 a39
    have hx47 := hx40.stp hst44 (by intro q hq; have hq0 := hf14.lt q hq; omega)
    have hzhx47 := hst44.size
    replace ho36 := ho36.stp hst44 (by intro q hq; have hq0 := hf14.lt q hq; omega)
    have hsp48 : ∀ q, Value.ownBlock v41 = some q → Value.ownBlock v34 ≠ some q := by intro q hq hb; have hq0 := ho36.lt q hb; rcases hob45 with h | h; (rw [h] at hq; first | (have hq1 := hf14.lt q hq; omega)); (rw [h] at hq; cases hq; omega)
    refine wl_val ha46 rfl rfl rfl (op_assign ha46 rfl rfl) ?_
    intro a49 ha49; clear ha46 a46
    refine wpList_nil ?_
    refine then_n ?_
    refine wp_region_lit ?_
    refine wl_val ha49 rfl rfl rfl (op_move ha49 rfl rfl) ?_
    intro a50 ha50; clear ha49 a49
    refine wl_val ha50 rfl rfl rfl ((op_add ha50 rfl rfl rfl).int (IntWalk.i64_in _ (by omega))) ?_
    intro a51 ha51; clear ha50 a50
    refine wl_val ha51 rfl rfl rfl (op_assign ha51 rfl rfl) ?_
    intro a52 ha52; clear ha51 a51
    refine wpList_nil ?_
    refine block_n ?_
    refine then_n ?_
    refine wp_region_lit ?_
    refine wl_val ha52 rfl rfl rfl (op_move ha52 rfl rfl) ?_
    intro a53 ha53; clear ha52 a52
    refine wl_val ha53 rfl rfl rfl ((op_add ha53 rfl rfl rfl).int (IntWalk.i64_in _ (by omega))) ?_
    intro a54 ha54; clear ha53 a53
    refine wl_val ha54 rfl rfl rfl (op_assign ha54 rfl rfl) ?_
    intro a55 ha55; clear ha54 a54
    refine wpList_nil ?_
    refine round_end (x := (i, f, v, acc)) ((i + 1), (i + 1), v41, (acc ++ [(s.take ((i + 1))).drop f])) ?_ ?_
    ·
     refine ⟨(Sl.cons_ ha55 rfl rfl (Sl.cons_ ha55 rfl rfl (Sl.cons_ ha55 rfl (int_eq (by omega)) (Sl.cons_ ha55 rfl (int_eq (by omega)) (Sl.nil_ ha55))))), hx47, (ho43.fin (by omega) (by omega) (by omega)), (by omega), (by omega), (by omega), (by first | omega | (simp; omega)), (by exact pc_nl hb24 (by omega) c27 hF)⟩
    ·show (s.length - ((i + 1)) : Nat) < s.length - i; omega
   ·
    rw [decide_eq_false c27] at ha26
    refine cond_f ha26 rfl ?_
    refine wp_skip ?_
    refine block_n ?_
    refine then_n ?_
    refine wp_region_lit ?_
    refine wl_val ha26 rfl rfl rfl (op_move ha26 rfl rfl) ?_
    intro a56 ha56; clear ha26 a26
    refine wl_val ha56 rfl rfl rfl ((op_add ha56 rfl rfl rfl).int (IntWalk.i64_in _ (by omega))) ?_
    intro a57 ha57; clear ha56 a56
    refine wl_val ha57 rfl rfl rfl (op_assign ha57 rfl rfl) ?_
    intro a58 ha58; clear ha57 a57
    refine wpList_nil ?_
    refine round_end (x := (i, f, v, acc)) ((i + 1), f, v, acc) ?_ ?_
    ·
     refine ⟨(Sl.cons_ ha58 rfl rfl (Sl.cons_ ha58 rfl rfl (Sl.cons_ ha58 rfl (int_eq (by omega)) (Sl.cons_ ha58 rfl (int_eq (by omega)) (Sl.nil_ ha58))))), hx13, (hf14.fin (by omega) (by omega) (by omega)), (by omega), (by omega), (by omega), (by first | omega | (simp; omega)), (by exact pc_no hb24 (by omega) c27 hF)⟩
    ·show (s.length - ((i + 1)) : Nat) < s.length - i; omega
  ·
   rw [decide_eq_false c21] at ha20
   refine cond_f ha20 rfl ?_
   refine wp_exit ?_
   refine then_e ?_
   refine then_e ?_
   refine block_hit ?_
   refine then_n ?_
   refine wp_seq ?_
   refine wp_seq ?_
   refine wp_region_lit ?_
   refine wl_val ha20 rfl rfl rfl (op_move ha20 rfl rfl) ?_
   intro a59 ha59; clear ha20 a20
   refine wl_val ha59 rfl rfl rfl (op_move ha59 rfl rfl) ?_
   intro a60 ha60; clear ha59 a59
   refine wl_val ha60 rfl rfl rfl (op_len_str ha60 rfl Try.underlying9 rfl) ?_
   intro a61 ha61; clear ha60 a60
   refine wl_val ha61 rfl rfl rfl (op_lss ha61 rfl rfl rfl) ?_
   intro a62 ha62; clear ha61 a61
   refine wpList_nil ?_
   refine then_n ?_
   by_cases c63 : ((f : Nat) : Int) < ((s.length : Nat) : Int)
   ·
    rw [decide_eq_true c63] at ha62
    refine cond_t ha62 rfl ?_
    refine wp_region_lit ?_
    refine wl_val ha62 rfl rfl rfl (op_move ha62 rfl rfl) ?_
    intro a64 ha64; clear ha62 a62
    refine wl_val ha64 rfl rfl rfl (op_move ha64 rfl rfl) ?_
    intro a65 ha65; clear ha64 a64
    refine wl_val ha65 rfl rfl rfl (op_move ha65 rfl rfl) ?_
    intro a66 ha66; clear ha65 a65
    refine wl_val ha66 rfl rfl rfl (op_slice_str_f (i := f) (by omega) ha66 rfl Try.underlying9 rfl rfl (by omega)) ?_
    intro a67 ha67; clear ha66 a66
    refine wl_eff ha67 rfl rfl rfl (op_buildSlice (s := shStr) (xs := [s.drop f]) (cs := [St (s.drop f)]) (vs := [(0, St (s.drop f))]) (S := fun _ => False) (le := w12.heap.size) ha67 rfl pos_shStr Try.underlying82 ti9 rfl rfl (by decide) (by kernel_rfl) (Els.single (mk_shStr (s.drop f) (by first | assumption | omega | (simp; omega)))) (fun _ h => h.elim)) ?_
    rintro v68 w69 ⟨ho70, he71, hob72⟩ a73 ha73; clear ha67 a67
    have hx74 := hx13.trans' he71
    have hzhx74 := he71.size
    replace hf14 := hf14.ext he71
    refine wl_eff ha73 rfl rfl rfl (op_append (ts := #[]) (s := shStr) ha73 rfl Try.underlying82 ti9 rfl pos_shStr rfl rfl hf14 (ho70.rds pos_shStr) (by omega) (by omega) (by first | omega | (simp; omega)) (by first | omega | (simp; omega)) (.inl flat_shStr)) ?_
    rintro v75 w76 ⟨ho77, hst78, hob79⟩ a80 ha80; clear ha73 a73
    have hx81 := hx74.stp hst78 (by intro q hq; have hq0 := hf14.lt q hq; omega)
    have hzhx81 := hst78.size
    replace ho70 := ho70.stp hst78 (by intro q hq; have hq0 := hf14.lt q hq; omega)
    have hsp82 : ∀ q, Value.ownBlock v75 = some q → Value.ownBlock v68 ≠ some q := by intro q hq hb; have hq0 := ho70.lt q hb; rcases hob79 with h | h; (rw [h] at hq; first | (have hq1 := hf14.lt q hq; omega)); (rw [h] at hq; cases hq; omega)
    refine wl_val ha80 rfl rfl rfl (op_assign ha80 rfl rfl) ?_
    intro a83 ha83; clear ha80 a80
    refine wpList_nil ?_
    refine then_n ?_
    refine wp_seq ?_
    refine wp_region_lit ?_
    refine wl_val ha83 rfl rfl rfl (op_move ha83 rfl rfl) ?_
    intro a84 ha84; clear ha83 a83
    refine wl_val ha84 rfl rfl rfl (op_assign ha84 rfl rfl) ?_
    intro a85 ha85; clear ha84 a84
    refine wpList_nil ?_
    refine then_n ?_
    refine wp_ret ?_
    refine ret1 ha85 rfl rfl ?_
    clear ha85 a85
    have hE := pc_end hi (by omega) hF
    first | rw [if_pos (by omega)] at hE | rw [if_neg (by omega)] at hE
    refine ret_mk hx81 ?_
    refine (ho77.fin (by omega) (by omega) (by omega)).cast ?_
    exact hE
   ·
    rw [decide_eq_false c63] at ha62
    refine cond_f ha62 rfl ?_
    refine wp_skip ?_
    refine then_n ?_
    refine wp_seq ?_
    refine wp_region_lit ?_
    refine wl_val ha62 rfl rfl rfl (op_move ha62 rfl rfl) ?_
    intro a86 ha86; clear ha62 a62
    refine wl_val ha86 rfl rfl rfl (op_assign ha86 rfl rfl) ?_
    intro a87 ha87; clear ha86 a86
    refine wpList_nil ?_
    refine then_n ?_
    refine wp_ret ?_
    refine ret1 ha87 rfl rfl ?_
    clear ha87 a87
    have hE := pc_end hi (by omega) hF
    first | rw [if_pos (by omega)] at hE | rw [if_neg (by omega)] at hE
    refine ret_mk hx13 ?_
    refine (hf14.fin (by omega) (by omega) (by omega)).cast ?_
    exact hE


end Go.Proofs.Ytkdnclpgijkceaa
