/- Texts split, kinds of commands. -/
import Derived.Test.YthbehhhblchhhaaD1
namespace Go.Proofs.Ythbehhhblchhhaa
open Go Go.RowKit

/-- A text, split at each place of a byte: the piece begun so far, and the rest. -/
def spl (b : UInt8) : Str → Str → List Str
  | cur, [] => [cur]
  | cur, c :: s => if c = b then cur :: spl b [] s else spl b (cur ++ [c]) s
theorem cut_snoc {s : Str} {f i : Nat} {c : UInt8} (hf : f ≤ i) (h : s[i]? = some c) : (s.take (i + 1)).drop f = (s.take i).drop f ++ [c] := by
  have hl := (List.getElem?_eq_some_iff.1 h).1
  rw [take_snoc h, List.drop_append_of_le_length (by rw [List.length_take]; omega)]
theorem cut_end (s : Str) (i : Nat) : (s.take i).drop i = [] := List.drop_eq_nil_of_le (by rw [List.length_take]; omega)
theorem spl_len (b : UInt8) : ∀ (s cur : Str), (spl b cur s).length ≤ s.length + 1
  | [], _ => Nat.le_refl _
  | c :: s, cur => by
    rw [spl]; split
    · have := spl_len b s []; simp only [List.length_cons]; omega
    · have := spl_len b s (cur ++ [c]); simp only [List.length_cons]; omega
theorem ub {a b : UInt8} (h : (a.toNat : Int) = (b.toNat : Int)) : a = b := UInt8.toNat_inj.1 (by omega)

/-- The words of commands. -/
def W3 : List Str := [[98, 105, 110], [112, 114, 111, 109, 105, 115, 101], [115, 97, 108, 101], [112, 97, 121], [98, 117, 121]]
def W2 : List Str := [[102, 105, 108, 108], [114, 101, 115, 101, 114, 118, 101], [114, 101, 108, 101, 97, 115, 101], [117, 115, 101]]
def W1 : List Str := [[102, 114, 101, 101], [111, 119, 101, 115]]
def W0 : List Str := [[111, 114, 100, 101, 114], [107, 101, 112, 116]]
def WI : List Str := [[119, 104, 101, 110], [99, 108, 111, 115, 101], [99, 97, 115, 104], [109, 109]]
def WII : List Str := [[103, 101, 97, 114]]
/-- What follows a command's word: true for a word, false for a number. -/
def kdO (w : Str) : Option (List Bool) :=
  if w ∈ W3 then some [true, false, false] else if w ∈ W2 then some [true, false] else if w ∈ W1 then some [true] else if w ∈ W0 then some [] else if w ∈ WI then some [false] else if w ∈ WII then some [false, false] else none
def kdL (w : Str) : List Bool := (kdO w).getD []
def kdS (t i : UInt8) (w : Str) : Str := (kdL w).map fun b => if b then t else i
def kdP (w : Str) : Str := if (kdO w).isSome then kdS 84 73 w else [45]
theorem kdL_len (w : Str) : (kdL w).length ≤ 3 := by
  unfold kdL kdO
  repeat' split
  all_goals simp
theorem kdS_len (t i : UInt8) (w : Str) : (kdS t i w).length = (kdL w).length := List.length_map ..
theorem kdP_len (w : Str) : (kdP w).length ≤ 3 := by
  unfold kdP; split
  · rw [kdS_len]; exact kdL_len w
  · simp
theorem kdP_no {w : Str} (h : kdP w = [45]) : kdO w = none := by
  unfold kdP at h
  cases e : kdO w with
  | none => rfl
  | some l =>
    rw [e] at h; simp only [Option.isSome_some, if_true] at h
    exfalso
    unfold kdS kdL at h; rw [e] at h
    match l, h with
    | [], h => simp at h
    | b :: l, h => cases b <;> simp at h
theorem kdP_ok {w : Str} (h : ¬ kdP w = [45]) : (kdO w).isSome = true ∧ kdP w = kdS 84 73 w := by
  unfold kdP at h ⊢
  cases e : (kdO w).isSome with
  | true => exact ⟨rfl, if_pos rfl⟩
  | false => rw [e] at h; exact absurd rfl h
theorem kd_ch {t i b : UInt8} {w : Str} {k : Nat} (h : (kdS t i w)[k]? = some b) : ∃ q, (kdL w)[k]? = some q ∧ b = if q then t else i := by
  unfold kdS at h; rw [List.getElem?_map] at h
  cases e : (kdL w)[k]? with
  | none => rw [e] at h; cases h
  | some q => rw [e] at h; simp at h; exact ⟨q, rfl, h.symm⟩
theorem kd_t {t i b : UInt8} {w : Str} {k : Nat} (hti : t ≠ i) (h : (kdS t i w)[k]? = some b) (e : (b.toNat : Int) = (t.toNat : Int)) : (kdL w)[k]? = some true := by
  obtain ⟨q, h1, h2⟩ := kd_ch h
  cases q with
  | true => exact h1
  | false => exact absurd ((UInt8.toNat_inj.1 (by omega) : b = t).symm.trans h2) hti
theorem kd_i {t i b : UInt8} {w : Str} {k : Nat} (h : (kdS t i w)[k]? = some b) (e : ¬ (b.toNat : Int) = (t.toNat : Int)) : (kdL w)[k]? = some false := by
  obtain ⟨q, h1, h2⟩ := kd_ch h
  cases q with
  | true => exact absurd (by rw [h2]; rfl) e
  | false => exact h1
/-- The numbers of a command. -/
def nmO : List Bool → List Str → Option (List Int)
  | [], _ => some []
  | _ :: _, [] => none
  | true :: l, _ :: ws => nmO l ws
  | false :: l, w :: ws => if (l01V w).2 then (nmO l ws).map ((l01V w).1 :: ·) else none
def pcO (line : Str) : Option (List Int) := match (spl 32 [] line)[0]? with
  | none => none
  | some w => if (kdO w).isSome = true ∧ (spl 32 [] line).length = (kdL w).length + 1 then nmO (kdL w) ((spl 32 [] line).drop 1) else none
def pcW (line : Str) : List Str := if (pcO line).isSome then spl 32 [] line else []
def pcN (line : Str) : List Int := (pcO line).getD []
theorem pcO_no {line w : Str} (h : (spl 32 [] line)[0]? = some w) (h2 : kdO w = none ∨ ¬ (spl 32 [] line).length = (kdL w).length + 1) : pcO line = none := by
  unfold pcO; rw [h]; show (if _ then _ else _) = _
  rw [if_neg]; rintro ⟨a, b⟩
  rcases h2 with q | q
  · rw [q] at a; cases a
  · exact q b
theorem pcO_go {line w : Str} (h : (spl 32 [] line)[0]? = some w) (h1 : (kdO w).isSome = true) (h2 : (spl 32 [] line).length = (kdL w).length + 1) : pcO line = nmO (kdL w) ((spl 32 [] line).drop 1) := by
  unfold pcO; rw [h]; show (if _ then _ else _) = _; rw [if_pos ⟨h1, h2⟩]
theorem nmO_t {l : List Bool} {ws : List Str} {i : Nat} {w : Str} (h : l[i]? = some true) (hw : ws[i + 1]? = some w) : nmO (l.drop i) (ws.drop (i + 1)) = nmO (l.drop (i + 1)) (ws.drop (i + 1 + 1)) := by rw [drop_cons h, drop_cons hw, nmO]
theorem nmO_f {l : List Bool} {ws : List Str} {i : Nat} {w : Str} (h : l[i]? = some false) (hw : ws[i + 1]? = some w) (hv : (l01V w).2 = true) : nmO (l.drop i) (ws.drop (i + 1)) = (nmO (l.drop (i + 1)) (ws.drop (i + 1 + 1))).map ((l01V w).1 :: ·) := by rw [drop_cons h, drop_cons hw, nmO, if_pos hv]
theorem nmO_x {l : List Bool} {ws : List Str} {i : Nat} {w : Str} (h : l[i]? = some false) (hw : ws[i + 1]? = some w) (hv : (l01V w).2 = false) : nmO (l.drop i) (ws.drop (i + 1)) = none := by rw [drop_cons h, drop_cons hw, nmO, if_neg (by rw [hv]; decide)]
theorem map_app {x : Option (List Int)} {acc : List Int} {n : Int} : ((x.map (n :: ·)).map (acc ++ ·)) = x.map ((acc ++ [n]) ++ ·) := by cases x <;> simp
theorem spl_pos (b : UInt8) : ∀ (s cur : Str), 1 ≤ (spl b cur s).length
  | [], _ => Nat.le_refl _
  | c :: s, cur => by
    rw [spl]; split
    · simp
    · exact spl_pos b s _
theorem l01V_no {w : Str} (h : (rdV w).2 = false ∨ (rdV w).1 < 0 ∨ 13 < w.length) : (l01V w).2 = false := by
  cases e : (l01V w).2 with
  | false => rfl
  | true =>
    obtain ⟨h1, h2, h3⟩ := l01_rd w e
    rw [h1] at h
    rcases h with h | h | h
    · cases h
    · exact absurd h h2
    · exact absurd h h3
theorem l01V_yes {w : Str} (h1 : (rdV w).2 = true) (h2 : ¬ (rdV w).1 < 0) (h3 : ¬ 13 < w.length) : (l01V w).2 = true ∧ (l01V w).1 = (rdV w).1 := by
  have := rd_l01 w h1 h2 h3; rw [this]; exact ⟨rfl, rfl⟩
theorem pcO_sm {line : Str} {l : List Int} (h : pcO line = some l) : pcW line = spl 32 [] line ∧ pcN line = l := by unfold pcW pcN; rw [h]; exact ⟨rfl, rfl⟩
theorem pcO_nn {line : Str} (h : pcO line = none) : pcW line = [] ∧ pcN line = [] := by unfold pcW pcN; rw [h]; exact ⟨rfl, rfl⟩

theorem c_impl_splitAt (w0 : World) (s : Str) (b : UInt8) (g0 : s.length ≤ 1048576) :
    Calls Try.prog 32 #[St s, .int .u8 (b.toNat : Int)] w0 (Ret w0 (fun v w1 => Own shStr 9 w0.heap.size w0.heap.size w1.heap.size w1 v (spl b [] s))) := by
  refine enter (N := 34) Try.func32 rfl rfl rfl ?_
  intro a0 ha0
  have hx0 := Ext.rfl' w0
  refine wp_seq ?_
  refine wp_region_lit ?_
  refine wl_val ha0 rfl rfl rfl (op_assign ha0 rfl rfl) ?_
  intro a1 ha1; clear ha0 a0
  refine wpList_nil ?_
  refine then_n ?_
  refine wp_seq ?_
  refine wp_region_lit ?_
  refine wl_val ha1 rfl rfl rfl (op_assign ha1 rfl rfl) ?_
  intro a2 ha2; clear ha1 a1
  refine wpList_nil ?_
  refine then_n ?_
  refine wp_seq ?_
  refine wp_region_lit ?_
  refine wl_val ha2 rfl rfl rfl (op_assign ha2 rfl rfl) ?_
  intro a3 ha3; clear ha2 a2
  refine wpList_nil ?_
  refine then_n ?_
  refine wp_seq ?_
  refine wp_seq ?_
  refine wp_region_lit ?_
  refine wl_val ha3 rfl rfl rfl (op_assign ha3 rfl rfl) ?_
  intro a4 ha4; clear ha3 a3
  refine wpList_nil ?_
  refine then_n ?_
  refine wp_block ?_
  refine loop_inv (X := Nat × Nat × Value × (List Str)) (fun (⟨i, f, v, acc⟩ : Nat × Nat × Value × (List Str)) fr wl => Sl 34 fr [(0, St s), (1, .int .u8 (b.toNat : Int)), (5, v), (6, .int .i64 ((f : Nat) : Int)), (7, .int .i64 ((i : Nat) : Int))] ∧ Ext w0 wl ∧ Own shStr 9 w0.heap.size w0.heap.size wl.heap.size wl v acc ∧ w0.heap.size ≤ wl.heap.size ∧ (i ≤ s.length) ∧ (f ≤ i) ∧ (acc.length ≤ i) ∧ (acc ++ spl b ((s.take i).drop f) (s.drop i) = spl b [] s)) (fun (⟨i, f, v, acc⟩ : Nat × Nat × Value × (List Str)) => s.length - i) (0, 0, (.slice none 0 0), []) ?_ ?_
  ·
    exact ⟨(Sl.cons_ ha4 rfl rfl (Sl.cons_ ha4 rfl rfl (Sl.cons_ ha4 rfl rfl (Sl.cons_ ha4 rfl (int_eq (by omega)) (Sl.cons_ ha4 rfl (int_eq (by omega)) (Sl.nil_ ha4)))))), hx0, (Own.nil _ _ _ _ _ _), (by omega), (by omega), (by omega), (by exact Nat.le_refl _), (by rfl)⟩
  ·
    clear ha4 a4
    rintro ⟨i, f, v, acc⟩ a8 w5 ⟨ha8, hx6, hf7, hzl9, hi, hf0, hl, hF⟩
    have hzhx6 := hx6.size
    refine wp_seq ?_
    refine wp_seq ?_
    refine wp_region_lit ?_
    refine wl_val ha8 rfl rfl rfl (op_move ha8 rfl rfl) ?_
    intro a10 ha10; clear ha8 a8
    refine wl_val ha10 rfl rfl rfl (op_move ha10 rfl rfl) ?_
    intro a11 ha11; clear ha10 a10
    refine wl_val ha11 rfl rfl rfl (op_len_str ha11 rfl Try.underlying9 rfl) ?_
    intro a12 ha12; clear ha11 a11
    refine wl_val ha12 rfl rfl rfl (op_lss ha12 rfl rfl rfl) ?_
    intro a13 ha13; clear ha12 a12
    refine wpList_nil ?_
    refine then_n ?_
    by_cases c14 : ((i : Nat) : Int) < ((s.length : Nat) : Int)
    ·
      rw [decide_eq_true c14] at ha13
      refine cond_t ha13 rfl ?_
      refine wp_skip ?_
      refine then_n ?_
      refine wp_seq ?_
      refine wp_block ?_
      refine wp_seq ?_
      refine wp_region_lit ?_
      refine wl_val ha13 rfl rfl rfl (op_move ha13 rfl rfl) ?_
      intro a15 ha15; clear ha13 a13
      refine wl_val ha15 rfl rfl rfl (op_move ha15 rfl rfl) ?_
      intro a16 ha16; clear ha15 a15
      obtain ⟨b17, hb17⟩ := get_ex (xs := s) (j := i) (by omega)
      have b17_lt := b17.toNat_lt
      refine wl_val ha16 rfl rfl rfl (op_index_str ha16 rfl Try.underlying9 rfl rfl (by omega) hb17) ?_
      intro a18 ha18; clear ha16 a16
      refine wl_val ha18 rfl rfl rfl (op_move ha18 rfl rfl) ?_
      intro a19 ha19; clear ha18 a18
      refine wl_val ha19 rfl rfl rfl (op_eql ha19 rfl rfl rfl) ?_
      intro a20 ha20; clear ha19 a19
      refine wpList_nil ?_
      refine then_n ?_
      by_cases c21 : (b17.toNat : Int) = (b.toNat : Int)
      ·
        rw [decide_eq_true c21] at ha20
        refine cond_t ha20 rfl ?_
        refine wp_seq ?_
        refine wp_region_lit ?_
        refine wl_val ha20 rfl rfl rfl (op_move ha20 rfl rfl) ?_
        intro a22 ha22; clear ha20 a20
        refine wl_val ha22 rfl rfl rfl (op_move ha22 rfl rfl) ?_
        intro a23 ha23; clear ha22 a22
        refine wl_val ha23 rfl rfl rfl (op_move ha23 rfl rfl) ?_
        intro a24 ha24; clear ha23 a23
        refine wl_val ha24 rfl rfl rfl (op_move ha24 rfl rfl) ?_
        intro a25 ha25; clear ha24 a24
        refine wl_val ha25 rfl rfl rfl (op_slice_str_b (i := f) (j := i) (by omega) (by omega) ha25 rfl Try.underlying9 rfl rfl rfl (by omega) (by omega)) ?_
        intro a26 ha26; clear ha25 a25
        refine wl_eff ha26 rfl rfl rfl (op_buildSlice (s := shStr) (xs := [(s.take i).drop f]) (cs := [St ((s.take i).drop f)]) (vs := [(0, St ((s.take i).drop f))]) (S := fun _ => False) (le := w5.heap.size) ha26 rfl pos_shStr Try.underlying38 ti9 rfl rfl (by decide) (by kernel_rfl) (Els.single (mk_shStr ((s.take i).drop f) (by first | assumption | omega | (simp; omega)))) (fun _ h => h.elim)) ?_
        rintro v27 w28 ⟨ho29, he30, hob31⟩ a32 ha32; clear ha26 a26
        have hx33 := hx6.trans' he30
        have hzhx33 := he30.size
        replace hf7 := hf7.ext he30
        refine wl_eff ha32 rfl rfl rfl (op_append (ts := #[]) (s := shStr) ha32 rfl Try.underlying38 ti9 rfl pos_shStr rfl rfl hf7 (ho29.rds pos_shStr) (by omega) (by omega) (by first | omega | (simp; omega)) (by first | omega | (simp; omega)) (.inl flat_shStr)) ?_
        rintro v34 w35 ⟨ho36, hst37, hob38⟩ a39 ha39; clear ha32 a32
        have hx40 := hx33.stp hst37 (by intro q hq; have hq0 := hf7.lt q hq; omega)
        have hzhx40 := hst37.size
        replace ho29 : Own shStr 9 w5.heap.size w5.heap.size w28.heap.size w35 v27 ([(s.take i).drop f]) := by first | exact ho29.stp hst37 (by intro q hq; have hq0 := hf7.lt q hq; omega)
        have hsp41 : ∀ q, Value.ownBlock v34 = some q → Value.ownBlock v27 ≠ some q := by intro q hq hb; have hq0 := ho29.lt q hb; rcases hob38 with h | h; (rw [h] at hq; first | (have hq1 := hf7.lt q hq; omega)); (rw [h] at hq; cases hq; omega)
        refine wl_val ha39 rfl rfl rfl (op_assign ha39 rfl rfl) ?_
        intro a42 ha42; clear ha39 a39
        refine wpList_nil ?_
        refine then_n ?_
        refine wp_region_lit ?_
        refine wl_val ha42 rfl rfl rfl (op_move ha42 rfl rfl) ?_
        intro a43 ha43; clear ha42 a42
        refine wl_val ha43 rfl rfl rfl ((op_add ha43 rfl rfl rfl).int (IntWalk.i64_in _ (by omega))) ?_
        intro a44 ha44; clear ha43 a43
        refine wl_val ha44 rfl rfl rfl (op_assign ha44 rfl rfl) ?_
        intro a45 ha45; clear ha44 a44
        refine wpList_nil ?_
        refine block_n ?_
        refine then_n ?_
        refine wp_region_lit ?_
        refine wl_val ha45 rfl rfl rfl (op_move ha45 rfl rfl) ?_
        intro a46 ha46; clear ha45 a45
        refine wl_val ha46 rfl rfl rfl ((op_add ha46 rfl rfl rfl).int (IntWalk.i64_in _ (by omega))) ?_
        intro a47 ha47; clear ha46 a46
        refine wl_val ha47 rfl rfl rfl (op_assign ha47 rfl rfl) ?_
        intro a48 ha48; clear ha47 a47
        refine wpList_nil ?_
        refine round_end (x := (i, f, v, acc)) ((i + 1), (i + 1), v34, (acc ++ [(s.take i).drop f])) ?_ ?_
        ·
          refine ⟨(Sl.cons_ ha48 rfl rfl (Sl.cons_ ha48 rfl rfl (Sl.cons_ ha48 rfl rfl (Sl.cons_ ha48 rfl (int_eq (by omega)) (Sl.cons_ ha48 rfl (int_eq (by omega)) (Sl.nil_ ha48)))))), hx40, (ho36.fin (by omega) (by omega) (by omega)), (by omega), (by omega), (by omega), (by first | omega | (simp; omega)), (by rw [drop_cons hb17, spl, if_pos (ub c21)] at hF; rw [cut_end, ← hF]; simp)⟩
        · show (s.length - ((i + 1)) : Nat) < s.length - i; omega
      ·
        rw [decide_eq_false c21] at ha20
        refine cond_f ha20 rfl ?_
        refine wp_skip ?_
        refine block_n ?_
        refine then_n ?_
        refine wp_region_lit ?_
        refine wl_val ha20 rfl rfl rfl (op_move ha20 rfl rfl) ?_
        intro a49 ha49; clear ha20 a20
        refine wl_val ha49 rfl rfl rfl ((op_add ha49 rfl rfl rfl).int (IntWalk.i64_in _ (by omega))) ?_
        intro a50 ha50; clear ha49 a49
        refine wl_val ha50 rfl rfl rfl (op_assign ha50 rfl rfl) ?_
        intro a51 ha51; clear ha50 a50
        refine wpList_nil ?_
        refine round_end (x := (i, f, v, acc)) ((i + 1), f, v, acc) ?_ ?_
        ·
          refine ⟨(Sl.cons_ ha51 rfl rfl (Sl.cons_ ha51 rfl rfl (Sl.cons_ ha51 rfl rfl (Sl.cons_ ha51 rfl (int_eq (by omega)) (Sl.cons_ ha51 rfl (int_eq (by omega)) (Sl.nil_ ha51)))))), hx6, (hf7.fin (by omega) (by omega) (by omega)), (by omega), (by omega), (by omega), (by first | omega | (simp; omega)), (by rw [drop_cons hb17, spl, if_neg (fun e => c21 (by rw [e]))] at hF; rw [cut_snoc (by omega) hb17]; exact hF)⟩
        · show (s.length - ((i + 1)) : Nat) < s.length - i; omega
    ·
      rw [decide_eq_false c14] at ha13
      refine cond_f ha13 rfl ?_
      refine wp_exit ?_
      refine then_e ?_
      refine then_e ?_
      refine block_hit ?_
      refine then_n ?_
      refine wp_seq ?_
      refine wp_region_lit ?_
      refine wl_val ha13 rfl rfl rfl (op_move ha13 rfl rfl) ?_
      intro a52 ha52; clear ha13 a13
      refine wl_val ha52 rfl rfl rfl (op_move ha52 rfl rfl) ?_
      intro a53 ha53; clear ha52 a52
      refine wl_val ha53 rfl rfl rfl (op_move ha53 rfl rfl) ?_
      intro a54 ha54; clear ha53 a53
      refine wl_val ha54 rfl rfl rfl (op_slice_str_f (i := f) (by omega) ha54 rfl Try.underlying9 rfl rfl (by omega)) ?_
      intro a55 ha55; clear ha54 a54
      refine wl_eff ha55 rfl rfl rfl (op_buildSlice (s := shStr) (xs := [s.drop f]) (cs := [St (s.drop f)]) (vs := [(0, St (s.drop f))]) (S := fun _ => False) (le := w5.heap.size) ha55 rfl pos_shStr Try.underlying38 ti9 rfl rfl (by decide) (by kernel_rfl) (Els.single (mk_shStr (s.drop f) (by first | assumption | omega | (simp; omega)))) (fun _ h => h.elim)) ?_
      rintro v56 w57 ⟨ho58, he59, hob60⟩ a61 ha61; clear ha55 a55
      have hx62 := hx6.trans' he59
      have hzhx62 := he59.size
      replace hf7 := hf7.ext he59
      refine wl_eff ha61 rfl rfl rfl (op_append (ts := #[]) (s := shStr) ha61 rfl Try.underlying38 ti9 rfl pos_shStr rfl rfl hf7 (ho58.rds pos_shStr) (by omega) (by omega) (by first | omega | (simp; omega)) (by first | omega | (simp; omega)) (.inl flat_shStr)) ?_
      rintro v63 w64 ⟨ho65, hst66, hob67⟩ a68 ha68; clear ha61 a61
      have hx69 := hx62.stp hst66 (by intro q hq; have hq0 := hf7.lt q hq; omega)
      have hzhx69 := hst66.size
      replace ho58 : Own shStr 9 w5.heap.size w5.heap.size w57.heap.size w64 v56 ([s.drop f]) := by first | exact ho58.stp hst66 (by intro q hq; have hq0 := hf7.lt q hq; omega)
      have hsp70 : ∀ q, Value.ownBlock v63 = some q → Value.ownBlock v56 ≠ some q := by intro q hq hb; have hq0 := ho58.lt q hb; rcases hob67 with h | h; (rw [h] at hq; first | (have hq1 := hf7.lt q hq; omega)); (rw [h] at hq; cases hq; omega)
      refine wl_val ha68 rfl rfl rfl (op_assign ha68 rfl rfl) ?_
      intro a71 ha71; clear ha68 a68
      refine wpList_nil ?_
      refine then_n ?_
      refine wp_ret ?_
      refine ret1 ha71 rfl rfl ?_
      clear ha71 a71
      refine ret_mk hx69 ?_
      refine (ho65.fin (by omega) (by omega) (by omega)).cast ?_
      have hd : s.drop i = [] := drop_nil (by omega); rw [hd, spl, List.take_of_length_le (by omega)] at hF; exact hF

theorem c_spec_l01Split (w0 : World) (s : Str) (bt : UInt8) (g0 : s.length ≤ 1048576) :
    Calls Try.prog 29 #[St s, .int .u8 (bt.toNat : Int)] w0 (Ret w0 (fun v w1 => Own shStr 9 w0.heap.size w0.heap.size w1.heap.size w1 v (spl bt [] s))) := by
  refine enter (N := 36) Try.func29 rfl rfl rfl ?_
  intro a0 ha0
  have hx0 := Ext.rfl' w0
  refine wp_seq ?_
  refine wp_region_lit ?_
  refine wl_val ha0 rfl rfl rfl (op_assign ha0 rfl rfl) ?_
  intro a1 ha1; clear ha0 a0
  refine wpList_nil ?_
  refine then_n ?_
  refine wp_seq ?_
  refine wp_region_lit ?_
  refine wl_eff ha1 rfl rfl rfl (op_buildSlice (s := shStr) (xs := ([] : List Str)) (cs := []) (vs := []) (S := fun _ => False) (le := w0.heap.size) ha1 rfl pos_shStr Try.underlying38 ti9 rfl rfl (by decide) (by kernel_rfl) rfl (fun _ h => h.elim)) ?_
  rintro v2 w3 ⟨ho4, he5, hob6⟩ a7 ha7; clear ha1 a1
  have hx8 := hx0.trans' he5
  have hzhx8 := he5.size
  refine wl_val ha7 rfl rfl rfl (op_assign ha7 rfl rfl) ?_
  intro a9 ha9; clear ha7 a7
  refine wpList_nil ?_
  refine then_n ?_
  refine wp_seq ?_
  refine wp_region_lit ?_
  refine wl_val ha9 rfl rfl rfl (op_assign ha9 rfl rfl) ?_
  intro a10 ha10; clear ha9 a9
  refine wpList_nil ?_
  refine then_n ?_
  refine wp_seq ?_
  refine wp_seq ?_
  refine wp_region_lit ?_
  refine wl_val ha10 rfl rfl rfl (op_assign ha10 rfl rfl) ?_
  intro a11 ha11; clear ha10 a10
  refine wpList_nil ?_
  refine then_n ?_
  refine wp_block ?_
  refine loop_inv (X := Nat × Nat × Value × (List Str)) (fun (⟨i, f, v, acc⟩ : Nat × Nat × Value × (List Str)) fr wl => Sl 36 fr [(0, St s), (1, .int .u8 (bt.toNat : Int)), (5, v), (6, .int .i64 ((f : Nat) : Int)), (7, .int .i64 ((i : Nat) : Int))] ∧ Ext w0 wl ∧ Own shStr 9 w0.heap.size w0.heap.size wl.heap.size wl v acc ∧ w3.heap.size ≤ wl.heap.size ∧ (i ≤ s.length + 1) ∧ (f ≤ i) ∧ (acc.length ≤ i) ∧ ((if i ≤ s.length then acc ++ spl bt ((s.take i).drop f) (s.drop i) else acc) = spl bt [] s)) (fun (⟨i, f, v, acc⟩ : Nat × Nat × Value × (List Str)) => s.length + 1 - i) (0, 0, v2, ([] : List Str)) ?_ ?_
  ·
    exact ⟨(Sl.cons_ ha11 rfl rfl (Sl.cons_ ha11 rfl rfl (Sl.cons_ ha11 rfl rfl (Sl.cons_ ha11 rfl (int_eq (by omega)) (Sl.cons_ ha11 rfl (int_eq (by omega)) (Sl.nil_ ha11)))))), hx8, (ho4.fin (by omega) (by omega) (by omega)), (by omega), (by omega), (by omega), (by exact Nat.le_refl _), (by rw [if_pos (by omega)]; rfl)⟩
  ·
    clear ha11 a11
    rintro ⟨i, f, v, acc⟩ a15 w12 ⟨ha15, hx13, hf14, hzl16, hi, hf0, hl, hF⟩
    have hzhx13 := hx13.size
    refine wp_seq ?_
    refine wp_seq ?_
    refine wp_region_lit ?_
    refine wl_val ha15 rfl rfl rfl (op_move ha15 rfl rfl) ?_
    intro a17 ha17; clear ha15 a15
    refine wl_val ha17 rfl rfl rfl (op_move ha17 rfl rfl) ?_
    intro a18 ha18; clear ha17 a17
    refine wl_val ha18 rfl rfl rfl (op_len_str ha18 rfl Try.underlying9 rfl) ?_
    intro a19 ha19; clear ha18 a18
    refine wl_val ha19 rfl rfl rfl (op_leq ha19 rfl rfl rfl) ?_
    intro a20 ha20; clear ha19 a19
    refine wpList_nil ?_
    refine then_n ?_
    by_cases c21 : ((i : Nat) : Int) ≤ ((s.length : Nat) : Int)
    ·
      rw [decide_eq_true c21] at ha20
      refine cond_t ha20 rfl ?_
      refine wp_skip ?_
      refine then_n ?_
      refine wp_seq ?_
      refine wp_block ?_
      refine wp_seq ?_
      refine wp_region_lit ?_
      refine wl_val ha20 rfl rfl rfl (op_move ha20 rfl rfl) ?_
      intro a22 ha22; clear ha20 a20
      refine wl_val ha22 rfl rfl rfl (op_move ha22 rfl rfl) ?_
      intro a23 ha23; clear ha22 a22
      refine wl_val ha23 rfl rfl rfl (op_len_str ha23 rfl Try.underlying9 rfl) ?_
      intro a24 ha24; clear ha23 a23
      refine wl_val ha24 rfl rfl rfl (op_eql ha24 rfl rfl rfl) ?_
      intro a25 ha25; clear ha24 a24
      refine wl_val ha25 rfl rfl rfl (op_move ha25 rfl rfl) ?_
      intro a26 ha26; clear ha25 a25
      by_cases c27 : ((i : Nat) : Int) = ((s.length : Nat) : Int)
      ·
        rw [decide_eq_true c27] at ha26
        refine wl_skip ha26 rfl rfl rfl ?_
        intro a28 ha28; clear ha26 a26
        refine wl_skip ha28 rfl rfl rfl ?_
        intro a29 ha29; clear ha28 a28
        refine wl_skip ha29 rfl rfl rfl ?_
        intro a30 ha30; clear ha29 a29
        refine wl_skip ha30 rfl rfl rfl ?_
        intro a31 ha31; clear ha30 a30
        refine wl_skip ha31 rfl rfl rfl ?_
        intro a32 ha32; clear ha31 a31
        refine wl_val ha32 rfl rfl rfl (op_pick_t ha32 rfl rfl rfl) ?_
        intro a33 ha33; clear ha32 a32
        refine wpList_nil ?_
        refine then_n ?_
        refine cond_t ha33 rfl ?_
        refine wp_seq ?_
        refine wp_region_lit ?_
        refine wl_val ha33 rfl rfl rfl (op_move ha33 rfl rfl) ?_
        intro a34 ha34; clear ha33 a33
        refine wl_val ha34 rfl rfl rfl (op_move ha34 rfl rfl) ?_
        intro a35 ha35; clear ha34 a34
        refine wl_val ha35 rfl rfl rfl (op_move ha35 rfl rfl) ?_
        intro a36 ha36; clear ha35 a35
        refine wl_val ha36 rfl rfl rfl (op_move ha36 rfl rfl) ?_
        intro a37 ha37; clear ha36 a36
        refine wl_val ha37 rfl rfl rfl (op_slice_str_b (i := f) (j := i) (by omega) (by omega) ha37 rfl Try.underlying9 rfl rfl rfl (by omega) (by omega)) ?_
        intro a38 ha38; clear ha37 a37
        refine wl_eff ha38 rfl rfl rfl (op_buildSlice (s := shStr) (xs := [(s.take i).drop f]) (cs := [St ((s.take i).drop f)]) (vs := [(0, St ((s.take i).drop f))]) (S := fun _ => False) (le := w12.heap.size) ha38 rfl pos_shStr Try.underlying38 ti9 rfl rfl (by decide) (by kernel_rfl) (Els.single (mk_shStr ((s.take i).drop f) (by first | assumption | omega | (simp; omega)))) (fun _ h => h.elim)) ?_
        rintro v39 w40 ⟨ho41, he42, hob43⟩ a44 ha44; clear ha38 a38
        have hx45 := hx13.trans' he42
        have hzhx45 := he42.size
        replace hf14 := hf14.ext he42
        refine wl_eff ha44 rfl rfl rfl (op_append (ts := #[]) (s := shStr) ha44 rfl Try.underlying38 ti9 rfl pos_shStr rfl rfl hf14 (ho41.rds pos_shStr) (by omega) (by omega) (by first | omega | (simp; omega)) (by first | omega | (simp; omega)) (.inl flat_shStr)) ?_
        rintro v46 w47 ⟨ho48, hst49, hob50⟩ a51 ha51; clear ha44 a44
        have hx52 := hx45.stp hst49 (by intro q hq; have hq0 := hf14.lt q hq; omega)
        have hzhx52 := hst49.size
        replace ho41 : Own shStr 9 w12.heap.size w12.heap.size w40.heap.size w47 v39 ([(s.take i).drop f]) := by first | exact ho41.stp hst49 (by intro q hq; have hq0 := hf14.lt q hq; omega)
        have hsp53 : ∀ q, Value.ownBlock v46 = some q → Value.ownBlock v39 ≠ some q := by intro q hq hb; have hq0 := ho41.lt q hb; rcases hob50 with h | h; (rw [h] at hq; first | (have hq1 := hf14.lt q hq; omega)); (rw [h] at hq; cases hq; omega)
        refine wl_val ha51 rfl rfl rfl (op_assign ha51 rfl rfl) ?_
        intro a54 ha54; clear ha51 a51
        refine wpList_nil ?_
        refine then_n ?_
        refine wp_region_lit ?_
        refine wl_val ha54 rfl rfl rfl (op_move ha54 rfl rfl) ?_
        intro a55 ha55; clear ha54 a54
        refine wl_val ha55 rfl rfl rfl ((op_add ha55 rfl rfl rfl).int (IntWalk.i64_in _ (by omega))) ?_
        intro a56 ha56; clear ha55 a55
        refine wl_val ha56 rfl rfl rfl (op_assign ha56 rfl rfl) ?_
        intro a57 ha57; clear ha56 a56
        refine wpList_nil ?_
        refine block_n ?_
        refine then_n ?_
        refine wp_region_lit ?_
        refine wl_val ha57 rfl rfl rfl (op_move ha57 rfl rfl) ?_
        intro a58 ha58; clear ha57 a57
        refine wl_val ha58 rfl rfl rfl ((op_add ha58 rfl rfl rfl).int (IntWalk.i64_in _ (by omega))) ?_
        intro a59 ha59; clear ha58 a58
        refine wl_val ha59 rfl rfl rfl (op_assign ha59 rfl rfl) ?_
        intro a60 ha60; clear ha59 a59
        refine wpList_nil ?_
        refine round_end (x := (i, f, v, acc)) ((i + 1), (i + 1), v46, (acc ++ [(s.take i).drop f])) ?_ ?_
        ·
          refine ⟨(Sl.cons_ ha60 rfl rfl (Sl.cons_ ha60 rfl rfl (Sl.cons_ ha60 rfl rfl (Sl.cons_ ha60 rfl (int_eq (by omega)) (Sl.cons_ ha60 rfl (int_eq (by omega)) (Sl.nil_ ha60)))))), hx52, (ho48.fin (by omega) (by omega) (by omega)), (by omega), (by omega), (by omega), (by first | omega | (simp; omega)), (by have hd : s.drop i = [] := drop_nil (by omega); rw [if_pos (by omega), hd, spl] at hF; rw [if_neg (by omega)]; exact hF)⟩
        · show (s.length + 1 - ((i + 1)) : Nat) < s.length + 1 - i; omega
      ·
        rw [decide_eq_false c27] at ha26
        refine wl_val ha26 rfl rfl rfl (op_move ha26 rfl rfl) ?_
        intro a61 ha61; clear ha26 a26
        refine wl_val ha61 rfl rfl rfl (op_move ha61 rfl rfl) ?_
        intro a62 ha62; clear ha61 a61
        obtain ⟨b63, hb63⟩ := get_ex (xs := s) (j := i) (by omega)
        have b63_lt := b63.toNat_lt
        refine wl_val ha62 rfl rfl rfl (op_index_str ha62 rfl Try.underlying9 rfl rfl (by omega) hb63) ?_
        intro a64 ha64; clear ha62 a62
        refine wl_val ha64 rfl rfl rfl (op_move ha64 rfl rfl) ?_
        intro a65 ha65; clear ha64 a64
        refine wl_val ha65 rfl rfl rfl (op_eql ha65 rfl rfl rfl) ?_
        intro a66 ha66; clear ha65 a65
        refine wl_val ha66 rfl rfl rfl (op_pick_f ha66 rfl rfl rfl) ?_
        intro a67 ha67; clear ha66 a66
        refine wpList_nil ?_
        refine then_n ?_
        by_cases c68 : (b63.toNat : Int) = (bt.toNat : Int)
        ·
          rw [decide_eq_true c68] at ha67
          refine cond_t ha67 rfl ?_
          refine wp_seq ?_
          refine wp_region_lit ?_
          refine wl_val ha67 rfl rfl rfl (op_move ha67 rfl rfl) ?_
          intro a69 ha69; clear ha67 a67
          refine wl_val ha69 rfl rfl rfl (op_move ha69 rfl rfl) ?_
          intro a70 ha70; clear ha69 a69
          refine wl_val ha70 rfl rfl rfl (op_move ha70 rfl rfl) ?_
          intro a71 ha71; clear ha70 a70
          refine wl_val ha71 rfl rfl rfl (op_move ha71 rfl rfl) ?_
          intro a72 ha72; clear ha71 a71
          refine wl_val ha72 rfl rfl rfl (op_slice_str_b (i := f) (j := i) (by omega) (by omega) ha72 rfl Try.underlying9 rfl rfl rfl (by omega) (by omega)) ?_
          intro a73 ha73; clear ha72 a72
          refine wl_eff ha73 rfl rfl rfl (op_buildSlice (s := shStr) (xs := [(s.take i).drop f]) (cs := [St ((s.take i).drop f)]) (vs := [(0, St ((s.take i).drop f))]) (S := fun _ => False) (le := w12.heap.size) ha73 rfl pos_shStr Try.underlying38 ti9 rfl rfl (by decide) (by kernel_rfl) (Els.single (mk_shStr ((s.take i).drop f) (by first | assumption | omega | (simp; omega)))) (fun _ h => h.elim)) ?_
          rintro v74 w75 ⟨ho76, he77, hob78⟩ a79 ha79; clear ha73 a73
          have hx80 := hx13.trans' he77
          have hzhx80 := he77.size
          replace hf14 := hf14.ext he77
          refine wl_eff ha79 rfl rfl rfl (op_append (ts := #[]) (s := shStr) ha79 rfl Try.underlying38 ti9 rfl pos_shStr rfl rfl hf14 (ho76.rds pos_shStr) (by omega) (by omega) (by first | omega | (simp; omega)) (by first | omega | (simp; omega)) (.inl flat_shStr)) ?_
          rintro v81 w82 ⟨ho83, hst84, hob85⟩ a86 ha86; clear ha79 a79
          have hx87 := hx80.stp hst84 (by intro q hq; have hq0 := hf14.lt q hq; omega)
          have hzhx87 := hst84.size
          replace ho76 : Own shStr 9 w12.heap.size w12.heap.size w75.heap.size w82 v74 ([(s.take i).drop f]) := by first | exact ho76.stp hst84 (by intro q hq; have hq0 := hf14.lt q hq; omega)
          have hsp88 : ∀ q, Value.ownBlock v81 = some q → Value.ownBlock v74 ≠ some q := by intro q hq hb; have hq0 := ho76.lt q hb; rcases hob85 with h | h; (rw [h] at hq; first | (have hq1 := hf14.lt q hq; omega)); (rw [h] at hq; cases hq; omega)
          refine wl_val ha86 rfl rfl rfl (op_assign ha86 rfl rfl) ?_
          intro a89 ha89; clear ha86 a86
          refine wpList_nil ?_
          refine then_n ?_
          refine wp_region_lit ?_
          refine wl_val ha89 rfl rfl rfl (op_move ha89 rfl rfl) ?_
          intro a90 ha90; clear ha89 a89
          refine wl_val ha90 rfl rfl rfl ((op_add ha90 rfl rfl rfl).int (IntWalk.i64_in _ (by omega))) ?_
          intro a91 ha91; clear ha90 a90
          refine wl_val ha91 rfl rfl rfl (op_assign ha91 rfl rfl) ?_
          intro a92 ha92; clear ha91 a91
          refine wpList_nil ?_
          refine block_n ?_
          refine then_n ?_
          refine wp_region_lit ?_
          refine wl_val ha92 rfl rfl rfl (op_move ha92 rfl rfl) ?_
          intro a93 ha93; clear ha92 a92
          refine wl_val ha93 rfl rfl rfl ((op_add ha93 rfl rfl rfl).int (IntWalk.i64_in _ (by omega))) ?_
          intro a94 ha94; clear ha93 a93
          refine wl_val ha94 rfl rfl rfl (op_assign ha94 rfl rfl) ?_
          intro a95 ha95; clear ha94 a94
          refine wpList_nil ?_
          refine round_end (x := (i, f, v, acc)) ((i + 1), (i + 1), v81, (acc ++ [(s.take i).drop f])) ?_ ?_
          ·
            refine ⟨(Sl.cons_ ha95 rfl rfl (Sl.cons_ ha95 rfl rfl (Sl.cons_ ha95 rfl rfl (Sl.cons_ ha95 rfl (int_eq (by omega)) (Sl.cons_ ha95 rfl (int_eq (by omega)) (Sl.nil_ ha95)))))), hx87, (ho83.fin (by omega) (by omega) (by omega)), (by omega), (by omega), (by omega), (by first | omega | (simp; omega)), (by rw [if_pos (by omega)] at hF ⊢; rw [drop_cons hb63, spl, if_pos (ub c68)] at hF; rw [cut_end, ← hF]; simp)⟩
          · show (s.length + 1 - ((i + 1)) : Nat) < s.length + 1 - i; omega
        ·
          rw [decide_eq_false c68] at ha67
          refine cond_f ha67 rfl ?_
          refine wp_skip ?_
          refine block_n ?_
          refine then_n ?_
          refine wp_region_lit ?_
          refine wl_val ha67 rfl rfl rfl (op_move ha67 rfl rfl) ?_
          intro a96 ha96; clear ha67 a67
          refine wl_val ha96 rfl rfl rfl ((op_add ha96 rfl rfl rfl).int (IntWalk.i64_in _ (by omega))) ?_
          intro a97 ha97; clear ha96 a96
          refine wl_val ha97 rfl rfl rfl (op_assign ha97 rfl rfl) ?_
          intro a98 ha98; clear ha97 a97
          refine wpList_nil ?_
          refine round_end (x := (i, f, v, acc)) ((i + 1), f, v, acc) ?_ ?_
          ·
            refine ⟨(Sl.cons_ ha98 rfl rfl (Sl.cons_ ha98 rfl rfl (Sl.cons_ ha98 rfl rfl (Sl.cons_ ha98 rfl (int_eq (by omega)) (Sl.cons_ ha98 rfl (int_eq (by omega)) (Sl.nil_ ha98)))))), hx13, (hf14.fin (by omega) (by omega) (by omega)), (by omega), (by omega), (by omega), (by first | omega | (simp; omega)), (by rw [if_pos (by omega)] at hF ⊢; rw [drop_cons hb63, spl, if_neg (fun e => c68 (by rw [e]))] at hF; rw [cut_snoc (by omega) hb63]; exact hF)⟩
          · show (s.length + 1 - ((i + 1)) : Nat) < s.length + 1 - i; omega
    ·
      rw [decide_eq_false c21] at ha20
      refine cond_f ha20 rfl ?_
      refine wp_exit ?_
      refine then_e ?_
      refine then_e ?_
      refine block_hit ?_
      refine then_n ?_
      refine wp_seq ?_
      refine wp_region_lit ?_
      refine wl_val ha20 rfl rfl rfl (op_move ha20 rfl rfl) ?_
      intro a99 ha99; clear ha20 a20
      refine wl_val ha99 rfl rfl rfl (op_assign ha99 rfl rfl) ?_
      intro a100 ha100; clear ha99 a99
      refine wpList_nil ?_
      refine then_n ?_
      refine wp_ret ?_
      refine ret1 ha100 rfl rfl ?_
      clear ha100 a100
      refine ret_mk hx13 ?_
      refine (hf14.fin (by omega) (by omega) (by omega)).cast ?_
      rw [if_neg (by omega)] at hF; exact hF

set_option maxHeartbeats 4000000 in
theorem c_spec_l34Kind (w0 : World) (w : Str)  :
    Calls Try.prog 30 #[St w] w0 (Ret w0 (fun v _ => v = St (kdP w))) := by
  refine enter (N := 28) Try.func30 rfl rfl rfl ?_
  intro a0 ha0
  have hx0 := Ext.rfl' w0
  refine wp_seq ?_
  refine wp_region_lit ?_
  refine wl_val ha0 rfl rfl rfl (op_assign ha0 rfl rfl) ?_
  intro a1 ha1; clear ha0 a0
  refine wpList_nil ?_
  refine then_n ?_
  refine wp_seq ?_
  refine wp_seq ?_
  refine wp_region_lit ?_
  refine wl_val ha1 rfl rfl rfl (op_move ha1 rfl rfl) ?_
  intro a2 ha2; clear ha1 a1
  refine wpList_nil ?_
  refine then_n ?_
  refine wp_block ?_
  refine wp_seq ?_
  refine wp_seq ?_
  refine wp_region_lit ?_
  refine wl_val ha2 rfl rfl rfl (op_seql ha2 rfl rfl rfl) ?_
  intro a3 ha3; clear ha2 a2
  refine wl_val ha3 rfl rfl rfl (op_assign ha3 rfl rfl) ?_
  intro a4 ha4; clear ha3 a3
  refine wpList_nil ?_
  refine then_n ?_
  by_cases c5 : w = ([111, 114, 100, 101, 114] : Str)
  ·
    rw [decide_eq_true c5] at ha4
    refine cond_t ha4 rfl ?_
    refine wp_skip ?_
    refine then_n ?_
    refine cond_t ha4 rfl ?_
    refine wp_seq ?_
    refine wp_region_lit ?_
    refine wl_val ha4 rfl rfl rfl (op_assign ha4 rfl rfl) ?_
    intro a6 ha6; clear ha4 a4
    refine wpList_nil ?_
    refine then_n ?_
    refine wp_ret ?_
    refine block_r ?_
    refine then_r ?_
    refine ret1 ha6 rfl rfl ?_
    clear ha6 a6
    exact ret_mk hx0 (congrArg St (by rw [c5]; decide))
  ·
    rw [decide_eq_false c5] at ha4
    refine cond_f ha4 rfl ?_
    refine wp_region_lit ?_
    refine wl_val ha4 rfl rfl rfl (op_seql ha4 rfl rfl rfl) ?_
    intro a7 ha7; clear ha4 a4
    refine wl_val ha7 rfl rfl rfl (op_assign ha7 rfl rfl) ?_
    intro a8 ha8; clear ha7 a7
    refine wpList_nil ?_
    refine then_n ?_
    by_cases c9 : w = ([107, 101, 112, 116] : Str)
    ·
      rw [decide_eq_true c9] at ha8
      refine cond_t ha8 rfl ?_
      refine wp_seq ?_
      refine wp_region_lit ?_
      refine wl_val ha8 rfl rfl rfl (op_assign ha8 rfl rfl) ?_
      intro a10 ha10; clear ha8 a8
      refine wpList_nil ?_
      refine then_n ?_
      refine wp_ret ?_
      refine block_r ?_
      refine then_r ?_
      refine ret1 ha10 rfl rfl ?_
      clear ha10 a10
      exact ret_mk hx0 (congrArg St (by rw [c9]; decide))
    ·
      rw [decide_eq_false c9] at ha8
      refine cond_f ha8 rfl ?_
      refine wp_seq ?_
      refine wp_seq ?_
      refine wp_region_lit ?_
      refine wl_val ha8 rfl rfl rfl (op_seql ha8 rfl rfl rfl) ?_
      intro a11 ha11; clear ha8 a8
      refine wl_val ha11 rfl rfl rfl (op_assign ha11 rfl rfl) ?_
      intro a12 ha12; clear ha11 a11
      refine wpList_nil ?_
      refine then_n ?_
      by_cases c13 : w = ([119, 104, 101, 110] : Str)
      ·
        rw [decide_eq_true c13] at ha12
        refine cond_t ha12 rfl ?_
        refine wp_skip ?_
        refine then_n ?_
        refine cond_t ha12 rfl ?_
        refine wp_seq ?_
        refine wp_region_lit ?_
        refine wl_val ha12 rfl rfl rfl (op_assign ha12 rfl rfl) ?_
        intro a14 ha14; clear ha12 a12
        refine wpList_nil ?_
        refine then_n ?_
        refine wp_ret ?_
        refine block_r ?_
        refine then_r ?_
        refine ret1 ha14 rfl rfl ?_
        clear ha14 a14
        exact ret_mk hx0 (congrArg St (by rw [c13]; decide))
      ·
        rw [decide_eq_false c13] at ha12
        refine cond_f ha12 rfl ?_
        refine wp_seq ?_
        refine wp_region_lit ?_
        refine wl_val ha12 rfl rfl rfl (op_seql ha12 rfl rfl rfl) ?_
        intro a15 ha15; clear ha12 a12
        refine wl_val ha15 rfl rfl rfl (op_assign ha15 rfl rfl) ?_
        intro a16 ha16; clear ha15 a15
        refine wpList_nil ?_
        refine then_n ?_
        by_cases c17 : w = ([99, 108, 111, 115, 101] : Str)
        ·
          rw [decide_eq_true c17] at ha16
          refine cond_t ha16 rfl ?_
          refine wp_skip ?_
          refine then_n ?_
          refine cond_t ha16 rfl ?_
          refine wp_seq ?_
          refine wp_region_lit ?_
          refine wl_val ha16 rfl rfl rfl (op_assign ha16 rfl rfl) ?_
          intro a18 ha18; clear ha16 a16
          refine wpList_nil ?_
          refine then_n ?_
          refine wp_ret ?_
          refine block_r ?_
          refine then_r ?_
          refine ret1 ha18 rfl rfl ?_
          clear ha18 a18
          exact ret_mk hx0 (congrArg St (by rw [c17]; decide))
        ·
          rw [decide_eq_false c17] at ha16
          refine cond_f ha16 rfl ?_
          refine wp_seq ?_
          refine wp_region_lit ?_
          refine wl_val ha16 rfl rfl rfl (op_seql ha16 rfl rfl rfl) ?_
          intro a19 ha19; clear ha16 a16
          refine wl_val ha19 rfl rfl rfl (op_assign ha19 rfl rfl) ?_
          intro a20 ha20; clear ha19 a19
          refine wpList_nil ?_
          refine then_n ?_
          by_cases c21 : w = ([99, 97, 115, 104] : Str)
          ·
            rw [decide_eq_true c21] at ha20
            refine cond_t ha20 rfl ?_
            refine wp_skip ?_
            refine then_n ?_
            refine cond_t ha20 rfl ?_
            refine wp_seq ?_
            refine wp_region_lit ?_
            refine wl_val ha20 rfl rfl rfl (op_assign ha20 rfl rfl) ?_
            intro a22 ha22; clear ha20 a20
            refine wpList_nil ?_
            refine then_n ?_
            refine wp_ret ?_
            refine block_r ?_
            refine then_r ?_
            refine ret1 ha22 rfl rfl ?_
            clear ha22 a22
            exact ret_mk hx0 (congrArg St (by rw [c21]; decide))
          ·
            rw [decide_eq_false c21] at ha20
            refine cond_f ha20 rfl ?_
            refine wp_region_lit ?_
            refine wl_val ha20 rfl rfl rfl (op_seql ha20 rfl rfl rfl) ?_
            intro a23 ha23; clear ha20 a20
            refine wl_val ha23 rfl rfl rfl (op_assign ha23 rfl rfl) ?_
            intro a24 ha24; clear ha23 a23
            refine wpList_nil ?_
            refine then_n ?_
            by_cases c25 : w = ([109, 109] : Str)
            ·
              rw [decide_eq_true c25] at ha24
              refine cond_t ha24 rfl ?_
              refine wp_seq ?_
              refine wp_region_lit ?_
              refine wl_val ha24 rfl rfl rfl (op_assign ha24 rfl rfl) ?_
              intro a26 ha26; clear ha24 a24
              refine wpList_nil ?_
              refine then_n ?_
              refine wp_ret ?_
              refine block_r ?_
              refine then_r ?_
              refine ret1 ha26 rfl rfl ?_
              clear ha26 a26
              exact ret_mk hx0 (congrArg St (by rw [c25]; decide))
            ·
              rw [decide_eq_false c25] at ha24
              refine cond_f ha24 rfl ?_
              refine wp_seq ?_
              refine wp_seq ?_
              refine wp_region_lit ?_
              refine wl_val ha24 rfl rfl rfl (op_seql ha24 rfl rfl rfl) ?_
              intro a27 ha27; clear ha24 a24
              refine wl_val ha27 rfl rfl rfl (op_assign ha27 rfl rfl) ?_
              intro a28 ha28; clear ha27 a27
              refine wpList_nil ?_
              refine then_n ?_
              by_cases c29 : w = ([102, 114, 101, 101] : Str)
              ·
                rw [decide_eq_true c29] at ha28
                refine cond_t ha28 rfl ?_
                refine wp_skip ?_
                refine then_n ?_
                refine cond_t ha28 rfl ?_
                refine wp_seq ?_
                refine wp_region_lit ?_
                refine wl_val ha28 rfl rfl rfl (op_assign ha28 rfl rfl) ?_
                intro a30 ha30; clear ha28 a28
                refine wpList_nil ?_
                refine then_n ?_
                refine wp_ret ?_
                refine block_r ?_
                refine then_r ?_
                refine ret1 ha30 rfl rfl ?_
                clear ha30 a30
                exact ret_mk hx0 (congrArg St (by rw [c29]; decide))
              ·
                rw [decide_eq_false c29] at ha28
                refine cond_f ha28 rfl ?_
                refine wp_region_lit ?_
                refine wl_val ha28 rfl rfl rfl (op_seql ha28 rfl rfl rfl) ?_
                intro a31 ha31; clear ha28 a28
                refine wl_val ha31 rfl rfl rfl (op_assign ha31 rfl rfl) ?_
                intro a32 ha32; clear ha31 a31
                refine wpList_nil ?_
                refine then_n ?_
                by_cases c33 : w = ([111, 119, 101, 115] : Str)
                ·
                  rw [decide_eq_true c33] at ha32
                  refine cond_t ha32 rfl ?_
                  refine wp_seq ?_
                  refine wp_region_lit ?_
                  refine wl_val ha32 rfl rfl rfl (op_assign ha32 rfl rfl) ?_
                  intro a34 ha34; clear ha32 a32
                  refine wpList_nil ?_
                  refine then_n ?_
                  refine wp_ret ?_
                  refine block_r ?_
                  refine then_r ?_
                  refine ret1 ha34 rfl rfl ?_
                  clear ha34 a34
                  exact ret_mk hx0 (congrArg St (by rw [c33]; decide))
                ·
                  rw [decide_eq_false c33] at ha32
                  refine cond_f ha32 rfl ?_
                  refine wp_seq ?_
                  refine wp_region_lit ?_
                  refine wl_val ha32 rfl rfl rfl (op_seql ha32 rfl rfl rfl) ?_
                  intro a35 ha35; clear ha32 a32
                  refine wl_val ha35 rfl rfl rfl (op_assign ha35 rfl rfl) ?_
                  intro a36 ha36; clear ha35 a35
                  refine wpList_nil ?_
                  refine then_n ?_
                  by_cases c37 : w = ([103, 101, 97, 114] : Str)
                  ·
                    rw [decide_eq_true c37] at ha36
                    refine cond_t ha36 rfl ?_
                    refine wp_seq ?_
                    refine wp_region_lit ?_
                    refine wl_val ha36 rfl rfl rfl (op_assign ha36 rfl rfl) ?_
                    intro a38 ha38; clear ha36 a36
                    refine wpList_nil ?_
                    refine then_n ?_
                    refine wp_ret ?_
                    refine block_r ?_
                    refine then_r ?_
                    refine ret1 ha38 rfl rfl ?_
                    clear ha38 a38
                    exact ret_mk hx0 (congrArg St (by rw [c37]; decide))
                  ·
                    rw [decide_eq_false c37] at ha36
                    refine cond_f ha36 rfl ?_
                    refine wp_seq ?_
                    refine wp_seq ?_
                    refine wp_region_lit ?_
                    refine wl_val ha36 rfl rfl rfl (op_seql ha36 rfl rfl rfl) ?_
                    intro a39 ha39; clear ha36 a36
                    refine wl_val ha39 rfl rfl rfl (op_assign ha39 rfl rfl) ?_
                    intro a40 ha40; clear ha39 a39
                    refine wpList_nil ?_
                    refine then_n ?_
                    by_cases c41 : w = ([102, 105, 108, 108] : Str)
                    ·
                      rw [decide_eq_true c41] at ha40
                      refine cond_t ha40 rfl ?_
                      refine wp_skip ?_
                      refine then_n ?_
                      refine cond_t ha40 rfl ?_
                      refine wp_seq ?_
                      refine wp_region_lit ?_
                      refine wl_val ha40 rfl rfl rfl (op_assign ha40 rfl rfl) ?_
                      intro a42 ha42; clear ha40 a40
                      refine wpList_nil ?_
                      refine then_n ?_
                      refine wp_ret ?_
                      refine block_r ?_
                      refine then_r ?_
                      refine ret1 ha42 rfl rfl ?_
                      clear ha42 a42
                      exact ret_mk hx0 (congrArg St (by rw [c41]; decide))
                    ·
                      rw [decide_eq_false c41] at ha40
                      refine cond_f ha40 rfl ?_
                      refine wp_seq ?_
                      refine wp_region_lit ?_
                      refine wl_val ha40 rfl rfl rfl (op_seql ha40 rfl rfl rfl) ?_
                      intro a43 ha43; clear ha40 a40
                      refine wl_val ha43 rfl rfl rfl (op_assign ha43 rfl rfl) ?_
                      intro a44 ha44; clear ha43 a43
                      refine wpList_nil ?_
                      refine then_n ?_
                      by_cases c45 : w = ([114, 101, 115, 101, 114, 118, 101] : Str)
                      ·
                        rw [decide_eq_true c45] at ha44
                        refine cond_t ha44 rfl ?_
                        refine wp_skip ?_
                        refine then_n ?_
                        refine cond_t ha44 rfl ?_
                        refine wp_seq ?_
                        refine wp_region_lit ?_
                        refine wl_val ha44 rfl rfl rfl (op_assign ha44 rfl rfl) ?_
                        intro a46 ha46; clear ha44 a44
                        refine wpList_nil ?_
                        refine then_n ?_
                        refine wp_ret ?_
                        refine block_r ?_
                        refine then_r ?_
                        refine ret1 ha46 rfl rfl ?_
                        clear ha46 a46
                        exact ret_mk hx0 (congrArg St (by rw [c45]; decide))
                      ·
                        rw [decide_eq_false c45] at ha44
                        refine cond_f ha44 rfl ?_
                        refine wp_seq ?_
                        refine wp_region_lit ?_
                        refine wl_val ha44 rfl rfl rfl (op_seql ha44 rfl rfl rfl) ?_
                        intro a47 ha47; clear ha44 a44
                        refine wl_val ha47 rfl rfl rfl (op_assign ha47 rfl rfl) ?_
                        intro a48 ha48; clear ha47 a47
                        refine wpList_nil ?_
                        refine then_n ?_
                        by_cases c49 : w = ([114, 101, 108, 101, 97, 115, 101] : Str)
                        ·
                          rw [decide_eq_true c49] at ha48
                          refine cond_t ha48 rfl ?_
                          refine wp_skip ?_
                          refine then_n ?_
                          refine cond_t ha48 rfl ?_
                          refine wp_seq ?_
                          refine wp_region_lit ?_
                          refine wl_val ha48 rfl rfl rfl (op_assign ha48 rfl rfl) ?_
                          intro a50 ha50; clear ha48 a48
                          refine wpList_nil ?_
                          refine then_n ?_
                          refine wp_ret ?_
                          refine block_r ?_
                          refine then_r ?_
                          refine ret1 ha50 rfl rfl ?_
                          clear ha50 a50
                          exact ret_mk hx0 (congrArg St (by rw [c49]; decide))
                        ·
                          rw [decide_eq_false c49] at ha48
                          refine cond_f ha48 rfl ?_
                          refine wp_region_lit ?_
                          refine wl_val ha48 rfl rfl rfl (op_seql ha48 rfl rfl rfl) ?_
                          intro a51 ha51; clear ha48 a48
                          refine wl_val ha51 rfl rfl rfl (op_assign ha51 rfl rfl) ?_
                          intro a52 ha52; clear ha51 a51
                          refine wpList_nil ?_
                          refine then_n ?_
                          by_cases c53 : w = ([117, 115, 101] : Str)
                          ·
                            rw [decide_eq_true c53] at ha52
                            refine cond_t ha52 rfl ?_
                            refine wp_seq ?_
                            refine wp_region_lit ?_
                            refine wl_val ha52 rfl rfl rfl (op_assign ha52 rfl rfl) ?_
                            intro a54 ha54; clear ha52 a52
                            refine wpList_nil ?_
                            refine then_n ?_
                            refine wp_ret ?_
                            refine block_r ?_
                            refine then_r ?_
                            refine ret1 ha54 rfl rfl ?_
                            clear ha54 a54
                            exact ret_mk hx0 (congrArg St (by rw [c53]; decide))
                          ·
                            rw [decide_eq_false c53] at ha52
                            refine cond_f ha52 rfl ?_
                            refine wp_seq ?_
                            refine wp_seq ?_
                            refine wp_region_lit ?_
                            refine wl_val ha52 rfl rfl rfl (op_seql ha52 rfl rfl rfl) ?_
                            intro a55 ha55; clear ha52 a52
                            refine wl_val ha55 rfl rfl rfl (op_assign ha55 rfl rfl) ?_
                            intro a56 ha56; clear ha55 a55
                            refine wpList_nil ?_
                            refine then_n ?_
                            by_cases c57 : w = ([98, 105, 110] : Str)
                            ·
                              rw [decide_eq_true c57] at ha56
                              refine cond_t ha56 rfl ?_
                              refine wp_skip ?_
                              refine then_n ?_
                              refine cond_t ha56 rfl ?_
                              refine wp_seq ?_
                              refine wp_region_lit ?_
                              refine wl_val ha56 rfl rfl rfl (op_assign ha56 rfl rfl) ?_
                              intro a58 ha58; clear ha56 a56
                              refine wpList_nil ?_
                              refine then_n ?_
                              refine wp_ret ?_
                              refine block_r ?_
                              refine then_r ?_
                              refine ret1 ha58 rfl rfl ?_
                              clear ha58 a58
                              exact ret_mk hx0 (congrArg St (by rw [c57]; decide))
                            ·
                              rw [decide_eq_false c57] at ha56
                              refine cond_f ha56 rfl ?_
                              refine wp_seq ?_
                              refine wp_region_lit ?_
                              refine wl_val ha56 rfl rfl rfl (op_seql ha56 rfl rfl rfl) ?_
                              intro a59 ha59; clear ha56 a56
                              refine wl_val ha59 rfl rfl rfl (op_assign ha59 rfl rfl) ?_
                              intro a60 ha60; clear ha59 a59
                              refine wpList_nil ?_
                              refine then_n ?_
                              by_cases c61 : w = ([112, 114, 111, 109, 105, 115, 101] : Str)
                              ·
                                rw [decide_eq_true c61] at ha60
                                refine cond_t ha60 rfl ?_
                                refine wp_skip ?_
                                refine then_n ?_
                                refine cond_t ha60 rfl ?_
                                refine wp_seq ?_
                                refine wp_region_lit ?_
                                refine wl_val ha60 rfl rfl rfl (op_assign ha60 rfl rfl) ?_
                                intro a62 ha62; clear ha60 a60
                                refine wpList_nil ?_
                                refine then_n ?_
                                refine wp_ret ?_
                                refine block_r ?_
                                refine then_r ?_
                                refine ret1 ha62 rfl rfl ?_
                                clear ha62 a62
                                exact ret_mk hx0 (congrArg St (by rw [c61]; decide))
                              ·
                                rw [decide_eq_false c61] at ha60
                                refine cond_f ha60 rfl ?_
                                refine wp_seq ?_
                                refine wp_region_lit ?_
                                refine wl_val ha60 rfl rfl rfl (op_seql ha60 rfl rfl rfl) ?_
                                intro a63 ha63; clear ha60 a60
                                refine wl_val ha63 rfl rfl rfl (op_assign ha63 rfl rfl) ?_
                                intro a64 ha64; clear ha63 a63
                                refine wpList_nil ?_
                                refine then_n ?_
                                by_cases c65 : w = ([115, 97, 108, 101] : Str)
                                ·
                                  rw [decide_eq_true c65] at ha64
                                  refine cond_t ha64 rfl ?_
                                  refine wp_skip ?_
                                  refine then_n ?_
                                  refine cond_t ha64 rfl ?_
                                  refine wp_seq ?_
                                  refine wp_region_lit ?_
                                  refine wl_val ha64 rfl rfl rfl (op_assign ha64 rfl rfl) ?_
                                  intro a66 ha66; clear ha64 a64
                                  refine wpList_nil ?_
                                  refine then_n ?_
                                  refine wp_ret ?_
                                  refine block_r ?_
                                  refine then_r ?_
                                  refine ret1 ha66 rfl rfl ?_
                                  clear ha66 a66
                                  exact ret_mk hx0 (congrArg St (by rw [c65]; decide))
                                ·
                                  rw [decide_eq_false c65] at ha64
                                  refine cond_f ha64 rfl ?_
                                  refine wp_seq ?_
                                  refine wp_region_lit ?_
                                  refine wl_val ha64 rfl rfl rfl (op_seql ha64 rfl rfl rfl) ?_
                                  intro a67 ha67; clear ha64 a64
                                  refine wl_val ha67 rfl rfl rfl (op_assign ha67 rfl rfl) ?_
                                  intro a68 ha68; clear ha67 a67
                                  refine wpList_nil ?_
                                  refine then_n ?_
                                  by_cases c69 : w = ([112, 97, 121] : Str)
                                  ·
                                    rw [decide_eq_true c69] at ha68
                                    refine cond_t ha68 rfl ?_
                                    refine wp_skip ?_
                                    refine then_n ?_
                                    refine cond_t ha68 rfl ?_
                                    refine wp_seq ?_
                                    refine wp_region_lit ?_
                                    refine wl_val ha68 rfl rfl rfl (op_assign ha68 rfl rfl) ?_
                                    intro a70 ha70; clear ha68 a68
                                    refine wpList_nil ?_
                                    refine then_n ?_
                                    refine wp_ret ?_
                                    refine block_r ?_
                                    refine then_r ?_
                                    refine ret1 ha70 rfl rfl ?_
                                    clear ha70 a70
                                    exact ret_mk hx0 (congrArg St (by rw [c69]; decide))
                                  ·
                                    rw [decide_eq_false c69] at ha68
                                    refine cond_f ha68 rfl ?_
                                    refine wp_region_lit ?_
                                    refine wl_val ha68 rfl rfl rfl (op_seql ha68 rfl rfl rfl) ?_
                                    intro a71 ha71; clear ha68 a68
                                    refine wl_val ha71 rfl rfl rfl (op_assign ha71 rfl rfl) ?_
                                    intro a72 ha72; clear ha71 a71
                                    refine wpList_nil ?_
                                    refine then_n ?_
                                    by_cases c73 : w = ([98, 117, 121] : Str)
                                    ·
                                      rw [decide_eq_true c73] at ha72
                                      refine cond_t ha72 rfl ?_
                                      refine wp_seq ?_
                                      refine wp_region_lit ?_
                                      refine wl_val ha72 rfl rfl rfl (op_assign ha72 rfl rfl) ?_
                                      intro a74 ha74; clear ha72 a72
                                      refine wpList_nil ?_
                                      refine then_n ?_
                                      refine wp_ret ?_
                                      refine block_r ?_
                                      refine then_r ?_
                                      refine ret1 ha74 rfl rfl ?_
                                      clear ha74 a74
                                      exact ret_mk hx0 (congrArg St (by rw [c73]; decide))
                                    ·
                                      rw [decide_eq_false c73] at ha72
                                      refine cond_f ha72 rfl ?_
                                      refine wp_skip ?_
                                      refine block_n ?_
                                      refine then_n ?_
                                      refine wp_seq ?_
                                      refine wp_region_lit ?_
                                      refine wl_val ha72 rfl rfl rfl (op_assign ha72 rfl rfl) ?_
                                      intro a75 ha75; clear ha72 a72
                                      refine wpList_nil ?_
                                      refine then_n ?_
                                      refine wp_ret ?_
                                      refine ret1 ha75 rfl rfl ?_
                                      clear ha75 a75
                                      exact ret_mk hx0 (congrArg St (by simp [kdP, kdO, kdL, W3, W2, W1, W0, WI, WII, c5, c9, c13, c17, c21, c25, c29, c33, c37, c41, c45, c49, c53, c57, c61, c65, c69, c73]))

set_option maxHeartbeats 4000000 in
theorem c_impl_commandShape (w0 : World) (w : Str)  :
    Calls Try.prog 33 #[St w] w0 (Ret w0 (fun v _ => v = .tuple #[St (kdS 116 105 w), .bool ((kdO w).isSome)])) := by
  refine enter (N := 29) Try.func33 rfl rfl rfl ?_
  intro a0 ha0
  have hx0 := Ext.rfl' w0
  refine wp_seq ?_
  refine wp_region_lit ?_
  refine wl_val ha0 rfl rfl rfl (op_assign ha0 rfl rfl) ?_
  intro a1 ha1; clear ha0 a0
  refine wl_val ha1 rfl rfl rfl (op_assign ha1 rfl rfl) ?_
  intro a2 ha2; clear ha1 a1
  refine wpList_nil ?_
  refine then_n ?_
  refine wp_seq ?_
  refine wp_seq ?_
  refine wp_region_lit ?_
  refine wl_val ha2 rfl rfl rfl (op_move ha2 rfl rfl) ?_
  intro a3 ha3; clear ha2 a2
  refine wpList_nil ?_
  refine then_n ?_
  refine wp_block ?_
  refine wp_seq ?_
  refine wp_seq ?_
  refine wp_region_lit ?_
  refine wl_val ha3 rfl rfl rfl (op_seql ha3 rfl rfl rfl) ?_
  intro a4 ha4; clear ha3 a3
  refine wl_val ha4 rfl rfl rfl (op_assign ha4 rfl rfl) ?_
  intro a5 ha5; clear ha4 a4
  refine wpList_nil ?_
  refine then_n ?_
  by_cases c6 : w = ([98, 105, 110] : Str)
  ·
    rw [decide_eq_true c6] at ha5
    refine cond_t ha5 rfl ?_
    refine wp_skip ?_
    refine then_n ?_
    refine cond_t ha5 rfl ?_
    refine wp_seq ?_
    refine wp_region_lit ?_
    refine wl_val ha5 rfl rfl rfl (op_assign ha5 rfl rfl) ?_
    intro a7 ha7; clear ha5 a5
    refine wl_val ha7 rfl rfl rfl (op_assign ha7 rfl rfl) ?_
    intro a8 ha8; clear ha7 a7
    refine wpList_nil ?_
    refine then_n ?_
    refine wp_ret ?_
    refine block_r ?_
    refine then_r ?_
    refine ret2 ha8 rfl rfl rfl ?_
    clear ha8 a8
    exact ret_mk hx0 (tup2_eq (congrArg St (by rw [c6]; decide)) (congrArg Value.bool (by rw [c6]; decide)))
  ·
    rw [decide_eq_false c6] at ha5
    refine cond_f ha5 rfl ?_
    refine wp_seq ?_
    refine wp_region_lit ?_
    refine wl_val ha5 rfl rfl rfl (op_seql ha5 rfl rfl rfl) ?_
    intro a9 ha9; clear ha5 a5
    refine wl_val ha9 rfl rfl rfl (op_assign ha9 rfl rfl) ?_
    intro a10 ha10; clear ha9 a9
    refine wpList_nil ?_
    refine then_n ?_
    by_cases c11 : w = ([112, 114, 111, 109, 105, 115, 101] : Str)
    ·
      rw [decide_eq_true c11] at ha10
      refine cond_t ha10 rfl ?_
      refine wp_skip ?_
      refine then_n ?_
      refine cond_t ha10 rfl ?_
      refine wp_seq ?_
      refine wp_region_lit ?_
      refine wl_val ha10 rfl rfl rfl (op_assign ha10 rfl rfl) ?_
      intro a12 ha12; clear ha10 a10
      refine wl_val ha12 rfl rfl rfl (op_assign ha12 rfl rfl) ?_
      intro a13 ha13; clear ha12 a12
      refine wpList_nil ?_
      refine then_n ?_
      refine wp_ret ?_
      refine block_r ?_
      refine then_r ?_
      refine ret2 ha13 rfl rfl rfl ?_
      clear ha13 a13
      exact ret_mk hx0 (tup2_eq (congrArg St (by rw [c11]; decide)) (congrArg Value.bool (by rw [c11]; decide)))
    ·
      rw [decide_eq_false c11] at ha10
      refine cond_f ha10 rfl ?_
      refine wp_seq ?_
      refine wp_region_lit ?_
      refine wl_val ha10 rfl rfl rfl (op_seql ha10 rfl rfl rfl) ?_
      intro a14 ha14; clear ha10 a10
      refine wl_val ha14 rfl rfl rfl (op_assign ha14 rfl rfl) ?_
      intro a15 ha15; clear ha14 a14
      refine wpList_nil ?_
      refine then_n ?_
      by_cases c16 : w = ([115, 97, 108, 101] : Str)
      ·
        rw [decide_eq_true c16] at ha15
        refine cond_t ha15 rfl ?_
        refine wp_skip ?_
        refine then_n ?_
        refine cond_t ha15 rfl ?_
        refine wp_seq ?_
        refine wp_region_lit ?_
        refine wl_val ha15 rfl rfl rfl (op_assign ha15 rfl rfl) ?_
        intro a17 ha17; clear ha15 a15
        refine wl_val ha17 rfl rfl rfl (op_assign ha17 rfl rfl) ?_
        intro a18 ha18; clear ha17 a17
        refine wpList_nil ?_
        refine then_n ?_
        refine wp_ret ?_
        refine block_r ?_
        refine then_r ?_
        refine ret2 ha18 rfl rfl rfl ?_
        clear ha18 a18
        exact ret_mk hx0 (tup2_eq (congrArg St (by rw [c16]; decide)) (congrArg Value.bool (by rw [c16]; decide)))
      ·
        rw [decide_eq_false c16] at ha15
        refine cond_f ha15 rfl ?_
        refine wp_seq ?_
        refine wp_region_lit ?_
        refine wl_val ha15 rfl rfl rfl (op_seql ha15 rfl rfl rfl) ?_
        intro a19 ha19; clear ha15 a15
        refine wl_val ha19 rfl rfl rfl (op_assign ha19 rfl rfl) ?_
        intro a20 ha20; clear ha19 a19
        refine wpList_nil ?_
        refine then_n ?_
        by_cases c21 : w = ([112, 97, 121] : Str)
        ·
          rw [decide_eq_true c21] at ha20
          refine cond_t ha20 rfl ?_
          refine wp_skip ?_
          refine then_n ?_
          refine cond_t ha20 rfl ?_
          refine wp_seq ?_
          refine wp_region_lit ?_
          refine wl_val ha20 rfl rfl rfl (op_assign ha20 rfl rfl) ?_
          intro a22 ha22; clear ha20 a20
          refine wl_val ha22 rfl rfl rfl (op_assign ha22 rfl rfl) ?_
          intro a23 ha23; clear ha22 a22
          refine wpList_nil ?_
          refine then_n ?_
          refine wp_ret ?_
          refine block_r ?_
          refine then_r ?_
          refine ret2 ha23 rfl rfl rfl ?_
          clear ha23 a23
          exact ret_mk hx0 (tup2_eq (congrArg St (by rw [c21]; decide)) (congrArg Value.bool (by rw [c21]; decide)))
        ·
          rw [decide_eq_false c21] at ha20
          refine cond_f ha20 rfl ?_
          refine wp_region_lit ?_
          refine wl_val ha20 rfl rfl rfl (op_seql ha20 rfl rfl rfl) ?_
          intro a24 ha24; clear ha20 a20
          refine wl_val ha24 rfl rfl rfl (op_assign ha24 rfl rfl) ?_
          intro a25 ha25; clear ha24 a24
          refine wpList_nil ?_
          refine then_n ?_
          by_cases c26 : w = ([98, 117, 121] : Str)
          ·
            rw [decide_eq_true c26] at ha25
            refine cond_t ha25 rfl ?_
            refine wp_seq ?_
            refine wp_region_lit ?_
            refine wl_val ha25 rfl rfl rfl (op_assign ha25 rfl rfl) ?_
            intro a27 ha27; clear ha25 a25
            refine wl_val ha27 rfl rfl rfl (op_assign ha27 rfl rfl) ?_
            intro a28 ha28; clear ha27 a27
            refine wpList_nil ?_
            refine then_n ?_
            refine wp_ret ?_
            refine block_r ?_
            refine then_r ?_
            refine ret2 ha28 rfl rfl rfl ?_
            clear ha28 a28
            exact ret_mk hx0 (tup2_eq (congrArg St (by rw [c26]; decide)) (congrArg Value.bool (by rw [c26]; decide)))
          ·
            rw [decide_eq_false c26] at ha25
            refine cond_f ha25 rfl ?_
            refine wp_seq ?_
            refine wp_seq ?_
            refine wp_region_lit ?_
            refine wl_val ha25 rfl rfl rfl (op_seql ha25 rfl rfl rfl) ?_
            intro a29 ha29; clear ha25 a25
            refine wl_val ha29 rfl rfl rfl (op_assign ha29 rfl rfl) ?_
            intro a30 ha30; clear ha29 a29
            refine wpList_nil ?_
            refine then_n ?_
            by_cases c31 : w = ([102, 105, 108, 108] : Str)
            ·
              rw [decide_eq_true c31] at ha30
              refine cond_t ha30 rfl ?_
              refine wp_skip ?_
              refine then_n ?_
              refine cond_t ha30 rfl ?_
              refine wp_seq ?_
              refine wp_region_lit ?_
              refine wl_val ha30 rfl rfl rfl (op_assign ha30 rfl rfl) ?_
              intro a32 ha32; clear ha30 a30
              refine wl_val ha32 rfl rfl rfl (op_assign ha32 rfl rfl) ?_
              intro a33 ha33; clear ha32 a32
              refine wpList_nil ?_
              refine then_n ?_
              refine wp_ret ?_
              refine block_r ?_
              refine then_r ?_
              refine ret2 ha33 rfl rfl rfl ?_
              clear ha33 a33
              exact ret_mk hx0 (tup2_eq (congrArg St (by rw [c31]; decide)) (congrArg Value.bool (by rw [c31]; decide)))
            ·
              rw [decide_eq_false c31] at ha30
              refine cond_f ha30 rfl ?_
              refine wp_seq ?_
              refine wp_region_lit ?_
              refine wl_val ha30 rfl rfl rfl (op_seql ha30 rfl rfl rfl) ?_
              intro a34 ha34; clear ha30 a30
              refine wl_val ha34 rfl rfl rfl (op_assign ha34 rfl rfl) ?_
              intro a35 ha35; clear ha34 a34
              refine wpList_nil ?_
              refine then_n ?_
              by_cases c36 : w = ([114, 101, 115, 101, 114, 118, 101] : Str)
              ·
                rw [decide_eq_true c36] at ha35
                refine cond_t ha35 rfl ?_
                refine wp_skip ?_
                refine then_n ?_
                refine cond_t ha35 rfl ?_
                refine wp_seq ?_
                refine wp_region_lit ?_
                refine wl_val ha35 rfl rfl rfl (op_assign ha35 rfl rfl) ?_
                intro a37 ha37; clear ha35 a35
                refine wl_val ha37 rfl rfl rfl (op_assign ha37 rfl rfl) ?_
                intro a38 ha38; clear ha37 a37
                refine wpList_nil ?_
                refine then_n ?_
                refine wp_ret ?_
                refine block_r ?_
                refine then_r ?_
                refine ret2 ha38 rfl rfl rfl ?_
                clear ha38 a38
                exact ret_mk hx0 (tup2_eq (congrArg St (by rw [c36]; decide)) (congrArg Value.bool (by rw [c36]; decide)))
              ·
                rw [decide_eq_false c36] at ha35
                refine cond_f ha35 rfl ?_
                refine wp_seq ?_
                refine wp_region_lit ?_
                refine wl_val ha35 rfl rfl rfl (op_seql ha35 rfl rfl rfl) ?_
                intro a39 ha39; clear ha35 a35
                refine wl_val ha39 rfl rfl rfl (op_assign ha39 rfl rfl) ?_
                intro a40 ha40; clear ha39 a39
                refine wpList_nil ?_
                refine then_n ?_
                by_cases c41 : w = ([114, 101, 108, 101, 97, 115, 101] : Str)
                ·
                  rw [decide_eq_true c41] at ha40
                  refine cond_t ha40 rfl ?_
                  refine wp_skip ?_
                  refine then_n ?_
                  refine cond_t ha40 rfl ?_
                  refine wp_seq ?_
                  refine wp_region_lit ?_
                  refine wl_val ha40 rfl rfl rfl (op_assign ha40 rfl rfl) ?_
                  intro a42 ha42; clear ha40 a40
                  refine wl_val ha42 rfl rfl rfl (op_assign ha42 rfl rfl) ?_
                  intro a43 ha43; clear ha42 a42
                  refine wpList_nil ?_
                  refine then_n ?_
                  refine wp_ret ?_
                  refine block_r ?_
                  refine then_r ?_
                  refine ret2 ha43 rfl rfl rfl ?_
                  clear ha43 a43
                  exact ret_mk hx0 (tup2_eq (congrArg St (by rw [c41]; decide)) (congrArg Value.bool (by rw [c41]; decide)))
                ·
                  rw [decide_eq_false c41] at ha40
                  refine cond_f ha40 rfl ?_
                  refine wp_region_lit ?_
                  refine wl_val ha40 rfl rfl rfl (op_seql ha40 rfl rfl rfl) ?_
                  intro a44 ha44; clear ha40 a40
                  refine wl_val ha44 rfl rfl rfl (op_assign ha44 rfl rfl) ?_
                  intro a45 ha45; clear ha44 a44
                  refine wpList_nil ?_
                  refine then_n ?_
                  by_cases c46 : w = ([117, 115, 101] : Str)
                  ·
                    rw [decide_eq_true c46] at ha45
                    refine cond_t ha45 rfl ?_
                    refine wp_seq ?_
                    refine wp_region_lit ?_
                    refine wl_val ha45 rfl rfl rfl (op_assign ha45 rfl rfl) ?_
                    intro a47 ha47; clear ha45 a45
                    refine wl_val ha47 rfl rfl rfl (op_assign ha47 rfl rfl) ?_
                    intro a48 ha48; clear ha47 a47
                    refine wpList_nil ?_
                    refine then_n ?_
                    refine wp_ret ?_
                    refine block_r ?_
                    refine then_r ?_
                    refine ret2 ha48 rfl rfl rfl ?_
                    clear ha48 a48
                    exact ret_mk hx0 (tup2_eq (congrArg St (by rw [c46]; decide)) (congrArg Value.bool (by rw [c46]; decide)))
                  ·
                    rw [decide_eq_false c46] at ha45
                    refine cond_f ha45 rfl ?_
                    refine wp_seq ?_
                    refine wp_seq ?_
                    refine wp_region_lit ?_
                    refine wl_val ha45 rfl rfl rfl (op_seql ha45 rfl rfl rfl) ?_
                    intro a49 ha49; clear ha45 a45
                    refine wl_val ha49 rfl rfl rfl (op_assign ha49 rfl rfl) ?_
                    intro a50 ha50; clear ha49 a49
                    refine wpList_nil ?_
                    refine then_n ?_
                    by_cases c51 : w = ([102, 114, 101, 101] : Str)
                    ·
                      rw [decide_eq_true c51] at ha50
                      refine cond_t ha50 rfl ?_
                      refine wp_skip ?_
                      refine then_n ?_
                      refine cond_t ha50 rfl ?_
                      refine wp_seq ?_
                      refine wp_region_lit ?_
                      refine wl_val ha50 rfl rfl rfl (op_assign ha50 rfl rfl) ?_
                      intro a52 ha52; clear ha50 a50
                      refine wl_val ha52 rfl rfl rfl (op_assign ha52 rfl rfl) ?_
                      intro a53 ha53; clear ha52 a52
                      refine wpList_nil ?_
                      refine then_n ?_
                      refine wp_ret ?_
                      refine block_r ?_
                      refine then_r ?_
                      refine ret2 ha53 rfl rfl rfl ?_
                      clear ha53 a53
                      exact ret_mk hx0 (tup2_eq (congrArg St (by rw [c51]; decide)) (congrArg Value.bool (by rw [c51]; decide)))
                    ·
                      rw [decide_eq_false c51] at ha50
                      refine cond_f ha50 rfl ?_
                      refine wp_region_lit ?_
                      refine wl_val ha50 rfl rfl rfl (op_seql ha50 rfl rfl rfl) ?_
                      intro a54 ha54; clear ha50 a50
                      refine wl_val ha54 rfl rfl rfl (op_assign ha54 rfl rfl) ?_
                      intro a55 ha55; clear ha54 a54
                      refine wpList_nil ?_
                      refine then_n ?_
                      by_cases c56 : w = ([111, 119, 101, 115] : Str)
                      ·
                        rw [decide_eq_true c56] at ha55
                        refine cond_t ha55 rfl ?_
                        refine wp_seq ?_
                        refine wp_region_lit ?_
                        refine wl_val ha55 rfl rfl rfl (op_assign ha55 rfl rfl) ?_
                        intro a57 ha57; clear ha55 a55
                        refine wl_val ha57 rfl rfl rfl (op_assign ha57 rfl rfl) ?_
                        intro a58 ha58; clear ha57 a57
                        refine wpList_nil ?_
                        refine then_n ?_
                        refine wp_ret ?_
                        refine block_r ?_
                        refine then_r ?_
                        refine ret2 ha58 rfl rfl rfl ?_
                        clear ha58 a58
                        exact ret_mk hx0 (tup2_eq (congrArg St (by rw [c56]; decide)) (congrArg Value.bool (by rw [c56]; decide)))
                      ·
                        rw [decide_eq_false c56] at ha55
                        refine cond_f ha55 rfl ?_
                        refine wp_seq ?_
                        refine wp_seq ?_
                        refine wp_region_lit ?_
                        refine wl_val ha55 rfl rfl rfl (op_seql ha55 rfl rfl rfl) ?_
                        intro a59 ha59; clear ha55 a55
                        refine wl_val ha59 rfl rfl rfl (op_assign ha59 rfl rfl) ?_
                        intro a60 ha60; clear ha59 a59
                        refine wpList_nil ?_
                        refine then_n ?_
                        by_cases c61 : w = ([111, 114, 100, 101, 114] : Str)
                        ·
                          rw [decide_eq_true c61] at ha60
                          refine cond_t ha60 rfl ?_
                          refine wp_skip ?_
                          refine then_n ?_
                          refine cond_t ha60 rfl ?_
                          refine wp_seq ?_
                          refine wp_region_lit ?_
                          refine wl_val ha60 rfl rfl rfl (op_assign ha60 rfl rfl) ?_
                          intro a62 ha62; clear ha60 a60
                          refine wl_val ha62 rfl rfl rfl (op_assign ha62 rfl rfl) ?_
                          intro a63 ha63; clear ha62 a62
                          refine wpList_nil ?_
                          refine then_n ?_
                          refine wp_ret ?_
                          refine block_r ?_
                          refine then_r ?_
                          refine ret2 ha63 rfl rfl rfl ?_
                          clear ha63 a63
                          exact ret_mk hx0 (tup2_eq (congrArg St (by rw [c61]; decide)) (congrArg Value.bool (by rw [c61]; decide)))
                        ·
                          rw [decide_eq_false c61] at ha60
                          refine cond_f ha60 rfl ?_
                          refine wp_region_lit ?_
                          refine wl_val ha60 rfl rfl rfl (op_seql ha60 rfl rfl rfl) ?_
                          intro a64 ha64; clear ha60 a60
                          refine wl_val ha64 rfl rfl rfl (op_assign ha64 rfl rfl) ?_
                          intro a65 ha65; clear ha64 a64
                          refine wpList_nil ?_
                          refine then_n ?_
                          by_cases c66 : w = ([107, 101, 112, 116] : Str)
                          ·
                            rw [decide_eq_true c66] at ha65
                            refine cond_t ha65 rfl ?_
                            refine wp_seq ?_
                            refine wp_region_lit ?_
                            refine wl_val ha65 rfl rfl rfl (op_assign ha65 rfl rfl) ?_
                            intro a67 ha67; clear ha65 a65
                            refine wl_val ha67 rfl rfl rfl (op_assign ha67 rfl rfl) ?_
                            intro a68 ha68; clear ha67 a67
                            refine wpList_nil ?_
                            refine then_n ?_
                            refine wp_ret ?_
                            refine block_r ?_
                            refine then_r ?_
                            refine ret2 ha68 rfl rfl rfl ?_
                            clear ha68 a68
                            exact ret_mk hx0 (tup2_eq (congrArg St (by rw [c66]; decide)) (congrArg Value.bool (by rw [c66]; decide)))
                          ·
                            rw [decide_eq_false c66] at ha65
                            refine cond_f ha65 rfl ?_
                            refine wp_seq ?_
                            refine wp_seq ?_
                            refine wp_region_lit ?_
                            refine wl_val ha65 rfl rfl rfl (op_seql ha65 rfl rfl rfl) ?_
                            intro a69 ha69; clear ha65 a65
                            refine wl_val ha69 rfl rfl rfl (op_assign ha69 rfl rfl) ?_
                            intro a70 ha70; clear ha69 a69
                            refine wpList_nil ?_
                            refine then_n ?_
                            by_cases c71 : w = ([119, 104, 101, 110] : Str)
                            ·
                              rw [decide_eq_true c71] at ha70
                              refine cond_t ha70 rfl ?_
                              refine wp_skip ?_
                              refine then_n ?_
                              refine cond_t ha70 rfl ?_
                              refine wp_seq ?_
                              refine wp_region_lit ?_
                              refine wl_val ha70 rfl rfl rfl (op_assign ha70 rfl rfl) ?_
                              intro a72 ha72; clear ha70 a70
                              refine wl_val ha72 rfl rfl rfl (op_assign ha72 rfl rfl) ?_
                              intro a73 ha73; clear ha72 a72
                              refine wpList_nil ?_
                              refine then_n ?_
                              refine wp_ret ?_
                              refine block_r ?_
                              refine then_r ?_
                              refine ret2 ha73 rfl rfl rfl ?_
                              clear ha73 a73
                              exact ret_mk hx0 (tup2_eq (congrArg St (by rw [c71]; decide)) (congrArg Value.bool (by rw [c71]; decide)))
                            ·
                              rw [decide_eq_false c71] at ha70
                              refine cond_f ha70 rfl ?_
                              refine wp_seq ?_
                              refine wp_region_lit ?_
                              refine wl_val ha70 rfl rfl rfl (op_seql ha70 rfl rfl rfl) ?_
                              intro a74 ha74; clear ha70 a70
                              refine wl_val ha74 rfl rfl rfl (op_assign ha74 rfl rfl) ?_
                              intro a75 ha75; clear ha74 a74
                              refine wpList_nil ?_
                              refine then_n ?_
                              by_cases c76 : w = ([99, 108, 111, 115, 101] : Str)
                              ·
                                rw [decide_eq_true c76] at ha75
                                refine cond_t ha75 rfl ?_
                                refine wp_skip ?_
                                refine then_n ?_
                                refine cond_t ha75 rfl ?_
                                refine wp_seq ?_
                                refine wp_region_lit ?_
                                refine wl_val ha75 rfl rfl rfl (op_assign ha75 rfl rfl) ?_
                                intro a77 ha77; clear ha75 a75
                                refine wl_val ha77 rfl rfl rfl (op_assign ha77 rfl rfl) ?_
                                intro a78 ha78; clear ha77 a77
                                refine wpList_nil ?_
                                refine then_n ?_
                                refine wp_ret ?_
                                refine block_r ?_
                                refine then_r ?_
                                refine ret2 ha78 rfl rfl rfl ?_
                                clear ha78 a78
                                exact ret_mk hx0 (tup2_eq (congrArg St (by rw [c76]; decide)) (congrArg Value.bool (by rw [c76]; decide)))
                              ·
                                rw [decide_eq_false c76] at ha75
                                refine cond_f ha75 rfl ?_
                                refine wp_seq ?_
                                refine wp_region_lit ?_
                                refine wl_val ha75 rfl rfl rfl (op_seql ha75 rfl rfl rfl) ?_
                                intro a79 ha79; clear ha75 a75
                                refine wl_val ha79 rfl rfl rfl (op_assign ha79 rfl rfl) ?_
                                intro a80 ha80; clear ha79 a79
                                refine wpList_nil ?_
                                refine then_n ?_
                                by_cases c81 : w = ([99, 97, 115, 104] : Str)
                                ·
                                  rw [decide_eq_true c81] at ha80
                                  refine cond_t ha80 rfl ?_
                                  refine wp_skip ?_
                                  refine then_n ?_
                                  refine cond_t ha80 rfl ?_
                                  refine wp_seq ?_
                                  refine wp_region_lit ?_
                                  refine wl_val ha80 rfl rfl rfl (op_assign ha80 rfl rfl) ?_
                                  intro a82 ha82; clear ha80 a80
                                  refine wl_val ha82 rfl rfl rfl (op_assign ha82 rfl rfl) ?_
                                  intro a83 ha83; clear ha82 a82
                                  refine wpList_nil ?_
                                  refine then_n ?_
                                  refine wp_ret ?_
                                  refine block_r ?_
                                  refine then_r ?_
                                  refine ret2 ha83 rfl rfl rfl ?_
                                  clear ha83 a83
                                  exact ret_mk hx0 (tup2_eq (congrArg St (by rw [c81]; decide)) (congrArg Value.bool (by rw [c81]; decide)))
                                ·
                                  rw [decide_eq_false c81] at ha80
                                  refine cond_f ha80 rfl ?_
                                  refine wp_region_lit ?_
                                  refine wl_val ha80 rfl rfl rfl (op_seql ha80 rfl rfl rfl) ?_
                                  intro a84 ha84; clear ha80 a80
                                  refine wl_val ha84 rfl rfl rfl (op_assign ha84 rfl rfl) ?_
                                  intro a85 ha85; clear ha84 a84
                                  refine wpList_nil ?_
                                  refine then_n ?_
                                  by_cases c86 : w = ([109, 109] : Str)
                                  ·
                                    rw [decide_eq_true c86] at ha85
                                    refine cond_t ha85 rfl ?_
                                    refine wp_seq ?_
                                    refine wp_region_lit ?_
                                    refine wl_val ha85 rfl rfl rfl (op_assign ha85 rfl rfl) ?_
                                    intro a87 ha87; clear ha85 a85
                                    refine wl_val ha87 rfl rfl rfl (op_assign ha87 rfl rfl) ?_
                                    intro a88 ha88; clear ha87 a87
                                    refine wpList_nil ?_
                                    refine then_n ?_
                                    refine wp_ret ?_
                                    refine block_r ?_
                                    refine then_r ?_
                                    refine ret2 ha88 rfl rfl rfl ?_
                                    clear ha88 a88
                                    exact ret_mk hx0 (tup2_eq (congrArg St (by rw [c86]; decide)) (congrArg Value.bool (by rw [c86]; decide)))
                                  ·
                                    rw [decide_eq_false c86] at ha85
                                    refine cond_f ha85 rfl ?_
                                    refine wp_seq ?_
                                    refine wp_region_lit ?_
                                    refine wl_val ha85 rfl rfl rfl (op_seql ha85 rfl rfl rfl) ?_
                                    intro a89 ha89; clear ha85 a85
                                    refine wl_val ha89 rfl rfl rfl (op_assign ha89 rfl rfl) ?_
                                    intro a90 ha90; clear ha89 a89
                                    refine wpList_nil ?_
                                    refine then_n ?_
                                    by_cases c91 : w = ([103, 101, 97, 114] : Str)
                                    ·
                                      rw [decide_eq_true c91] at ha90
                                      refine cond_t ha90 rfl ?_
                                      refine wp_seq ?_
                                      refine wp_region_lit ?_
                                      refine wl_val ha90 rfl rfl rfl (op_assign ha90 rfl rfl) ?_
                                      intro a92 ha92; clear ha90 a90
                                      refine wl_val ha92 rfl rfl rfl (op_assign ha92 rfl rfl) ?_
                                      intro a93 ha93; clear ha92 a92
                                      refine wpList_nil ?_
                                      refine then_n ?_
                                      refine wp_ret ?_
                                      refine block_r ?_
                                      refine then_r ?_
                                      refine ret2 ha93 rfl rfl rfl ?_
                                      clear ha93 a93
                                      exact ret_mk hx0 (tup2_eq (congrArg St (by rw [c91]; decide)) (congrArg Value.bool (by rw [c91]; decide)))
                                    ·
                                      rw [decide_eq_false c91] at ha90
                                      refine cond_f ha90 rfl ?_
                                      refine wp_skip ?_
                                      refine block_n ?_
                                      refine then_n ?_
                                      refine wp_seq ?_
                                      refine wp_region_lit ?_
                                      refine wl_val ha90 rfl rfl rfl (op_assign ha90 rfl rfl) ?_
                                      intro a94 ha94; clear ha90 a90
                                      refine wl_val ha94 rfl rfl rfl (op_assign ha94 rfl rfl) ?_
                                      intro a95 ha95; clear ha94 a94
                                      refine wpList_nil ?_
                                      refine then_n ?_
                                      refine wp_ret ?_
                                      refine ret2 ha95 rfl rfl rfl ?_
                                      clear ha95 a95
                                      exact ret_mk hx0 (tup2_eq (congrArg St (by simp [kdS, kdO, kdL, W3, W2, W1, W0, WI, WII, c6, c11, c16, c21, c26, c31, c36, c41, c46, c51, c56, c61, c66, c71, c76, c81, c86, c91])) (congrArg Value.bool (by simp [kdS, kdO, kdL, W3, W2, W1, W0, WI, WII, c6, c11, c16, c21, c26, c31, c36, c41, c46, c51, c56, c61, c66, c71, c76, c81, c86, c91])))


end Go.Proofs.Ythbehhhblchhhaa
