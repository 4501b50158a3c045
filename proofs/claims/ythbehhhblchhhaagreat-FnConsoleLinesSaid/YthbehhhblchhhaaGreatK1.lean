/- Texts split, kinds of commands. -/
import Derived.Test.YthbehhhblchhhaaGreatD1
namespace Go.Proofs.YthbehhhblchhhaaGreat
open Go Go.RowKit
set_option maxHeartbeats 16000000

/-- A text, split at each place of a byte: the piece begun so far, and the rest. -/
def spl (b : UInt8) : Str → Str → List Str
  | cur, [] => [cur]
  | cur, c :: s => if c = b then cur :: spl b [] s else spl b (cur ++ [c]) s
theorem cut_snoc {s : Str} {f i : Nat} {c : UInt8} (hf : f ≤ i) (h : s[i]? = some c) : (s.take (i + 1)).drop f = (s.take i).drop f ++ [c] := by
  have hl := (List.getElem?_eq_some_iff.1 h).1
  rw [take_snoc h, List.drop_append_of_le_length (by rw [List.length_take]; omega)]
theorem cut_end (s : Str) (i : Nat) : (s.take i).drop i = [] := List.drop_eq_nil_of_le (by rw [List.length_take]; omega)
theorem spl_len (b : UInt8) : ∀ (s cur : Str), (spl b cur s).length ≤ s.length + 1
  | [], _ => Nat.le_refl _
  | c :: s, cur => by
    rw [spl]; split
    · have := spl_len b s []; simp only [List.length_cons]; omega
    · have := spl_len b s (cur ++ [c]); simp only [List.length_cons]; omega
theorem ub {a b : UInt8} (h : (a.toNat : Int) = (b.toNat : Int)) : a = b := UInt8.toNat_inj.1 (by omega)

/-- The words of commands. -/
def W3 : List Str := [[98, 105, 110], [112, 114, 111, 109, 105, 115, 101], [115, 97, 108, 101], [112, 97, 121], [98, 117, 121]]
def W2 : List Str := [[102, 105, 108, 108], [114, 101, 115, 101, 114, 118, 101], [114, 101, 108, 101, 97, 115, 101], [117, 115, 101]]
def W1 : List Str := [[102, 114, 101, 101], [111, 119, 101, 115]]
def W0 : List Str := [[111, 114, 100, 101, 114], [107, 101, 112, 116]]
def WI : List Str := [[119, 104, 101, 110], [99, 108, 111, 115, 101], [99, 97, 115, 104], [109, 109]]
def WII : List Str := [[103, 101, 97, 114]]
/-- What follows a command's word: true for a word, false for a number. -/
def kdO (w : Str) : Option (List Bool) :=
  if w ∈ W3 then some [true, false, false] else if w ∈ W2 then some [true, false] else if w ∈ W1 then some [true] else if w ∈ W0 then some [] else if w ∈ WI then some [false] else if w ∈ WII then some [false, false] else none
def kdL (w : Str) : List Bool := (kdO w).getD []
def kdS (t i : UInt8) (w : Str) : Str := (kdL w).map fun b => if b then t else i
def kdP (w : Str) : Str := if (kdO w).isSome then kdS 84 73 w else [45]
theorem kdL_len (w : Str) : (kdL w).length ≤ 3 := by
  unfold kdL kdO
  repeat' split
  all_goals simp
theorem kdS_len (t i : UInt8) (w : Str) : (kdS t i w).length = (kdL w).length := List.length_map ..
theorem kdP_len (w : Str) : (kdP w).length ≤ 3 := by
  unfold kdP; split
  · rw [kdS_len]; exact kdL_len w
  · simp
theorem kdP_no {w : Str} (h : kdP w = [45]) : kdO w = none := by
  unfold kdP at h
  cases e : kdO w with
  | none => rfl
  | some l =>
    rw [e] at h; simp only [Option.isSome_some, if_true] at h
    exfalso
    unfold kdS kdL at h; rw [e] at h
    match l, h with
    | [], h => simp at h
    | b :: l, h => cases b <;> simp at h
theorem kdP_ok {w : Str} (h : ¬ kdP w = [45]) : (kdO w).isSome = true ∧ kdP w = kdS 84 73 w := by
  unfold kdP at h ⊢
  cases e : (kdO w).isSome with
  | true => exact ⟨rfl, if_pos rfl⟩
  | false => rw [e] at h; exact absurd rfl h
theorem kd_ch {t i b : UInt8} {w : Str} {k : Nat} (h : (kdS t i w)[k]? = some b) : ∃ q, (kdL w)[k]? = some q ∧ b = if q then t else i := by
  unfold kdS at h; rw [List.getElem?_map] at h
  cases e : (kdL w)[k]? with
  | none => rw [e] at h; cases h
  | some q => rw [e] at h; simp at h; exact ⟨q, rfl, h.symm⟩
theorem kd_t {t i b : UInt8} {w : Str} {k : Nat} (hti : t ≠ i) (h : (kdS t i w)[k]? = some b) (e : (b.toNat : Int) = (t.toNat : Int)) : (kdL w)[k]? = some true := by
  obtain ⟨q, h1, h2⟩ := kd_ch h
  cases q with
  | true => exact h1
  | false => exact absurd ((UInt8.toNat_inj.1 (by omega) : b = t).symm.trans h2) hti
theorem kd_i {t i b : UInt8} {w : Str} {k : Nat} (h : (kdS t i w)[k]? = some b) (e : ¬ (b.toNat : Int) = (t.toNat : Int)) : (kdL w)[k]? = some false := by
  obtain ⟨q, h1, h2⟩ := kd_ch h
  cases q with
  | true => exact absurd (by rw [h2]; rfl) e
  | false => exact h1
/-- The numbers of a command. -/
def nmO : List Bool → List Str → Option (List Int)
  | [], _ => some []
  | _ :: _, [] => none
  | true :: l, _ :: ws => nmO l ws
  | false :: l, w :: ws => if (l01V w).2 then (nmO l ws).map ((l01V w).1 :: ·) else none
def pcO (line : Str) : Option (List Int) := match (spl 32 [] line)[0]? with
  | none => none
  | some w => if (kdO w).isSome = true ∧ (spl 32 [] line).length = (kdL w).length + 1 then nmO (kdL w) ((spl 32 [] line).drop 1) else none
def pcW (line : Str) : List Str := if (pcO line).isSome then spl 32 [] line else []
def pcN (line : Str) : List Int := (pcO line).getD []
theorem pcO_no {line w : Str} (h : (spl 32 [] line)[0]? = some w) (h2 : kdO w = none ∨ ¬ (spl 32 [] line).length = (kdL w).length + 1) : pcO line = none := by
  unfold pcO; rw [h]; show (if _ then _ else _) = _
  rw [if_neg]; rintro ⟨a, b⟩
  rcases h2 with q | q
  · rw [q] at a; cases a
  · exact q b
theorem pcO_go {line w : Str} (h : (spl 32 [] line)[0]? = some w) (h1 : (kdO w).isSome = true) (h2 : (spl 32 [] line).length = (kdL w).length + 1) : pcO line = nmO (kdL w) ((spl 32 [] line).drop 1) := by
  unfold pcO; rw [h]; show (if _ then _ else _) = _; rw [if_pos ⟨h1, h2⟩]
theorem nmO_t {l : List Bool} {ws : List Str} {i : Nat} {w : Str} (h : l[i]? = some true) (hw : ws[i + 1]? = some w) : nmO (l.drop i) (ws.drop (i + 1)) = nmO (l.drop (i + 1)) (ws.drop (i + 1 + 1)) := by rw [drop_cons h, drop_cons hw, nmO]
theorem nmO_f {l : List Bool} {ws : List Str} {i : Nat} {w : Str} (h : l[i]? = some false) (hw : ws[i + 1]? = some w) (hv : (l01V w).2 = true) : nmO (l.drop i) (ws.drop (i + 1)) = (nmO (l.drop (i + 1)) (ws.drop (i + 1 + 1))).map ((l01V w).1 :: ·) := by rw [drop_cons h, drop_cons hw, nmO, if_pos hv]
theorem nmO_x {l : List Bool} {ws : List Str} {i : Nat} {w : Str} (h : l[i]? = some false) (hw : ws[i + 1]? = some w) (hv : (l01V w).2 = false) : nmO (l.drop i) (ws.drop (i + 1)) = none := by rw [drop_cons h, drop_cons hw, nmO, if_neg (by rw [hv]; decide)]
theorem map_app {x : Option (List Int)} {acc : List Int} {n : Int} : ((x.map (n :: ·)).map (acc ++ ·)) = x.map ((acc ++ [n]) ++ ·) := by cases x <;> simp
theorem spl_pos (b : UInt8) : ∀ (s cur : Str), 1 ≤ (spl b cur s).length
  | [], _ => Nat.le_refl _
  | c :: s, cur => by
    rw [spl]; split
    · simp
    · exact spl_pos b s _
theorem l01V_no {w : Str} (h : (rdV w).2 = false ∨ (rdV w).1 < 0 ∨ 13 < w.length) : (l01V w).2 = false := by
  cases e : (l01V w).2 with
  | false => rfl
  | true =>
    obtain ⟨h1, h2, h3⟩ := l01_rd w e
    rw [h1] at h
    rcases h with h | h | h
    · cases h
    · exact absurd h h2
    · exact absurd h h3
theorem l01V_yes {w : Str} (h1 : (rdV w).2 = true) (h2 : ¬ (rdV w).1 < 0) (h3 : ¬ 13 < w.length) : (l01V w).2 = true ∧ (l01V w).1 = (rdV w).1 := by
  have := rd_l01 w h1 h2 h3; rw [this]; exact ⟨rfl, rfl⟩
theorem pcO_sm {line : Str} {l : List Int} (h : pcO line = some l) : pcW line = spl 32 [] line ∧ pcN line = l := by unfold pcW pcN; rw [h]; exact ⟨rfl, rfl⟩
theorem pcO_nn {line : Str} (h : pcO line = none) : pcW line = [] ∧ pcN line = [] := by unfold pcW pcN; rw [h]; exact ⟨rfl, rfl⟩

theorem c_impl_splitAt (w0 : World) (s : Str) (b : UInt8) (g0 : s.length ≤ 1048576) :
    Calls Tryz.prog 60 #[St s, .int .u8 (b.toNat : Int)] w0 (Ret w0 (fun v w1 => Own shStr 9 w0.heap.size w0.heap.size w1.heap.size w1 v (spl b [] s))) := by
 refine enter (N := 34) Tryz.func60 rfl rfl rfl ?_
 intro A H
 have hx0 := Ext.rfl' w0
 revert A; refine go ?_; intro A H
 refine loop_inv (X := Nat × Nat × Value × (List Str)) (fun ⟨i, f, v, acc⟩ fr wl => Sl 34 fr [(0, St s), (1, .int .u8 (b.toNat : Int)), (5, v), (6, .int .i64 ((f : Nat) : Int)), (7, .int .i64 ((i : Nat) : Int))] ∧ Ext w0 wl ∧ Own shStr 9 w0.heap.size w0.heap.size wl.heap.size wl v acc ∧ w0.heap.size ≤ wl.heap.size ∧ (i ≤ s.length) ∧ (f ≤ i) ∧ (acc.length ≤ i) ∧ (acc ++ spl b ((s.take i).drop f) (s.drop i) = spl b [] s)) (fun ⟨i, f, v, acc⟩ => s.length - i) (0, 0, (.slice none 0 0), []) ?_ ?_
 exact ⟨(sl H), hx0, (Own.nil _ _ _ _ _ _), (by omega), (by omega), (by omega), (by exact Nat.le_refl _), (by rfl)⟩
 clear H A
 rintro ⟨i, f, v, acc⟩ A w5 ⟨H, hx6, hf7, hzl9, hi, hf0, hl, hF⟩
 have hzhx6 := hx6.size
 revert A; refine go ?_; intro A H
 refine wv H (op_len_str H rfl U9 rfl) ?_
 clear H A; refine go ?_; intro A H
 by_cases c14 : ((i : Nat) : Int) < ((s.length : Nat) : Int)
 rw [decide_eq_true c14] at H
 revert A; refine go ?_; intro A H
 obtain ⟨b17, hb17⟩ := get_ex (xs := s) (j := i) (by omega)
 have b17_lt := b17.toNat_lt
 refine wv H (op_index_str H rfl U9 rfl rfl (by omega) hb17) ?_
 clear H A; refine go ?_; intro A H
 by_cases c21 : (b17.toNat : Int) = (b.toNat : Int)
 rw [decide_eq_true c21] at H
 revert A; refine go ?_; intro A H
 refine wv H (op_slice_str_b (i := f) (j := i) (by omega) (by omega) H rfl U9 rfl rfl rfl (by omega) (by omega)) ?_
 clear H A; intro A H
 refine we H (op_b1 (mk_shStr ((s.take i).drop f) (by simp; omega)) H pos_shStr U25 ti9) ?_
 clear H A; rintro v27 w28 ⟨ho29, he30, hob31⟩ A H
 obtain ⟨hx33, _⟩ := nx hx6 he30
 replace hf7 := hf7.ext he30
 refine we H (op_ap (ts := #[]) H U25 ti9 pos_shStr hf7 (ho29.rds pos_shStr) flat_shStr) ?_
 clear H A; rintro v34 w35 ⟨ho36, hst37, hob38⟩ A H
 obtain ⟨hx40, _⟩ := no hx33 hf7 hst37
 replace ho29 := ho29.stp hst37 (by intro q hq; have hq0 := hf7.lt q hq; omega)
 have hsp41 : ∀ q, Value.ownBlock v34 = some q → Value.ownBlock v27 ≠ some q := by intro q hq hb; have hq0 := ho29.lt q hb; rcases hob38 with h | h; (rw [h] at hq; first | (have hq1 := hf7.lt q hq; omega)); (rw [h] at hq; cases hq; omega)
 revert A; refine go ?_; intro A H
 refine wv H ((op_add H rfl rfl rfl).int (IntWalk.i64_in _ (by omega))) ?_
 clear H A; refine go ?_; intro A H
 refine wv H ((op_add H rfl rfl rfl).int (IntWalk.i64_in _ (by omega))) ?_
 clear H A; refine go ?_; intro A H
 refine ⟨((i + 1), (i + 1), v34, (acc ++ [(s.take i).drop f])), ?_, ?_⟩
 refine ⟨(sl H), hx40, (fi ho36), (by omega), (by omega), (by omega), (by simp; omega), (by rw [drop_cons hb17, spl, if_pos (ub c21)] at hF; rw [cut_end, ← hF]; simp)⟩
 show (s.length - ((i + 1)) : Nat) < s.length - i; omega
 rw [decide_eq_false c21] at H
 revert A; refine go ?_; intro A H
 refine wv H ((op_add H rfl rfl rfl).int (IntWalk.i64_in _ (by omega))) ?_
 clear H A; refine go ?_; intro A H
 refine ⟨((i + 1), f, v, acc), ?_, ?_⟩
 refine ⟨(sl H), hx6, (fi hf7), (by omega), (by omega), (by omega), (by omega), (by rw [drop_cons hb17, spl, if_neg (fun e => c21 (by rw [e]))] at hF; rw [cut_snoc (by omega) hb17]; exact hF)⟩
 show (s.length - ((i + 1)) : Nat) < s.length - i; omega
 rw [decide_eq_false c14] at H
 revert A; refine go ?_; intro A H
 refine wv H (op_slice_str_f (i := f) (by omega) H rfl U9 rfl rfl (by omega)) ?_
 clear H A; intro A H
 refine we H (op_b1 (mk_shStr (s.drop f) (by simp; omega)) H pos_shStr U25 ti9) ?_
 clear H A; rintro v56 w57 ⟨ho58, he59, hob60⟩ A H
 obtain ⟨hx62, _⟩ := nx hx6 he59
 replace hf7 := hf7.ext he59
 refine we H (op_ap (ts := #[]) H U25 ti9 pos_shStr hf7 (ho58.rds pos_shStr) flat_shStr) ?_
 clear H A; rintro v63 w64 ⟨ho65, hst66, hob67⟩ A H
 obtain ⟨hx69, _⟩ := no hx62 hf7 hst66
 replace ho58 := ho58.stp hst66 (by intro q hq; have hq0 := hf7.lt q hq; omega)
 have hsp70 : ∀ q, Value.ownBlock v63 = some q → Value.ownBlock v56 ≠ some q := by intro q hq hb; have hq0 := ho58.lt q hb; rcases hob67 with h | h; (rw [h] at hq; first | (have hq1 := hf7.lt q hq; omega)); (rw [h] at hq; cases hq; omega)
 revert A; refine go ?_; intro A H
 refine ret1 H rfl rfl ?_
 clear H A
 refine ret_mk hx69 ?_
 refine (fi ho65).cast ?_
 have hd : s.drop i = [] := drop_nil (by omega); rw [hd, spl, List.take_of_length_le (by omega)] at hF; exact hF



theorem c_spec_l01Split (w0 : World) (s : Str) (bt : UInt8) (g0 : s.length ≤ 1048576) :
    Calls Tryz.prog 65 #[St s, .int .u8 (bt.toNat : Int)] w0 (Ret w0 (fun v w1 => Own shStr 9 w0.heap.size w0.heap.size w1.heap.size w1 v (spl bt [] s))) := by
 refine enter (N := 36) Tryz.func65 rfl rfl rfl ?_
 intro A H
 have hx0 := Ext.rfl' w0
 revert A; refine go ?_; intro A H
 refine we H (op_b0 H pos_shStr U25 ti9) ?_
 clear H A; rintro v2 w3 ⟨ho4, he5, hob6⟩ A H
 obtain ⟨hx8, _⟩ := nx hx0 he5
 revert A; refine go ?_; intro A H
 refine loop_inv (X := Nat × Nat × Value × (List Str)) (fun ⟨i, f, v, acc⟩ fr wl => Sl 36 fr [(0, St s), (1, .int .u8 (bt.toNat : Int)), (5, v), (6, .int .i64 ((f : Nat) : Int)), (7, .int .i64 ((i : Nat) : Int))] ∧ Ext w0 wl ∧ Own shStr 9 w0.heap.size w0.heap.size wl.heap.size wl v acc ∧ w3.heap.size ≤ wl.heap.size ∧ (i ≤ s.length + 1) ∧ (f ≤ i) ∧ (acc.length ≤ i) ∧ ((if i ≤ s.length then acc ++ spl bt ((s.take i).drop f) (s.drop i) else acc) = spl bt [] s)) (fun ⟨i, f, v, acc⟩ => s.length + 1 - i) (0, 0, v2, ([] : List Str)) ?_ ?_
 exact ⟨(sl H), hx8, (fi ho4), (by omega), (by omega), (by omega), (by exact Nat.le_refl _), (by rw [if_pos (by omega)]; rfl)⟩
 clear H A
 rintro ⟨i, f, v, acc⟩ A w12 ⟨H, hx13, hf14, hzl16, hi, hf0, hl, hF⟩
 have hzhx13 := hx13.size
 revert A; refine go ?_; intro A H
 refine wv H (op_len_str H rfl U9 rfl) ?_
 clear H A; refine go ?_; intro A H
 by_cases c21 : ((i : Nat) : Int) ≤ ((s.length : Nat) : Int)
 rw [decide_eq_true c21] at H
 revert A; refine go ?_; intro A H
 refine wv H (op_len_str H rfl U9 rfl) ?_
 clear H A; refine go ?_; intro A H
 by_cases c27 : ((i : Nat) : Int) = ((s.length : Nat) : Int)
 rw [decide_eq_true c27] at H
 revert A; refine go ?_; intro A H
 refine wv H (op_slice_str_b (i := f) (j := i) (by omega) (by omega) H rfl U9 rfl rfl rfl (by omega) (by omega)) ?_
 clear H A; intro A H
 refine we H (op_b1 (mk_shStr ((s.take i).drop f) (by simp; omega)) H pos_shStr U25 ti9) ?_
 clear H A; rintro v39 w40 ⟨ho41, he42, hob43⟩ A H
 obtain ⟨hx45, _⟩ := nx hx13 he42
 replace hf14 := hf14.ext he42
 refine we H (op_ap (ts := #[]) H U25 ti9 pos_shStr hf14 (ho41.rds pos_shStr) flat_shStr) ?_
 clear H A; rintro v46 w47 ⟨ho48, hst49, hob50⟩ A H
 obtain ⟨hx52, _⟩ := no hx45 hf14 hst49
 replace ho41 := ho41.stp hst49 (by intro q hq; have hq0 := hf14.lt q hq; omega)
 have hsp53 : ∀ q, Value.ownBlock v46 = some q → Value.ownBlock v39 ≠ some q := by intro q hq hb; have hq0 := ho41.lt q hb; rcases hob50 with h | h; (rw [h] at hq; first | (have hq1 := hf14.lt q hq; omega)); (rw [h] at hq; cases hq; omega)
 revert A; refine go ?_; intro A H
 refine wv H ((op_add H rfl rfl rfl).int (IntWalk.i64_in _ (by omega))) ?_
 clear H A; refine go ?_; intro A H
 refine wv H ((op_add H rfl rfl rfl).int (IntWalk.i64_in _ (by omega))) ?_
 clear H A; refine go ?_; intro A H
 refine ⟨((i + 1), (i + 1), v46, (acc ++ [(s.take i).drop f])), ?_, ?_⟩
 refine ⟨(sl H), hx52, (fi ho48), (by omega), (by omega), (by omega), (by simp; omega), (by have hd : s.drop i = [] := drop_nil (by omega); rw [if_pos (by omega), hd, spl] at hF; rw [if_neg (by omega)]; exact hF)⟩
 show (s.length + 1 - ((i + 1)) : Nat) < s.length + 1 - i; omega
 rw [decide_eq_false c27] at H
 revert A; refine go ?_; intro A H
 obtain ⟨b63, hb63⟩ := get_ex (xs := s) (j := i) (by omega)
 have b63_lt := b63.toNat_lt
 refine wv H (op_index_str H rfl U9 rfl rfl (by omega) hb63) ?_
 clear H A; refine go ?_; intro A H
 by_cases c68 : (b63.toNat : Int) = (bt.toNat : Int)
 rw [decide_eq_true c68] at H
 revert A; refine go ?_; intro A H
 refine wv H (op_slice_str_b (i := f) (j := i) (by omega) (by omega) H rfl U9 rfl rfl rfl (by omega) (by omega)) ?_
 clear H A; intro A H
 refine we H (op_b1 (mk_shStr ((s.take i).drop f) (by simp; omega)) H pos_shStr U25 ti9) ?_
 clear H A; rintro v74 w75 ⟨ho76, he77, hob78⟩ A H
 obtain ⟨hx80, _⟩ := nx hx13 he77
 replace hf14 := hf14.ext he77
 refine we H (op_ap (ts := #[]) H U25 ti9 pos_shStr hf14 (ho76.rds pos_shStr) flat_shStr) ?_
 clear H A; rintro v81 w82 ⟨ho83, hst84, hob85⟩ A H
 obtain ⟨hx87, _⟩ := no hx80 hf14 hst84
 replace ho76 := ho76.stp hst84 (by intro q hq; have hq0 := hf14.lt q hq; omega)
 have hsp88 : ∀ q, Value.ownBlock v81 = some q → Value.ownBlock v74 ≠ some q := by intro q hq hb; have hq0 := ho76.lt q hb; rcases hob85 with h | h; (rw [h] at hq; first | (have hq1 := hf14.lt q hq; omega)); (rw [h] at hq; cases hq; omega)
 revert A; refine go ?_; intro A H
 refine wv H ((op_add H rfl rfl rfl).int (IntWalk.i64_in _ (by omega))) ?_
 clear H A; refine go ?_; intro A H
 refine wv H ((op_add H rfl rfl rfl).int (IntWalk.i64_in _ (by omega))) ?_
 clear H A; refine go ?_; intro A H
 refine ⟨((i + 1), (i + 1), v81, (acc ++ [(s.take i).drop f])), ?_, ?_⟩
 refine ⟨(sl H), hx87, (fi ho83), (by omega), (by omega), (by omega), (by simp; omega), (by rw [if_pos (by omega)] at hF ⊢; rw [drop_cons hb63, spl, if_pos (ub c68)] at hF; rw [cut_end, ← hF]; simp)⟩
 show (s.length + 1 - ((i + 1)) : Nat) < s.length + 1 - i; omega
 rw [decide_eq_false c68] at H
 revert A; refine go ?_; intro A H
 refine wv H ((op_add H rfl rfl rfl).int (IntWalk.i64_in _ (by omega))) ?_
 clear H A; refine go ?_; intro A H
 refine ⟨((i + 1), f, v, acc), ?_, ?_⟩
 refine ⟨(sl H), hx13, (fi hf14), (by omega), (by omega), (by omega), (by omega), (by rw [if_pos (by omega)] at hF ⊢; rw [drop_cons hb63, spl, if_neg (fun e => c68 (by rw [e]))] at hF; rw [cut_snoc (by omega) hb63]; exact hF)⟩
 show (s.length + 1 - ((i + 1)) : Nat) < s.length + 1 - i; omega
 rw [decide_eq_false c21] at H
 revert A; refine go ?_; intro A H
 refine ret1 H rfl rfl ?_
 clear H A
 refine ret_mk hx13 ?_
 refine (fi hf14).cast ?_
 rw [if_neg (by omega)] at hF; exact hF



theorem c_spec_l34Kind (w0 : World) (w : Str)  :
    Calls Tryz.prog 70 #[St w] w0 (Ret w0 (fun v _ => v = St (kdP w))) := by
 refine enter (N := 28) Tryz.func70 rfl rfl rfl ?_
 intro A H
 have hx0 := Ext.rfl' w0
 revert A; refine go ?_; intro A H
 by_cases c5 : w = ([111, 114, 100, 101, 114] : Str)
 rw [decide_eq_true c5] at H
 revert A; refine go ?_; intro A H
 refine ret1 H rfl rfl ?_
 clear H A
 exact ret_mk hx0 (congrArg St (by rw [c5]; decide))
 rw [decide_eq_false c5] at H
 revert A; refine go ?_; intro A H
 by_cases c9 : w = ([107, 101, 112, 116] : Str)
 rw [decide_eq_true c9] at H
 revert A; refine go ?_; intro A H
 refine ret1 H rfl rfl ?_
 clear H A
 exact ret_mk hx0 (congrArg St (by rw [c9]; decide))
 rw [decide_eq_false c9] at H
 revert A; refine go ?_; intro A H
 by_cases c13 : w = ([119, 104, 101, 110] : Str)
 rw [decide_eq_true c13] at H
 revert A; refine go ?_; intro A H
 refine ret1 H rfl rfl ?_
 clear H A
 exact ret_mk hx0 (congrArg St (by rw [c13]; decide))
 rw [decide_eq_false c13] at H
 revert A; refine go ?_; intro A H
 by_cases c17 : w = ([99, 108, 111, 115, 101] : Str)
 rw [decide_eq_true c17] at H
 revert A; refine go ?_; intro A H
 refine ret1 H rfl rfl ?_
 clear H A
 exact ret_mk hx0 (congrArg St (by rw [c17]; decide))
 rw [decide_eq_false c17] at H
 revert A; refine go ?_; intro A H
 by_cases c21 : w = ([99, 97, 115, 104] : Str)
 rw [decide_eq_true c21] at H
 revert A; refine go ?_; intro A H
 refine ret1 H rfl rfl ?_
 clear H A
 exact ret_mk hx0 (congrArg St (by rw [c21]; decide))
 rw [decide_eq_false c21] at H
 revert A; refine go ?_; intro A H
 by_cases c25 : w = ([109, 109] : Str)
 rw [decide_eq_true c25] at H
 revert A; refine go ?_; intro A H
 refine ret1 H rfl rfl ?_
 clear H A
 exact ret_mk hx0 (congrArg St (by rw [c25]; decide))
 rw [decide_eq_false c25] at H
 revert A; refine go ?_; intro A H
 by_cases c29 : w = ([102, 114, 101, 101] : Str)
 rw [decide_eq_true c29] at H
 revert A; refine go ?_; intro A H
 refine ret1 H rfl rfl ?_
 clear H A
 exact ret_mk hx0 (congrArg St (by rw [c29]; decide))
 rw [decide_eq_false c29] at H
 revert A; refine go ?_; intro A H
 by_cases c33 : w = ([111, 119, 101, 115] : Str)
 rw [decide_eq_true c33] at H
 revert A; refine go ?_; intro A H
 refine ret1 H rfl rfl ?_
 clear H A
 exact ret_mk hx0 (congrArg St (by rw [c33]; decide))
 rw [decide_eq_false c33] at H
 revert A; refine go ?_; intro A H
 by_cases c37 : w = ([103, 101, 97, 114] : Str)
 rw [decide_eq_true c37] at H
 revert A; refine go ?_; intro A H
 refine ret1 H rfl rfl ?_
 clear H A
 exact ret_mk hx0 (congrArg St (by rw [c37]; decide))
 rw [decide_eq_false c37] at H
 revert A; refine go ?_; intro A H
 by_cases c41 : w = ([102, 105, 108, 108] : Str)
 rw [decide_eq_true c41] at H
 revert A; refine go ?_; intro A H
 refine ret1 H rfl rfl ?_
 clear H A
 exact ret_mk hx0 (congrArg St (by rw [c41]; decide))
 rw [decide_eq_false c41] at H
 revert A; refine go ?_; intro A H
 by_cases c45 : w = ([114, 101, 115, 101, 114, 118, 101] : Str)
 rw [decide_eq_true c45] at H
 revert A; refine go ?_; intro A H
 refine ret1 H rfl rfl ?_
 clear H A
 exact ret_mk hx0 (congrArg St (by rw [c45]; decide))
 rw [decide_eq_false c45] at H
 revert A; refine go ?_; intro A H
 by_cases c49 : w = ([114, 101, 108, 101, 97, 115, 101] : Str)
 rw [decide_eq_true c49] at H
 revert A; refine go ?_; intro A H
 refine ret1 H rfl rfl ?_
 clear H A
 exact ret_mk hx0 (congrArg St (by rw [c49]; decide))
 rw [decide_eq_false c49] at H
 revert A; refine go ?_; intro A H
 by_cases c53 : w = ([117, 115, 101] : Str)
 rw [decide_eq_true c53] at H
 revert A; refine go ?_; intro A H
 refine ret1 H rfl rfl ?_
 clear H A
 exact ret_mk hx0 (congrArg St (by rw [c53]; decide))
 rw [decide_eq_false c53] at H
 revert A; refine go ?_; intro A H
 by_cases c57 : w = ([98, 105, 110] : Str)
 rw [decide_eq_true c57] at H
 revert A; refine go ?_; intro A H
 refine ret1 H rfl rfl ?_
 clear H A
 exact ret_mk hx0 (congrArg St (by rw [c57]; decide))
 rw [decide_eq_false c57] at H
 revert A; refine go ?_; intro A H
 by_cases c61 : w = ([112, 114, 111, 109, 105, 115, 101] : Str)
 rw [decide_eq_true c61] at H
 revert A; refine go ?_; intro A H
 refine ret1 H rfl rfl ?_
 clear H A
 exact ret_mk hx0 (congrArg St (by rw [c61]; decide))
 rw [decide_eq_false c61] at H
 revert A; refine go ?_; intro A H
 by_cases c65 : w = ([115, 97, 108, 101] : Str)
 rw [decide_eq_true c65] at H
 revert A; refine go ?_; intro A H
 refine ret1 H rfl rfl ?_
 clear H A
 exact ret_mk hx0 (congrArg St (by rw [c65]; decide))
 rw [decide_eq_false c65] at H
 revert A; refine go ?_; intro A H
 by_cases c69 : w = ([112, 97, 121] : Str)
 rw [decide_eq_true c69] at H
 revert A; refine go ?_; intro A H
 refine ret1 H rfl rfl ?_
 clear H A
 exact ret_mk hx0 (congrArg St (by rw [c69]; decide))
 rw [decide_eq_false c69] at H
 revert A; refine go ?_; intro A H
 by_cases c73 : w = ([98, 117, 121] : Str)
 rw [decide_eq_true c73] at H
 revert A; refine go ?_; intro A H
 refine ret1 H rfl rfl ?_
 clear H A
 exact ret_mk hx0 (congrArg St (by rw [c73]; decide))
 rw [decide_eq_false c73] at H
 revert A; refine go ?_; intro A H
 refine ret1 H rfl rfl ?_
 clear H A
 exact ret_mk hx0 (congrArg St (by simp [kdP, kdO, W3, W2, W1, W0, WI, WII, c5, c9, c13, c17, c21, c25, c29, c33, c37, c41, c45, c49, c53, c57, c61, c65, c69, c73]))



theorem c_impl_commandShape (w0 : World) (w : Str)  :
    Calls Tryz.prog 68 #[St w] w0 (Ret w0 (fun v _ => v = .tuple #[St (kdS 116 105 w), .bool ((kdO w).isSome)])) := by
 refine enter (N := 29) Tryz.func68 rfl rfl rfl ?_
 intro A H
 have hx0 := Ext.rfl' w0
 revert A; refine go ?_; intro A H
 by_cases c6 : w = ([98, 105, 110] : Str)
 rw [decide_eq_true c6] at H
 revert A; refine go ?_; intro A H
 refine ret2 H rfl rfl rfl ?_
 clear H A
 exact ret_mk hx0 (tup2_eq (congrArg St (by rw [c6]; decide)) (congrArg Value.bool (by rw [c6]; decide)))
 rw [decide_eq_false c6] at H
 revert A; refine go ?_; intro A H
 by_cases c11 : w = ([112, 114, 111, 109, 105, 115, 101] : Str)
 rw [decide_eq_true c11] at H
 revert A; refine go ?_; intro A H
 refine ret2 H rfl rfl rfl ?_
 clear H A
 exact ret_mk hx0 (tup2_eq (congrArg St (by rw [c11]; decide)) (congrArg Value.bool (by rw [c11]; decide)))
 rw [decide_eq_false c11] at H
 revert A; refine go ?_; intro A H
 by_cases c16 : w = ([115, 97, 108, 101] : Str)
 rw [decide_eq_true c16] at H
 revert A; refine go ?_; intro A H
 refine ret2 H rfl rfl rfl ?_
 clear H A
 exact ret_mk hx0 (tup2_eq (congrArg St (by rw [c16]; decide)) (congrArg Value.bool (by rw [c16]; decide)))
 rw [decide_eq_false c16] at H
 revert A; refine go ?_; intro A H
 by_cases c21 : w = ([112, 97, 121] : Str)
 rw [decide_eq_true c21] at H
 revert A; refine go ?_; intro A H
 refine ret2 H rfl rfl rfl ?_
 clear H A
 exact ret_mk hx0 (tup2_eq (congrArg St (by rw [c21]; decide)) (congrArg Value.bool (by rw [c21]; decide)))
 rw [decide_eq_false c21] at H
 revert A; refine go ?_; intro A H
 by_cases c26 : w = ([98, 117, 121] : Str)
 rw [decide_eq_true c26] at H
 revert A; refine go ?_; intro A H
 refine ret2 H rfl rfl rfl ?_
 clear H A
 exact ret_mk hx0 (tup2_eq (congrArg St (by rw [c26]; decide)) (congrArg Value.bool (by rw [c26]; decide)))
 rw [decide_eq_false c26] at H
 revert A; refine go ?_; intro A H
 by_cases c31 : w = ([102, 105, 108, 108] : Str)
 rw [decide_eq_true c31] at H
 revert A; refine go ?_; intro A H
 refine ret2 H rfl rfl rfl ?_
 clear H A
 exact ret_mk hx0 (tup2_eq (congrArg St (by rw [c31]; decide)) (congrArg Value.bool (by rw [c31]; decide)))
 rw [decide_eq_false c31] at H
 revert A; refine go ?_; intro A H
 by_cases c36 : w = ([114, 101, 115, 101, 114, 118, 101] : Str)
 rw [decide_eq_true c36] at H
 revert A; refine go ?_; intro A H
 refine ret2 H rfl rfl rfl ?_
 clear H A
 exact ret_mk hx0 (tup2_eq (congrArg St (by rw [c36]; decide)) (congrArg Value.bool (by rw [c36]; decide)))
 rw [decide_eq_false c36] at H
 revert A; refine go ?_; intro A H
 by_cases c41 : w = ([114, 101, 108, 101, 97, 115, 101] : Str)
 rw [decide_eq_true c41] at H
 revert A; refine go ?_; intro A H
 refine ret2 H rfl rfl rfl ?_
 clear H A
 exact ret_mk hx0 (tup2_eq (congrArg St (by rw [c41]; decide)) (congrArg Value.bool (by rw [c41]; decide)))
 rw [decide_eq_false c41] at H
 revert A; refine go ?_; intro A H
 by_cases c46 : w = ([117, 115, 101] : Str)
 rw [decide_eq_true c46] at H
 revert A; refine go ?_; intro A H
 refine ret2 H rfl rfl rfl ?_
 clear H A
 exact ret_mk hx0 (tup2_eq (congrArg St (by rw [c46]; decide)) (congrArg Value.bool (by rw [c46]; decide)))
 rw [decide_eq_false c46] at H
 revert A; refine go ?_; intro A H
 by_cases c51 : w = ([102, 114, 101, 101] : Str)
 rw [decide_eq_true c51] at H
 revert A; refine go ?_; intro A H
 refine ret2 H rfl rfl rfl ?_
 clear H A
 exact ret_mk hx0 (tup2_eq (congrArg St (by rw [c51]; decide)) (congrArg Value.bool (by rw [c51]; decide)))
 rw [decide_eq_false c51] at H
 revert A; refine go ?_; intro A H
 by_cases c56 : w = ([111, 119, 101, 115] : Str)
 rw [decide_eq_true c56] at H
 revert A; refine go ?_; intro A H
 refine ret2 H rfl rfl rfl ?_
 clear H A
 exact ret_mk hx0 (tup2_eq (congrArg St (by rw [c56]; decide)) (congrArg Value.bool (by rw [c56]; decide)))
 rw [decide_eq_false c56] at H
 revert A; refine go ?_; intro A H
 by_cases c61 : w = ([111, 114, 100, 101, 114] : Str)
 rw [decide_eq_true c61] at H
 revert A; refine go ?_; intro A H
 refine ret2 H rfl rfl rfl ?_
 clear H A
 exact ret_mk hx0 (tup2_eq (congrArg St (by rw [c61]; decide)) (congrArg Value.bool (by rw [c61]; decide)))
 rw [decide_eq_false c61] at H
 revert A; refine go ?_; intro A H
 by_cases c66 : w = ([107, 101, 112, 116] : Str)
 rw [decide_eq_true c66] at H
 revert A; refine go ?_; intro A H
 refine ret2 H rfl rfl rfl ?_
 clear H A
 exact ret_mk hx0 (tup2_eq (congrArg St (by rw [c66]; decide)) (congrArg Value.bool (by rw [c66]; decide)))
 rw [decide_eq_false c66] at H
 revert A; refine go ?_; intro A H
 by_cases c71 : w = ([119, 104, 101, 110] : Str)
 rw [decide_eq_true c71] at H
 revert A; refine go ?_; intro A H
 refine ret2 H rfl rfl rfl ?_
 clear H A
 exact ret_mk hx0 (tup2_eq (congrArg St (by rw [c71]; decide)) (congrArg Value.bool (by rw [c71]; decide)))
 rw [decide_eq_false c71] at H
 revert A; refine go ?_; intro A H
 by_cases c76 : w = ([99, 108, 111, 115, 101] : Str)
 rw [decide_eq_true c76] at H
 revert A; refine go ?_; intro A H
 refine ret2 H rfl rfl rfl ?_
 clear H A
 exact ret_mk hx0 (tup2_eq (congrArg St (by rw [c76]; decide)) (congrArg Value.bool (by rw [c76]; decide)))
 rw [decide_eq_false c76] at H
 revert A; refine go ?_; intro A H
 by_cases c81 : w = ([99, 97, 115, 104] : Str)
 rw [decide_eq_true c81] at H
 revert A; refine go ?_; intro A H
 refine ret2 H rfl rfl rfl ?_
 clear H A
 exact ret_mk hx0 (tup2_eq (congrArg St (by rw [c81]; decide)) (congrArg Value.bool (by rw [c81]; decide)))
 rw [decide_eq_false c81] at H
 revert A; refine go ?_; intro A H
 by_cases c86 : w = ([109, 109] : Str)
 rw [decide_eq_true c86] at H
 revert A; refine go ?_; intro A H
 refine ret2 H rfl rfl rfl ?_
 clear H A
 exact ret_mk hx0 (tup2_eq (congrArg St (by rw [c86]; decide)) (congrArg Value.bool (by rw [c86]; decide)))
 rw [decide_eq_false c86] at H
 revert A; refine go ?_; intro A H
 by_cases c91 : w = ([103, 101, 97, 114] : Str)
 rw [decide_eq_true c91] at H
 revert A; refine go ?_; intro A H
 refine ret2 H rfl rfl rfl ?_
 clear H A
 exact ret_mk hx0 (tup2_eq (congrArg St (by rw [c91]; decide)) (congrArg Value.bool (by rw [c91]; decide)))
 rw [decide_eq_false c91] at H
 revert A; refine go ?_; intro A H
 refine ret2 H rfl rfl rfl ?_
 clear H A
 exact ret_mk hx0 (tup2_eq (congrArg St (by simp [kdS, kdO, kdL, W3, W2, W1, W0, WI, WII, c6, c11, c16, c21, c26, c31, c36, c41, c46, c51, c56, c61, c66, c71, c76, c81, c86, c91])) (congrArg Value.bool (by simp [kdO, W3, W2, W1, W0, WI, WII, c6, c11, c16, c21, c26, c31, c36, c41, c46, c51, c56, c61, c66, c71, c76, c81, c86, c91])))




end Go.Proofs.YthbehhhblchhhaaGreat
