/- A record at its place. -/
import Derived.Test.YtkdnclpgijkceaaW3
namespace Go.Proofs.Ytkdnclpgijkceaa
open Go Go.RowKit

def putS : List (Int × Str) → (Int × Str) → List (Int × Str)
  | [], r => [r]
  | x :: xs, r => if x.1 < r.1 then x :: putS xs r else if x.1 = r.1 then r :: xs else r :: x :: xs
def putGo : List (Int × Str) → (Int × Str) → Bool → List (Int × Str)
  | [], r, p => if p then [] else [r]
  | x :: xs, r, p => (if p = false ∧ r.1 ≤ x.1 then [r] else []) ++ ((if x.1 = r.1 then [] else [x]) ++ putGo xs r (p || decide (r.1 ≤ x.1)))
theorem rise_gt : ∀ (xs : List (Int × Str)) (q : Int), riseB (some q) xs = true → ∀ y ∈ xs, q < y.1
  | [], _, _, y, h => by simp at h
  | x :: xs, q, h, y, hy => by
    simp only [riseB, Bool.and_eq_true, Bool.not_eq_true', decide_eq_false_iff_not] at h
    rcases List.mem_cons.1 hy with rfl | hy
    · omega
    · have := rise_gt xs _ h.2 y hy; omega
theorem putGo_true : ∀ (xs : List (Int × Str)) (r : Int × Str), (∀ y ∈ xs, y.1 ≠ r.1) → putGo xs r true = xs
  | [], _, _ => rfl
  | x :: xs, r, h => by
    have h1 := h x (by simp)
    rw [putGo, Bool.true_or, putGo_true xs r (fun y hy => h y (by simp [hy]))]
    simp [h1]
theorem putGo_rise : ∀ (xs : List (Int × Str)) (r : Int × Str) (p : Option Int), riseB p xs = true → putGo xs r false = putS xs r
  | [], _, _, _ => rfl
  | x :: xs, r, p, h => by
    simp only [riseB, Bool.and_eq_true] at h
    have hg := rise_gt xs _ h.2
    rw [putGo, putS]
    by_cases h1 : x.1 < r.1
    · have h2 : ¬ r.1 ≤ x.1 := by omega
      have h3 : ¬ x.1 = r.1 := by omega
      rw [if_pos h1, if_neg (by simp [h2]), if_neg h3]
      simp only [decide_eq_false h2, Bool.or_false, List.nil_append]
      rw [putGo_rise xs r _ h.2]; rfl
    · have h2 : r.1 ≤ x.1 := by omega
      rw [if_neg h1, if_pos ⟨rfl, h2⟩, decide_eq_true h2, Bool.or_true, putGo_true xs r (fun y hy => by have := hg y hy; omega)]
      by_cases h3 : x.1 = r.1
      · rw [if_pos h3, if_pos h3]; rfl
      · rw [if_neg h3, if_neg h3]; rfl
theorem putGo_are {xs : List (Int × Str)} (r : Int × Str) (h : areB xs = true) : putGo xs r false = putS xs r := by
  unfold areB at h; simp only [Bool.and_eq_true] at h; exact putGo_rise xs r _ h.2
theorem putS_len (xs : List (Int × Str)) (r : Int × Str) : (putS xs r).length ≤ xs.length + 1 := by
  induction xs with
  | nil => simp [putS]
  | cons x xs ih =>
    rw [putS]; split
    · simp; omega
    · split <;> simp
def replL (xs : List (Int × Str)) (r : Int × Str) : List (Int × Str) := if areB xs then if recB r then if 30 < (putS xs r).length then [] else putS xs r else [] else []
def replE (xs : List (Int × Str)) (r : Int × Str) : Int := if areB xs then if recB r then if 30 < (putS xs r).length then 3 else 0 else 5 else 1
theorem replL_len (xs : List (Int × Str)) (r : Int × Str) : (replL xs r).length ≤ 30 := by
  unfold replL; split
  · split
    · split
      · simp
      · omega
    · simp
  · simp

theorem c_impl_ReplaceRecord (w0 : World) (v_list : Value) (list : List (Int × Str)) {S_list : Nat → Prop} (r : Int × Str) (h_list : Rds shRec S_list w0 v_list list) (g0 : list.length ≤ 1048576) (g1 : I64 r.1) (g2 : r.2.length ≤ 9223372036854775807) :
  Calls Try.prog 23 #[v_list, .agg #[.int .i64 r.1, St r.2]] w0 (Ret w0 (fun v w1 => ∃ r0, v = .tuple #[r0, .int .i64 (replE list r)] ∧ Own shRec 36 w0.heap.size w0.heap.size w1.heap.size w1 r0 (replL list r))) := by
 refine enter (N := 55) Try.func23 rfl rfl rfl ?_
 intro a0 ha0
 have hx0 := Ext.rfl' w0
 have hl_list := h_list.length_le
 refine wp_seq ?_
 refine wp_region_lit ?_
 refine wl_eff ha0 rfl rfl rfl (op_box' ha0 rfl rfl rfl) ?_
 rintro _ w2 ⟨rfl, he3, hb4, hz5⟩ a6 ha6; clear ha0 a0
 have hx7 := hx0.trans' he3
 have hzhx7 := he3.size
 refine wl_val ha6 rfl rfl rfl (op_assign ha6 rfl rfl) ?_
 intro a8 ha8; clear ha6 a6
 refine wl_val ha8 rfl rfl rfl (op_assign ha8 rfl rfl) ?_
 intro a9 ha9; clear ha8 a8
 refine wpList_nil ?_
 refine then_n ?_
 refine wp_seq ?_
 refine wp_seq ?_
 refine wp_region_lit ?_
 refine wl_val ha9 rfl rfl rfl (op_move ha9 rfl rfl) ?_
 intro a10 ha10; clear ha9 a9
 refine wl_callR ha10 rfl rfl rfl (op_call ha10 rfl cb16 rfl) (c_impl_AreRecords _ v_list list (h_list.ext pos_shRec hx7) (by first | assumption | omega | (simp; omega) | (simp [mkN_length]; omega))) ?_
 rintro v11 w12 he13 rfl a14 ha14; clear ha10 a10
 have hx15 := hx7.trans' he13
 have hzhx15 := he13.size
 replace hb4 := hb4.ext he13
 refine wl_val ha14 rfl rfl rfl (op_not ha14 rfl rfl) ?_
 intro a16 ha16; clear ha14 a14
 refine wpList_nil ?_
 refine then_n ?_
 rcases Bool.eq_false_or_eq_true (areB list) with c17 | c17
 ·
  rw [c17] at ha16
  refine cond_f ha16 rfl ?_
  refine wp_skip ?_
  refine then_n ?_
  refine wp_seq ?_
  refine wp_seq ?_
  refine wp_region_lit ?_
  refine wl_val ha16 rfl rfl rfl (op_loadS ha16 rfl Try.underlying36 ti36 rfl rfl hb4.cells) ?_
  intro a18 ha18; clear ha16 a16
  refine wl_callR ha18 rfl rfl rfl (op_call ha18 rfl cb49 rfl) (c_impl_isRecord _ r (by first | assumption | omega | (simp; omega) | (simp [mkN_length]; omega)) (by first | assumption | omega | (simp; omega) | (simp [mkN_length]; omega))) ?_
  rintro v19 w20 he21 rfl a22 ha22; clear ha18 a18
  have hx23 := hx15.trans' he21
  have hzhx23 := he21.size
  replace hb4 := hb4.ext he21
  refine wl_val ha22 rfl rfl rfl (op_not ha22 rfl rfl) ?_
  intro a24 ha24; clear ha22 a22
  refine wpList_nil ?_
  refine then_n ?_
  rcases Bool.eq_false_or_eq_true (recB r) with c25 | c25
  ·
   rw [c25] at ha24
   refine cond_f ha24 rfl ?_
   refine wp_skip ?_
   refine then_n ?_
   refine wp_seq ?_
   refine wp_region_lit ?_
   refine wl_val ha24 rfl rfl rfl (op_assign ha24 rfl rfl) ?_
   intro a26 ha26; clear ha24 a24
   refine wpList_nil ?_
   refine then_n ?_
   refine wp_seq ?_
   refine wp_region_lit ?_
   refine wl_val ha26 rfl rfl rfl (op_assign ha26 rfl rfl) ?_
   intro a27 ha27; clear ha26 a26
   refine wpList_nil ?_
   refine then_n ?_
   refine wp_seq ?_
   refine wp_seq ?_
   refine wp_region_lit ?_
   refine wl_val ha27 rfl rfl rfl (op_move ha27 rfl rfl) ?_
   intro a28 ha28; clear ha27 a27
   refine wl_val ha28 rfl rfl rfl (op_len_sl ha28 rfl Try.underlying25 rfl h_list) ?_
   intro a29 ha29; clear ha28 a28
   refine wl_val ha29 rfl rfl rfl (op_move ha29 rfl rfl) ?_
   intro a30 ha30; clear ha29 a29
   refine wpList_nil ?_
   refine then_n ?_
   refine wp_block ?_
   refine loop_inv (X := Nat × Bool × Value × (List (Int × Str))) (fun (⟨i, p, v, acc⟩ : Nat × Bool × Value × (List (Int × Str))) fr wl => Sl 55 fr [(3, .pointer (some (⟨w0.heap.size, 0, none⟩ : Addr))), (6, v), (7, .bool (p)), (16, v_list), (17, .int .i64 ((list.length : Nat) : Int)), (18, .int .i64 ((i : Nat) : Int))] ∧ Ext w0 wl ∧ Box wl w0.heap.size 36 [.int .i64 r.1, St r.2] ∧ Own shRec 36 w20.heap.size w20.heap.size wl.heap.size wl v acc ∧ w20.heap.size ≤ wl.heap.size ∧ (∀ q, Value.ownBlock v = some q → q ≠ w0.heap.size) ∧ (i ≤ list.length) ∧ (acc.length ≤ 2 * i) ∧ (list.length ≤ 30) ∧ (acc ++ putGo (list.drop i) r p = putS list r)) (fun (⟨i, p, v, acc⟩ : Nat × Bool × Value × (List (Int × Str))) => list.length - i) (0, false, (.slice none 0 0), []) ?_ ?_
   ·
    exact ⟨(Sl.cons_ ha30 rfl rfl (Sl.cons_ ha30 rfl rfl (Sl.cons_ ha30 rfl rfl (Sl.cons_ ha30 rfl rfl (Sl.cons_ ha30 rfl rfl (Sl.cons_ ha30 rfl (int_eq (by omega)) (Sl.nil_ ha30))))))), hx23, hb4, (Own.nil _ _ _ _ _ _), (by omega), (by intro q hq; cases hq), (by omega), (by simp), (by exact areB_len ‹_›), (by exact putGo_are _ ‹_›)⟩
   ·
    clear ha30 a30
    rintro ⟨i, p, v, acc⟩ a36 w31 ⟨ha36, hx32, hf33, hf34, hzl37, hsp35, hi, hl, hb, hF⟩
    have hzhx32 := hx32.size
    refine wp_seq ?_
    refine wp_region_lit ?_
    refine wl_val ha36 rfl rfl rfl (op_lss ha36 rfl rfl rfl) ?_
    intro a38 ha38; clear ha36 a36
    refine wpList_nil ?_
    refine then_n ?_
    refine wp_seq ?_
    by_cases c39 : ((i : Nat) : Int) < ((list.length : Nat) : Int)
    ·
     rw [decide_eq_true c39] at ha38
     refine cond_t ha38 rfl ?_
     refine wp_skip ?_
     refine then_n ?_
     refine wp_seq ?_
     refine wp_block ?_
     refine wp_seq ?_
     refine wp_region_lit ?_
     obtain ⟨x40, hx40⟩ := get_ex (xs := list) (j := i) (by omega)
     obtain ⟨p41, c42, hi43, hc44, hr45, hs46⟩ := Rds.at_ h_list hx40
     obtain ⟨rfl, b47, b48⟩ := inv_shRec hr45
     refine wl_val ha38 rfl rfl rfl (op_indexAddr ha38 rfl Try.underlying25 ti36 rfl rfl (by omega) hi43) ?_
     intro a49 ha49; clear ha38 a38
     refine wl_val ha49 rfl rfl rfl (op_loadS ha49 rfl Try.underlying36 ti36 rfl rfl (hc44.ext hx32)) ?_
     intro a50 ha50; clear ha49 a49
     refine wl_eff ha50 rfl rfl rfl (op_alloc' rfl ti36 rfl) ?_
     rintro _ w52 ⟨rfl, he53, hb54, hz55⟩ a56 ha56; clear ha50 a50
     have hx57 := hx32.trans' he53
     have hzhx57 := he53.size
     replace hf33 := hf33.ext he53
     replace hf34 := hf34.ext he53
     refine wl_effS ha56 rfl rfl (op_storeAll' ha56 rfl ti36 rfl rfl hb54 rfl rfl (by simp [Value.oneCell']) rfl) ?_
     rintro w58 ⟨hb60, hst59, hz61⟩
     have hx62 := hx57.stp hst59 (by intro q hq; cases hq; exact (by omega))
     have hzhx62 := hst59.size
     replace hf33 := hf33.stp hst59 (by intro q hq; cases hq; omega)
     replace hf34 := hf34.stp hst59 (by intro q hq; cases hq; omega)
     clear hb54
     refine wpList_nil ?_
     refine then_n ?_
     refine wp_seq ?_
     refine wp_seq ?_
     refine wp_region_lit ?_
     refine wl_val ha56 rfl rfl rfl (op_move ha56 rfl rfl) ?_
     intro a63 ha63; clear ha56 a56
     refine wl_val ha63 rfl rfl rfl (op_not ha63 rfl rfl) ?_
     intro a64 ha64; clear ha63 a63
     refine wl_val ha64 rfl rfl rfl (op_move ha64 rfl rfl) ?_
     intro a65 ha65; clear ha64 a64
     rcases Bool.eq_false_or_eq_true (p) with c66 | c66
     ·
      rw [c66] at ha65
      refine wl_skip ha65 rfl rfl rfl ?_
      intro a67 ha67; clear ha65 a65
      refine wl_skip ha67 rfl rfl rfl ?_
      intro a68 ha68; clear ha67 a67
      refine wl_skip ha68 rfl rfl rfl ?_
      intro a69 ha69; clear ha68 a68
      refine wl_skip ha69 rfl rfl rfl ?_
      intro a70 ha70; clear ha69 a69
      refine wl_skip ha70 rfl rfl rfl ?_
      intro a71 ha71; clear ha70 a70
      refine wl_val ha71 rfl rfl rfl (op_pick_f ha71 rfl rfl rfl) ?_
      intro a72 ha72; clear ha71 a71
      refine wpList_nil ?_
      refine then_n ?_
      refine cond_f ha72 rfl ?_
      refine wp_skip ?_
      refine then_n ?_
      refine wp_seq ?_
      refine wp_region_lit ?_
      refine wl_val ha72 rfl rfl rfl (op_fieldAddr (sz := 0) ha72 rfl Try.underlying36 rfl rfl ti2 rfl) ?_
      intro a73 ha73; clear ha72 a72
      refine wl_val ha73 rfl rfl rfl (op_loadF (off := 0) ha73 rfl Try.underlying2 rfl rfl hb60.cells rfl) ?_
      intro a74 ha74; clear ha73 a73
      refine wl_val ha74 rfl rfl rfl (op_fieldAddr (sz := 0) ha74 rfl Try.underlying36 rfl rfl ti2 rfl) ?_
      intro a75 ha75; clear ha74 a74
      refine wl_val ha75 rfl rfl rfl (op_loadF (off := 0) ha75 rfl Try.underlying2 rfl rfl hf33.cells rfl) ?_
      intro a76 ha76; clear ha75 a75
      refine wl_val ha76 rfl rfl rfl ((op_neq ha76 rfl rfl rfl).to (congrArg Value.bool decide_not)) ?_
      intro a77 ha77; clear ha76 a76
      refine wpList_nil ?_
      refine then_n ?_
      by_cases c78 : x40.1 = r.1
      ·
       rw [decide_eq_true c78] at ha77
       refine cond_f ha77 rfl ?_
       refine wp_skip ?_
       refine block_n ?_
       refine then_n ?_
       refine wp_region_lit ?_
       refine wl_val ha77 rfl rfl rfl ((op_add ha77 rfl rfl rfl).int (IntWalk.i64_in _ (by omega))) ?_
       intro a79 ha79; clear ha77 a77
       refine wl_val ha79 rfl rfl rfl (op_move ha79 rfl rfl) ?_
       intro a80 ha80; clear ha79 a79
       refine wpList_nil ?_
       refine round_end (x := (i, p, v, acc)) ((i + 1), true, v, acc) ?_ ?_
       ·
        refine ⟨(Sl.cons_ ha80 rfl rfl (Sl.cons_ ha80 rfl rfl (Sl.cons_ ha80 rfl rfl (Sl.cons_ ha80 rfl rfl (Sl.cons_ ha80 rfl rfl (Sl.cons_ ha80 rfl (int_eq (by omega)) (Sl.nil_ ha80))))))), hx62, hf33, (hf34.fin (by omega) (by omega) (by omega)), (by omega), (by intro q hq; first | (have hq0 := hf34.lt q hq; omega) | exact hsp35 q hq), (by omega), (by first | omega | (simp; omega)), (by omega), (by rw [drop_cons hx40, putGo] at hF; first | (exfalso; omega) | simpa [c17, c25, c39, c66, c78] using hF)⟩
       ·show (list.length - ((i + 1)) : Nat) < list.length - i; omega
      ·
       rw [decide_eq_false c78] at ha77
       refine cond_t ha77 rfl ?_
       refine wp_region_lit ?_
       refine wl_val ha77 rfl rfl rfl (op_move ha77 rfl rfl) ?_
       intro a81 ha81; clear ha77 a77
       refine wl_val ha81 rfl rfl rfl (op_loadS ha81 rfl Try.underlying36 ti36 rfl rfl hb60.cells) ?_
       intro a82 ha82; clear ha81 a81
       refine wl_eff ha82 rfl rfl rfl (op_buildSlice (s := shRec) (xs := [x40]) (cs := [.int .i64 x40.1, St x40.2]) (vs := [(0, .agg #[.int .i64 x40.1, St x40.2])]) (S := fun _ => False) (le := w58.heap.size) ha82 rfl pos_shRec Try.underlying25 ti36 rfl rfl (by decide) (by kernel_rfl) (Els.single (mk_shRec x40 (by first | assumption | omega | (simp; omega)) (by first | assumption | omega | (simp; omega)))) (fun _ h => h.elim)) ?_
       rintro v83 w84 ⟨ho85, he86, hob87⟩ a88 ha88; clear ha82 a82
       have hx89 := hx62.trans' he86
       have hzhx89 := he86.size
       replace hf33 := hf33.ext he86
       replace hf34 := hf34.ext he86
       replace hb60 := hb60.ext he86
       refine wl_eff ha88 rfl rfl rfl (op_append (ts := #[]) (s := shRec) ha88 rfl Try.underlying25 ti36 rfl pos_shRec rfl rfl hf34 (ho85.rds pos_shRec) (by omega) (by omega) (by first | omega | (simp; omega)) (by first | omega | (simp; omega)) (.inl flat_shRec)) ?_
       rintro v90 w91 ⟨ho92, hst93, hob94⟩ a95 ha95; clear ha88 a88
       have hx96 := hx89.stp hst93 (by intro q hq; have hq0 := hf34.lt q hq; omega)
       have hzhx96 := hst93.size
       replace hf33 := hf33.stp hst93 (by intro q hq; have hq0 := hf34.lt q hq; omega)
       replace hb60 := hb60.stp hst93 (by intro q hq; have hq0 := hf34.lt q hq; omega)
       replace ho85 := ho85.stp hst93 (by intro q hq; have hq0 := hf34.lt q hq; omega)
       have hsp97 : ∀ q, Value.ownBlock v90 = some q → q ≠ w0.heap.size := by intro q hq; have hq0 := hf33.lt; rcases hob94 with h | h; (rw [h] at hq; first | (have hq1 := hf34.lt q hq; omega) | exact hsp35 q hq); (rw [h] at hq; cases hq; omega)
       have hsp98 : ∀ q, Value.ownBlock v90 = some q → q ≠ w31.heap.size := by intro q hq; have hq0 := hb60.lt; rcases hob94 with h | h; (rw [h] at hq; first | (have hq1 := hf34.lt q hq; omega)); (rw [h] at hq; cases hq; omega)
       have hsp99 : ∀ q, Value.ownBlock v90 = some q → Value.ownBlock v83 ≠ some q := by intro q hq hb; have hq0 := ho85.lt q hb; rcases hob94 with h | h; (rw [h] at hq; first | (have hq1 := hf34.lt q hq; omega)); (rw [h] at hq; cases hq; omega)
       refine wl_val ha95 rfl rfl rfl (op_assign ha95 rfl rfl) ?_
       intro a100 ha100; clear ha95 a95
       refine wpList_nil ?_
       refine block_n ?_
       refine then_n ?_
       refine wp_region_lit ?_
       refine wl_val ha100 rfl rfl rfl ((op_add ha100 rfl rfl rfl).int (IntWalk.i64_in _ (by omega))) ?_
       intro a101 ha101; clear ha100 a100
       refine wl_val ha101 rfl rfl rfl (op_move ha101 rfl rfl) ?_
       intro a102 ha102; clear ha101 a101
       refine wpList_nil ?_
       refine round_end (x := (i, p, v, acc)) ((i + 1), true, v90, (acc ++ [x40])) ?_ ?_
       ·
        refine ⟨(Sl.cons_ ha102 rfl rfl (Sl.cons_ ha102 rfl rfl (Sl.cons_ ha102 rfl rfl (Sl.cons_ ha102 rfl rfl (Sl.cons_ ha102 rfl rfl (Sl.cons_ ha102 rfl (int_eq (by omega)) (Sl.nil_ ha102))))))), hx96, hf33, (ho92.fin (by omega) (by omega) (by omega)), (by omega), (by intro q hq; first | (have hq0 := ho92.lt q hq; omega) | exact hsp97 q hq), (by omega), (by first | omega | (simp; omega)), (by omega), (by rw [drop_cons hx40, putGo] at hF; first | (exfalso; omega) | simpa [c17, c25, c39, c66, c78] using hF)⟩
       ·show (list.length - ((i + 1)) : Nat) < list.length - i; omega
     ·
      rw [c66] at ha65
      refine wl_val ha65 rfl rfl rfl (op_fieldAddr (sz := 0) ha65 rfl Try.underlying36 rfl rfl ti2 rfl) ?_
      intro a103 ha103; clear ha65 a65
      refine wl_val ha103 rfl rfl rfl (op_loadF (off := 0) ha103 rfl Try.underlying2 rfl rfl hf33.cells rfl) ?_
      intro a104 ha104; clear ha103 a103
      refine wl_val ha104 rfl rfl rfl (op_fieldAddr (sz := 0) ha104 rfl Try.underlying36 rfl rfl ti2 rfl) ?_
      intro a105 ha105; clear ha104 a104
      refine wl_val ha105 rfl rfl rfl (op_loadF (off := 0) ha105 rfl Try.underlying2 rfl rfl hb60.cells rfl) ?_
      intro a106 ha106; clear ha105 a105
      refine wl_val ha106 rfl rfl rfl (op_leq ha106 rfl rfl rfl) ?_
      intro a107 ha107; clear ha106 a106
      refine wl_val ha107 rfl rfl rfl (op_pick_t ha107 rfl rfl rfl) ?_
      intro a108 ha108; clear ha107 a107
      refine wpList_nil ?_
      refine then_n ?_
      by_cases c109 : r.1 ≤ x40.1
      ·
       rw [decide_eq_true c109] at ha108
       refine cond_t ha108 rfl ?_
       refine wp_seq ?_
       refine wp_region_lit ?_
       refine wl_val ha108 rfl rfl rfl (op_move ha108 rfl rfl) ?_
       intro a110 ha110; clear ha108 a108
       refine wl_val ha110 rfl rfl rfl (op_loadS ha110 rfl Try.underlying36 ti36 rfl rfl hf33.cells) ?_
       intro a111 ha111; clear ha110 a110
       refine wl_eff ha111 rfl rfl rfl (op_buildSlice (s := shRec) (xs := [r]) (cs := [.int .i64 r.1, St r.2]) (vs := [(0, .agg #[.int .i64 r.1, St r.2])]) (S := fun _ => False) (le := w58.heap.size) ha111 rfl pos_shRec Try.underlying25 ti36 rfl rfl (by decide) (by kernel_rfl) (Els.single (mk_shRec r (by first | assumption | omega | (simp; omega)) (by first | assumption | omega | (simp; omega)))) (fun _ h => h.elim)) ?_
       rintro v112 w113 ⟨ho114, he115, hob116⟩ a117 ha117; clear ha111 a111
       have hx118 := hx62.trans' he115
       have hzhx118 := he115.size
       replace hf33 := hf33.ext he115
       replace hf34 := hf34.ext he115
       replace hb60 := hb60.ext he115
       refine wl_eff ha117 rfl rfl rfl (op_append (ts := #[]) (s := shRec) ha117 rfl Try.underlying25 ti36 rfl pos_shRec rfl rfl hf34 (ho114.rds pos_shRec) (by omega) (by omega) (by first | omega | (simp; omega)) (by first | omega | (simp; omega)) (.inl flat_shRec)) ?_
       rintro v119 w120 ⟨ho121, hst122, hob123⟩ a124 ha124; clear ha117 a117
       have hx125 := hx118.stp hst122 (by intro q hq; have hq0 := hf34.lt q hq; omega)
       have hzhx125 := hst122.size
       replace hf33 := hf33.stp hst122 (by intro q hq; have hq0 := hf34.lt q hq; omega)
       replace hb60 := hb60.stp hst122 (by intro q hq; have hq0 := hf34.lt q hq; omega)
       replace ho114 := ho114.stp hst122 (by intro q hq; have hq0 := hf34.lt q hq; omega)
       have hsp126 : ∀ q, Value.ownBlock v119 = some q → q ≠ w0.heap.size := by intro q hq; have hq0 := hf33.lt; rcases hob123 with h | h; (rw [h] at hq; first | (have hq1 := hf34.lt q hq; omega) | exact hsp35 q hq); (rw [h] at hq; cases hq; omega)
       have hsp127 : ∀ q, Value.ownBlock v119 = some q → q ≠ w31.heap.size := by intro q hq; have hq0 := hb60.lt; rcases hob123 with h | h; (rw [h] at hq; first | (have hq1 := hf34.lt q hq; omega)); (rw [h] at hq; cases hq; omega)
       have hsp128 : ∀ q, Value.ownBlock v119 = some q → Value.ownBlock v112 ≠ some q := by intro q hq hb; have hq0 := ho114.lt q hb; rcases hob123 with h | h; (rw [h] at hq; first | (have hq1 := hf34.lt q hq; omega)); (rw [h] at hq; cases hq; omega)
       refine wl_val ha124 rfl rfl rfl (op_assign ha124 rfl rfl) ?_
       intro a129 ha129; clear ha124 a124
       refine wpList_nil ?_
       refine then_n ?_
       refine wp_region_lit ?_
       refine wl_val ha129 rfl rfl rfl (op_assign ha129 rfl rfl) ?_
       intro a130 ha130; clear ha129 a129
       refine wpList_nil ?_
       refine then_n ?_
       refine wp_seq ?_
       refine wp_region_lit ?_
       refine wl_val ha130 rfl rfl rfl (op_fieldAddr (sz := 0) ha130 rfl Try.underlying36 rfl rfl ti2 rfl) ?_
       intro a131 ha131; clear ha130 a130
       refine wl_val ha131 rfl rfl rfl (op_loadF (off := 0) ha131 rfl Try.underlying2 rfl rfl hb60.cells rfl) ?_
       intro a132 ha132; clear ha131 a131
       refine wl_val ha132 rfl rfl rfl (op_fieldAddr (sz := 0) ha132 rfl Try.underlying36 rfl rfl ti2 rfl) ?_
       intro a133 ha133; clear ha132 a132
       refine wl_val ha133 rfl rfl rfl (op_loadF (off := 0) ha133 rfl Try.underlying2 rfl rfl hf33.cells rfl) ?_
       intro a134 ha134; clear ha133 a133
       refine wl_val ha134 rfl rfl rfl ((op_neq ha134 rfl rfl rfl).to (congrArg Value.bool decide_not)) ?_
       intro a135 ha135; clear ha134 a134
       refine wpList_nil ?_
       refine then_n ?_
       by_cases c136 : x40.1 = r.1
       ·
        rw [decide_eq_true c136] at ha135
        refine cond_f ha135 rfl ?_
        refine wp_skip ?_
        refine block_n ?_
        refine then_n ?_
        refine wp_region_lit ?_
        refine wl_val ha135 rfl rfl rfl ((op_add ha135 rfl rfl rfl).int (IntWalk.i64_in _ (by omega))) ?_
        intro a137 ha137; clear ha135 a135
        refine wl_val ha137 rfl rfl rfl (op_move ha137 rfl rfl) ?_
        intro a138 ha138; clear ha137 a137
        refine wpList_nil ?_
        refine round_end (x := (i, p, v, acc)) ((i + 1), true, v119, (acc ++ [r])) ?_ ?_
        ·
         refine ⟨(Sl.cons_ ha138 rfl rfl (Sl.cons_ ha138 rfl rfl (Sl.cons_ ha138 rfl rfl (Sl.cons_ ha138 rfl rfl (Sl.cons_ ha138 rfl rfl (Sl.cons_ ha138 rfl (int_eq (by omega)) (Sl.nil_ ha138))))))), hx125, hf33, (ho121.fin (by omega) (by omega) (by omega)), (by omega), (by intro q hq; first | (have hq0 := ho121.lt q hq; omega) | exact hsp126 q hq), (by omega), (by first | omega | (simp; omega)), (by omega), (by rw [drop_cons hx40, putGo] at hF; first | (exfalso; omega) | simpa [c17, c25, c39, c66, c109, c136] using hF)⟩
        ·show (list.length - ((i + 1)) : Nat) < list.length - i; omega
       ·
        rw [decide_eq_false c136] at ha135
        refine cond_t ha135 rfl ?_
        refine wp_region_lit ?_
        refine wl_val ha135 rfl rfl rfl (op_move ha135 rfl rfl) ?_
        intro a139 ha139; clear ha135 a135
        refine wl_val ha139 rfl rfl rfl (op_loadS ha139 rfl Try.underlying36 ti36 rfl rfl hb60.cells) ?_
        intro a140 ha140; clear ha139 a139
        refine wl_eff ha140 rfl rfl rfl (op_buildSlice (s := shRec) (xs := [x40]) (cs := [.int .i64 x40.1, St x40.2]) (vs := [(0, .agg #[.int .i64 x40.1, St x40.2])]) (S := fun _ => False) (le := w120.heap.size) ha140 rfl pos_shRec Try.underlying25 ti36 rfl rfl (by decide) (by kernel_rfl) (Els.single (mk_shRec x40 (by first | assumption | omega | (simp; omega)) (by first | assumption | omega | (simp; omega)))) (fun _ h => h.elim)) ?_
        rintro v141 w142 ⟨ho143, he144, hob145⟩ a146 ha146; clear ha140 a140
        have hx147 := hx125.trans' he144
        have hzhx147 := he144.size
        replace hf33 := hf33.ext he144
        replace hb60 := hb60.ext he144
        replace ho114 := ho114.ext he144
        replace ho121 := ho121.ext he144
        refine wl_eff ha146 rfl rfl rfl (op_append (ts := #[]) (s := shRec) ha146 rfl Try.underlying25 ti36 rfl pos_shRec rfl rfl ho121 (ho143.rds pos_shRec) (by omega) (by omega) (by first | omega | (simp; omega)) (by first | omega | (simp; omega)) (.inl flat_shRec)) ?_
        rintro v148 w149 ⟨ho150, hst151, hob152⟩ a153 ha153; clear ha146 a146
        have hx154 := hx147.stp hst151 (by intro q hq; have hq0 := ho121.lt q hq; omega)
        have hzhx154 := hst151.size
        replace hf33 := hf33.stp hst151 (by intro q hq; have hq0 := ho121.lt q hq; omega)
        first | replace hb60 := hb60.stp hst151 (by intro q hq; have hq0 := ho121.lt q hq; omega) | replace hb60 := hb60.stp hst151 (fun q hq e => hsp127 q hq e.symm)
        first | replace ho114 := ho114.stp hst151 (by intro q hq; have hq0 := ho121.lt q hq; omega) | replace ho114 := ho114.stpF flat_shRec hst151 (fun q hq => hsp128 q hq)
        replace ho143 := ho143.stp hst151 (by intro q hq; have hq0 := ho121.lt q hq; omega)
        have hsp155 : ∀ q, Value.ownBlock v148 = some q → q ≠ w0.heap.size := by intro q hq; have hq0 := hf33.lt; rcases hob152 with h | h; (rw [h] at hq; first | (have hq1 := ho121.lt q hq; omega) | exact hsp126 q hq); (rw [h] at hq; cases hq; omega)
        have hsp156 : ∀ q, Value.ownBlock v148 = some q → q ≠ w31.heap.size := by intro q hq; have hq0 := hb60.lt; rcases hob152 with h | h; (rw [h] at hq; first | (have hq1 := ho121.lt q hq; omega) | exact hsp127 q hq); (rw [h] at hq; cases hq; omega)
        have hsp157 : ∀ q, Value.ownBlock v148 = some q → Value.ownBlock v112 ≠ some q := by intro q hq hb; have hq0 := ho114.lt q hb; rcases hob152 with h | h; (rw [h] at hq; first | (have hq1 := ho121.lt q hq; omega) | exact hsp128 q hq hb); (rw [h] at hq; cases hq; omega)
        have hsp158 : ∀ q, Value.ownBlock v148 = some q → Value.ownBlock v141 ≠ some q := by intro q hq hb; have hq0 := ho143.lt q hb; rcases hob152 with h | h; (rw [h] at hq; first | (have hq1 := ho121.lt q hq; omega)); (rw [h] at hq; cases hq; omega)
        refine wl_val ha153 rfl rfl rfl (op_assign ha153 rfl rfl) ?_
        intro a159 ha159; clear ha153 a153
        refine wpList_nil ?_
        refine block_n ?_
        refine then_n ?_
        refine wp_region_lit ?_
        refine wl_val ha159 rfl rfl rfl ((op_add ha159 rfl rfl rfl).int (IntWalk.i64_in _ (by omega))) ?_
        intro a160 ha160; clear ha159 a159
        refine wl_val ha160 rfl rfl rfl (op_move ha160 rfl rfl) ?_
        intro a161 ha161; clear ha160 a160
        refine wpList_nil ?_
        refine round_end (x := (i, p, v, acc)) ((i + 1), true, v148, ((acc ++ [r]) ++ [x40])) ?_ ?_
        ·
         refine ⟨(Sl.cons_ ha161 rfl rfl (Sl.cons_ ha161 rfl rfl (Sl.cons_ ha161 rfl rfl (Sl.cons_ ha161 rfl rfl (Sl.cons_ ha161 rfl rfl (Sl.cons_ ha161 rfl (int_eq (by omega)) (Sl.nil_ ha161))))))), hx154, hf33, (ho150.fin (by omega) (by omega) (by omega)), (by omega), (by intro q hq; first | (have hq0 := ho150.lt q hq; omega) | exact hsp155 q hq), (by omega), (by first | omega | (simp; omega)), (by omega), (by rw [drop_cons hx40, putGo] at hF; first | (exfalso; omega) | simpa [c17, c25, c39, c66, c109, c136] using hF)⟩
        ·show (list.length - ((i + 1)) : Nat) < list.length - i; omega
      ·
       rw [decide_eq_false c109] at ha108
       refine cond_f ha108 rfl ?_
       refine wp_skip ?_
       refine then_n ?_
       refine wp_seq ?_
       refine wp_region_lit ?_
       refine wl_val ha108 rfl rfl rfl (op_fieldAddr (sz := 0) ha108 rfl Try.underlying36 rfl rfl ti2 rfl) ?_
       intro a162 ha162; clear ha108 a108
       refine wl_val ha162 rfl rfl rfl (op_loadF (off := 0) ha162 rfl Try.underlying2 rfl rfl hb60.cells rfl) ?_
       intro a163 ha163; clear ha162 a162
       refine wl_val ha163 rfl rfl rfl (op_fieldAddr (sz := 0) ha163 rfl Try.underlying36 rfl rfl ti2 rfl) ?_
       intro a164 ha164; clear ha163 a163
       refine wl_val ha164 rfl rfl rfl (op_loadF (off := 0) ha164 rfl Try.underlying2 rfl rfl hf33.cells rfl) ?_
       intro a165 ha165; clear ha164 a164
       refine wl_val ha165 rfl rfl rfl ((op_neq ha165 rfl rfl rfl).to (congrArg Value.bool decide_not)) ?_
       intro a166 ha166; clear ha165 a165
       refine wpList_nil ?_
       refine then_n ?_
       by_cases c167 : x40.1 = r.1
       ·
        rw [decide_eq_true c167] at ha166
        refine cond_f ha166 rfl ?_
        refine wp_skip ?_
        refine block_n ?_
        refine then_n ?_
        refine wp_region_lit ?_
        refine wl_val ha166 rfl rfl rfl ((op_add ha166 rfl rfl rfl).int (IntWalk.i64_in _ (by omega))) ?_
        intro a168 ha168; clear ha166 a166
        refine wl_val ha168 rfl rfl rfl (op_move ha168 rfl rfl) ?_
        intro a169 ha169; clear ha168 a168
        refine wpList_nil ?_
        refine round_end (x := (i, p, v, acc)) ((i + 1), false, v, acc) ?_ ?_
        ·
         refine ⟨(Sl.cons_ ha169 rfl rfl (Sl.cons_ ha169 rfl rfl (Sl.cons_ ha169 rfl rfl (Sl.cons_ ha169 rfl rfl (Sl.cons_ ha169 rfl rfl (Sl.cons_ ha169 rfl (int_eq (by omega)) (Sl.nil_ ha169))))))), hx62, hf33, (hf34.fin (by omega) (by omega) (by omega)), (by omega), (by intro q hq; first | (have hq0 := hf34.lt q hq; omega) | exact hsp35 q hq), (by omega), (by first | omega | (simp; omega)), (by omega), (by rw [drop_cons hx40, putGo] at hF; first | (exfalso; omega) | simpa [c17, c25, c39, c66, c109, c167] using hF)⟩
        ·show (list.length - ((i + 1)) : Nat) < list.length - i; omega
       ·
        rw [decide_eq_false c167] at ha166
        refine cond_t ha166 rfl ?_
        refine wp_region_lit ?_
        refine wl_val ha166 rfl rfl rfl (op_move ha166 rfl rfl) ?_
        intro a170 ha170; clear ha166 a166
        refine wl_val ha170 rfl rfl rfl (op_loadS ha170 rfl Try.underlying36 ti36 rfl rfl hb60.cells) ?_
        intro a171 ha171; clear ha170 a170
        refine wl_eff ha171 rfl rfl rfl (op_buildSlice (s := shRec) (xs := [x40]) (cs := [.int .i64 x40.1, St x40.2]) (vs := [(0, .agg #[.int .i64 x40.1, St x40.2])]) (S := fun _ => False) (le := w58.heap.size) ha171 rfl pos_shRec Try.underlying25 ti36 rfl rfl (by decide) (by kernel_rfl) (Els.single (mk_shRec x40 (by first | assumption | omega | (simp; omega)) (by first | assumption | omega | (simp; omega)))) (fun _ h => h.elim)) ?_
        rintro v172 w173 ⟨ho174, he175, hob176⟩ a177 ha177; clear ha171 a171
        have hx178 := hx62.trans' he175
        have hzhx178 := he175.size
        replace hf33 := hf33.ext he175
        replace hf34 := hf34.ext he175
        replace hb60 := hb60.ext he175
        refine wl_eff ha177 rfl rfl rfl (op_append (ts := #[]) (s := shRec) ha177 rfl Try.underlying25 ti36 rfl pos_shRec rfl rfl hf34 (ho174.rds pos_shRec) (by omega) (by omega) (by first | omega | (simp; omega)) (by first | omega | (simp; omega)) (.inl flat_shRec)) ?_
        rintro v179 w180 ⟨ho181, hst182, hob183⟩ a184 ha184; clear ha177 a177
        have hx185 := hx178.stp hst182 (by intro q hq; have hq0 := hf34.lt q hq; omega)
        have hzhx185 := hst182.size
        replace hf33 := hf33.stp hst182 (by intro q hq; have hq0 := hf34.lt q hq; omega)
        replace hb60 := hb60.stp hst182 (by intro q hq; have hq0 := hf34.lt q hq; omega)
        replace ho174 := ho174.stp hst182 (by intro q hq; have hq0 := hf34.lt q hq; omega)
        have hsp186 : ∀ q, Value.ownBlock v179 = some q → q ≠ w0.heap.size := by intro q hq; have hq0 := hf33.lt; rcases hob183 with h | h; (rw [h] at hq; first | (have hq1 := hf34.lt q hq; omega) | exact hsp35 q hq); (rw [h] at hq; cases hq; omega)
        have hsp187 : ∀ q, Value.ownBlock v179 = some q → q ≠ w31.heap.size := by intro q hq; have hq0 := hb60.lt; rcases hob183 with h | h; (rw [h] at hq; first | (have hq1 := hf34.lt q hq; omega)); (rw [h] at hq; cases hq; omega)
        have hsp188 : ∀ q, Value.ownBlock v179 = some q → Value.ownBlock v172 ≠ some q := by intro q hq hb; have hq0 := ho174.lt q hb; rcases hob183 with h | h; (rw [h] at hq; first | (have hq1 := hf34.lt q hq; omega)); (rw [h] at hq; cases hq; omega)
        refine wl_val ha184 rfl rfl rfl (op_assign ha184 rfl rfl) ?_
        intro a189 ha189; clear ha184 a184
        refine wpList_nil ?_
        refine block_n ?_
        refine then_n ?_
        refine wp_region_lit ?_
        refine wl_val ha189 rfl rfl rfl ((op_add ha189 rfl rfl rfl).int (IntWalk.i64_in _ (by omega))) ?_
        intro a190 ha190; clear ha189 a189
        refine wl_val ha190 rfl rfl rfl (op_move ha190 rfl rfl) ?_
        intro a191 ha191; clear ha190 a190
        refine wpList_nil ?_
        refine round_end (x := (i, p, v, acc)) ((i + 1), false, v179, (acc ++ [x40])) ?_ ?_
        ·
         refine ⟨(Sl.cons_ ha191 rfl rfl (Sl.cons_ ha191 rfl rfl (Sl.cons_ ha191 rfl rfl (Sl.cons_ ha191 rfl rfl (Sl.cons_ ha191 rfl rfl (Sl.cons_ ha191 rfl (int_eq (by omega)) (Sl.nil_ ha191))))))), hx185, hf33, (ho181.fin (by omega) (by omega) (by omega)), (by omega), (by intro q hq; first | (have hq0 := ho181.lt q hq; omega) | exact hsp186 q hq), (by omega), (by first | omega | (simp; omega)), (by omega), (by rw [drop_cons hx40, putGo] at hF; first | (exfalso; omega) | simpa [c17, c25, c39, c66, c109, c167] using hF)⟩
        ·show (list.length - ((i + 1)) : Nat) < list.length - i; omega
    ·
     rw [decide_eq_false c39] at ha38
     refine cond_f ha38 rfl ?_
     refine wp_exit ?_
     refine then_e ?_
     refine then_e ?_
     refine block_hit ?_
     refine then_n ?_
     refine wp_seq ?_
     refine wp_seq ?_
     refine wp_region_lit ?_
     refine wl_val ha38 rfl rfl rfl (op_move ha38 rfl rfl) ?_
     intro a192 ha192; clear ha38 a38
     refine wl_val ha192 rfl rfl rfl (op_not ha192 rfl rfl) ?_
     intro a193 ha193; clear ha192 a192
     refine wpList_nil ?_
     refine then_n ?_
     rcases Bool.eq_false_or_eq_true (p) with c194 | c194
     ·
      rw [c194] at ha193
      refine cond_f ha193 rfl ?_
      refine wp_skip ?_
      refine then_n ?_
      refine wp_seq ?_
      refine wp_seq ?_
      refine wp_region_lit ?_
      refine wl_val ha193 rfl rfl rfl (op_move ha193 rfl rfl) ?_
      intro a195 ha195; clear ha193 a193
      refine wl_val ha195 rfl rfl rfl (op_len_sl ha195 rfl Try.underlying25 rfl (hf34.rds pos_shRec)) ?_
      intro a196 ha196; clear ha195 a195
      refine wl_val ha196 rfl rfl rfl (op_gtr ha196 rfl rfl rfl) ?_
      intro a197 ha197; clear ha196 a196
      refine wpList_nil ?_
      refine then_n ?_
      by_cases c198 : (30 : Int) < ((acc.length : Nat) : Int)
      ·
       rw [decide_eq_true c198] at ha197
       refine cond_t ha197 rfl ?_
       refine wp_seq ?_
       refine wp_region_lit ?_
       refine wl_val ha197 rfl rfl rfl (op_assign ha197 rfl rfl) ?_
       intro a199 ha199; clear ha197 a197
       refine wl_val ha199 rfl rfl rfl (op_assign ha199 rfl rfl) ?_
       intro a200 ha200; clear ha199 a199
       refine wpList_nil ?_
       refine then_n ?_
       refine wp_ret ?_
       refine then_r ?_
       refine ret2 ha200 rfl rfl rfl ?_
       clear ha200 a200
       rw [drop_nil (by omega), putGo] at hF
       simp only [c194, if_true, Bool.false_eq_true, if_false, List.append_nil] at hF
       have hn : 30 < (putS list r).length := by rw [← hF]; omega
       refine ret_mk hx32 ⟨.slice none 0 0, (tup2_eq rfl (int_eq (by simp [replE, c17, c25, c39, c194, c198, hn]))), ?_⟩
       ·refine Own.nil_ _ _ _ _ _ _ ?_
        (simp [replL, c17, c25, c39, c194, c198, hn])
      ·
       rw [decide_eq_false c198] at ha197
       refine cond_f ha197 rfl ?_
       refine wp_skip ?_
       refine then_n ?_
       refine wp_seq ?_
       refine wp_region_lit ?_
       refine wl_val ha197 rfl rfl rfl (op_move ha197 rfl rfl) ?_
       intro a201 ha201; clear ha197 a197
       refine wl_val ha201 rfl rfl rfl (op_assign ha201 rfl rfl) ?_
       intro a202 ha202; clear ha201 a201
       refine wl_val ha202 rfl rfl rfl (op_assign ha202 rfl rfl) ?_
       intro a203 ha203; clear ha202 a202
       refine wpList_nil ?_
       refine then_n ?_
       refine wp_ret ?_
       refine ret2 ha203 rfl rfl rfl ?_
       clear ha203 a203
       rw [drop_nil (by omega), putGo] at hF
       simp only [c194, if_true, Bool.false_eq_true, if_false, List.append_nil] at hF
       have hn : ¬ 30 < (putS list r).length := by rw [← hF]; omega
       refine ret_mk hx32 ⟨v, (tup2_eq rfl (int_eq (by simp [replE, c17, c25, c39, c194, c198, hn]))), ?_⟩
       ·refine (hf34.fin (by omega) (by omega) (by omega)).cast ?_
        (simp [replL, c17, c25, c39, c194, c198, hn]; exact hF)
     ·
      rw [c194] at ha193
      refine cond_t ha193 rfl ?_
      refine wp_region_lit ?_
      refine wl_val ha193 rfl rfl rfl (op_move ha193 rfl rfl) ?_
      intro a204 ha204; clear ha193 a193
      refine wl_val ha204 rfl rfl rfl (op_loadS ha204 rfl Try.underlying36 ti36 rfl rfl hf33.cells) ?_
      intro a205 ha205; clear ha204 a204
      refine wl_eff ha205 rfl rfl rfl (op_buildSlice (s := shRec) (xs := [r]) (cs := [.int .i64 r.1, St r.2]) (vs := [(0, .agg #[.int .i64 r.1, St r.2])]) (S := fun _ => False) (le := w31.heap.size) ha205 rfl pos_shRec Try.underlying25 ti36 rfl rfl (by decide) (by kernel_rfl) (Els.single (mk_shRec r (by first | assumption | omega | (simp; omega)) (by first | assumption | omega | (simp; omega)))) (fun _ h => h.elim)) ?_
      rintro v206 w207 ⟨ho208, he209, hob210⟩ a211 ha211; clear ha205 a205
      have hx212 := hx32.trans' he209
      have hzhx212 := he209.size
      replace hf33 := hf33.ext he209
      replace hf34 := hf34.ext he209
      refine wl_eff ha211 rfl rfl rfl (op_append (ts := #[]) (s := shRec) ha211 rfl Try.underlying25 ti36 rfl pos_shRec rfl rfl hf34 (ho208.rds pos_shRec) (by omega) (by omega) (by first | omega | (simp; omega)) (by first | omega | (simp; omega)) (.inl flat_shRec)) ?_
      rintro v213 w214 ⟨ho215, hst216, hob217⟩ a218 ha218; clear ha211 a211
      have hx219 := hx212.stp hst216 (by intro q hq; have hq0 := hf34.lt q hq; omega)
      have hzhx219 := hst216.size
      replace hf33 := hf33.stp hst216 (by intro q hq; have hq0 := hf34.lt q hq; omega)
      replace ho208 := ho208.stp hst216 (by intro q hq; have hq0 := hf34.lt q hq; omega)
      have hsp220 : ∀ q, Value.ownBlock v213 = some q → q ≠ w0.heap.size := by intro q hq; have hq0 := hf33.lt; rcases hob217 with h | h; (rw [h] at hq; first | (have hq1 := hf34.lt q hq; omega) | exact hsp35 q hq); (rw [h] at hq; cases hq; omega)
      have hsp221 : ∀ q, Value.ownBlock v213 = some q → Value.ownBlock v206 ≠ some q := by intro q hq hb; have hq0 := ho208.lt q hb; rcases hob217 with h | h; (rw [h] at hq; first | (have hq1 := hf34.lt q hq; omega)); (rw [h] at hq; cases hq; omega)
      refine wl_val ha218 rfl rfl rfl (op_assign ha218 rfl rfl) ?_
      intro a222 ha222; clear ha218 a218
      refine wpList_nil ?_
      refine then_n ?_
      refine wp_seq ?_
      refine wp_seq ?_
      refine wp_region_lit ?_
      refine wl_val ha222 rfl rfl rfl (op_move ha222 rfl rfl) ?_
      intro a223 ha223; clear ha222 a222
      refine wl_val ha223 rfl rfl rfl (op_len_sl ha223 rfl Try.underlying25 rfl (ho215.rds pos_shRec)) ?_
      intro a224 ha224; clear ha223 a223
      refine wl_val ha224 rfl rfl rfl (op_gtr ha224 rfl rfl rfl) ?_
      intro a225 ha225; clear ha224 a224
      refine wpList_nil ?_
      refine then_n ?_
      by_cases c226 : (30 : Int) < ((((acc ++ [r])).length : Nat) : Int)
      ·
       rw [decide_eq_true c226] at ha225
       refine cond_t ha225 rfl ?_
       refine wp_seq ?_
       refine wp_region_lit ?_
       refine wl_val ha225 rfl rfl rfl (op_assign ha225 rfl rfl) ?_
       intro a227 ha227; clear ha225 a225
       refine wl_val ha227 rfl rfl rfl (op_assign ha227 rfl rfl) ?_
       intro a228 ha228; clear ha227 a227
       refine wpList_nil ?_
       refine then_n ?_
       refine wp_ret ?_
       refine then_r ?_
       refine ret2 ha228 rfl rfl rfl ?_
       clear ha228 a228
       rw [drop_nil (by omega), putGo] at hF
       simp only [c194, if_true, Bool.false_eq_true, if_false, List.append_nil] at hF
       have hn : 30 < (putS list r).length := by rw [← hF]; omega
       refine ret_mk hx219 ⟨.slice none 0 0, (tup2_eq rfl (int_eq (by simp [replE, c17, c25, c39, c194, c226, hn]))), ?_⟩
       ·refine Own.nil_ _ _ _ _ _ _ ?_
        (simp [replL, c17, c25, c39, c194, c226, hn])
      ·
       rw [decide_eq_false c226] at ha225
       refine cond_f ha225 rfl ?_
       refine wp_skip ?_
       refine then_n ?_
       refine wp_seq ?_
       refine wp_region_lit ?_
       refine wl_val ha225 rfl rfl rfl (op_move ha225 rfl rfl) ?_
       intro a229 ha229; clear ha225 a225
       refine wl_val ha229 rfl rfl rfl (op_assign ha229 rfl rfl) ?_
       intro a230 ha230; clear ha229 a229
       refine wl_val ha230 rfl rfl rfl (op_assign ha230 rfl rfl) ?_
       intro a231 ha231; clear ha230 a230
       refine wpList_nil ?_
       refine then_n ?_
       refine wp_ret ?_
       refine ret2 ha231 rfl rfl rfl ?_
       clear ha231 a231
       rw [drop_nil (by omega), putGo] at hF
       simp only [c194, if_true, Bool.false_eq_true, if_false, List.append_nil] at hF
       have hn : ¬ 30 < (putS list r).length := by rw [← hF]; omega
       refine ret_mk hx219 ⟨v213, (tup2_eq rfl (int_eq (by simp [replE, c17, c25, c39, c194, c226, hn]))), ?_⟩
       ·refine (ho215.fin (by omega) (by omega) (by omega)).cast ?_
        (simp [replL, c17, c25, c39, c194, c226, hn]; exact hF)
  ·
   rw [c25] at ha24
   refine cond_t ha24 rfl ?_
   refine wp_seq ?_
   refine wp_region_lit ?_
   refine wl_val ha24 rfl rfl rfl (op_assign ha24 rfl rfl) ?_
   intro a232 ha232; clear ha24 a24
   refine wl_val ha232 rfl rfl rfl (op_assign ha232 rfl rfl) ?_
   intro a233 ha233; clear ha232 a232
   refine wpList_nil ?_
   refine then_n ?_
   refine wp_ret ?_
   refine then_r ?_
   refine ret2 ha233 rfl rfl rfl ?_
   clear ha233 a233
   
   refine ret_mk hx23 ⟨.slice none 0 0, (tup2_eq rfl (int_eq (by simp [replE, c17, c25]))), ?_⟩
   ·refine Own.nil_ _ _ _ _ _ _ ?_
    (simp [replL, c17, c25])
 ·
  rw [c17] at ha16
  refine cond_t ha16 rfl ?_
  refine wp_seq ?_
  refine wp_region_lit ?_
  refine wl_val ha16 rfl rfl rfl (op_assign ha16 rfl rfl) ?_
  intro a234 ha234; clear ha16 a16
  refine wl_val ha234 rfl rfl rfl (op_assign ha234 rfl rfl) ?_
  intro a235 ha235; clear ha234 a234
  refine wpList_nil ?_
  refine then_n ?_
  refine wp_ret ?_
  refine then_r ?_
  refine ret2 ha235 rfl rfl rfl ?_
  clear ha235 a235
  
  refine ret_mk hx15 ⟨.slice none 0 0, (tup2_eq rfl (int_eq (by simp [replE, c17]))), ?_⟩
  ·refine Own.nil_ _ _ _ _ _ _ ?_
   (simp [replL, c17])

theorem c_spec_l32Put (w0 : World) (v_list : Value) (list : List (Int × Str)) {S_list : Nat → Prop} (r : Int × Str) (h_list : Rds shRec S_list w0 v_list list) (g0 : list.length ≤ 1048576) (g1 : I64 r.1) (g2 : r.2.length ≤ 9223372036854775807) :
  Calls Try.prog 53 #[v_list, .agg #[.int .i64 r.1, St r.2]] w0 (Ret w0 (fun v w1 => Own shRec 36 w0.heap.size w0.heap.size w1.heap.size w1 v (putS list r))) := by
 refine enter (N := 52) Try.func53 rfl rfl rfl ?_
 intro a0 ha0
 have hx0 := Ext.rfl' w0
 have hl_list := h_list.length_le
 refine wp_seq ?_
 refine wp_region_lit ?_
 refine wl_eff ha0 rfl rfl rfl (op_box' ha0 rfl rfl rfl) ?_
 rintro _ w2 ⟨rfl, he3, hb4, hz5⟩ a6 ha6; clear ha0 a0
 have hx7 := hx0.trans' he3
 have hzhx7 := he3.size
 refine wl_val ha6 rfl rfl rfl (op_assign ha6 rfl rfl) ?_
 intro a8 ha8; clear ha6 a6
 refine wpList_nil ?_
 refine then_n ?_
 refine wp_seq ?_
 refine wp_region_lit ?_
 refine wl_val ha8 rfl rfl rfl (op_assign ha8 rfl rfl) ?_
 intro a9 ha9; clear ha8 a8
 refine wpList_nil ?_
 refine then_n ?_
 refine wp_seq ?_
 refine wp_block ?_
 refine loop_inv (X := Nat) (fun (i : Nat) fr wl => Sl 52 fr [(0, v_list), (3, .pointer (some (⟨w0.heap.size, 0, none⟩ : Addr))), (5, .int .i64 ((i : Nat) : Int))] ∧ Ext w0 wl ∧ Box wl w0.heap.size 36 [.int .i64 r.1, St r.2] ∧ w2.heap.size ≤ wl.heap.size ∧ (i ≤ list.length) ∧ (list.take i ++ putS (list.drop i) r = putS list r)) (fun (i : Nat) => list.length - i) (0) ?_ ?_
 ·
  exact ⟨(Sl.cons_ ha9 rfl rfl (Sl.cons_ ha9 rfl rfl (Sl.cons_ ha9 rfl (int_eq (by omega)) (Sl.nil_ ha9)))), hx7, hb4, (by omega), (by omega), (by simp)⟩
 ·
  clear ha9 a9
  rintro i a13 w10 ⟨ha13, hx11, hf12, hzl14, hi, hF⟩
  have hzhx11 := hx11.size
  refine wp_seq ?_
  refine wp_seq ?_
  refine dr_enter Ext follows_mixed ?_
  intro w15 he16
  have hx17 := hx11.trans' he16
  have hzhx17 := he16.size
  replace hf12 := hf12.ext he16
  have hs18 : Ext w15 w15 := Ext.rfl' _
  refine dr_val (i := 0) ha13 rfl (by kernel_rfl) (by kernel_rfl) (by kernel_rfl) rfl rfl rfl hs18 (fun w' hw' => op_move ha13 rfl rfl) ?_
  intro a19 ha19; clear ha13 a13
  refine dr_val (i := 1) ha19 rfl (by kernel_rfl) (by kernel_rfl) (by kernel_rfl) rfl rfl rfl hs18 (fun w' hw' => op_move ha19 rfl rfl) ?_
  intro a20 ha20; clear ha19 a19
  refine dr_val (i := 2) ha20 rfl (by kernel_rfl) (by kernel_rfl) (by kernel_rfl) rfl rfl rfl hs18 (fun w' hw' => op_len_sl ha20 rfl Try.underlying25 rfl h_list) ?_
  intro a21 ha21; clear ha20 a20
  refine dr_val (i := 3) ha21 rfl (by kernel_rfl) (by kernel_rfl) (by kernel_rfl) rfl rfl rfl hs18 (fun w' hw' => op_lss ha21 rfl rfl rfl) ?_
  intro a22 ha22; clear ha21 a21
  refine dr_val (i := 4) ha22 rfl (by kernel_rfl) (by kernel_rfl) (by kernel_rfl) rfl rfl rfl hs18 (fun w' hw' => op_move ha22 rfl rfl) ?_
  intro a23 ha23; clear ha22 a22
  by_cases c24 : ((i : Nat) : Int) < ((list.length : Nat) : Int)
  ·
   rw [decide_eq_true c24] at ha23
   refine dr_val (i := 5) ha23 rfl (by kernel_rfl) (by kernel_rfl) (by kernel_rfl) rfl rfl rfl hs18 (fun w' hw' => op_move ha23 rfl rfl) ?_
   intro a25 ha25; clear ha23 a23
   refine dr_val (i := 6) ha25 rfl (by kernel_rfl) (by kernel_rfl) (by kernel_rfl) rfl rfl rfl hs18 (fun w' hw' => op_move ha25 rfl rfl) ?_
   intro a26 ha26; clear ha25 a25
   obtain ⟨x27, hx27⟩ := get_ex (xs := list) (j := i) (by omega)
   obtain ⟨p28, c29, hi30, hc31, hr32, hs33⟩ := Rds.at_ h_list hx27
   obtain ⟨rfl, b34, b35⟩ := inv_shRec hr32
   refine dr_val (i := 7) ha26 rfl (by kernel_rfl) (by kernel_rfl) (by kernel_rfl) rfl rfl rfl hs18 (fun w' hw' => op_indexAddr ha26 rfl Try.underlying25 ti36 rfl rfl (by omega) hi30) ?_
   intro a36 ha36; clear ha26 a26
   refine dr_val (i := 8) ha36 rfl (by kernel_rfl) (by kernel_rfl) (by kernel_rfl) rfl rfl rfl hs18 (fun w' hw' => op_fieldAddr (sz := 0) ha36 rfl Try.underlying36 rfl rfl ti2 rfl) ?_
   intro a37 ha37; clear ha36 a36
   refine dr_val (i := 9) ha37 rfl (by kernel_rfl) (by kernel_rfl) (by kernel_rfl) rfl rfl rfl hs18 (fun w' hw' => op_loadF (off := 0) ha37 rfl Try.underlying2 rfl rfl (hc31.ext (hx17.trans' hw')) rfl) ?_
   intro a38 ha38; clear ha37 a37
   refine dr_val (i := 10) ha38 rfl (by kernel_rfl) (by kernel_rfl) (by kernel_rfl) rfl rfl rfl hs18 (fun w' hw' => op_fieldAddr (sz := 0) ha38 rfl Try.underlying36 rfl rfl ti2 rfl) ?_
   intro a39 ha39; clear ha38 a38
   refine dr_val (i := 11) ha39 rfl (by kernel_rfl) (by kernel_rfl) (by kernel_rfl) rfl rfl rfl hs18 (fun w' hw' => op_loadF (off := 0) ha39 rfl Try.underlying2 rfl rfl (hf12.ext hw').cells rfl) ?_
   intro a40 ha40; clear ha39 a39
   refine dr_val (i := 12) ha40 rfl (by kernel_rfl) (by kernel_rfl) (by kernel_rfl) rfl rfl rfl hs18 (fun w' hw' => op_lss ha40 rfl rfl rfl) ?_
   intro a41 ha41; clear ha40 a40
   refine dr_val (i := 13) ha41 rfl (by kernel_rfl) (by kernel_rfl) (by kernel_rfl) rfl rfl rfl hs18 (fun w' hw' => op_pick_t ha41 rfl rfl rfl) ?_
   intro a42 ha42; clear ha41 a41
   refine dr_end (by kernel_rfl) ?_
   replace hf12 := hf12.ext hs18
   refine then_n ?_
   by_cases c43 : x27.1 < r.1
   ·
    rw [decide_eq_true c43] at ha42
    refine cond_t ha42 rfl ?_
    refine wp_skip ?_
    refine then_n ?_
    refine wp_block ?_
    refine wp_region_lit ?_
    refine wl_val ha42 rfl rfl rfl (op_move ha42 rfl rfl) ?_
    intro a44 ha44; clear ha42 a42
    refine wl_val ha44 rfl rfl rfl ((op_add ha44 rfl rfl rfl).int (IntWalk.i64_in _ (by omega))) ?_
    intro a45 ha45; clear ha44 a44
    refine wl_val ha45 rfl rfl rfl (op_assign ha45 rfl rfl) ?_
    intro a46 ha46; clear ha45 a45
    refine wpList_nil ?_
    refine block_n ?_
    refine round_end (x := i) ((i + 1)) ?_ ?_
    ·
     refine ⟨(Sl.cons_ ha46 rfl rfl (Sl.cons_ ha46 rfl rfl (Sl.cons_ ha46 rfl (int_eq (by omega)) (Sl.nil_ ha46)))), hx17, hf12, (by omega), (by omega), (by rw [drop_cons hx27, putS, if_pos (by omega)] at hF; rw [take_snoc hx27, List.append_assoc]; exact hF)⟩
    ·show (list.length - ((i + 1)) : Nat) < list.length - i; omega
   ·
    rw [decide_eq_false c43] at ha42
    refine cond_f ha42 rfl ?_
    refine wp_exit ?_
    refine then_e ?_
    refine then_e ?_
    refine block_hit ?_
    refine then_n ?_
    refine wp_seq ?_
    refine wp_region_lit ?_
    refine wl_val ha42 rfl rfl rfl (op_move ha42 rfl rfl) ?_
    intro a47 ha47; clear ha42 a42
    refine wl_val ha47 rfl rfl rfl (op_assign ha47 rfl rfl) ?_
    intro a48 ha48; clear ha47 a47
    refine wpList_nil ?_
    refine then_n ?_
    refine wp_seq ?_
    refine wp_seq ?_
    refine dr_enter Ext follows_mixed ?_
    intro w49 he50
    have hx51 := hx17.trans' he50
    have hzhx51 := he50.size
    replace hf12 := hf12.ext he50
    have hs52 : Ext w49 w49 := Ext.rfl' _
    refine dr_val (i := 0) ha48 rfl (by kernel_rfl) (by kernel_rfl) (by kernel_rfl) rfl rfl rfl hs52 (fun w' hw' => op_move ha48 rfl rfl) ?_
    intro a53 ha53; clear ha48 a48
    refine dr_val (i := 1) ha53 rfl (by kernel_rfl) (by kernel_rfl) (by kernel_rfl) rfl rfl rfl hs52 (fun w' hw' => op_move ha53 rfl rfl) ?_
    intro a54 ha54; clear ha53 a53
    refine dr_val (i := 2) ha54 rfl (by kernel_rfl) (by kernel_rfl) (by kernel_rfl) rfl rfl rfl hs52 (fun w' hw' => op_len_sl ha54 rfl Try.underlying25 rfl h_list) ?_
    intro a55 ha55; clear ha54 a54
    refine dr_val (i := 3) ha55 rfl (by kernel_rfl) (by kernel_rfl) (by kernel_rfl) rfl rfl rfl hs52 (fun w' hw' => op_lss ha55 rfl rfl rfl) ?_
    intro a56 ha56; clear ha55 a55
    refine dr_val (i := 4) ha56 rfl (by kernel_rfl) (by kernel_rfl) (by kernel_rfl) rfl rfl rfl hs52 (fun w' hw' => op_move ha56 rfl rfl) ?_
    intro a57 ha57; clear ha56 a56
    rw [decide_eq_true c24] at ha57
    refine dr_val (i := 5) ha57 rfl (by kernel_rfl) (by kernel_rfl) (by kernel_rfl) rfl rfl rfl hs52 (fun w' hw' => op_move ha57 rfl rfl) ?_
    intro a58 ha58; clear ha57 a57
    refine dr_val (i := 6) ha58 rfl (by kernel_rfl) (by kernel_rfl) (by kernel_rfl) rfl rfl rfl hs52 (fun w' hw' => op_move ha58 rfl rfl) ?_
    intro a59 ha59; clear ha58 a58
    refine dr_val (i := 7) ha59 rfl (by kernel_rfl) (by kernel_rfl) (by kernel_rfl) rfl rfl rfl hs52 (fun w' hw' => op_indexAddr ha59 rfl Try.underlying25 ti36 rfl rfl (by omega) hi30) ?_
    intro a60 ha60; clear ha59 a59
    refine dr_val (i := 8) ha60 rfl (by kernel_rfl) (by kernel_rfl) (by kernel_rfl) rfl rfl rfl hs52 (fun w' hw' => op_fieldAddr (sz := 0) ha60 rfl Try.underlying36 rfl rfl ti2 rfl) ?_
    intro a61 ha61; clear ha60 a60
    refine dr_val (i := 9) ha61 rfl (by kernel_rfl) (by kernel_rfl) (by kernel_rfl) rfl rfl rfl hs52 (fun w' hw' => op_loadF (off := 0) ha61 rfl Try.underlying2 rfl rfl (hc31.ext (hx51.trans' hw')) rfl) ?_
    intro a62 ha62; clear ha61 a61
    refine dr_val (i := 10) ha62 rfl (by kernel_rfl) (by kernel_rfl) (by kernel_rfl) rfl rfl rfl hs52 (fun w' hw' => op_fieldAddr (sz := 0) ha62 rfl Try.underlying36 rfl rfl ti2 rfl) ?_
    intro a63 ha63; clear ha62 a62
    refine dr_val (i := 11) ha63 rfl (by kernel_rfl) (by kernel_rfl) (by kernel_rfl) rfl rfl rfl hs52 (fun w' hw' => op_loadF (off := 0) ha63 rfl Try.underlying2 rfl rfl (hf12.ext hw').cells rfl) ?_
    intro a64 ha64; clear ha63 a63
    refine dr_val (i := 12) ha64 rfl (by kernel_rfl) (by kernel_rfl) (by kernel_rfl) rfl rfl rfl hs52 (fun w' hw' => op_eql ha64 rfl rfl rfl) ?_
    intro a65 ha65; clear ha64 a64
    refine dr_val (i := 13) ha65 rfl (by kernel_rfl) (by kernel_rfl) (by kernel_rfl) rfl rfl rfl hs52 (fun w' hw' => op_pick_t ha65 rfl rfl rfl) ?_
    intro a66 ha66; clear ha65 a65
    refine dr_end (by kernel_rfl) ?_
    replace hf12 := hf12.ext hs52
    refine then_n ?_
    by_cases c67 : x27.1 = r.1
    ·
     rw [decide_eq_true c67] at ha66
     refine cond_t ha66 rfl ?_
     refine wp_region_lit ?_
     refine wl_val ha66 rfl rfl rfl (op_move ha66 rfl rfl) ?_
     intro a68 ha68; clear ha66 a66
     refine wl_val ha68 rfl rfl rfl ((op_add ha68 rfl rfl rfl).int (IntWalk.i64_in _ (by omega))) ?_
     intro a69 ha69; clear ha68 a68
     refine wl_val ha69 rfl rfl rfl (op_assign ha69 rfl rfl) ?_
     intro a70 ha70; clear ha69 a69
     refine wpList_nil ?_
     refine then_n ?_
     refine wp_seq ?_
     refine dr_enter Ext follows_mixed ?_
     intro w71 he72
     have hx73 := hx51.trans' he72
     have hzhx73 := he72.size
     replace hf12 := hf12.ext he72
     have hs74 : Ext w71 w71 := Ext.rfl' _
     refine dr_val (i := 1) ha70 rfl (by kernel_rfl) (by kernel_rfl) (by kernel_rfl) rfl rfl rfl hs74 (fun w' hw' => op_move ha70 rfl rfl) ?_
     intro a75 ha75; clear ha70 a70
     refine dr_val (i := 2) ha75 rfl (by kernel_rfl) (by kernel_rfl) (by kernel_rfl) rfl rfl rfl hs74 (fun w' hw' => op_move ha75 rfl rfl) ?_
     intro a76 ha76; clear ha75 a75
     obtain ⟨u77, hu78, hr79⟩ := Rds.part h_list Try.underlying25 ti36 none (some (.int .i64 (i : Nat))) 0 i (.inl ⟨rfl, rfl⟩) (.inr ⟨.i64, rfl⟩) (by omega) (by omega)
     replace hr79 := hr79.cast (ys := list.take i) (by first | rw [List.take_length] | simp)
     refine dr_val (i := 3) ha76 rfl (by kernel_rfl) (by kernel_rfl) (by kernel_rfl) rfl rfl rfl hs74 (fun w' hw' => op_slice_t (by omega) ha76 rfl rfl rfl hu78) ?_
     intro a80 ha80; clear ha76 a76
     refine dr_val (i := 5) ha80 rfl (by kernel_rfl) (by kernel_rfl) (by kernel_rfl) rfl rfl rfl hs74 (fun w' hw' => op_loadS ha80 rfl Try.underlying36 ti36 rfl rfl (hf12.ext hw').cells) ?_
     intro a81 ha81; clear ha80 a80
     refine dr_val (i := 8) ha81 rfl (by kernel_rfl) (by kernel_rfl) (by kernel_rfl) rfl rfl rfl hs74 (fun w' hw' => op_move ha81 rfl rfl) ?_
     intro a82 ha82; clear ha81 a81
     refine dr_val (i := 9) ha82 rfl (by kernel_rfl) (by kernel_rfl) (by kernel_rfl) rfl rfl rfl hs74 (fun w' hw' => op_move ha82 rfl rfl) ?_
     intro a83 ha83; clear ha82 a82
     obtain ⟨u84, hu85, hr86⟩ := Rds.part h_list Try.underlying25 ti36 (some (.int .i64 ((i + 1) : Nat))) none ((i + 1)) list.length (.inr ⟨.i64, rfl⟩) (.inl ⟨rfl, rfl⟩) (by omega) (by omega)
     replace hr86 := hr86.cast (ys := list.drop ((i + 1))) (by first | rw [List.take_length] | simp)
     refine dr_val (i := 10) ha83 rfl (by kernel_rfl) (by kernel_rfl) (by kernel_rfl) rfl rfl rfl hs74 (fun w' hw' => op_slice_f (by omega) ha83 rfl rfl rfl hu85) ?_
     intro a87 ha87; clear ha83 a83
     refine dr_two (i := 0) (j := 6) (by kernel_rfl) ?_ ?_
     ·
      refine po_eff ha87 rfl rfl rfl rfl (op_buildSlice (s := shRec) (xs := ([] : List (Int × Str))) (cs := []) (vs := []) (S := fun _ => False) (le := w71.heap.size) ha87 rfl pos_shRec Try.underlying25 ti36 rfl rfl (by decide) (by kernel_rfl) rfl (fun _ h => h.elim)) ?_
      rintro v88 w89 ⟨ho90, he91, hob92⟩ a93 ha93; clear ha87 a87
      have hs94 := hs74.trans' he91
      have hx95 := hx73.trans' he91
      have hzhx95 := he91.size
      refine ⟨hs94, ?_⟩
      refine dr_two (i := 4) (j := 6) (by kernel_rfl) ?_ ?_
      ·
       refine po_eff ha93 rfl rfl rfl rfl (op_append (ts := #[]) (s := shRec) ha93 rfl Try.underlying25 ti36 rfl pos_shRec rfl rfl ho90 (hr79.ext pos_shRec (hx73.trans' hs94)) (by omega) (by omega) (by first | omega | (simp; omega)) (by first | omega | (simp; omega)) (.inl flat_shRec)) ?_
       rintro v96 w97 ⟨ho98, hst99, hob100⟩ a101 ha101; clear ha93 a93
       have hs102 := hs94.stp hst99 (by intro q hq; have hq0 := ho90.lt q hq; omega)
       have hx103 := hx95.stp hst99 (by intro q hq; have hq0 := ho90.lt q hq; omega)
       have hzhx103 := hst99.size
       have hsp104 : ∀ q, Value.ownBlock v96 = some q → q ≠ w0.heap.size := by intro q hq; have hq0 := hf12.lt; rcases hob100 with h | h; (rw [h] at hq; first | (have hq1 := ho90.lt q hq; omega)); (rw [h] at hq; cases hq; omega)
       refine ⟨hs102, ?_⟩
       refine dr_one (i := 6) (by kernel_rfl) ?_
       refine po_eff ha101 rfl rfl rfl rfl (op_buildSlice (s := shRec) (xs := [r]) (cs := [.int .i64 r.1, St r.2]) (vs := [(0, .agg #[.int .i64 r.1, St r.2])]) (S := fun _ => False) (le := w97.heap.size) ha101 rfl pos_shRec Try.underlying25 ti36 rfl rfl (by decide) (by kernel_rfl) (Els.single (mk_shRec r (by first | assumption | omega | (simp; omega)) (by first | assumption | omega | (simp; omega)))) (fun _ h => h.elim)) ?_
       rintro v105 w106 ⟨ho107, he108, hob109⟩ a110 ha110; clear ha101 a101
       have hs111 := hs102.trans' he108
       have hx112 := hx103.trans' he108
       have hzhx112 := he108.size
       replace ho98 := ho98.ext he108
       refine ⟨hs111, ?_⟩
       refine dr_one (i := 7) (by kernel_rfl) ?_
       refine po_eff ha110 rfl rfl rfl rfl (op_append (ts := #[]) (s := shRec) ha110 rfl Try.underlying25 ti36 rfl pos_shRec rfl rfl ho98 (ho107.rds pos_shRec) (by omega) (by omega) (by first | omega | (simp; omega)) (by first | omega | (simp; omega)) (.inl flat_shRec)) ?_
       rintro v113 w114 ⟨ho115, hst116, hob117⟩ a118 ha118; clear ha110 a110
       have hs119 := hs111.stp hst116 (by intro q hq; have hq0 := ho98.lt q hq; omega)
       have hx120 := hx112.stp hst116 (by intro q hq; have hq0 := ho98.lt q hq; omega)
       have hzhx120 := hst116.size
       replace ho107 := ho107.stp hst116 (by intro q hq; have hq0 := ho98.lt q hq; omega)
       have hsp121 : ∀ q, Value.ownBlock v113 = some q → q ≠ w0.heap.size := by intro q hq; have hq0 := hf12.lt; rcases hob117 with h | h; (rw [h] at hq; first | (have hq1 := ho98.lt q hq; omega) | exact hsp104 q hq); (rw [h] at hq; cases hq; omega)
       have hsp122 : ∀ q, Value.ownBlock v113 = some q → Value.ownBlock v105 ≠ some q := by intro q hq hb; have hq0 := ho107.lt q hb; rcases hob117 with h | h; (rw [h] at hq; first | (have hq1 := ho98.lt q hq; omega)); (rw [h] at hq; cases hq; omega)
       refine ⟨hs119, ?_⟩
       refine dr_one (i := 11) (by kernel_rfl) ?_
       refine po_eff ha118 rfl rfl rfl rfl (op_append (ts := #[]) (s := shRec) ha118 rfl Try.underlying25 ti36 rfl pos_shRec rfl rfl ho115 (hr86.ext pos_shRec (hx73.trans' hs119)) (by omega) (by omega) (by first | omega | (simp; omega)) (by first | omega | (simp; omega)) (.inl flat_shRec)) ?_
       rintro v123 w124 ⟨ho125, hst126, hob127⟩ a128 ha128; clear ha118 a118
       have hs129 := hs119.stp hst126 (by intro q hq; have hq0 := ho115.lt q hq; omega)
       have hx130 := hx120.stp hst126 (by intro q hq; have hq0 := ho115.lt q hq; omega)
       have hzhx130 := hst126.size
       first | replace ho107 := ho107.stp hst126 (by intro q hq; have hq0 := ho115.lt q hq; omega) | replace ho107 := ho107.stpF flat_shRec hst126 (fun q hq => hsp122 q hq)
       have hsp131 : ∀ q, Value.ownBlock v123 = some q → q ≠ w0.heap.size := by intro q hq; have hq0 := hf12.lt; rcases hob127 with h | h; (rw [h] at hq; first | (have hq1 := ho115.lt q hq; omega) | exact hsp121 q hq); (rw [h] at hq; cases hq; omega)
       have hsp132 : ∀ q, Value.ownBlock v123 = some q → Value.ownBlock v105 ≠ some q := by intro q hq hb; have hq0 := ho107.lt q hb; rcases hob127 with h | h; (rw [h] at hq; first | (have hq1 := ho115.lt q hq; omega) | exact hsp122 q hq hb); (rw [h] at hq; cases hq; omega)
       refine ⟨hs129, ?_⟩
       refine dr_val (i := 12) ha128 rfl (by kernel_rfl) (by kernel_rfl) (by kernel_rfl) rfl rfl rfl hs129 (fun w' hw' => op_assign ha128 rfl rfl) ?_
       intro a133 ha133; clear ha128 a128
       refine dr_end (by kernel_rfl) ?_
       replace hf12 := hf12.ext hs129
       refine then_n ?_
       refine wp_ret ?_
       refine ret1 ha133 rfl rfl ?_
       clear ha133 a133
       rw [drop_cons hx27, putS, if_neg (by omega)] at hF
       rw [if_pos (by omega)] at hF
       refine ret_mk hx130 ?_
       refine (ho125.fin (by omega) (by omega) (by omega)).cast ?_
       rw [← hF]; simp; try omega
      ·
       refine po_eff ha93 rfl rfl rfl rfl (op_buildSlice (s := shRec) (xs := [r]) (cs := [.int .i64 r.1, St r.2]) (vs := [(0, .agg #[.int .i64 r.1, St r.2])]) (S := fun _ => False) (le := w89.heap.size) ha93 rfl pos_shRec Try.underlying25 ti36 rfl rfl (by decide) (by kernel_rfl) (Els.single (mk_shRec r (by first | assumption | omega | (simp; omega)) (by first | assumption | omega | (simp; omega)))) (fun _ h => h.elim)) ?_
       rintro v134 w135 ⟨ho136, he137, hob138⟩ a139 ha139; clear ha93 a93
       have hs140 := hs94.trans' he137
       have hx141 := hx95.trans' he137
       have hzhx141 := he137.size
       replace ho90 := ho90.ext he137
       refine ⟨hs140, ?_⟩
       refine dr_one (i := 4) (by kernel_rfl) ?_
       refine po_eff ha139 rfl rfl rfl rfl (op_append (ts := #[]) (s := shRec) ha139 rfl Try.underlying25 ti36 rfl pos_shRec rfl rfl ho90 (hr79.ext pos_shRec (hx73.trans' hs140)) (by omega) (by omega) (by first | omega | (simp; omega)) (by first | omega | (simp; omega)) (.inl flat_shRec)) ?_
       rintro v142 w143 ⟨ho144, hst145, hob146⟩ a147 ha147; clear ha139 a139
       have hs148 := hs140.stp hst145 (by intro q hq; have hq0 := ho90.lt q hq; omega)
       have hx149 := hx141.stp hst145 (by intro q hq; have hq0 := ho90.lt q hq; omega)
       have hzhx149 := hst145.size
       replace ho136 := ho136.stp hst145 (by intro q hq; have hq0 := ho90.lt q hq; omega)
       have hsp150 : ∀ q, Value.ownBlock v142 = some q → q ≠ w0.heap.size := by intro q hq; have hq0 := hf12.lt; rcases hob146 with h | h; (rw [h] at hq; first | (have hq1 := ho90.lt q hq; omega)); (rw [h] at hq; cases hq; omega)
       have hsp151 : ∀ q, Value.ownBlock v142 = some q → Value.ownBlock v134 ≠ some q := by intro q hq hb; have hq0 := ho136.lt q hb; rcases hob146 with h | h; (rw [h] at hq; first | (have hq1 := ho90.lt q hq; omega)); (rw [h] at hq; cases hq; omega)
       refine ⟨hs148, ?_⟩
       refine dr_one (i := 7) (by kernel_rfl) ?_
       refine po_eff ha147 rfl rfl rfl rfl (op_append (ts := #[]) (s := shRec) ha147 rfl Try.underlying25 ti36 rfl pos_shRec rfl rfl ho144 (ho136.rds pos_shRec) (by omega) (by omega) (by first | omega | (simp; omega)) (by first | omega | (simp; omega)) (.inl flat_shRec)) ?_
       rintro v152 w153 ⟨ho154, hst155, hob156⟩ a157 ha157; clear ha147 a147
       have hs158 := hs148.stp hst155 (by intro q hq; have hq0 := ho144.lt q hq; omega)
       have hx159 := hx149.stp hst155 (by intro q hq; have hq0 := ho144.lt q hq; omega)
       have hzhx159 := hst155.size
       first | replace ho136 := ho136.stp hst155 (by intro q hq; have hq0 := ho144.lt q hq; omega) | replace ho136 := ho136.stpF flat_shRec hst155 (fun q hq => hsp151 q hq)
       have hsp160 : ∀ q, Value.ownBlock v152 = some q → q ≠ w0.heap.size := by intro q hq; have hq0 := hf12.lt; rcases hob156 with h | h; (rw [h] at hq; first | (have hq1 := ho144.lt q hq; omega) | exact hsp150 q hq); (rw [h] at hq; cases hq; omega)
       have hsp161 : ∀ q, Value.ownBlock v152 = some q → Value.ownBlock v134 ≠ some q := by intro q hq hb; have hq0 := ho136.lt q hb; rcases hob156 with h | h; (rw [h] at hq; first | (have hq1 := ho144.lt q hq; omega) | exact hsp151 q hq hb); (rw [h] at hq; cases hq; omega)
       refine ⟨hs158, ?_⟩
       refine dr_one (i := 11) (by kernel_rfl) ?_
       refine po_eff ha157 rfl rfl rfl rfl (op_append (ts := #[]) (s := shRec) ha157 rfl Try.underlying25 ti36 rfl pos_shRec rfl rfl ho154 (hr86.ext pos_shRec (hx73.trans' hs158)) (by omega) (by omega) (by first | omega | (simp; omega)) (by first | omega | (simp; omega)) (.inl flat_shRec)) ?_
       rintro v162 w163 ⟨ho164, hst165, hob166⟩ a167 ha167; clear ha157 a157
       have hs168 := hs158.stp hst165 (by intro q hq; have hq0 := ho154.lt q hq; omega)
       have hx169 := hx159.stp hst165 (by intro q hq; have hq0 := ho154.lt q hq; omega)
       have hzhx169 := hst165.size
       first | replace ho136 := ho136.stp hst165 (by intro q hq; have hq0 := ho154.lt q hq; omega) | replace ho136 := ho136.stpF flat_shRec hst165 (fun q hq => hsp161 q hq)
       have hsp170 : ∀ q, Value.ownBlock v162 = some q → q ≠ w0.heap.size := by intro q hq; have hq0 := hf12.lt; rcases hob166 with h | h; (rw [h] at hq; first | (have hq1 := ho154.lt q hq; omega) | exact hsp160 q hq); (rw [h] at hq; cases hq; omega)
       have hsp171 : ∀ q, Value.ownBlock v162 = some q → Value.ownBlock v134 ≠ some q := by intro q hq hb; have hq0 := ho136.lt q hb; rcases hob166 with h | h; (rw [h] at hq; first | (have hq1 := ho154.lt q hq; omega) | exact hsp161 q hq hb); (rw [h] at hq; cases hq; omega)
       refine ⟨hs168, ?_⟩
       refine dr_val (i := 12) ha167 rfl (by kernel_rfl) (by kernel_rfl) (by kernel_rfl) rfl rfl rfl hs168 (fun w' hw' => op_assign ha167 rfl rfl) ?_
       intro a172 ha172; clear ha167 a167
       refine dr_end (by kernel_rfl) ?_
       replace hf12 := hf12.ext hs168
       refine then_n ?_
       refine wp_ret ?_
       refine ret1 ha172 rfl rfl ?_
       clear ha172 a172
       rw [drop_cons hx27, putS, if_neg (by omega)] at hF
       rw [if_pos (by omega)] at hF
       refine ret_mk hx169 ?_
       refine (ho164.fin (by omega) (by omega) (by omega)).cast ?_
       rw [← hF]; simp; try omega
     ·
      refine po_eff ha87 rfl rfl rfl rfl (op_buildSlice (s := shRec) (xs := [r]) (cs := [.int .i64 r.1, St r.2]) (vs := [(0, .agg #[.int .i64 r.1, St r.2])]) (S := fun _ => False) (le := w71.heap.size) ha87 rfl pos_shRec Try.underlying25 ti36 rfl rfl (by decide) (by kernel_rfl) (Els.single (mk_shRec r (by first | assumption | omega | (simp; omega)) (by first | assumption | omega | (simp; omega)))) (fun _ h => h.elim)) ?_
      rintro v173 w174 ⟨ho175, he176, hob177⟩ a178 ha178; clear ha87 a87
      have hs179 := hs74.trans' he176
      have hx180 := hx73.trans' he176
      have hzhx180 := he176.size
      refine ⟨hs179, ?_⟩
      refine dr_one (i := 0) (by kernel_rfl) ?_
      refine po_eff ha178 rfl rfl rfl rfl (op_buildSlice (s := shRec) (xs := ([] : List (Int × Str))) (cs := []) (vs := []) (S := fun _ => False) (le := w174.heap.size) ha178 rfl pos_shRec Try.underlying25 ti36 rfl rfl (by decide) (by kernel_rfl) rfl (fun _ h => h.elim)) ?_
      rintro v181 w182 ⟨ho183, he184, hob185⟩ a186 ha186; clear ha178 a178
      have hs187 := hs179.trans' he184
      have hx188 := hx180.trans' he184
      have hzhx188 := he184.size
      replace ho175 := ho175.ext he184
      refine ⟨hs187, ?_⟩
      refine dr_one (i := 4) (by kernel_rfl) ?_
      refine po_eff ha186 rfl rfl rfl rfl (op_append (ts := #[]) (s := shRec) ha186 rfl Try.underlying25 ti36 rfl pos_shRec rfl rfl ho183 (hr79.ext pos_shRec (hx73.trans' hs187)) (by omega) (by omega) (by first | omega | (simp; omega)) (by first | omega | (simp; omega)) (.inl flat_shRec)) ?_
      rintro v189 w190 ⟨ho191, hst192, hob193⟩ a194 ha194; clear ha186 a186
      have hs195 := hs187.stp hst192 (by intro q hq; have hq0 := ho183.lt q hq; omega)
      have hx196 := hx188.stp hst192 (by intro q hq; have hq0 := ho183.lt q hq; omega)
      have hzhx196 := hst192.size
      replace ho175 := ho175.stp hst192 (by intro q hq; have hq0 := ho183.lt q hq; omega)
      have hsp197 : ∀ q, Value.ownBlock v189 = some q → q ≠ w0.heap.size := by intro q hq; have hq0 := hf12.lt; rcases hob193 with h | h; (rw [h] at hq; first | (have hq1 := ho183.lt q hq; omega)); (rw [h] at hq; cases hq; omega)
      have hsp198 : ∀ q, Value.ownBlock v189 = some q → Value.ownBlock v173 ≠ some q := by intro q hq hb; have hq0 := ho175.lt q hb; rcases hob193 with h | h; (rw [h] at hq; first | (have hq1 := ho183.lt q hq; omega)); (rw [h] at hq; cases hq; omega)
      refine ⟨hs195, ?_⟩
      refine dr_one (i := 7) (by kernel_rfl) ?_
      refine po_eff ha194 rfl rfl rfl rfl (op_append (ts := #[]) (s := shRec) ha194 rfl Try.underlying25 ti36 rfl pos_shRec rfl rfl ho191 (ho175.rds pos_shRec) (by omega) (by omega) (by first | omega | (simp; omega)) (by first | omega | (simp; omega)) (.inl flat_shRec)) ?_
      rintro v199 w200 ⟨ho201, hst202, hob203⟩ a204 ha204; clear ha194 a194
      have hs205 := hs195.stp hst202 (by intro q hq; have hq0 := ho191.lt q hq; omega)
      have hx206 := hx196.stp hst202 (by intro q hq; have hq0 := ho191.lt q hq; omega)
      have hzhx206 := hst202.size
      replace ho175 := ho175.stp hst202 (by intro q hq; have hq0 := ho191.lt q hq; omega)
      have hsp207 : ∀ q, Value.ownBlock v199 = some q → q ≠ w0.heap.size := by intro q hq; have hq0 := hf12.lt; rcases hob203 with h | h; (rw [h] at hq; first | (have hq1 := ho191.lt q hq; omega) | exact hsp197 q hq); (rw [h] at hq; cases hq; omega)
      have hsp208 : ∀ q, Value.ownBlock v199 = some q → Value.ownBlock v173 ≠ some q := by intro q hq hb; have hq0 := ho175.lt q hb; rcases hob203 with h | h; (rw [h] at hq; first | (have hq1 := ho191.lt q hq; omega) | exact hsp198 q hq hb); (rw [h] at hq; cases hq; omega)
      refine ⟨hs205, ?_⟩
      refine dr_one (i := 11) (by kernel_rfl) ?_
      refine po_eff ha204 rfl rfl rfl rfl (op_append (ts := #[]) (s := shRec) ha204 rfl Try.underlying25 ti36 rfl pos_shRec rfl rfl ho201 (hr86.ext pos_shRec (hx73.trans' hs205)) (by omega) (by omega) (by first | omega | (simp; omega)) (by first | omega | (simp; omega)) (.inl flat_shRec)) ?_
      rintro v209 w210 ⟨ho211, hst212, hob213⟩ a214 ha214; clear ha204 a204
      have hs215 := hs205.stp hst212 (by intro q hq; have hq0 := ho201.lt q hq; omega)
      have hx216 := hx206.stp hst212 (by intro q hq; have hq0 := ho201.lt q hq; omega)
      have hzhx216 := hst212.size
      replace ho175 := ho175.stp hst212 (by intro q hq; have hq0 := ho201.lt q hq; omega)
      have hsp217 : ∀ q, Value.ownBlock v209 = some q → q ≠ w0.heap.size := by intro q hq; have hq0 := hf12.lt; rcases hob213 with h | h; (rw [h] at hq; first | (have hq1 := ho201.lt q hq; omega) | exact hsp207 q hq); (rw [h] at hq; cases hq; omega)
      have hsp218 : ∀ q, Value.ownBlock v209 = some q → Value.ownBlock v173 ≠ some q := by intro q hq hb; have hq0 := ho175.lt q hb; rcases hob213 with h | h; (rw [h] at hq; first | (have hq1 := ho201.lt q hq; omega) | exact hsp208 q hq hb); (rw [h] at hq; cases hq; omega)
      refine ⟨hs215, ?_⟩
      refine dr_val (i := 12) ha214 rfl (by kernel_rfl) (by kernel_rfl) (by kernel_rfl) rfl rfl rfl hs215 (fun w' hw' => op_assign ha214 rfl rfl) ?_
      intro a219 ha219; clear ha214 a214
      refine dr_end (by kernel_rfl) ?_
      replace hf12 := hf12.ext hs215
      refine then_n ?_
      refine wp_ret ?_
      refine ret1 ha219 rfl rfl ?_
      clear ha219 a219
      rw [drop_cons hx27, putS, if_neg (by omega)] at hF
      rw [if_pos (by omega)] at hF
      refine ret_mk hx216 ?_
      refine (ho211.fin (by omega) (by omega) (by omega)).cast ?_
      rw [← hF]; simp; try omega
    ·
     rw [decide_eq_false c67] at ha66
     refine cond_f ha66 rfl ?_
     refine wp_skip ?_
     refine then_n ?_
     refine wp_seq ?_
     refine dr_enter Ext follows_mixed ?_
     intro w220 he221
     have hx222 := hx51.trans' he221
     have hzhx222 := he221.size
     replace hf12 := hf12.ext he221
     have hs223 : Ext w220 w220 := Ext.rfl' _
     refine dr_val (i := 1) ha66 rfl (by kernel_rfl) (by kernel_rfl) (by kernel_rfl) rfl rfl rfl hs223 (fun w' hw' => op_move ha66 rfl rfl) ?_
     intro a224 ha224; clear ha66 a66
     refine dr_val (i := 2) ha224 rfl (by kernel_rfl) (by kernel_rfl) (by kernel_rfl) rfl rfl rfl hs223 (fun w' hw' => op_move ha224 rfl rfl) ?_
     intro a225 ha225; clear ha224 a224
     obtain ⟨u226, hu227, hr228⟩ := Rds.part h_list Try.underlying25 ti36 none (some (.int .i64 (i : Nat))) 0 i (.inl ⟨rfl, rfl⟩) (.inr ⟨.i64, rfl⟩) (by omega) (by omega)
     replace hr228 := hr228.cast (ys := list.take i) (by first | rw [List.take_length] | simp)
     refine dr_val (i := 3) ha225 rfl (by kernel_rfl) (by kernel_rfl) (by kernel_rfl) rfl rfl rfl hs223 (fun w' hw' => op_slice_t (by omega) ha225 rfl rfl rfl hu227) ?_
     intro a229 ha229; clear ha225 a225
     refine dr_val (i := 5) ha229 rfl (by kernel_rfl) (by kernel_rfl) (by kernel_rfl) rfl rfl rfl hs223 (fun w' hw' => op_loadS ha229 rfl Try.underlying36 ti36 rfl rfl (hf12.ext hw').cells) ?_
     intro a230 ha230; clear ha229 a229
     refine dr_val (i := 8) ha230 rfl (by kernel_rfl) (by kernel_rfl) (by kernel_rfl) rfl rfl rfl hs223 (fun w' hw' => op_move ha230 rfl rfl) ?_
     intro a231 ha231; clear ha230 a230
     refine dr_val (i := 9) ha231 rfl (by kernel_rfl) (by kernel_rfl) (by kernel_rfl) rfl rfl rfl hs223 (fun w' hw' => op_move ha231 rfl rfl) ?_
     intro a232 ha232; clear ha231 a231
     obtain ⟨u233, hu234, hr235⟩ := Rds.part h_list Try.underlying25 ti36 (some (.int .i64 (i : Nat))) none i list.length (.inr ⟨.i64, rfl⟩) (.inl ⟨rfl, rfl⟩) (by omega) (by omega)
     replace hr235 := hr235.cast (ys := list.drop i) (by first | rw [List.take_length] | simp)
     refine dr_val (i := 10) ha232 rfl (by kernel_rfl) (by kernel_rfl) (by kernel_rfl) rfl rfl rfl hs223 (fun w' hw' => op_slice_f (by omega) ha232 rfl rfl rfl hu234) ?_
     intro a236 ha236; clear ha232 a232
     refine dr_two (i := 0) (j := 6) (by kernel_rfl) ?_ ?_
     ·
      refine po_eff ha236 rfl rfl rfl rfl (op_buildSlice (s := shRec) (xs := ([] : List (Int × Str))) (cs := []) (vs := []) (S := fun _ => False) (le := w220.heap.size) ha236 rfl pos_shRec Try.underlying25 ti36 rfl rfl (by decide) (by kernel_rfl) rfl (fun _ h => h.elim)) ?_
      rintro v237 w238 ⟨ho239, he240, hob241⟩ a242 ha242; clear ha236 a236
      have hs243 := hs223.trans' he240
      have hx244 := hx222.trans' he240
      have hzhx244 := he240.size
      refine ⟨hs243, ?_⟩
      refine dr_two (i := 4) (j := 6) (by kernel_rfl) ?_ ?_
      ·
       refine po_eff ha242 rfl rfl rfl rfl (op_append (ts := #[]) (s := shRec) ha242 rfl Try.underlying25 ti36 rfl pos_shRec rfl rfl ho239 (hr228.ext pos_shRec (hx222.trans' hs243)) (by omega) (by omega) (by first | omega | (simp; omega)) (by first | omega | (simp; omega)) (.inl flat_shRec)) ?_
       rintro v245 w246 ⟨ho247, hst248, hob249⟩ a250 ha250; clear ha242 a242
       have hs251 := hs243.stp hst248 (by intro q hq; have hq0 := ho239.lt q hq; omega)
       have hx252 := hx244.stp hst248 (by intro q hq; have hq0 := ho239.lt q hq; omega)
       have hzhx252 := hst248.size
       have hsp253 : ∀ q, Value.ownBlock v245 = some q → q ≠ w0.heap.size := by intro q hq; have hq0 := hf12.lt; rcases hob249 with h | h; (rw [h] at hq; first | (have hq1 := ho239.lt q hq; omega)); (rw [h] at hq; cases hq; omega)
       refine ⟨hs251, ?_⟩
       refine dr_one (i := 6) (by kernel_rfl) ?_
       refine po_eff ha250 rfl rfl rfl rfl (op_buildSlice (s := shRec) (xs := [r]) (cs := [.int .i64 r.1, St r.2]) (vs := [(0, .agg #[.int .i64 r.1, St r.2])]) (S := fun _ => False) (le := w246.heap.size) ha250 rfl pos_shRec Try.underlying25 ti36 rfl rfl (by decide) (by kernel_rfl) (Els.single (mk_shRec r (by first | assumption | omega | (simp; omega)) (by first | assumption | omega | (simp; omega)))) (fun _ h => h.elim)) ?_
       rintro v254 w255 ⟨ho256, he257, hob258⟩ a259 ha259; clear ha250 a250
       have hs260 := hs251.trans' he257
       have hx261 := hx252.trans' he257
       have hzhx261 := he257.size
       replace ho247 := ho247.ext he257
       refine ⟨hs260, ?_⟩
       refine dr_one (i := 7) (by kernel_rfl) ?_
       refine po_eff ha259 rfl rfl rfl rfl (op_append (ts := #[]) (s := shRec) ha259 rfl Try.underlying25 ti36 rfl pos_shRec rfl rfl ho247 (ho256.rds pos_shRec) (by omega) (by omega) (by first | omega | (simp; omega)) (by first | omega | (simp; omega)) (.inl flat_shRec)) ?_
       rintro v262 w263 ⟨ho264, hst265, hob266⟩ a267 ha267; clear ha259 a259
       have hs268 := hs260.stp hst265 (by intro q hq; have hq0 := ho247.lt q hq; omega)
       have hx269 := hx261.stp hst265 (by intro q hq; have hq0 := ho247.lt q hq; omega)
       have hzhx269 := hst265.size
       replace ho256 := ho256.stp hst265 (by intro q hq; have hq0 := ho247.lt q hq; omega)
       have hsp270 : ∀ q, Value.ownBlock v262 = some q → q ≠ w0.heap.size := by intro q hq; have hq0 := hf12.lt; rcases hob266 with h | h; (rw [h] at hq; first | (have hq1 := ho247.lt q hq; omega) | exact hsp253 q hq); (rw [h] at hq; cases hq; omega)
       have hsp271 : ∀ q, Value.ownBlock v262 = some q → Value.ownBlock v254 ≠ some q := by intro q hq hb; have hq0 := ho256.lt q hb; rcases hob266 with h | h; (rw [h] at hq; first | (have hq1 := ho247.lt q hq; omega)); (rw [h] at hq; cases hq; omega)
       refine ⟨hs268, ?_⟩
       refine dr_one (i := 11) (by kernel_rfl) ?_
       refine po_eff ha267 rfl rfl rfl rfl (op_append (ts := #[]) (s := shRec) ha267 rfl Try.underlying25 ti36 rfl pos_shRec rfl rfl ho264 (hr235.ext pos_shRec (hx222.trans' hs268)) (by omega) (by omega) (by first | omega | (simp; omega)) (by first | omega | (simp; omega)) (.inl flat_shRec)) ?_
       rintro v272 w273 ⟨ho274, hst275, hob276⟩ a277 ha277; clear ha267 a267
       have hs278 := hs268.stp hst275 (by intro q hq; have hq0 := ho264.lt q hq; omega)
       have hx279 := hx269.stp hst275 (by intro q hq; have hq0 := ho264.lt q hq; omega)
       have hzhx279 := hst275.size
       first | replace ho256 := ho256.stp hst275 (by intro q hq; have hq0 := ho264.lt q hq; omega) | replace ho256 := ho256.stpF flat_shRec hst275 (fun q hq => hsp271 q hq)
       have hsp280 : ∀ q, Value.ownBlock v272 = some q → q ≠ w0.heap.size := by intro q hq; have hq0 := hf12.lt; rcases hob276 with h | h; (rw [h] at hq; first | (have hq1 := ho264.lt q hq; omega) | exact hsp270 q hq); (rw [h] at hq; cases hq; omega)
       have hsp281 : ∀ q, Value.ownBlock v272 = some q → Value.ownBlock v254 ≠ some q := by intro q hq hb; have hq0 := ho256.lt q hb; rcases hob276 with h | h; (rw [h] at hq; first | (have hq1 := ho264.lt q hq; omega) | exact hsp271 q hq hb); (rw [h] at hq; cases hq; omega)
       refine ⟨hs278, ?_⟩
       refine dr_val (i := 12) ha277 rfl (by kernel_rfl) (by kernel_rfl) (by kernel_rfl) rfl rfl rfl hs278 (fun w' hw' => op_assign ha277 rfl rfl) ?_
       intro a282 ha282; clear ha277 a277
       refine dr_end (by kernel_rfl) ?_
       replace hf12 := hf12.ext hs278
       refine then_n ?_
       refine wp_ret ?_
       refine ret1 ha282 rfl rfl ?_
       clear ha282 a282
       rw [drop_cons hx27, putS, if_neg (by omega)] at hF
       rw [if_neg (by omega), ← drop_cons hx27] at hF
       refine ret_mk hx279 ?_
       refine (ho274.fin (by omega) (by omega) (by omega)).cast ?_
       rw [← hF]; simp; try omega
      ·
       refine po_eff ha242 rfl rfl rfl rfl (op_buildSlice (s := shRec) (xs := [r]) (cs := [.int .i64 r.1, St r.2]) (vs := [(0, .agg #[.int .i64 r.1, St r.2])]) (S := fun _ => False) (le := w238.heap.size) ha242 rfl pos_shRec Try.underlying25 ti36 rfl rfl (by decide) (by kernel_rfl) (Els.single (mk_shRec r (by first | assumption | omega | (simp; omega)) (by first | assumption | omega | (simp; omega)))) (fun _ h => h.elim)) ?_
       rintro v283 w284 ⟨ho285, he286, hob287⟩ a288 ha288; clear ha242 a242
       have hs289 := hs243.trans' he286
       have hx290 := hx244.trans' he286
       have hzhx290 := he286.size
       replace ho239 := ho239.ext he286
       refine ⟨hs289, ?_⟩
       refine dr_one (i := 4) (by kernel_rfl) ?_
       refine po_eff ha288 rfl rfl rfl rfl (op_append (ts := #[]) (s := shRec) ha288 rfl Try.underlying25 ti36 rfl pos_shRec rfl rfl ho239 (hr228.ext pos_shRec (hx222.trans' hs289)) (by omega) (by omega) (by first | omega | (simp; omega)) (by first | omega | (simp; omega)) (.inl flat_shRec)) ?_
       rintro v291 w292 ⟨ho293, hst294, hob295⟩ a296 ha296; clear ha288 a288
       have hs297 := hs289.stp hst294 (by intro q hq; have hq0 := ho239.lt q hq; omega)
       have hx298 := hx290.stp hst294 (by intro q hq; have hq0 := ho239.lt q hq; omega)
       have hzhx298 := hst294.size
       replace ho285 := ho285.stp hst294 (by intro q hq; have hq0 := ho239.lt q hq; omega)
       have hsp299 : ∀ q, Value.ownBlock v291 = some q → q ≠ w0.heap.size := by intro q hq; have hq0 := hf12.lt; rcases hob295 with h | h; (rw [h] at hq; first | (have hq1 := ho239.lt q hq; omega)); (rw [h] at hq; cases hq; omega)
       have hsp300 : ∀ q, Value.ownBlock v291 = some q → Value.ownBlock v283 ≠ some q := by intro q hq hb; have hq0 := ho285.lt q hb; rcases hob295 with h | h; (rw [h] at hq; first | (have hq1 := ho239.lt q hq; omega)); (rw [h] at hq; cases hq; omega)
       refine ⟨hs297, ?_⟩
       refine dr_one (i := 7) (by kernel_rfl) ?_
       refine po_eff ha296 rfl rfl rfl rfl (op_append (ts := #[]) (s := shRec) ha296 rfl Try.underlying25 ti36 rfl pos_shRec rfl rfl ho293 (ho285.rds pos_shRec) (by omega) (by omega) (by first | omega | (simp; omega)) (by first | omega | (simp; omega)) (.inl flat_shRec)) ?_
       rintro v301 w302 ⟨ho303, hst304, hob305⟩ a306 ha306; clear ha296 a296
       have hs307 := hs297.stp hst304 (by intro q hq; have hq0 := ho293.lt q hq; omega)
       have hx308 := hx298.stp hst304 (by intro q hq; have hq0 := ho293.lt q hq; omega)
       have hzhx308 := hst304.size
       first | replace ho285 := ho285.stp hst304 (by intro q hq; have hq0 := ho293.lt q hq; omega) | replace ho285 := ho285.stpF flat_shRec hst304 (fun q hq => hsp300 q hq)
       have hsp309 : ∀ q, Value.ownBlock v301 = some q → q ≠ w0.heap.size := by intro q hq; have hq0 := hf12.lt; rcases hob305 with h | h; (rw [h] at hq; first | (have hq1 := ho293.lt q hq; omega) | exact hsp299 q hq); (rw [h] at hq; cases hq; omega)
       have hsp310 : ∀ q, Value.ownBlock v301 = some q → Value.ownBlock v283 ≠ some q := by intro q hq hb; have hq0 := ho285.lt q hb; rcases hob305 with h | h; (rw [h] at hq; first | (have hq1 := ho293.lt q hq; omega) | exact hsp300 q hq hb); (rw [h] at hq; cases hq; omega)
       refine ⟨hs307, ?_⟩
       refine dr_one (i := 11) (by kernel_rfl) ?_
       refine po_eff ha306 rfl rfl rfl rfl (op_append (ts := #[]) (s := shRec) ha306 rfl Try.underlying25 ti36 rfl pos_shRec rfl rfl ho303 (hr235.ext pos_shRec (hx222.trans' hs307)) (by omega) (by omega) (by first | omega | (simp; omega)) (by first | omega | (simp; omega)) (.inl flat_shRec)) ?_
       rintro v311 w312 ⟨ho313, hst314, hob315⟩ a316 ha316; clear ha306 a306
       have hs317 := hs307.stp hst314 (by intro q hq; have hq0 := ho303.lt q hq; omega)
       have hx318 := hx308.stp hst314 (by intro q hq; have hq0 := ho303.lt q hq; omega)
       have hzhx318 := hst314.size
       first | replace ho285 := ho285.stp hst314 (by intro q hq; have hq0 := ho303.lt q hq; omega) | replace ho285 := ho285.stpF flat_shRec hst314 (fun q hq => hsp310 q hq)
       have hsp319 : ∀ q, Value.ownBlock v311 = some q → q ≠ w0.heap.size := by intro q hq; have hq0 := hf12.lt; rcases hob315 with h | h; (rw [h] at hq; first | (have hq1 := ho303.lt q hq; omega) | exact hsp309 q hq); (rw [h] at hq; cases hq; omega)
       have hsp320 : ∀ q, Value.ownBlock v311 = some q → Value.ownBlock v283 ≠ some q := by intro q hq hb; have hq0 := ho285.lt q hb; rcases hob315 with h | h; (rw [h] at hq; first | (have hq1 := ho303.lt q hq; omega) | exact hsp310 q hq hb); (rw [h] at hq; cases hq; omega)
       refine ⟨hs317, ?_⟩
       refine dr_val (i := 12) ha316 rfl (by kernel_rfl) (by kernel_rfl) (by kernel_rfl) rfl rfl rfl hs317 (fun w' hw' => op_assign ha316 rfl rfl) ?_
       intro a321 ha321; clear ha316 a316
       refine dr_end (by kernel_rfl) ?_
       replace hf12 := hf12.ext hs317
       refine then_n ?_
       refine wp_ret ?_
       refine ret1 ha321 rfl rfl ?_
       clear ha321 a321
       rw [drop_cons hx27, putS, if_neg (by omega)] at hF
       rw [if_neg (by omega), ← drop_cons hx27] at hF
       refine ret_mk hx318 ?_
       refine (ho313.fin (by omega) (by omega) (by omega)).cast ?_
       rw [← hF]; simp; try omega
     ·
      refine po_eff ha236 rfl rfl rfl rfl (op_buildSlice (s := shRec) (xs := [r]) (cs := [.int .i64 r.1, St r.2]) (vs := [(0, .agg #[.int .i64 r.1, St r.2])]) (S := fun _ => False) (le := w220.heap.size) ha236 rfl pos_shRec Try.underlying25 ti36 rfl rfl (by decide) (by kernel_rfl) (Els.single (mk_shRec r (by first | assumption | omega | (simp; omega)) (by first | assumption | omega | (simp; omega)))) (fun _ h => h.elim)) ?_
      rintro v322 w323 ⟨ho324, he325, hob326⟩ a327 ha327; clear ha236 a236
      have hs328 := hs223.trans' he325
      have hx329 := hx222.trans' he325
      have hzhx329 := he325.size
      refine ⟨hs328, ?_⟩
      refine dr_one (i := 0) (by kernel_rfl) ?_
      refine po_eff ha327 rfl rfl rfl rfl (op_buildSlice (s := shRec) (xs := ([] : List (Int × Str))) (cs := []) (vs := []) (S := fun _ => False) (le := w323.heap.size) ha327 rfl pos_shRec Try.underlying25 ti36 rfl rfl (by decide) (by kernel_rfl) rfl (fun _ h => h.elim)) ?_
      rintro v330 w331 ⟨ho332, he333, hob334⟩ a335 ha335; clear ha327 a327
      have hs336 := hs328.trans' he333
      have hx337 := hx329.trans' he333
      have hzhx337 := he333.size
      replace ho324 := ho324.ext he333
      refine ⟨hs336, ?_⟩
      refine dr_one (i := 4) (by kernel_rfl) ?_
      refine po_eff ha335 rfl rfl rfl rfl (op_append (ts := #[]) (s := shRec) ha335 rfl Try.underlying25 ti36 rfl pos_shRec rfl rfl ho332 (hr228.ext pos_shRec (hx222.trans' hs336)) (by omega) (by omega) (by first | omega | (simp; omega)) (by first | omega | (simp; omega)) (.inl flat_shRec)) ?_
      rintro v338 w339 ⟨ho340, hst341, hob342⟩ a343 ha343; clear ha335 a335
      have hs344 := hs336.stp hst341 (by intro q hq; have hq0 := ho332.lt q hq; omega)
      have hx345 := hx337.stp hst341 (by intro q hq; have hq0 := ho332.lt q hq; omega)
      have hzhx345 := hst341.size
      replace ho324 := ho324.stp hst341 (by intro q hq; have hq0 := ho332.lt q hq; omega)
      have hsp346 : ∀ q, Value.ownBlock v338 = some q → q ≠ w0.heap.size := by intro q hq; have hq0 := hf12.lt; rcases hob342 with h | h; (rw [h] at hq; first | (have hq1 := ho332.lt q hq; omega)); (rw [h] at hq; cases hq; omega)
      have hsp347 : ∀ q, Value.ownBlock v338 = some q → Value.ownBlock v322 ≠ some q := by intro q hq hb; have hq0 := ho324.lt q hb; rcases hob342 with h | h; (rw [h] at hq; first | (have hq1 := ho332.lt q hq; omega)); (rw [h] at hq; cases hq; omega)
      refine ⟨hs344, ?_⟩
      refine dr_one (i := 7) (by kernel_rfl) ?_
      refine po_eff ha343 rfl rfl rfl rfl (op_append (ts := #[]) (s := shRec) ha343 rfl Try.underlying25 ti36 rfl pos_shRec rfl rfl ho340 (ho324.rds pos_shRec) (by omega) (by omega) (by first | omega | (simp; omega)) (by first | omega | (simp; omega)) (.inl flat_shRec)) ?_
      rintro v348 w349 ⟨ho350, hst351, hob352⟩ a353 ha353; clear ha343 a343
      have hs354 := hs344.stp hst351 (by intro q hq; have hq0 := ho340.lt q hq; omega)
      have hx355 := hx345.stp hst351 (by intro q hq; have hq0 := ho340.lt q hq; omega)
      have hzhx355 := hst351.size
      replace ho324 := ho324.stp hst351 (by intro q hq; have hq0 := ho340.lt q hq; omega)
      have hsp356 : ∀ q, Value.ownBlock v348 = some q → q ≠ w0.heap.size := by intro q hq; have hq0 := hf12.lt; rcases hob352 with h | h; (rw [h] at hq; first | (have hq1 := ho340.lt q hq; omega) | exact hsp346 q hq); (rw [h] at hq; cases hq; omega)
      have hsp357 : ∀ q, Value.ownBlock v348 = some q → Value.ownBlock v322 ≠ some q := by intro q hq hb; have hq0 := ho324.lt q hb; rcases hob352 with h | h; (rw [h] at hq; first | (have hq1 := ho340.lt q hq; omega) | exact hsp347 q hq hb); (rw [h] at hq; cases hq; omega)
      refine ⟨hs354, ?_⟩
      refine dr_one (i := 11) (by kernel_rfl) ?_
      refine po_eff ha353 rfl rfl rfl rfl (op_append (ts := #[]) (s := shRec) ha353 rfl Try.underlying25 ti36 rfl pos_shRec rfl rfl ho350 (hr235.ext pos_shRec (hx222.trans' hs354)) (by omega) (by omega) (by first | omega | (simp; omega)) (by first | omega | (simp; omega)) (.inl flat_shRec)) ?_
      rintro v358 w359 ⟨ho360, hst361, hob362⟩ a363 ha363; clear ha353 a353
      have hs364 := hs354.stp hst361 (by intro q hq; have hq0 := ho350.lt q hq; omega)
      have hx365 := hx355.stp hst361 (by intro q hq; have hq0 := ho350.lt q hq; omega)
      have hzhx365 := hst361.size
      replace ho324 := ho324.stp hst361 (by intro q hq; have hq0 := ho350.lt q hq; omega)
      have hsp366 : ∀ q, Value.ownBlock v358 = some q → q ≠ w0.heap.size := by intro q hq; have hq0 := hf12.lt; rcases hob362 with h | h; (rw [h] at hq; first | (have hq1 := ho350.lt q hq; omega) | exact hsp356 q hq); (rw [h] at hq; cases hq; omega)
      have hsp367 : ∀ q, Value.ownBlock v358 = some q → Value.ownBlock v322 ≠ some q := by intro q hq hb; have hq0 := ho324.lt q hb; rcases hob362 with h | h; (rw [h] at hq; first | (have hq1 := ho350.lt q hq; omega) | exact hsp357 q hq hb); (rw [h] at hq; cases hq; omega)
      refine ⟨hs364, ?_⟩
      refine dr_val (i := 12) ha363 rfl (by kernel_rfl) (by kernel_rfl) (by kernel_rfl) rfl rfl rfl hs364 (fun w' hw' => op_assign ha363 rfl rfl) ?_
      intro a368 ha368; clear ha363 a363
      refine dr_end (by kernel_rfl) ?_
      replace hf12 := hf12.ext hs364
      refine then_n ?_
      refine wp_ret ?_
      refine ret1 ha368 rfl rfl ?_
      clear ha368 a368
      rw [drop_cons hx27, putS, if_neg (by omega)] at hF
      rw [if_neg (by omega), ← drop_cons hx27] at hF
      refine ret_mk hx365 ?_
      refine (ho360.fin (by omega) (by omega) (by omega)).cast ?_
      rw [← hF]; simp; try omega
  ·
   rw [decide_eq_false c24] at ha23
   refine dr_skip (i := 5) ha23 rfl (by kernel_rfl) (by kernel_rfl) (by kernel_rfl) rfl rfl rfl hs18 ?_
   intro a369 ha369; clear ha23 a23
   refine dr_skip (i := 6) ha369 rfl (by kernel_rfl) (by kernel_rfl) (by kernel_rfl) rfl rfl rfl hs18 ?_
   intro a370 ha370; clear ha369 a369
   refine dr_skip (i := 7) ha370 rfl (by kernel_rfl) (by kernel_rfl) (by kernel_rfl) rfl rfl rfl hs18 ?_
   intro a371 ha371; clear ha370 a370
   refine dr_skip (i := 8) ha371 rfl (by kernel_rfl) (by kernel_rfl) (by kernel_rfl) rfl rfl rfl hs18 ?_
   intro a372 ha372; clear ha371 a371
   refine dr_skip (i := 9) ha372 rfl (by kernel_rfl) (by kernel_rfl) (by kernel_rfl) rfl rfl rfl hs18 ?_
   intro a373 ha373; clear ha372 a372
   refine dr_skip (i := 10) ha373 rfl (by kernel_rfl) (by kernel_rfl) (by kernel_rfl) rfl rfl rfl hs18 ?_
   intro a374 ha374; clear ha373 a373
   refine dr_skip (i := 11) ha374 rfl (by kernel_rfl) (by kernel_rfl) (by kernel_rfl) rfl rfl rfl hs18 ?_
   intro a375 ha375; clear ha374 a374
   refine dr_skip (i := 12) ha375 rfl (by kernel_rfl) (by kernel_rfl) (by kernel_rfl) rfl rfl rfl hs18 ?_
   intro a376 ha376; clear ha375 a375
   refine dr_val (i := 13) ha376 rfl (by kernel_rfl) (by kernel_rfl) (by kernel_rfl) rfl rfl rfl hs18 (fun w' hw' => op_pick_f ha376 rfl rfl rfl) ?_
   intro a377 ha377; clear ha376 a376
   refine dr_end (by kernel_rfl) ?_
   replace hf12 := hf12.ext hs18
   refine then_n ?_
   refine cond_f ha377 rfl ?_
   refine wp_exit ?_
   refine then_e ?_
   refine then_e ?_
   refine block_hit ?_
   refine then_n ?_
   refine wp_seq ?_
   refine wp_region_lit ?_
   refine wl_val ha377 rfl rfl rfl (op_move ha377 rfl rfl) ?_
   intro a378 ha378; clear ha377 a377
   refine wl_val ha378 rfl rfl rfl (op_assign ha378 rfl rfl) ?_
   intro a379 ha379; clear ha378 a378
   refine wpList_nil ?_
   refine then_n ?_
   refine wp_seq ?_
   refine wp_seq ?_
   refine dr_enter Ext follows_mixed ?_
   intro w380 he381
   have hx382 := hx17.trans' he381
   have hzhx382 := he381.size
   replace hf12 := hf12.ext he381
   have hs383 : Ext w380 w380 := Ext.rfl' _
   refine dr_val (i := 0) ha379 rfl (by kernel_rfl) (by kernel_rfl) (by kernel_rfl) rfl rfl rfl hs383 (fun w' hw' => op_move ha379 rfl rfl) ?_
   intro a384 ha384; clear ha379 a379
   refine dr_val (i := 1) ha384 rfl (by kernel_rfl) (by kernel_rfl) (by kernel_rfl) rfl rfl rfl hs383 (fun w' hw' => op_move ha384 rfl rfl) ?_
   intro a385 ha385; clear ha384 a384
   refine dr_val (i := 2) ha385 rfl (by kernel_rfl) (by kernel_rfl) (by kernel_rfl) rfl rfl rfl hs383 (fun w' hw' => op_len_sl ha385 rfl Try.underlying25 rfl h_list) ?_
   intro a386 ha386; clear ha385 a385
   refine dr_val (i := 3) ha386 rfl (by kernel_rfl) (by kernel_rfl) (by kernel_rfl) rfl rfl rfl hs383 (fun w' hw' => op_lss ha386 rfl rfl rfl) ?_
   intro a387 ha387; clear ha386 a386
   refine dr_val (i := 4) ha387 rfl (by kernel_rfl) (by kernel_rfl) (by kernel_rfl) rfl rfl rfl hs383 (fun w' hw' => op_move ha387 rfl rfl) ?_
   intro a388 ha388; clear ha387 a387
   rw [decide_eq_false c24] at ha388
   refine dr_skip (i := 5) ha388 rfl (by kernel_rfl) (by kernel_rfl) (by kernel_rfl) rfl rfl rfl hs383 ?_
   intro a389 ha389; clear ha388 a388
   refine dr_skip (i := 6) ha389 rfl (by kernel_rfl) (by kernel_rfl) (by kernel_rfl) rfl rfl rfl hs383 ?_
   intro a390 ha390; clear ha389 a389
   refine dr_skip (i := 7) ha390 rfl (by kernel_rfl) (by kernel_rfl) (by kernel_rfl) rfl rfl rfl hs383 ?_
   intro a391 ha391; clear ha390 a390
   refine dr_skip (i := 8) ha391 rfl (by kernel_rfl) (by kernel_rfl) (by kernel_rfl) rfl rfl rfl hs383 ?_
   intro a392 ha392; clear ha391 a391
   refine dr_skip (i := 9) ha392 rfl (by kernel_rfl) (by kernel_rfl) (by kernel_rfl) rfl rfl rfl hs383 ?_
   intro a393 ha393; clear ha392 a392
   refine dr_skip (i := 10) ha393 rfl (by kernel_rfl) (by kernel_rfl) (by kernel_rfl) rfl rfl rfl hs383 ?_
   intro a394 ha394; clear ha393 a393
   refine dr_skip (i := 11) ha394 rfl (by kernel_rfl) (by kernel_rfl) (by kernel_rfl) rfl rfl rfl hs383 ?_
   intro a395 ha395; clear ha394 a394
   refine dr_skip (i := 12) ha395 rfl (by kernel_rfl) (by kernel_rfl) (by kernel_rfl) rfl rfl rfl hs383 ?_
   intro a396 ha396; clear ha395 a395
   refine dr_val (i := 13) ha396 rfl (by kernel_rfl) (by kernel_rfl) (by kernel_rfl) rfl rfl rfl hs383 (fun w' hw' => op_pick_f ha396 rfl rfl rfl) ?_
   intro a397 ha397; clear ha396 a396
   refine dr_end (by kernel_rfl) ?_
   replace hf12 := hf12.ext hs383
   refine then_n ?_
   refine cond_f ha397 rfl ?_
   refine wp_skip ?_
   refine then_n ?_
   refine wp_seq ?_
   refine dr_enter Ext follows_mixed ?_
   intro w398 he399
   have hx400 := hx382.trans' he399
   have hzhx400 := he399.size
   replace hf12 := hf12.ext he399
   have hs401 : Ext w398 w398 := Ext.rfl' _
   refine dr_val (i := 1) ha397 rfl (by kernel_rfl) (by kernel_rfl) (by kernel_rfl) rfl rfl rfl hs401 (fun w' hw' => op_move ha397 rfl rfl) ?_
   intro a402 ha402; clear ha397 a397
   refine dr_val (i := 2) ha402 rfl (by kernel_rfl) (by kernel_rfl) (by kernel_rfl) rfl rfl rfl hs401 (fun w' hw' => op_move ha402 rfl rfl) ?_
   intro a403 ha403; clear ha402 a402
   obtain ⟨u404, hu405, hr406⟩ := Rds.part h_list Try.underlying25 ti36 none (some (.int .i64 (i : Nat))) 0 i (.inl ⟨rfl, rfl⟩) (.inr ⟨.i64, rfl⟩) (by omega) (by omega)
   replace hr406 := hr406.cast (ys := list.take i) (by first | rw [List.take_length] | simp)
   refine dr_val (i := 3) ha403 rfl (by kernel_rfl) (by kernel_rfl) (by kernel_rfl) rfl rfl rfl hs401 (fun w' hw' => op_slice_t (by omega) ha403 rfl rfl rfl hu405) ?_
   intro a407 ha407; clear ha403 a403
   refine dr_val (i := 5) ha407 rfl (by kernel_rfl) (by kernel_rfl) (by kernel_rfl) rfl rfl rfl hs401 (fun w' hw' => op_loadS ha407 rfl Try.underlying36 ti36 rfl rfl (hf12.ext hw').cells) ?_
   intro a408 ha408; clear ha407 a407
   refine dr_val (i := 8) ha408 rfl (by kernel_rfl) (by kernel_rfl) (by kernel_rfl) rfl rfl rfl hs401 (fun w' hw' => op_move ha408 rfl rfl) ?_
   intro a409 ha409; clear ha408 a408
   refine dr_val (i := 9) ha409 rfl (by kernel_rfl) (by kernel_rfl) (by kernel_rfl) rfl rfl rfl hs401 (fun w' hw' => op_move ha409 rfl rfl) ?_
   intro a410 ha410; clear ha409 a409
   obtain ⟨u411, hu412, hr413⟩ := Rds.part h_list Try.underlying25 ti36 (some (.int .i64 (i : Nat))) none i list.length (.inr ⟨.i64, rfl⟩) (.inl ⟨rfl, rfl⟩) (by omega) (by omega)
   replace hr413 := hr413.cast (ys := list.drop i) (by first | rw [List.take_length] | simp)
   refine dr_val (i := 10) ha410 rfl (by kernel_rfl) (by kernel_rfl) (by kernel_rfl) rfl rfl rfl hs401 (fun w' hw' => op_slice_f (by omega) ha410 rfl rfl rfl hu412) ?_
   intro a414 ha414; clear ha410 a410
   refine dr_two (i := 0) (j := 6) (by kernel_rfl) ?_ ?_
   ·
    refine po_eff ha414 rfl rfl rfl rfl (op_buildSlice (s := shRec) (xs := ([] : List (Int × Str))) (cs := []) (vs := []) (S := fun _ => False) (le := w398.heap.size) ha414 rfl pos_shRec Try.underlying25 ti36 rfl rfl (by decide) (by kernel_rfl) rfl (fun _ h => h.elim)) ?_
    rintro v415 w416 ⟨ho417, he418, hob419⟩ a420 ha420; clear ha414 a414
    have hs421 := hs401.trans' he418
    have hx422 := hx400.trans' he418
    have hzhx422 := he418.size
    refine ⟨hs421, ?_⟩
    refine dr_two (i := 4) (j := 6) (by kernel_rfl) ?_ ?_
    ·
     refine po_eff ha420 rfl rfl rfl rfl (op_append (ts := #[]) (s := shRec) ha420 rfl Try.underlying25 ti36 rfl pos_shRec rfl rfl ho417 (hr406.ext pos_shRec (hx400.trans' hs421)) (by omega) (by omega) (by first | omega | (simp; omega)) (by first | omega | (simp; omega)) (.inl flat_shRec)) ?_
     rintro v423 w424 ⟨ho425, hst426, hob427⟩ a428 ha428; clear ha420 a420
     have hs429 := hs421.stp hst426 (by intro q hq; have hq0 := ho417.lt q hq; omega)
     have hx430 := hx422.stp hst426 (by intro q hq; have hq0 := ho417.lt q hq; omega)
     have hzhx430 := hst426.size
     have hsp431 : ∀ q, Value.ownBlock v423 = some q → q ≠ w0.heap.size := by intro q hq; have hq0 := hf12.lt; rcases hob427 with h | h; (rw [h] at hq; first | (have hq1 := ho417.lt q hq; omega)); (rw [h] at hq; cases hq; omega)
     refine ⟨hs429, ?_⟩
     refine dr_one (i := 6) (by kernel_rfl) ?_
     refine po_eff ha428 rfl rfl rfl rfl (op_buildSlice (s := shRec) (xs := [r]) (cs := [.int .i64 r.1, St r.2]) (vs := [(0, .agg #[.int .i64 r.1, St r.2])]) (S := fun _ => False) (le := w424.heap.size) ha428 rfl pos_shRec Try.underlying25 ti36 rfl rfl (by decide) (by kernel_rfl) (Els.single (mk_shRec r (by first | assumption | omega | (simp; omega)) (by first | assumption | omega | (simp; omega)))) (fun _ h => h.elim)) ?_
     rintro v432 w433 ⟨ho434, he435, hob436⟩ a437 ha437; clear ha428 a428
     have hs438 := hs429.trans' he435
     have hx439 := hx430.trans' he435
     have hzhx439 := he435.size
     replace ho425 := ho425.ext he435
     refine ⟨hs438, ?_⟩
     refine dr_one (i := 7) (by kernel_rfl) ?_
     refine po_eff ha437 rfl rfl rfl rfl (op_append (ts := #[]) (s := shRec) ha437 rfl Try.underlying25 ti36 rfl pos_shRec rfl rfl ho425 (ho434.rds pos_shRec) (by omega) (by omega) (by first | omega | (simp; omega)) (by first | omega | (simp; omega)) (.inl flat_shRec)) ?_
     rintro v440 w441 ⟨ho442, hst443, hob444⟩ a445 ha445; clear ha437 a437
     have hs446 := hs438.stp hst443 (by intro q hq; have hq0 := ho425.lt q hq; omega)
     have hx447 := hx439.stp hst443 (by intro q hq; have hq0 := ho425.lt q hq; omega)
     have hzhx447 := hst443.size
     replace ho434 := ho434.stp hst443 (by intro q hq; have hq0 := ho425.lt q hq; omega)
     have hsp448 : ∀ q, Value.ownBlock v440 = some q → q ≠ w0.heap.size := by intro q hq; have hq0 := hf12.lt; rcases hob444 with h | h; (rw [h] at hq; first | (have hq1 := ho425.lt q hq; omega) | exact hsp431 q hq); (rw [h] at hq; cases hq; omega)
     have hsp449 : ∀ q, Value.ownBlock v440 = some q → Value.ownBlock v432 ≠ some q := by intro q hq hb; have hq0 := ho434.lt q hb; rcases hob444 with h | h; (rw [h] at hq; first | (have hq1 := ho425.lt q hq; omega)); (rw [h] at hq; cases hq; omega)
     refine ⟨hs446, ?_⟩
     refine dr_one (i := 11) (by kernel_rfl) ?_
     refine po_eff ha445 rfl rfl rfl rfl (op_append (ts := #[]) (s := shRec) ha445 rfl Try.underlying25 ti36 rfl pos_shRec rfl rfl ho442 (hr413.ext pos_shRec (hx400.trans' hs446)) (by omega) (by omega) (by first | omega | (simp; omega)) (by first | omega | (simp; omega)) (.inl flat_shRec)) ?_
     rintro v450 w451 ⟨ho452, hst453, hob454⟩ a455 ha455; clear ha445 a445
     have hs456 := hs446.stp hst453 (by intro q hq; have hq0 := ho442.lt q hq; omega)
     have hx457 := hx447.stp hst453 (by intro q hq; have hq0 := ho442.lt q hq; omega)
     have hzhx457 := hst453.size
     first | replace ho434 := ho434.stp hst453 (by intro q hq; have hq0 := ho442.lt q hq; omega) | replace ho434 := ho434.stpF flat_shRec hst453 (fun q hq => hsp449 q hq)
     have hsp458 : ∀ q, Value.ownBlock v450 = some q → q ≠ w0.heap.size := by intro q hq; have hq0 := hf12.lt; rcases hob454 with h | h; (rw [h] at hq; first | (have hq1 := ho442.lt q hq; omega) | exact hsp448 q hq); (rw [h] at hq; cases hq; omega)
     have hsp459 : ∀ q, Value.ownBlock v450 = some q → Value.ownBlock v432 ≠ some q := by intro q hq hb; have hq0 := ho434.lt q hb; rcases hob454 with h | h; (rw [h] at hq; first | (have hq1 := ho442.lt q hq; omega) | exact hsp449 q hq hb); (rw [h] at hq; cases hq; omega)
     refine ⟨hs456, ?_⟩
     refine dr_val (i := 12) ha455 rfl (by kernel_rfl) (by kernel_rfl) (by kernel_rfl) rfl rfl rfl hs456 (fun w' hw' => op_assign ha455 rfl rfl) ?_
     intro a460 ha460; clear ha455 a455
     refine dr_end (by kernel_rfl) ?_
     replace hf12 := hf12.ext hs456
     refine then_n ?_
     refine wp_ret ?_
     refine ret1 ha460 rfl rfl ?_
     clear ha460 a460
     rw [drop_nil (by omega), putS] at hF
     refine ret_mk hx457 ?_
     refine (ho452.fin (by omega) (by omega) (by omega)).cast ?_
     rw [← hF]; simp; try omega
    ·
     refine po_eff ha420 rfl rfl rfl rfl (op_buildSlice (s := shRec) (xs := [r]) (cs := [.int .i64 r.1, St r.2]) (vs := [(0, .agg #[.int .i64 r.1, St r.2])]) (S := fun _ => False) (le := w416.heap.size) ha420 rfl pos_shRec Try.underlying25 ti36 rfl rfl (by decide) (by kernel_rfl) (Els.single (mk_shRec r (by first | assumption | omega | (simp; omega)) (by first | assumption | omega | (simp; omega)))) (fun _ h => h.elim)) ?_
     rintro v461 w462 ⟨ho463, he464, hob465⟩ a466 ha466; clear ha420 a420
     have hs467 := hs421.trans' he464
     have hx468 := hx422.trans' he464
     have hzhx468 := he464.size
     replace ho417 := ho417.ext he464
     refine ⟨hs467, ?_⟩
     refine dr_one (i := 4) (by kernel_rfl) ?_
     refine po_eff ha466 rfl rfl rfl rfl (op_append (ts := #[]) (s := shRec) ha466 rfl Try.underlying25 ti36 rfl pos_shRec rfl rfl ho417 (hr406.ext pos_shRec (hx400.trans' hs467)) (by omega) (by omega) (by first | omega | (simp; omega)) (by first | omega | (simp; omega)) (.inl flat_shRec)) ?_
     rintro v469 w470 ⟨ho471, hst472, hob473⟩ a474 ha474; clear ha466 a466
     have hs475 := hs467.stp hst472 (by intro q hq; have hq0 := ho417.lt q hq; omega)
     have hx476 := hx468.stp hst472 (by intro q hq; have hq0 := ho417.lt q hq; omega)
     have hzhx476 := hst472.size
     replace ho463 := ho463.stp hst472 (by intro q hq; have hq0 := ho417.lt q hq; omega)
     have hsp477 : ∀ q, Value.ownBlock v469 = some q → q ≠ w0.heap.size := by intro q hq; have hq0 := hf12.lt; rcases hob473 with h | h; (rw [h] at hq; first | (have hq1 := ho417.lt q hq; omega)); (rw [h] at hq; cases hq; omega)
     have hsp478 : ∀ q, Value.ownBlock v469 = some q → Value.ownBlock v461 ≠ some q := by intro q hq hb; have hq0 := ho463.lt q hb; rcases hob473 with h | h; (rw [h] at hq; first | (have hq1 := ho417.lt q hq; omega)); (rw [h] at hq; cases hq; omega)
     refine ⟨hs475, ?_⟩
     refine dr_one (i := 7) (by kernel_rfl) ?_
     refine po_eff ha474 rfl rfl rfl rfl (op_append (ts := #[]) (s := shRec) ha474 rfl Try.underlying25 ti36 rfl pos_shRec rfl rfl ho471 (ho463.rds pos_shRec) (by omega) (by omega) (by first | omega | (simp; omega)) (by first | omega | (simp; omega)) (.inl flat_shRec)) ?_
     rintro v479 w480 ⟨ho481, hst482, hob483⟩ a484 ha484; clear ha474 a474
     have hs485 := hs475.stp hst482 (by intro q hq; have hq0 := ho471.lt q hq; omega)
     have hx486 := hx476.stp hst482 (by intro q hq; have hq0 := ho471.lt q hq; omega)
     have hzhx486 := hst482.size
     first | replace ho463 := ho463.stp hst482 (by intro q hq; have hq0 := ho471.lt q hq; omega) | replace ho463 := ho463.stpF flat_shRec hst482 (fun q hq => hsp478 q hq)
     have hsp487 : ∀ q, Value.ownBlock v479 = some q → q ≠ w0.heap.size := by intro q hq; have hq0 := hf12.lt; rcases hob483 with h | h; (rw [h] at hq; first | (have hq1 := ho471.lt q hq; omega) | exact hsp477 q hq); (rw [h] at hq; cases hq; omega)
     have hsp488 : ∀ q, Value.ownBlock v479 = some q → Value.ownBlock v461 ≠ some q := by intro q hq hb; have hq0 := ho463.lt q hb; rcases hob483 with h | h; (rw [h] at hq; first | (have hq1 := ho471.lt q hq; omega) | exact hsp478 q hq hb); (rw [h] at hq; cases hq; omega)
     refine ⟨hs485, ?_⟩
     refine dr_one (i := 11) (by kernel_rfl) ?_
     refine po_eff ha484 rfl rfl rfl rfl (op_append (ts := #[]) (s := shRec) ha484 rfl Try.underlying25 ti36 rfl pos_shRec rfl rfl ho481 (hr413.ext pos_shRec (hx400.trans' hs485)) (by omega) (by omega) (by first | omega | (simp; omega)) (by first | omega | (simp; omega)) (.inl flat_shRec)) ?_
     rintro v489 w490 ⟨ho491, hst492, hob493⟩ a494 ha494; clear ha484 a484
     have hs495 := hs485.stp hst492 (by intro q hq; have hq0 := ho481.lt q hq; omega)
     have hx496 := hx486.stp hst492 (by intro q hq; have hq0 := ho481.lt q hq; omega)
     have hzhx496 := hst492.size
     first | replace ho463 := ho463.stp hst492 (by intro q hq; have hq0 := ho481.lt q hq; omega) | replace ho463 := ho463.stpF flat_shRec hst492 (fun q hq => hsp488 q hq)
     have hsp497 : ∀ q, Value.ownBlock v489 = some q → q ≠ w0.heap.size := by intro q hq; have hq0 := hf12.lt; rcases hob493 with h | h; (rw [h] at hq; first | (have hq1 := ho481.lt q hq; omega) | exact hsp487 q hq); (rw [h] at hq; cases hq; omega)
     have hsp498 : ∀ q, Value.ownBlock v489 = some q → Value.ownBlock v461 ≠ some q := by intro q hq hb; have hq0 := ho463.lt q hb; rcases hob493 with h | h; (rw [h] at hq; first | (have hq1 := ho481.lt q hq; omega) | exact hsp488 q hq hb); (rw [h] at hq; cases hq; omega)
     refine ⟨hs495, ?_⟩
     refine dr_val (i := 12) ha494 rfl (by kernel_rfl) (by kernel_rfl) (by kernel_rfl) rfl rfl rfl hs495 (fun w' hw' => op_assign ha494 rfl rfl) ?_
     intro a499 ha499; clear ha494 a494
     refine dr_end (by kernel_rfl) ?_
     replace hf12 := hf12.ext hs495
     refine then_n ?_
     refine wp_ret ?_
     refine ret1 ha499 rfl rfl ?_
     clear ha499 a499
     rw [drop_nil (by omega), putS] at hF
     refine ret_mk hx496 ?_
     refine (ho491.fin (by omega) (by omega) (by omega)).cast ?_
     rw [← hF]; simp; try omega
   ·
    refine po_eff ha414 rfl rfl rfl rfl (op_buildSlice (s := shRec) (xs := [r]) (cs := [.int .i64 r.1, St r.2]) (vs := [(0, .agg #[.int .i64 r.1, St r.2])]) (S := fun _ => False) (le := w398.heap.size) ha414 rfl pos_shRec Try.underlying25 ti36 rfl rfl (by decide) (by kernel_rfl) (Els.single (mk_shRec r (by first | assumption | omega | (simp; omega)) (by first | assumption | omega | (simp; omega)))) (fun _ h => h.elim)) ?_
    rintro v500 w501 ⟨ho502, he503, hob504⟩ a505 ha505; clear ha414 a414
    have hs506 := hs401.trans' he503
    have hx507 := hx400.trans' he503
    have hzhx507 := he503.size
    refine ⟨hs506, ?_⟩
    refine dr_one (i := 0) (by kernel_rfl) ?_
    refine po_eff ha505 rfl rfl rfl rfl (op_buildSlice (s := shRec) (xs := ([] : List (Int × Str))) (cs := []) (vs := []) (S := fun _ => False) (le := w501.heap.size) ha505 rfl pos_shRec Try.underlying25 ti36 rfl rfl (by decide) (by kernel_rfl) rfl (fun _ h => h.elim)) ?_
    rintro v508 w509 ⟨ho510, he511, hob512⟩ a513 ha513; clear ha505 a505
    have hs514 := hs506.trans' he511
    have hx515 := hx507.trans' he511
    have hzhx515 := he511.size
    replace ho502 := ho502.ext he511
    refine ⟨hs514, ?_⟩
    refine dr_one (i := 4) (by kernel_rfl) ?_
    refine po_eff ha513 rfl rfl rfl rfl (op_append (ts := #[]) (s := shRec) ha513 rfl Try.underlying25 ti36 rfl pos_shRec rfl rfl ho510 (hr406.ext pos_shRec (hx400.trans' hs514)) (by omega) (by omega) (by first | omega | (simp; omega)) (by first | omega | (simp; omega)) (.inl flat_shRec)) ?_
    rintro v516 w517 ⟨ho518, hst519, hob520⟩ a521 ha521; clear ha513 a513
    have hs522 := hs514.stp hst519 (by intro q hq; have hq0 := ho510.lt q hq; omega)
    have hx523 := hx515.stp hst519 (by intro q hq; have hq0 := ho510.lt q hq; omega)
    have hzhx523 := hst519.size
    replace ho502 := ho502.stp hst519 (by intro q hq; have hq0 := ho510.lt q hq; omega)
    have hsp524 : ∀ q, Value.ownBlock v516 = some q → q ≠ w0.heap.size := by intro q hq; have hq0 := hf12.lt; rcases hob520 with h | h; (rw [h] at hq; first | (have hq1 := ho510.lt q hq; omega)); (rw [h] at hq; cases hq; omega)
    have hsp525 : ∀ q, Value.ownBlock v516 = some q → Value.ownBlock v500 ≠ some q := by intro q hq hb; have hq0 := ho502.lt q hb; rcases hob520 with h | h; (rw [h] at hq; first | (have hq1 := ho510.lt q hq; omega)); (rw [h] at hq; cases hq; omega)
    refine ⟨hs522, ?_⟩
    refine dr_one (i := 7) (by kernel_rfl) ?_
    refine po_eff ha521 rfl rfl rfl rfl (op_append (ts := #[]) (s := shRec) ha521 rfl Try.underlying25 ti36 rfl pos_shRec rfl rfl ho518 (ho502.rds pos_shRec) (by omega) (by omega) (by first | omega | (simp; omega)) (by first | omega | (simp; omega)) (.inl flat_shRec)) ?_
    rintro v526 w527 ⟨ho528, hst529, hob530⟩ a531 ha531; clear ha521 a521
    have hs532 := hs522.stp hst529 (by intro q hq; have hq0 := ho518.lt q hq; omega)
    have hx533 := hx523.stp hst529 (by intro q hq; have hq0 := ho518.lt q hq; omega)
    have hzhx533 := hst529.size
    replace ho502 := ho502.stp hst529 (by intro q hq; have hq0 := ho518.lt q hq; omega)
    have hsp534 : ∀ q, Value.ownBlock v526 = some q → q ≠ w0.heap.size := by intro q hq; have hq0 := hf12.lt; rcases hob530 with h | h; (rw [h] at hq; first | (have hq1 := ho518.lt q hq; omega) | exact hsp524 q hq); (rw [h] at hq; cases hq; omega)
    have hsp535 : ∀ q, Value.ownBlock v526 = some q → Value.ownBlock v500 ≠ some q := by intro q hq hb; have hq0 := ho502.lt q hb; rcases hob530 with h | h; (rw [h] at hq; first | (have hq1 := ho518.lt q hq; omega) | exact hsp525 q hq hb); (rw [h] at hq; cases hq; omega)
    refine ⟨hs532, ?_⟩
    refine dr_one (i := 11) (by kernel_rfl) ?_
    refine po_eff ha531 rfl rfl rfl rfl (op_append (ts := #[]) (s := shRec) ha531 rfl Try.underlying25 ti36 rfl pos_shRec rfl rfl ho528 (hr413.ext pos_shRec (hx400.trans' hs532)) (by omega) (by omega) (by first | omega | (simp; omega)) (by first | omega | (simp; omega)) (.inl flat_shRec)) ?_
    rintro v536 w537 ⟨ho538, hst539, hob540⟩ a541 ha541; clear ha531 a531
    have hs542 := hs532.stp hst539 (by intro q hq; have hq0 := ho528.lt q hq; omega)
    have hx543 := hx533.stp hst539 (by intro q hq; have hq0 := ho528.lt q hq; omega)
    have hzhx543 := hst539.size
    replace ho502 := ho502.stp hst539 (by intro q hq; have hq0 := ho528.lt q hq; omega)
    have hsp544 : ∀ q, Value.ownBlock v536 = some q → q ≠ w0.heap.size := by intro q hq; have hq0 := hf12.lt; rcases hob540 with h | h; (rw [h] at hq; first | (have hq1 := ho528.lt q hq; omega) | exact hsp534 q hq); (rw [h] at hq; cases hq; omega)
    have hsp545 : ∀ q, Value.ownBlock v536 = some q → Value.ownBlock v500 ≠ some q := by intro q hq hb; have hq0 := ho502.lt q hb; rcases hob540 with h | h; (rw [h] at hq; first | (have hq1 := ho528.lt q hq; omega) | exact hsp535 q hq hb); (rw [h] at hq; cases hq; omega)
    refine ⟨hs542, ?_⟩
    refine dr_val (i := 12) ha541 rfl (by kernel_rfl) (by kernel_rfl) (by kernel_rfl) rfl rfl rfl hs542 (fun w' hw' => op_assign ha541 rfl rfl) ?_
    intro a546 ha546; clear ha541 a541
    refine dr_end (by kernel_rfl) ?_
    replace hf12 := hf12.ext hs542
    refine then_n ?_
    refine wp_ret ?_
    refine ret1 ha546 rfl rfl ?_
    clear ha546 a546
    rw [drop_nil (by omega), putS] at hF
    refine ret_mk hx543 ?_
    refine (ho538.fin (by omega) (by omega) (by omega)).cast ?_
    rw [← hF]; simp; try omega

theorem c_spec_ReplaceRecord (w0 : World) (v_list : Value) (list : List (Int × Str)) {S_list : Nat → Prop} (r : Int × Str) (h_list : Rds shRec S_list w0 v_list list) (g0 : list.length ≤ 1048576) (g1 : I64 r.1) (g2 : r.2.length ≤ 9223372036854775807) :
  Calls Try.prog 21 #[v_list, .agg #[.int .i64 r.1, St r.2]] w0 (Ret w0 (fun v w1 => ∃ r0, v = .tuple #[r0, .int .i64 (replE list r)] ∧ Own shRec 36 w0.heap.size w0.heap.size w1.heap.size w1 r0 (replL list r))) := by
 refine enter (N := 22) Try.func21 rfl rfl rfl ?_
 intro a0 ha0
 have hx0 := Ext.rfl' w0
 have hl_list := h_list.length_le
 refine wp_seq ?_
 refine wp_region_lit ?_
 refine wl_eff ha0 rfl rfl rfl (op_box' ha0 rfl rfl rfl) ?_
 rintro _ w2 ⟨rfl, he3, hb4, hz5⟩ a6 ha6; clear ha0 a0
 have hx7 := hx0.trans' he3
 have hzhx7 := he3.size
 refine wl_val ha6 rfl rfl rfl (op_assign ha6 rfl rfl) ?_
 intro a8 ha8; clear ha6 a6
 refine wl_val ha8 rfl rfl rfl (op_assign ha8 rfl rfl) ?_
 intro a9 ha9; clear ha8 a8
 refine wpList_nil ?_
 refine then_n ?_
 refine wp_seq ?_
 refine wp_block ?_
 refine wp_seq ?_
 refine wp_region_lit ?_
 refine wl_val ha9 rfl rfl rfl (op_move ha9 rfl rfl) ?_
 intro a10 ha10; clear ha9 a9
 refine wl_callR ha10 rfl rfl rfl (op_call ha10 rfl cb14 rfl) (c_spec_AreRecords _ v_list list (h_list.ext pos_shRec hx7) (by first | assumption | omega | (simp; omega) | (simp [mkN_length]; omega))) ?_
 rintro v11 w12 he13 rfl a14 ha14; clear ha10 a10
 have hx15 := hx7.trans' he13
 have hzhx15 := he13.size
 replace hb4 := hb4.ext he13
 refine wl_val ha14 rfl rfl rfl (op_not ha14 rfl rfl) ?_
 intro a16 ha16; clear ha14 a14
 refine wl_val ha16 rfl rfl rfl (op_assign ha16 rfl rfl) ?_
 intro a17 ha17; clear ha16 a16
 refine wpList_nil ?_
 refine then_n ?_
 rcases Bool.eq_false_or_eq_true (areB list) with c18 | c18
 ·
  rw [c18] at ha17
  refine cond_f ha17 rfl ?_
  refine wp_seq ?_
  refine wp_region_lit ?_
  refine wl_val ha17 rfl rfl rfl (op_loadS ha17 rfl Try.underlying36 ti36 rfl rfl hb4.cells) ?_
  intro a19 ha19; clear ha17 a17
  refine wl_callR ha19 rfl rfl rfl (op_call ha19 rfl cb48 rfl) (c_spec_l32Is _ r (by first | assumption | omega | (simp; omega) | (simp [mkN_length]; omega)) (by first | assumption | omega | (simp; omega) | (simp [mkN_length]; omega))) ?_
  rintro v20 w21 he22 rfl a23 ha23; clear ha19 a19
  have hx24 := hx15.trans' he22
  have hzhx24 := he22.size
  replace hb4 := hb4.ext he22
  refine wl_val ha23 rfl rfl rfl (op_not ha23 rfl rfl) ?_
  intro a25 ha25; clear ha23 a23
  refine wl_val ha25 rfl rfl rfl (op_assign ha25 rfl rfl) ?_
  intro a26 ha26; clear ha25 a25
  refine wpList_nil ?_
  refine then_n ?_
  rcases Bool.eq_false_or_eq_true (recB r) with c27 | c27
  ·
   rw [c27] at ha26
   refine cond_f ha26 rfl ?_
   refine wp_skip ?_
   refine block_n ?_
   refine then_n ?_
   refine wp_seq ?_
   refine wp_region_lit ?_
   refine wl_val ha26 rfl rfl rfl (op_move ha26 rfl rfl) ?_
   intro a28 ha28; clear ha26 a26
   refine wl_val ha28 rfl rfl rfl (op_loadS ha28 rfl Try.underlying36 ti36 rfl rfl hb4.cells) ?_
   intro a29 ha29; clear ha28 a28
   refine wl_callR ha29 rfl rfl rfl (op_call ha29 rfl cb53 rfl) (c_spec_l32Put _ v_list list r (h_list.ext pos_shRec hx24) (by first | assumption | omega | (simp; omega) | (simp [mkN_length]; omega)) (by first | assumption | omega | (simp; omega) | (simp [mkN_length]; omega)) (by first | assumption | omega | (simp; omega) | (simp [mkN_length]; omega))) ?_
   rintro v30 w31 he32 ho33 a34 ha34; clear ha29 a29
   have hx35 := hx24.trans' he32
   have hzhx35 := he32.size
   replace hb4 := hb4.ext he32
   refine wl_val ha34 rfl rfl rfl (op_assign ha34 rfl rfl) ?_
   intro a36 ha36; clear ha34 a34
   refine wpList_nil ?_
   refine then_n ?_
   refine wp_seq ?_
   refine wp_seq ?_
   refine wp_region_lit ?_
   refine wl_val ha36 rfl rfl rfl (op_move ha36 rfl rfl) ?_
   intro a37 ha37; clear ha36 a36
   refine wl_val ha37 rfl rfl rfl (op_len_sl ha37 rfl Try.underlying25 rfl (ho33.rds pos_shRec)) ?_
   intro a38 ha38; clear ha37 a37
   refine wl_val ha38 rfl rfl rfl (op_gtr ha38 rfl rfl rfl) ?_
   intro a39 ha39; clear ha38 a38
   refine wpList_nil ?_
   refine then_n ?_
   by_cases c40 : (30 : Int) < ((((putS list r)).length : Nat) : Int)
   ·
    rw [decide_eq_true c40] at ha39
    refine cond_t ha39 rfl ?_
    refine wp_seq ?_
    refine wp_region_lit ?_
    refine wl_val ha39 rfl rfl rfl (op_assign ha39 rfl rfl) ?_
    intro a41 ha41; clear ha39 a39
    refine wl_val ha41 rfl rfl rfl (op_assign ha41 rfl rfl) ?_
    intro a42 ha42; clear ha41 a41
    refine wpList_nil ?_
    refine then_n ?_
    refine wp_ret ?_
    refine then_r ?_
    refine ret2 ha42 rfl rfl rfl ?_
    clear ha42 a42
    have hn : 30 < (putS list r).length := by omega
    refine ret_mk hx35 ⟨.slice none 0 0, (tup2_eq rfl (int_eq (by simp [replE, c18, c27, c40, hn]))), ?_⟩
    ·refine Own.nil_ _ _ _ _ _ _ ?_
     simp [replL, c18, c27, c40, hn]
   ·
    rw [decide_eq_false c40] at ha39
    refine cond_f ha39 rfl ?_
    refine wp_skip ?_
    refine then_n ?_
    refine wp_seq ?_
    refine wp_region_lit ?_
    refine wl_val ha39 rfl rfl rfl (op_move ha39 rfl rfl) ?_
    intro a43 ha43; clear ha39 a39
    refine wl_val ha43 rfl rfl rfl (op_assign ha43 rfl rfl) ?_
    intro a44 ha44; clear ha43 a43
    refine wl_val ha44 rfl rfl rfl (op_assign ha44 rfl rfl) ?_
    intro a45 ha45; clear ha44 a44
    refine wpList_nil ?_
    refine then_n ?_
    refine wp_ret ?_
    refine ret2 ha45 rfl rfl rfl ?_
    clear ha45 a45
    have hn : ¬ 30 < (putS list r).length := by omega
    refine ret_mk hx35 ⟨v30, (tup2_eq rfl (int_eq (by simp [replE, c18, c27, c40, hn]))), ?_⟩
    ·refine (ho33.fin (by omega) (by omega) (by omega)).cast ?_
     simp [replL, c18, c27, c40, hn]
  ·
   rw [c27] at ha26
   refine cond_t ha26 rfl ?_
   refine wp_seq ?_
   refine wp_region_lit ?_
   refine wl_val ha26 rfl rfl rfl (op_assign ha26 rfl rfl) ?_
   intro a46 ha46; clear ha26 a26
   refine wl_val ha46 rfl rfl rfl (op_assign ha46 rfl rfl) ?_
   intro a47 ha47; clear ha46 a46
   refine wpList_nil ?_
   refine then_n ?_
   refine wp_ret ?_
   refine block_r ?_
   refine then_r ?_
   refine ret2 ha47 rfl rfl rfl ?_
   clear ha47 a47
   
   refine ret_mk hx24 ⟨.slice none 0 0, (tup2_eq rfl (int_eq (by simp [replE, c18, c27]))), ?_⟩
   ·refine Own.nil_ _ _ _ _ _ _ ?_
    simp [replL, c18, c27]
 ·
  rw [c18] at ha17
  refine cond_t ha17 rfl ?_
  refine wp_seq ?_
  refine wp_region_lit ?_
  refine wl_val ha17 rfl rfl rfl (op_assign ha17 rfl rfl) ?_
  intro a48 ha48; clear ha17 a17
  refine wl_val ha48 rfl rfl rfl (op_assign ha48 rfl rfl) ?_
  intro a49 ha49; clear ha48 a48
  refine wpList_nil ?_
  refine then_n ?_
  refine wp_ret ?_
  refine block_r ?_
  refine then_r ?_
  refine ret2 ha49 rfl rfl rfl ?_
  clear ha49 a49
  
  refine ret_mk hx15 ⟨.slice none 0 0, (tup2_eq rfl (int_eq (by simp [replE, c18]))), ?_⟩
  ·refine Own.nil_ _ _ _ _ _ _ ?_
   simp [replL, c18]


end Go.Proofs.Ytkdnclpgijkceaa
