/- What is found in a file. -/
import Derived.Test.YtkdnclpgijkceaaR1
import Derived.Test.YtkdnclpgijkceaaP1
namespace Go.Proofs.Ytkdnclpgijkceaa
open Go Go.RowKit

def salOk (acc : List (Int × Str)) (p : Str) : Prop := rrB p = true ∧ acc.length < 30 ∧ ∀ y, acc[acc.length - 1]? = some y → y.1 < (rrR p).1
open Classical in
noncomputable def salGo : List Str → List (Int × Str) → Int → Int → Int → List (Int × Str) × Int × Int
  | [], acc, l, f, _ => (acc, l, f)
  | p :: ps, acc, l, f, a => if salOk acc p then salGo ps (acc ++ [rrR p]) l f (a + (p.length : Int)) else salGo ps acc (l + 1) (if f < 0 then a else f) (a + (p.length : Int))
theorem sal_take {p : Str} {ps : List Str} {acc : List (Int × Str)} {l f a : Int} (h1 : rrB p = true) (h2 : acc.length < 30) (h3 : acc.length = 0 ∨ ∃ y, acc[acc.length - 1]? = some y ∧ y.1 < (rrR p).1) :
    salGo (p :: ps) acc l f a = salGo ps (acc ++ [rrR p]) l f (a + (p.length : Int)) := by
  rw [salGo, if_pos]
  refine ⟨h1, h2, fun y hy => ?_⟩
  rcases h3 with h3 | ⟨z, hz, hl⟩
  · rw [List.getElem?_eq_none (by omega)] at hy; cases hy
  · rw [hz] at hy; cases hy; exact hl
theorem sal_skip {p : Str} {ps : List Str} {acc : List (Int × Str)} {l f a : Int} (h : rrB p = false ∨ ¬ acc.length < 30 ∨ ∃ y, acc[acc.length - 1]? = some y ∧ ¬ y.1 < (rrR p).1) :
    salGo (p :: ps) acc l f a = salGo ps acc (l + 1) (if f < 0 then a else f) (a + (p.length : Int)) := by
  rw [salGo, if_neg]
  rintro ⟨h1, h2, h3⟩
  rcases h with h | h | ⟨y, hy, hn⟩
  · rw [h] at h1; cases h1
  · exact h h2
  · exact hn (h3 y hy)
noncomputable def salS (s : Str) : List (Int × Str) × Int × Int := salGo (pcS s) [] 0 (-1) 0
/-- What is found are records. -/
theorem rise_snoc : ∀ (xs : List (Int × Str)) (p : Option Int) (r : Int × Str), riseB p xs = true → recB r = true → (∀ y, xs[xs.length - 1]? = some y → y.1 < r.1) → (xs = [] → ∀ q, p = some q → q < r.1) → riseB p (xs ++ [r]) = true
  | [], p, r, _, hr, _, hp => by
    cases p with
    | none => simp [riseB, hr]
    | some q => have := hp rfl q rfl; simp [riseB, hr]; omega
  | x :: xs, p, r, h, hr, hl, _ => by
    simp only [riseB, Bool.and_eq_true, List.cons_append] at h ⊢
    refine ⟨h.1, rise_snoc xs _ r h.2 hr (fun y hy => hl y ?_) fun e q hq => ?_⟩
    · cases xs with
      | nil => simp at hy
      | cons z zs => simpa using hy
    · subst e; cases hq; exact hl x rfl
theorem salGo_are : ∀ (ps : List Str) (acc : List (Int × Str)) (l f a : Int), areB acc = true → areB (salGo ps acc l f a).1 = true
  | [], acc, l, f, a, h => h
  | p :: ps, acc, l, f, a, h => by
    rw [salGo]; split
    · rename_i hs
      obtain ⟨h1, h2, h3⟩ := hs
      refine salGo_are ps _ _ _ _ ?_
      unfold areB at h ⊢
      simp only [Bool.and_eq_true, decide_eq_true_eq, List.length_append, List.length_singleton] at h ⊢
      exact ⟨by omega, rise_snoc _ _ _ h.2 (rr_rec h1).1 h3 (fun _ q hq => by cases hq)⟩
    · exact salGo_are ps _ _ _ _ h
theorem salS_are (s : Str) : areB (salS s).1 = true := salGo_are _ _ _ _ _ rfl
theorem flat_drop {ps : List Str} {i : Nat} {p : Str} (h : ps[i]? = some p) : (ps.drop i).flatten.length = p.length + (ps.drop (i + 1)).flatten.length := by
  rw [drop_cons h, List.flatten_cons, List.length_append]

theorem c_impl_salvage (w0 : World) (s : Str) (g0 : s.length ≤ 1048576) :
  Calls Try.prog 56 #[St s] w0 (Ret w0 (fun v w1 => ∃ r0, v = .tuple #[r0, .int .i64 ((salS s).2.1), .int .i64 ((salS s).2.2)] ∧ Own shRec 36 w0.heap.size w0.heap.size w1.heap.size w1 r0 ((salS s).1))) := by
 refine enter (N := 65) Try.func56 rfl rfl rfl ?_
 intro a0 ha0
 have hx0 := Ext.rfl' w0
 have hpl := pcS_len s
 have hpf := congrArg List.length (pcS_flat s)
 refine wp_seq ?_
 refine wp_region_lit ?_
 refine wl_val ha0 rfl rfl rfl (op_assign ha0 rfl rfl) ?_
 intro a1 ha1; clear ha0 a0
 refine wl_val ha1 rfl rfl rfl (op_assign ha1 rfl rfl) ?_
 intro a2 ha2; clear ha1 a1
 refine wl_val ha2 rfl rfl rfl (op_assign ha2 rfl rfl) ?_
 intro a3 ha3; clear ha2 a2
 refine wpList_nil ?_
 refine then_n ?_
 refine wp_seq ?_
 refine wp_region_lit ?_
 refine wl_val ha3 rfl rfl rfl (op_assign ha3 rfl rfl) ?_
 intro a4 ha4; clear ha3 a3
 refine wpList_nil ?_
 refine then_n ?_
 refine wp_seq ?_
 refine wp_region_lit ?_
 refine wl_val ha4 rfl rfl rfl (op_assign ha4 rfl rfl) ?_
 intro a5 ha5; clear ha4 a4
 refine wl_val ha5 rfl rfl rfl (op_assign ha5 rfl rfl) ?_
 intro a6 ha6; clear ha5 a5
 refine wl_val ha6 rfl rfl rfl (op_assign ha6 rfl rfl) ?_
 intro a7 ha7; clear ha6 a6
 refine wpList_nil ?_
 refine then_n ?_
 refine wp_seq ?_
 refine wp_seq ?_
 refine wp_region_lit ?_
 refine wl_val ha7 rfl rfl rfl (op_move ha7 rfl rfl) ?_
 intro a8 ha8; clear ha7 a7
 refine wl_callR ha8 rfl rfl rfl (op_call ha8 rfl cb71 rfl) (c_impl_pieces _ s (by first | assumption | omega | (simp; omega) | (simp [mkN_length]; omega))) ?_
 rintro v9 w10 he11 ho12 a13 ha13; clear ha8 a8
 have hx14 := hx0.trans' he11
 have hzhx14 := he11.size
 refine wl_val ha13 rfl rfl rfl (op_len_sl ha13 rfl Try.underlying82 rfl (ho12.rds pos_shStr)) ?_
 intro a15 ha15; clear ha13 a13
 refine wl_val ha15 rfl rfl rfl (op_move ha15 rfl rfl) ?_
 intro a16 ha16; clear ha15 a15
 refine wpList_nil ?_
 refine then_n ?_
 refine wp_block ?_
 refine loop_inv (X := Nat × Int × Int × Int × Value × (List (Int × Str))) (fun (⟨i, l, f, a, v, acc⟩ : Nat × Int × Int × Int × Value × (List (Int × Str))) fr wl => Sl 65 fr [(5, v), (6, .int .i64 l), (7, .int .i64 f), (8, .int .i64 a), (14, v9), (15, .int .i64 ((((pcS s)).length : Nat) : Int)), (16, .int .i64 ((i : Nat) : Int))] ∧ Ext w0 wl ∧ Own shStr 9 w0.heap.size w0.heap.size w10.heap.size wl v9 ((pcS s)) ∧ Own shRec 36 w10.heap.size w10.heap.size wl.heap.size wl v acc ∧ w10.heap.size ≤ wl.heap.size ∧ (i ≤ (pcS s).length) ∧ (0 ≤ l) ∧ (l ≤ (i : Int)) ∧ (0 ≤ a) ∧ (a + (((pcS s).drop i).flatten.length : Int) = (s.length : Int)) ∧ (acc.length ≤ i) ∧ (salGo ((pcS s).drop i) acc l f a = salS s)) (fun (⟨i, l, f, a, v, acc⟩ : Nat × Int × Int × Int × Value × (List (Int × Str))) => (pcS s).length - i) (0, (0 : Int), (-1 : Int), (0 : Int), (.slice none 0 0), []) ?_ ?_
 ·
  exact ⟨(Sl.cons_ ha16 rfl rfl (Sl.cons_ ha16 rfl (int_eq (by omega)) (Sl.cons_ ha16 rfl (int_eq (by omega)) (Sl.cons_ ha16 rfl (int_eq (by omega)) (Sl.cons_ ha16 rfl rfl (Sl.cons_ ha16 rfl rfl (Sl.cons_ ha16 rfl (int_eq (by omega)) (Sl.nil_ ha16)))))))), hx14, ho12, (Own.nil _ _ _ _ _ _), (by omega), (by omega), (by omega), (by omega), (by omega), (by rw [List.drop_zero]; omega), (by simp), (by rfl)⟩
 ·
  clear ha16 a16
  rintro ⟨i, l, f, a, v, acc⟩ a21 w17 ⟨ha21, hx18, hf20, hf19, hzl22, hi, hl0, hl1, ha0, haf, hal, hF⟩
  have hzhx18 := hx18.size
  refine wp_seq ?_
  refine wp_region_lit ?_
  refine wl_val ha21 rfl rfl rfl (op_lss ha21 rfl rfl rfl) ?_
  intro a23 ha23; clear ha21 a21
  refine wpList_nil ?_
  refine then_n ?_
  refine wp_seq ?_
  by_cases c24 : ((i : Nat) : Int) < ((((pcS s)).length : Nat) : Int)
  ·
   rw [decide_eq_true c24] at ha23
   refine cond_t ha23 rfl ?_
   refine wp_skip ?_
   refine then_n ?_
   refine wp_seq ?_
   refine wp_block ?_
   refine wp_seq ?_
   refine wp_region_lit ?_
   obtain ⟨x25, hx25⟩ := get_ex (xs := (pcS s)) (j := i) (by omega)
   obtain ⟨p26, c27, hi28, hc29, hr30, hs31⟩ := Rds.at_ (hf20.rds pos_shStr) hx25
   obtain ⟨rfl, b32⟩ := inv_shStr hr30
   obtain ⟨_, _⟩ : _ ∧ _ := hs31
   have hflx25 := flat_drop hx25
   refine wl_val ha23 rfl rfl rfl (op_indexAddr ha23 rfl Try.underlying82 ti9 rfl rfl (by omega) hi28) ?_
   intro a33 ha33; clear ha23 a23
   refine wl_val ha33 rfl rfl rfl (op_loadH ha33 rfl Try.underlying9 rfl rfl hc29 rfl) ?_
   intro a34 ha34; clear ha33 a33
   refine wl_val ha34 rfl rfl rfl (op_assign ha34 rfl rfl) ?_
   intro a35 ha35; clear ha34 a34
   refine wpList_nil ?_
   refine then_n ?_
   refine wp_seq ?_
   refine wp_region_lit ?_
   refine wl_val ha35 rfl rfl rfl (op_move ha35 rfl rfl) ?_
   intro a36 ha36; clear ha35 a35
   refine wl_callR ha36 rfl rfl rfl (op_call ha36 rfl cb72 rfl) (c_impl_readRecord _ x25 (by first | assumption | omega | (simp; omega) | (simp [mkN_length]; omega))) ?_
   rintro v37 w38 he39 rfl a40 ha40; clear ha36 a36
   have hx41 := hx18.trans' he39
   have hzhx41 := he39.size
   replace hf20 := hf20.ext he39
   replace hf19 := hf19.ext he39
   replace hc29 := hc29.ext he39
   refine wl_val ha40 rfl rfl rfl (op_move ha40 rfl rfl) ?_
   intro a42 ha42; clear ha40 a40
   refine wl_val ha42 rfl rfl rfl (op_extract ha42 rfl rfl rfl) ?_
   intro a43 ha43; clear ha42 a42
   refine wl_val ha43 rfl rfl rfl (op_extract ha43 rfl rfl rfl) ?_
   intro a44 ha44; clear ha43 a43
   refine wl_eff ha44 rfl rfl rfl (op_alloc' rfl ti36 rfl) ?_
   rintro _ w46 ⟨rfl, he47, hb48, hz49⟩ a50 ha50; clear ha44 a44
   have hx51 := hx41.trans' he47
   have hzhx51 := he47.size
   replace hf20 := hf20.ext he47
   replace hf19 := hf19.ext he47
   replace hc29 := hc29.ext he47
   refine wl_effS ha50 rfl rfl (op_storeAll' ha50 rfl ti36 rfl rfl hb48 rfl rfl (by simp [Value.oneCell']) rfl) ?_
   rintro w52 ⟨hb54, hst53, hz55⟩
   have hx56 := hx51.stp hst53 (by intro q hq; cases hq; exact (by omega))
   have hzhx56 := hst53.size
   replace hf20 := hf20.stp hst53 (by intro q hq; cases hq; omega)
   replace hf19 := hf19.stp hst53 (by intro q hq; cases hq; omega)
   replace hc29 := hc29.stp hst53 (by intro q hq; cases hq; omega)
   clear hb48
   refine wl_val ha50 rfl rfl rfl (op_assign ha50 rfl rfl) ?_
   intro a57 ha57; clear ha50 a50
   refine wpList_nil ?_
   refine then_n ?_
   refine wp_seq ?_
   refine wp_seq ?_
   refine dr_enter Ext follows_mixed ?_
   intro w58 he59
   have hx60 := hx56.trans' he59
   have hzhx60 := he59.size
   replace hf20 := hf20.ext he59
   replace hf19 := hf19.ext he59
   replace hc29 := hc29.ext he59
   replace hb54 := hb54.ext he59
   have hs61 : Ext w58 w58 := Ext.rfl' _
   refine dr_val (i := 0) ha57 rfl (by kernel_rfl) (by kernel_rfl) (by kernel_rfl) rfl rfl rfl hs61 (fun w' hw' => op_move ha57 rfl rfl) ?_
   intro a62 ha62; clear ha57 a57
   refine dr_val (i := 1) ha62 rfl (by kernel_rfl) (by kernel_rfl) (by kernel_rfl) rfl rfl rfl hs61 (fun w' hw' => op_move ha62 rfl rfl) ?_
   intro a63 ha63; clear ha62 a62
   rcases Bool.eq_false_or_eq_true (rrB x25) with c64 | c64
   ·
    rw [c64] at ha63
    refine dr_val (i := 2) ha63 rfl (by kernel_rfl) (by kernel_rfl) (by kernel_rfl) rfl rfl rfl hs61 (fun w' hw' => op_move ha63 rfl rfl) ?_
    intro a65 ha65; clear ha63 a63
    refine dr_val (i := 3) ha65 rfl (by kernel_rfl) (by kernel_rfl) (by kernel_rfl) rfl rfl rfl hs61 (fun w' hw' => op_len_sl ha65 rfl Try.underlying25 rfl (hf19.rds pos_shRec)) ?_
    intro a66 ha66; clear ha65 a65
    refine dr_val (i := 4) ha66 rfl (by kernel_rfl) (by kernel_rfl) (by kernel_rfl) rfl rfl rfl hs61 (fun w' hw' => op_lss ha66 rfl rfl rfl) ?_
    intro a67 ha67; clear ha66 a66
    refine dr_val (i := 5) ha67 rfl (by kernel_rfl) (by kernel_rfl) (by kernel_rfl) rfl rfl rfl hs61 (fun w' hw' => op_pick_t ha67 rfl rfl rfl) ?_
    intro a68 ha68; clear ha67 a67
    refine dr_val (i := 6) ha68 rfl (by kernel_rfl) (by kernel_rfl) (by kernel_rfl) rfl rfl rfl hs61 (fun w' hw' => op_move ha68 rfl rfl) ?_
    intro a69 ha69; clear ha68 a68
    by_cases c70 : ((acc.length : Nat) : Int) < (30 : Int)
    ·
     rw [decide_eq_true c70] at ha69
     refine dr_val (i := 7) ha69 rfl (by kernel_rfl) (by kernel_rfl) (by kernel_rfl) rfl rfl rfl hs61 (fun w' hw' => op_move ha69 rfl rfl) ?_
     intro a71 ha71; clear ha69 a69
     refine dr_val (i := 8) ha71 rfl (by kernel_rfl) (by kernel_rfl) (by kernel_rfl) rfl rfl rfl hs61 (fun w' hw' => op_len_sl ha71 rfl Try.underlying25 rfl (hf19.rds pos_shRec)) ?_
     intro a72 ha72; clear ha71 a71
     refine dr_val (i := 9) ha72 rfl (by kernel_rfl) (by kernel_rfl) (by kernel_rfl) rfl rfl rfl hs61 (fun w' hw' => op_eql ha72 rfl rfl rfl) ?_
     intro a73 ha73; clear ha72 a72
     refine dr_val (i := 10) ha73 rfl (by kernel_rfl) (by kernel_rfl) (by kernel_rfl) rfl rfl rfl hs61 (fun w' hw' => op_move ha73 rfl rfl) ?_
     intro a74 ha74; clear ha73 a73
     by_cases c75 : ((acc.length : Nat) : Int) = (0 : Int)
     ·
      rw [decide_eq_true c75] at ha74
      refine dr_skip (i := 11) ha74 rfl (by kernel_rfl) (by kernel_rfl) (by kernel_rfl) rfl rfl rfl hs61 ?_
      intro a76 ha76; clear ha74 a74
      refine dr_skip (i := 12) ha76 rfl (by kernel_rfl) (by kernel_rfl) (by kernel_rfl) rfl rfl rfl hs61 ?_
      intro a77 ha77; clear ha76 a76
      refine dr_skip (i := 13) ha77 rfl (by kernel_rfl) (by kernel_rfl) (by kernel_rfl) rfl rfl rfl hs61 ?_
      intro a78 ha78; clear ha77 a77
      refine dr_skip (i := 14) ha78 rfl (by kernel_rfl) (by kernel_rfl) (by kernel_rfl) rfl rfl rfl hs61 ?_
      intro a79 ha79; clear ha78 a78
      refine dr_skip (i := 15) ha79 rfl (by kernel_rfl) (by kernel_rfl) (by kernel_rfl) rfl rfl rfl hs61 ?_
      intro a80 ha80; clear ha79 a79
      refine dr_skip (i := 16) ha80 rfl (by kernel_rfl) (by kernel_rfl) (by kernel_rfl) rfl rfl rfl hs61 ?_
      intro a81 ha81; clear ha80 a80
      refine dr_skip (i := 17) ha81 rfl (by kernel_rfl) (by kernel_rfl) (by kernel_rfl) rfl rfl rfl hs61 ?_
      intro a82 ha82; clear ha81 a81
      refine dr_skip (i := 18) ha82 rfl (by kernel_rfl) (by kernel_rfl) (by kernel_rfl) rfl rfl rfl hs61 ?_
      intro a83 ha83; clear ha82 a82
      refine dr_skip (i := 19) ha83 rfl (by kernel_rfl) (by kernel_rfl) (by kernel_rfl) rfl rfl rfl hs61 ?_
      intro a84 ha84; clear ha83 a83
      refine dr_skip (i := 20) ha84 rfl (by kernel_rfl) (by kernel_rfl) (by kernel_rfl) rfl rfl rfl hs61 ?_
      intro a85 ha85; clear ha84 a84
      refine dr_val (i := 21) ha85 rfl (by kernel_rfl) (by kernel_rfl) (by kernel_rfl) rfl rfl rfl hs61 (fun w' hw' => op_pick_t ha85 rfl rfl rfl) ?_
      intro a86 ha86; clear ha85 a85
      refine dr_val (i := 22) ha86 rfl (by kernel_rfl) (by kernel_rfl) (by kernel_rfl) rfl rfl rfl hs61 (fun w' hw' => op_pick_t ha86 rfl rfl rfl) ?_
      intro a87 ha87; clear ha86 a86
      refine dr_end (by kernel_rfl) ?_
      replace hf20 := hf20.ext hs61
      replace hf19 := hf19.ext hs61
      replace hc29 := hc29.ext hs61
      replace hb54 := hb54.ext hs61
      refine then_n ?_
      refine cond_t ha87 rfl ?_
      refine wp_region_lit ?_
      refine wl_val ha87 rfl rfl rfl (op_move ha87 rfl rfl) ?_
      intro a88 ha88; clear ha87 a87
      refine wl_val ha88 rfl rfl rfl (op_loadS ha88 rfl Try.underlying36 ti36 rfl rfl hb54.cells) ?_
      intro a89 ha89; clear ha88 a88
      refine wl_eff ha89 rfl rfl rfl (op_buildSlice (s := shRec) (xs := [(rrR x25)]) (cs := [.int .i64 ((rrR x25)).1, St (((rrR x25)).2)]) (vs := [(0, .agg #[.int .i64 ((rrR x25)).1, St (((rrR x25)).2)])]) (S := fun _ => False) (le := w58.heap.size) ha89 rfl pos_shRec Try.underlying25 ti36 rfl rfl (by decide) (by kernel_rfl) (Els.single (mk_shRec ((rrR x25)) (by first | assumption | omega | exact ⟨Int.le_trans (by decide) (rrR_bd _).1, Int.le_trans (rrR_bd _).2.1 (by decide)⟩ | exact Nat.le_trans (rrR_bd _).2.2 (by omega)) (by first | assumption | omega | exact ⟨Int.le_trans (by decide) (rrR_bd _).1, Int.le_trans (rrR_bd _).2.1 (by decide)⟩ | exact Nat.le_trans (rrR_bd _).2.2 (by omega)))) (fun _ h => h.elim)) ?_
      rintro v90 w91 ⟨ho92, he93, hob94⟩ a95 ha95; clear ha89 a89
      have hx96 := hx60.trans' he93
      have hzhx96 := he93.size
      replace hf20 := hf20.ext he93
      replace hf19 := hf19.ext he93
      replace hc29 := hc29.ext he93
      replace hb54 := hb54.ext he93
      refine wl_eff ha95 rfl rfl rfl (op_append (ts := #[]) (s := shRec) ha95 rfl Try.underlying25 ti36 rfl pos_shRec rfl rfl hf19 (ho92.rds pos_shRec) (by omega) (by omega) (by first | omega | (simp; omega)) (by first | omega | (simp; omega)) (.inl flat_shRec)) ?_
      rintro v97 w98 ⟨ho99, hst100, hob101⟩ a102 ha102; clear ha95 a95
      have hx103 := hx96.stp hst100 (by intro q hq; have hq0 := hf19.lt q hq; omega)
      have hzhx103 := hst100.size
      replace hf20 := hf20.stp hst100 (by intro q hq; have hq0 := hf19.lt q hq; omega)
      replace hb54 := hb54.stp hst100 (by intro q hq; have hq0 := hf19.lt q hq; omega)
      replace ho92 := ho92.stp hst100 (by intro q hq; have hq0 := hf19.lt q hq; omega)
      have hsp104 : ∀ q, Value.ownBlock v97 = some q → q ≠ w38.heap.size := by intro q hq; have hq0 := hb54.lt; rcases hob101 with h | h; (rw [h] at hq; first | (have hq1 := hf19.lt q hq; omega)); (rw [h] at hq; cases hq; omega)
      have hsp105 : ∀ q, Value.ownBlock v97 = some q → Value.ownBlock v90 ≠ some q := by intro q hq hb; have hq0 := ho92.lt q hb; rcases hob101 with h | h; (rw [h] at hq; first | (have hq1 := hf19.lt q hq; omega)); (rw [h] at hq; cases hq; omega)
      refine wl_val ha102 rfl rfl rfl (op_assign ha102 rfl rfl) ?_
      intro a106 ha106; clear ha102 a102
      refine wpList_nil ?_
      refine then_n ?_
      refine wp_region_lit ?_
      refine wl_val ha106 rfl rfl rfl (op_move ha106 rfl rfl) ?_
      intro a107 ha107; clear ha106 a106
      refine wl_val ha107 rfl rfl rfl (op_move ha107 rfl rfl) ?_
      intro a108 ha108; clear ha107 a107
      refine wl_val ha108 rfl rfl rfl (op_len_str ha108 rfl Try.underlying9 rfl) ?_
      intro a109 ha109; clear ha108 a108
      refine wl_val ha109 rfl rfl rfl ((op_add ha109 rfl rfl rfl).int (IntWalk.i64_in _ (by omega))) ?_
      intro a110 ha110; clear ha109 a109
      refine wl_val ha110 rfl rfl rfl (op_assign ha110 rfl rfl) ?_
      intro a111 ha111; clear ha110 a110
      refine wpList_nil ?_
      refine block_n ?_
      refine then_n ?_
      refine wp_region_lit ?_
      refine wl_val ha111 rfl rfl rfl ((op_add ha111 rfl rfl rfl).int (IntWalk.i64_in _ (by omega))) ?_
      intro a112 ha112; clear ha111 a111
      refine wl_val ha112 rfl rfl rfl (op_move ha112 rfl rfl) ?_
      intro a113 ha113; clear ha112 a112
      refine wpList_nil ?_
      refine round_end (x := (i, l, f, a, v, acc)) ((i + 1), l, f, (a + ((x25.length : Nat) : Int)), v97, (acc ++ [(rrR x25)])) ?_ ?_
      ·
       refine ⟨(Sl.cons_ ha113 rfl rfl (Sl.cons_ ha113 rfl (int_eq (by omega)) (Sl.cons_ ha113 rfl (int_eq (by omega)) (Sl.cons_ ha113 rfl (int_eq (by omega)) (Sl.cons_ ha113 rfl rfl (Sl.cons_ ha113 rfl rfl (Sl.cons_ ha113 rfl (int_eq (by omega)) (Sl.nil_ ha113)))))))), hx103, hf20, (ho99.fin (by omega) (by omega) (by omega)), (by omega), (by omega), (by omega), (by omega), (by omega), (by omega), (by first | omega | (simp; omega)), (by rw [drop_cons hx25, sal_take c64 (by omega) (.inl (by omega))] at hF; exact hF)⟩
      ·show ((pcS s).length - ((i + 1)) : Nat) < (pcS s).length - i; omega
     ·
      rw [decide_eq_false c75] at ha74
      refine dr_val (i := 11) ha74 rfl (by kernel_rfl) (by kernel_rfl) (by kernel_rfl) rfl rfl rfl hs61 (fun w' hw' => op_move ha74 rfl rfl) ?_
      intro a114 ha114; clear ha74 a74
      refine dr_val (i := 12) ha114 rfl (by kernel_rfl) (by kernel_rfl) (by kernel_rfl) rfl rfl rfl hs61 (fun w' hw' => op_move ha114 rfl rfl) ?_
      intro a115 ha115; clear ha114 a114
      refine dr_val (i := 13) ha115 rfl (by kernel_rfl) (by kernel_rfl) (by kernel_rfl) rfl rfl rfl hs61 (fun w' hw' => op_len_sl ha115 rfl Try.underlying25 rfl (hf19.rds pos_shRec)) ?_
      intro a116 ha116; clear ha115 a115
      refine dr_val (i := 14) ha116 rfl (by kernel_rfl) (by kernel_rfl) (by kernel_rfl) rfl rfl rfl hs61 (fun w' hw' => (op_sub ha116 rfl rfl rfl).int (IntWalk.i64_in _ (by omega))) ?_
      intro a117 ha117; clear ha116 a116
      obtain ⟨x118, hx118⟩ := get_ex (xs := acc) (j := (acc.length - 1)) (by omega)
      obtain ⟨p119, c120, hi121, hc122, hr123, hs124⟩ := Rds.at_ (hf19.rds pos_shRec) hx118
      obtain ⟨rfl, b125, b126⟩ := inv_shRec hr123
      obtain ⟨_, _⟩ : _ ∧ _ := hs124
      refine dr_val (i := 15) ha117 rfl (by kernel_rfl) (by kernel_rfl) (by kernel_rfl) rfl rfl rfl hs61 (fun w' hw' => op_indexAddr ha117 rfl Try.underlying25 ti36 rfl rfl (by omega) hi121) ?_
      intro a127 ha127; clear ha117 a117
      refine dr_val (i := 16) ha127 rfl (by kernel_rfl) (by kernel_rfl) (by kernel_rfl) rfl rfl rfl hs61 (fun w' hw' => op_fieldAddr (sz := 0) ha127 rfl Try.underlying36 rfl rfl ti2 rfl) ?_
      intro a128 ha128; clear ha127 a127
      refine dr_val (i := 17) ha128 rfl (by kernel_rfl) (by kernel_rfl) (by kernel_rfl) rfl rfl rfl hs61 (fun w' hw' => op_loadF (off := 0) ha128 rfl Try.underlying2 rfl rfl (hc122.ext hw') rfl) ?_
      intro a129 ha129; clear ha128 a128
      refine dr_val (i := 18) ha129 rfl (by kernel_rfl) (by kernel_rfl) (by kernel_rfl) rfl rfl rfl hs61 (fun w' hw' => op_fieldAddr (sz := 0) ha129 rfl Try.underlying36 rfl rfl ti2 rfl) ?_
      intro a130 ha130; clear ha129 a129
      refine dr_val (i := 19) ha130 rfl (by kernel_rfl) (by kernel_rfl) (by kernel_rfl) rfl rfl rfl hs61 (fun w' hw' => op_loadF (off := 0) ha130 rfl Try.underlying2 rfl rfl (hb54.ext hw').cells rfl) ?_
      intro a131 ha131; clear ha130 a130
      refine dr_val (i := 20) ha131 rfl (by kernel_rfl) (by kernel_rfl) (by kernel_rfl) rfl rfl rfl hs61 (fun w' hw' => op_lss ha131 rfl rfl rfl) ?_
      intro a132 ha132; clear ha131 a131
      refine dr_val (i := 21) ha132 rfl (by kernel_rfl) (by kernel_rfl) (by kernel_rfl) rfl rfl rfl hs61 (fun w' hw' => op_pick_f ha132 rfl rfl rfl) ?_
      intro a133 ha133; clear ha132 a132
      refine dr_val (i := 22) ha133 rfl (by kernel_rfl) (by kernel_rfl) (by kernel_rfl) rfl rfl rfl hs61 (fun w' hw' => op_pick_t ha133 rfl rfl rfl) ?_
      intro a134 ha134; clear ha133 a133
      refine dr_end (by kernel_rfl) ?_
      replace hf20 := hf20.ext hs61
      replace hf19 := hf19.ext hs61
      replace hc29 := hc29.ext hs61
      replace hb54 := hb54.ext hs61
      replace hc122 := hc122.ext hs61
      refine then_n ?_
      by_cases c135 : x118.1 < ((rrR x25)).1
      ·
       rw [decide_eq_true c135] at ha134
       refine cond_t ha134 rfl ?_
       refine wp_region_lit ?_
       refine wl_val ha134 rfl rfl rfl (op_move ha134 rfl rfl) ?_
       intro a136 ha136; clear ha134 a134
       refine wl_val ha136 rfl rfl rfl (op_loadS ha136 rfl Try.underlying36 ti36 rfl rfl hb54.cells) ?_
       intro a137 ha137; clear ha136 a136
       refine wl_eff ha137 rfl rfl rfl (op_buildSlice (s := shRec) (xs := [(rrR x25)]) (cs := [.int .i64 ((rrR x25)).1, St (((rrR x25)).2)]) (vs := [(0, .agg #[.int .i64 ((rrR x25)).1, St (((rrR x25)).2)])]) (S := fun _ => False) (le := w58.heap.size) ha137 rfl pos_shRec Try.underlying25 ti36 rfl rfl (by decide) (by kernel_rfl) (Els.single (mk_shRec ((rrR x25)) (by first | assumption | omega | exact ⟨Int.le_trans (by decide) (rrR_bd _).1, Int.le_trans (rrR_bd _).2.1 (by decide)⟩ | exact Nat.le_trans (rrR_bd _).2.2 (by omega)) (by first | assumption | omega | exact ⟨Int.le_trans (by decide) (rrR_bd _).1, Int.le_trans (rrR_bd _).2.1 (by decide)⟩ | exact Nat.le_trans (rrR_bd _).2.2 (by omega)))) (fun _ h => h.elim)) ?_
       rintro v138 w139 ⟨ho140, he141, hob142⟩ a143 ha143; clear ha137 a137
       have hx144 := hx60.trans' he141
       have hzhx144 := he141.size
       replace hf20 := hf20.ext he141
       replace hf19 := hf19.ext he141
       replace hc29 := hc29.ext he141
       replace hb54 := hb54.ext he141
       replace hc122 := hc122.ext he141
       refine wl_eff ha143 rfl rfl rfl (op_append (ts := #[]) (s := shRec) ha143 rfl Try.underlying25 ti36 rfl pos_shRec rfl rfl hf19 (ho140.rds pos_shRec) (by omega) (by omega) (by first | omega | (simp; omega)) (by first | omega | (simp; omega)) (.inl flat_shRec)) ?_
       rintro v145 w146 ⟨ho147, hst148, hob149⟩ a150 ha150; clear ha143 a143
       have hx151 := hx144.stp hst148 (by intro q hq; have hq0 := hf19.lt q hq; omega)
       have hzhx151 := hst148.size
       replace hf20 := hf20.stp hst148 (by intro q hq; have hq0 := hf19.lt q hq; omega)
       replace hb54 := hb54.stp hst148 (by intro q hq; have hq0 := hf19.lt q hq; omega)
       replace ho140 := ho140.stp hst148 (by intro q hq; have hq0 := hf19.lt q hq; omega)
       have hsp152 : ∀ q, Value.ownBlock v145 = some q → q ≠ w38.heap.size := by intro q hq; have hq0 := hb54.lt; rcases hob149 with h | h; (rw [h] at hq; first | (have hq1 := hf19.lt q hq; omega)); (rw [h] at hq; cases hq; omega)
       have hsp153 : ∀ q, Value.ownBlock v145 = some q → Value.ownBlock v138 ≠ some q := by intro q hq hb; have hq0 := ho140.lt q hb; rcases hob149 with h | h; (rw [h] at hq; first | (have hq1 := hf19.lt q hq; omega)); (rw [h] at hq; cases hq; omega)
       refine wl_val ha150 rfl rfl rfl (op_assign ha150 rfl rfl) ?_
       intro a154 ha154; clear ha150 a150
       refine wpList_nil ?_
       refine then_n ?_
       refine wp_region_lit ?_
       refine wl_val ha154 rfl rfl rfl (op_move ha154 rfl rfl) ?_
       intro a155 ha155; clear ha154 a154
       refine wl_val ha155 rfl rfl rfl (op_move ha155 rfl rfl) ?_
       intro a156 ha156; clear ha155 a155
       refine wl_val ha156 rfl rfl rfl (op_len_str ha156 rfl Try.underlying9 rfl) ?_
       intro a157 ha157; clear ha156 a156
       refine wl_val ha157 rfl rfl rfl ((op_add ha157 rfl rfl rfl).int (IntWalk.i64_in _ (by omega))) ?_
       intro a158 ha158; clear ha157 a157
       refine wl_val ha158 rfl rfl rfl (op_assign ha158 rfl rfl) ?_
       intro a159 ha159; clear ha158 a158
       refine wpList_nil ?_
       refine block_n ?_
       refine then_n ?_
       refine wp_region_lit ?_
       refine wl_val ha159 rfl rfl rfl ((op_add ha159 rfl rfl rfl).int (IntWalk.i64_in _ (by omega))) ?_
       intro a160 ha160; clear ha159 a159
       refine wl_val ha160 rfl rfl rfl (op_move ha160 rfl rfl) ?_
       intro a161 ha161; clear ha160 a160
       refine wpList_nil ?_
       refine round_end (x := (i, l, f, a, v, acc)) ((i + 1), l, f, (a + ((x25.length : Nat) : Int)), v145, (acc ++ [(rrR x25)])) ?_ ?_
       ·
        refine ⟨(Sl.cons_ ha161 rfl rfl (Sl.cons_ ha161 rfl (int_eq (by omega)) (Sl.cons_ ha161 rfl (int_eq (by omega)) (Sl.cons_ ha161 rfl (int_eq (by omega)) (Sl.cons_ ha161 rfl rfl (Sl.cons_ ha161 rfl rfl (Sl.cons_ ha161 rfl (int_eq (by omega)) (Sl.nil_ ha161)))))))), hx151, hf20, (ho147.fin (by omega) (by omega) (by omega)), (by omega), (by omega), (by omega), (by omega), (by omega), (by omega), (by first | omega | (simp; omega)), (by rw [drop_cons hx25, sal_take c64 (by omega) (.inr ⟨_, hx118, c135⟩)] at hF; exact hF)⟩
       ·show ((pcS s).length - ((i + 1)) : Nat) < (pcS s).length - i; omega
      ·
       rw [decide_eq_false c135] at ha134
       refine cond_f ha134 rfl ?_
       refine wp_seq ?_
       refine wp_region_lit ?_
       refine wl_val ha134 rfl rfl rfl (op_move ha134 rfl rfl) ?_
       intro a162 ha162; clear ha134 a134
       refine wl_val ha162 rfl rfl rfl ((op_add ha162 rfl rfl rfl).int (IntWalk.i64_in _ (by omega))) ?_
       intro a163 ha163; clear ha162 a162
       refine wl_val ha163 rfl rfl rfl (op_assign ha163 rfl rfl) ?_
       intro a164 ha164; clear ha163 a163
       refine wpList_nil ?_
       refine then_n ?_
       refine wp_seq ?_
       refine wp_region_lit ?_
       refine wl_val ha164 rfl rfl rfl (op_move ha164 rfl rfl) ?_
       intro a165 ha165; clear ha164 a164
       refine wl_val ha165 rfl rfl rfl (op_lss ha165 rfl rfl rfl) ?_
       intro a166 ha166; clear ha165 a165
       refine wpList_nil ?_
       refine then_n ?_
       by_cases c167 : f < (0 : Int)
       ·
        rw [decide_eq_true c167] at ha166
        refine cond_t ha166 rfl ?_
        refine wp_region_lit ?_
        refine wl_val ha166 rfl rfl rfl (op_move ha166 rfl rfl) ?_
        intro a168 ha168; clear ha166 a166
        refine wl_val ha168 rfl rfl rfl (op_assign ha168 rfl rfl) ?_
        intro a169 ha169; clear ha168 a168
        refine wpList_nil ?_
        refine then_n ?_
        refine wp_region_lit ?_
        refine wl_val ha169 rfl rfl rfl (op_move ha169 rfl rfl) ?_
        intro a170 ha170; clear ha169 a169
        refine wl_val ha170 rfl rfl rfl (op_move ha170 rfl rfl) ?_
        intro a171 ha171; clear ha170 a170
        refine wl_val ha171 rfl rfl rfl (op_len_str ha171 rfl Try.underlying9 rfl) ?_
        intro a172 ha172; clear ha171 a171
        refine wl_val ha172 rfl rfl rfl ((op_add ha172 rfl rfl rfl).int (IntWalk.i64_in _ (by omega))) ?_
        intro a173 ha173; clear ha172 a172
        refine wl_val ha173 rfl rfl rfl (op_assign ha173 rfl rfl) ?_
        intro a174 ha174; clear ha173 a173
        refine wpList_nil ?_
        refine block_n ?_
        refine then_n ?_
        refine wp_region_lit ?_
        refine wl_val ha174 rfl rfl rfl ((op_add ha174 rfl rfl rfl).int (IntWalk.i64_in _ (by omega))) ?_
        intro a175 ha175; clear ha174 a174
        refine wl_val ha175 rfl rfl rfl (op_move ha175 rfl rfl) ?_
        intro a176 ha176; clear ha175 a175
        refine wpList_nil ?_
        refine round_end (x := (i, l, f, a, v, acc)) ((i + 1), (l + (1 : Int)), a, (a + ((x25.length : Nat) : Int)), v, acc) ?_ ?_
        ·
         refine ⟨(Sl.cons_ ha176 rfl rfl (Sl.cons_ ha176 rfl (int_eq (by omega)) (Sl.cons_ ha176 rfl (int_eq (by omega)) (Sl.cons_ ha176 rfl (int_eq (by omega)) (Sl.cons_ ha176 rfl rfl (Sl.cons_ ha176 rfl rfl (Sl.cons_ ha176 rfl (int_eq (by omega)) (Sl.nil_ ha176)))))))), hx60, hf20, (hf19.fin (by omega) (by omega) (by omega)), (by omega), (by omega), (by omega), (by omega), (by omega), (by omega), (by first | omega | (simp; omega)), (by rw [drop_cons hx25, sal_skip (.inr (.inr ⟨_, hx118, c135⟩))] at hF; rw [if_pos (by omega)] at hF; exact hF)⟩
        ·show ((pcS s).length - ((i + 1)) : Nat) < (pcS s).length - i; omega
       ·
        rw [decide_eq_false c167] at ha166
        refine cond_f ha166 rfl ?_
        refine wp_skip ?_
        refine then_n ?_
        refine wp_region_lit ?_
        refine wl_val ha166 rfl rfl rfl (op_move ha166 rfl rfl) ?_
        intro a177 ha177; clear ha166 a166
        refine wl_val ha177 rfl rfl rfl (op_move ha177 rfl rfl) ?_
        intro a178 ha178; clear ha177 a177
        refine wl_val ha178 rfl rfl rfl (op_len_str ha178 rfl Try.underlying9 rfl) ?_
        intro a179 ha179; clear ha178 a178
        refine wl_val ha179 rfl rfl rfl ((op_add ha179 rfl rfl rfl).int (IntWalk.i64_in _ (by omega))) ?_
        intro a180 ha180; clear ha179 a179
        refine wl_val ha180 rfl rfl rfl (op_assign ha180 rfl rfl) ?_
        intro a181 ha181; clear ha180 a180
        refine wpList_nil ?_
        refine block_n ?_
        refine then_n ?_
        refine wp_region_lit ?_
        refine wl_val ha181 rfl rfl rfl ((op_add ha181 rfl rfl rfl).int (IntWalk.i64_in _ (by omega))) ?_
        intro a182 ha182; clear ha181 a181
        refine wl_val ha182 rfl rfl rfl (op_move ha182 rfl rfl) ?_
        intro a183 ha183; clear ha182 a182
        refine wpList_nil ?_
        refine round_end (x := (i, l, f, a, v, acc)) ((i + 1), (l + (1 : Int)), f, (a + ((x25.length : Nat) : Int)), v, acc) ?_ ?_
        ·
         refine ⟨(Sl.cons_ ha183 rfl rfl (Sl.cons_ ha183 rfl (int_eq (by omega)) (Sl.cons_ ha183 rfl (int_eq (by omega)) (Sl.cons_ ha183 rfl (int_eq (by omega)) (Sl.cons_ ha183 rfl rfl (Sl.cons_ ha183 rfl rfl (Sl.cons_ ha183 rfl (int_eq (by omega)) (Sl.nil_ ha183)))))))), hx60, hf20, (hf19.fin (by omega) (by omega) (by omega)), (by omega), (by omega), (by omega), (by omega), (by omega), (by omega), (by first | omega | (simp; omega)), (by rw [drop_cons hx25, sal_skip (.inr (.inr ⟨_, hx118, c135⟩))] at hF; rw [if_neg (by omega)] at hF; exact hF)⟩
        ·show ((pcS s).length - ((i + 1)) : Nat) < (pcS s).length - i; omega
    ·
     rw [decide_eq_false c70] at ha69
     refine dr_skip (i := 7) ha69 rfl (by kernel_rfl) (by kernel_rfl) (by kernel_rfl) rfl rfl rfl hs61 ?_
     intro a184 ha184; clear ha69 a69
     refine dr_skip (i := 8) ha184 rfl (by kernel_rfl) (by kernel_rfl) (by kernel_rfl) rfl rfl rfl hs61 ?_
     intro a185 ha185; clear ha184 a184
     refine dr_skip (i := 9) ha185 rfl (by kernel_rfl) (by kernel_rfl) (by kernel_rfl) rfl rfl rfl hs61 ?_
     intro a186 ha186; clear ha185 a185
     refine dr_skip (i := 10) ha186 rfl (by kernel_rfl) (by kernel_rfl) (by kernel_rfl) rfl rfl rfl hs61 ?_
     intro a187 ha187; clear ha186 a186
     refine dr_skip (i := 11) ha187 rfl (by kernel_rfl) (by kernel_rfl) (by kernel_rfl) rfl rfl rfl hs61 ?_
     intro a188 ha188; clear ha187 a187
     refine dr_skip (i := 12) ha188 rfl (by kernel_rfl) (by kernel_rfl) (by kernel_rfl) rfl rfl rfl hs61 ?_
     intro a189 ha189; clear ha188 a188
     refine dr_skip (i := 13) ha189 rfl (by kernel_rfl) (by kernel_rfl) (by kernel_rfl) rfl rfl rfl hs61 ?_
     intro a190 ha190; clear ha189 a189
     refine dr_skip (i := 14) ha190 rfl (by kernel_rfl) (by kernel_rfl) (by kernel_rfl) rfl rfl rfl hs61 ?_
     intro a191 ha191; clear ha190 a190
     refine dr_skip (i := 15) ha191 rfl (by kernel_rfl) (by kernel_rfl) (by kernel_rfl) rfl rfl rfl hs61 ?_
     intro a192 ha192; clear ha191 a191
     refine dr_skip (i := 16) ha192 rfl (by kernel_rfl) (by kernel_rfl) (by kernel_rfl) rfl rfl rfl hs61 ?_
     intro a193 ha193; clear ha192 a192
     refine dr_skip (i := 17) ha193 rfl (by kernel_rfl) (by kernel_rfl) (by kernel_rfl) rfl rfl rfl hs61 ?_
     intro a194 ha194; clear ha193 a193
     refine dr_skip (i := 18) ha194 rfl (by kernel_rfl) (by kernel_rfl) (by kernel_rfl) rfl rfl rfl hs61 ?_
     intro a195 ha195; clear ha194 a194
     refine dr_skip (i := 19) ha195 rfl (by kernel_rfl) (by kernel_rfl) (by kernel_rfl) rfl rfl rfl hs61 ?_
     intro a196 ha196; clear ha195 a195
     refine dr_skip (i := 20) ha196 rfl (by kernel_rfl) (by kernel_rfl) (by kernel_rfl) rfl rfl rfl hs61 ?_
     intro a197 ha197; clear ha196 a196
     refine dr_skip (i := 21) ha197 rfl (by kernel_rfl) (by kernel_rfl) (by kernel_rfl) rfl rfl rfl hs61 ?_
     intro a198 ha198; clear ha197 a197
     refine dr_val (i := 22) ha198 rfl (by kernel_rfl) (by kernel_rfl) (by kernel_rfl) rfl rfl rfl hs61 (fun w' hw' => op_pick_f ha198 rfl rfl rfl) ?_
     intro a199 ha199; clear ha198 a198
     refine dr_end (by kernel_rfl) ?_
     replace hf20 := hf20.ext hs61
     replace hf19 := hf19.ext hs61
     replace hc29 := hc29.ext hs61
     replace hb54 := hb54.ext hs61
     refine then_n ?_
     refine cond_f ha199 rfl ?_
     refine wp_seq ?_
     refine wp_region_lit ?_
     refine wl_val ha199 rfl rfl rfl (op_move ha199 rfl rfl) ?_
     intro a200 ha200; clear ha199 a199
     refine wl_val ha200 rfl rfl rfl ((op_add ha200 rfl rfl rfl).int (IntWalk.i64_in _ (by omega))) ?_
     intro a201 ha201; clear ha200 a200
     refine wl_val ha201 rfl rfl rfl (op_assign ha201 rfl rfl) ?_
     intro a202 ha202; clear ha201 a201
     refine wpList_nil ?_
     refine then_n ?_
     refine wp_seq ?_
     refine wp_region_lit ?_
     refine wl_val ha202 rfl rfl rfl (op_move ha202 rfl rfl) ?_
     intro a203 ha203; clear ha202 a202
     refine wl_val ha203 rfl rfl rfl (op_lss ha203 rfl rfl rfl) ?_
     intro a204 ha204; clear ha203 a203
     refine wpList_nil ?_
     refine then_n ?_
     by_cases c205 : f < (0 : Int)
     ·
      rw [decide_eq_true c205] at ha204
      refine cond_t ha204 rfl ?_
      refine wp_region_lit ?_
      refine wl_val ha204 rfl rfl rfl (op_move ha204 rfl rfl) ?_
      intro a206 ha206; clear ha204 a204
      refine wl_val ha206 rfl rfl rfl (op_assign ha206 rfl rfl) ?_
      intro a207 ha207; clear ha206 a206
      refine wpList_nil ?_
      refine then_n ?_
      refine wp_region_lit ?_
      refine wl_val ha207 rfl rfl rfl (op_move ha207 rfl rfl) ?_
      intro a208 ha208; clear ha207 a207
      refine wl_val ha208 rfl rfl rfl (op_move ha208 rfl rfl) ?_
      intro a209 ha209; clear ha208 a208
      refine wl_val ha209 rfl rfl rfl (op_len_str ha209 rfl Try.underlying9 rfl) ?_
      intro a210 ha210; clear ha209 a209
      refine wl_val ha210 rfl rfl rfl ((op_add ha210 rfl rfl rfl).int (IntWalk.i64_in _ (by omega))) ?_
      intro a211 ha211; clear ha210 a210
      refine wl_val ha211 rfl rfl rfl (op_assign ha211 rfl rfl) ?_
      intro a212 ha212; clear ha211 a211
      refine wpList_nil ?_
      refine block_n ?_
      refine then_n ?_
      refine wp_region_lit ?_
      refine wl_val ha212 rfl rfl rfl ((op_add ha212 rfl rfl rfl).int (IntWalk.i64_in _ (by omega))) ?_
      intro a213 ha213; clear ha212 a212
      refine wl_val ha213 rfl rfl rfl (op_move ha213 rfl rfl) ?_
      intro a214 ha214; clear ha213 a213
      refine wpList_nil ?_
      refine round_end (x := (i, l, f, a, v, acc)) ((i + 1), (l + (1 : Int)), a, (a + ((x25.length : Nat) : Int)), v, acc) ?_ ?_
      ·
       refine ⟨(Sl.cons_ ha214 rfl rfl (Sl.cons_ ha214 rfl (int_eq (by omega)) (Sl.cons_ ha214 rfl (int_eq (by omega)) (Sl.cons_ ha214 rfl (int_eq (by omega)) (Sl.cons_ ha214 rfl rfl (Sl.cons_ ha214 rfl rfl (Sl.cons_ ha214 rfl (int_eq (by omega)) (Sl.nil_ ha214)))))))), hx60, hf20, (hf19.fin (by omega) (by omega) (by omega)), (by omega), (by omega), (by omega), (by omega), (by omega), (by omega), (by first | omega | (simp; omega)), (by rw [drop_cons hx25, sal_skip (.inr (.inl (by omega)))] at hF; rw [if_pos (by omega)] at hF; exact hF)⟩
      ·show ((pcS s).length - ((i + 1)) : Nat) < (pcS s).length - i; omega
     ·
      rw [decide_eq_false c205] at ha204
      refine cond_f ha204 rfl ?_
      refine wp_skip ?_
      refine then_n ?_
      refine wp_region_lit ?_
      refine wl_val ha204 rfl rfl rfl (op_move ha204 rfl rfl) ?_
      intro a215 ha215; clear ha204 a204
      refine wl_val ha215 rfl rfl rfl (op_move ha215 rfl rfl) ?_
      intro a216 ha216; clear ha215 a215
      refine wl_val ha216 rfl rfl rfl (op_len_str ha216 rfl Try.underlying9 rfl) ?_
      intro a217 ha217; clear ha216 a216
      refine wl_val ha217 rfl rfl rfl ((op_add ha217 rfl rfl rfl).int (IntWalk.i64_in _ (by omega))) ?_
      intro a218 ha218; clear ha217 a217
      refine wl_val ha218 rfl rfl rfl (op_assign ha218 rfl rfl) ?_
      intro a219 ha219; clear ha218 a218
      refine wpList_nil ?_
      refine block_n ?_
      refine then_n ?_
      refine wp_region_lit ?_
      refine wl_val ha219 rfl rfl rfl ((op_add ha219 rfl rfl rfl).int (IntWalk.i64_in _ (by omega))) ?_
      intro a220 ha220; clear ha219 a219
      refine wl_val ha220 rfl rfl rfl (op_move ha220 rfl rfl) ?_
      intro a221 ha221; clear ha220 a220
      refine wpList_nil ?_
      refine round_end (x := (i, l, f, a, v, acc)) ((i + 1), (l + (1 : Int)), f, (a + ((x25.length : Nat) : Int)), v, acc) ?_ ?_
      ·
       refine ⟨(Sl.cons_ ha221 rfl rfl (Sl.cons_ ha221 rfl (int_eq (by omega)) (Sl.cons_ ha221 rfl (int_eq (by omega)) (Sl.cons_ ha221 rfl (int_eq (by omega)) (Sl.cons_ ha221 rfl rfl (Sl.cons_ ha221 rfl rfl (Sl.cons_ ha221 rfl (int_eq (by omega)) (Sl.nil_ ha221)))))))), hx60, hf20, (hf19.fin (by omega) (by omega) (by omega)), (by omega), (by omega), (by omega), (by omega), (by omega), (by omega), (by first | omega | (simp; omega)), (by rw [drop_cons hx25, sal_skip (.inr (.inl (by omega)))] at hF; rw [if_neg (by omega)] at hF; exact hF)⟩
      ·show ((pcS s).length - ((i + 1)) : Nat) < (pcS s).length - i; omega
   ·
    rw [c64] at ha63
    refine dr_skip (i := 2) ha63 rfl (by kernel_rfl) (by kernel_rfl) (by kernel_rfl) rfl rfl rfl hs61 ?_
    intro a222 ha222; clear ha63 a63
    refine dr_skip (i := 3) ha222 rfl (by kernel_rfl) (by kernel_rfl) (by kernel_rfl) rfl rfl rfl hs61 ?_
    intro a223 ha223; clear ha222 a222
    refine dr_skip (i := 4) ha223 rfl (by kernel_rfl) (by kernel_rfl) (by kernel_rfl) rfl rfl rfl hs61 ?_
    intro a224 ha224; clear ha223 a223
    refine dr_val (i := 5) ha224 rfl (by kernel_rfl) (by kernel_rfl) (by kernel_rfl) rfl rfl rfl hs61 (fun w' hw' => op_pick_f ha224 rfl rfl rfl) ?_
    intro a225 ha225; clear ha224 a224
    refine dr_val (i := 6) ha225 rfl (by kernel_rfl) (by kernel_rfl) (by kernel_rfl) rfl rfl rfl hs61 (fun w' hw' => op_move ha225 rfl rfl) ?_
    intro a226 ha226; clear ha225 a225
    refine dr_skip (i := 7) ha226 rfl (by kernel_rfl) (by kernel_rfl) (by kernel_rfl) rfl rfl rfl hs61 ?_
    intro a227 ha227; clear ha226 a226
    refine dr_skip (i := 8) ha227 rfl (by kernel_rfl) (by kernel_rfl) (by kernel_rfl) rfl rfl rfl hs61 ?_
    intro a228 ha228; clear ha227 a227
    refine dr_skip (i := 9) ha228 rfl (by kernel_rfl) (by kernel_rfl) (by kernel_rfl) rfl rfl rfl hs61 ?_
    intro a229 ha229; clear ha228 a228
    refine dr_skip (i := 10) ha229 rfl (by kernel_rfl) (by kernel_rfl) (by kernel_rfl) rfl rfl rfl hs61 ?_
    intro a230 ha230; clear ha229 a229
    refine dr_skip (i := 11) ha230 rfl (by kernel_rfl) (by kernel_rfl) (by kernel_rfl) rfl rfl rfl hs61 ?_
    intro a231 ha231; clear ha230 a230
    refine dr_skip (i := 12) ha231 rfl (by kernel_rfl) (by kernel_rfl) (by kernel_rfl) rfl rfl rfl hs61 ?_
    intro a232 ha232; clear ha231 a231
    refine dr_skip (i := 13) ha232 rfl (by kernel_rfl) (by kernel_rfl) (by kernel_rfl) rfl rfl rfl hs61 ?_
    intro a233 ha233; clear ha232 a232
    refine dr_skip (i := 14) ha233 rfl (by kernel_rfl) (by kernel_rfl) (by kernel_rfl) rfl rfl rfl hs61 ?_
    intro a234 ha234; clear ha233 a233
    refine dr_skip (i := 15) ha234 rfl (by kernel_rfl) (by kernel_rfl) (by kernel_rfl) rfl rfl rfl hs61 ?_
    intro a235 ha235; clear ha234 a234
    refine dr_skip (i := 16) ha235 rfl (by kernel_rfl) (by kernel_rfl) (by kernel_rfl) rfl rfl rfl hs61 ?_
    intro a236 ha236; clear ha235 a235
    refine dr_skip (i := 17) ha236 rfl (by kernel_rfl) (by kernel_rfl) (by kernel_rfl) rfl rfl rfl hs61 ?_
    intro a237 ha237; clear ha236 a236
    refine dr_skip (i := 18) ha237 rfl (by kernel_rfl) (by kernel_rfl) (by kernel_rfl) rfl rfl rfl hs61 ?_
    intro a238 ha238; clear ha237 a237
    refine dr_skip (i := 19) ha238 rfl (by kernel_rfl) (by kernel_rfl) (by kernel_rfl) rfl rfl rfl hs61 ?_
    intro a239 ha239; clear ha238 a238
    refine dr_skip (i := 20) ha239 rfl (by kernel_rfl) (by kernel_rfl) (by kernel_rfl) rfl rfl rfl hs61 ?_
    intro a240 ha240; clear ha239 a239
    refine dr_skip (i := 21) ha240 rfl (by kernel_rfl) (by kernel_rfl) (by kernel_rfl) rfl rfl rfl hs61 ?_
    intro a241 ha241; clear ha240 a240
    refine dr_val (i := 22) ha241 rfl (by kernel_rfl) (by kernel_rfl) (by kernel_rfl) rfl rfl rfl hs61 (fun w' hw' => op_pick_f ha241 rfl rfl rfl) ?_
    intro a242 ha242; clear ha241 a241
    refine dr_end (by kernel_rfl) ?_
    replace hf20 := hf20.ext hs61
    replace hf19 := hf19.ext hs61
    replace hc29 := hc29.ext hs61
    replace hb54 := hb54.ext hs61
    refine then_n ?_
    refine cond_f ha242 rfl ?_
    refine wp_seq ?_
    refine wp_region_lit ?_
    refine wl_val ha242 rfl rfl rfl (op_move ha242 rfl rfl) ?_
    intro a243 ha243; clear ha242 a242
    refine wl_val ha243 rfl rfl rfl ((op_add ha243 rfl rfl rfl).int (IntWalk.i64_in _ (by omega))) ?_
    intro a244 ha244; clear ha243 a243
    refine wl_val ha244 rfl rfl rfl (op_assign ha244 rfl rfl) ?_
    intro a245 ha245; clear ha244 a244
    refine wpList_nil ?_
    refine then_n ?_
    refine wp_seq ?_
    refine wp_region_lit ?_
    refine wl_val ha245 rfl rfl rfl (op_move ha245 rfl rfl) ?_
    intro a246 ha246; clear ha245 a245
    refine wl_val ha246 rfl rfl rfl (op_lss ha246 rfl rfl rfl) ?_
    intro a247 ha247; clear ha246 a246
    refine wpList_nil ?_
    refine then_n ?_
    by_cases c248 : f < (0 : Int)
    ·
     rw [decide_eq_true c248] at ha247
     refine cond_t ha247 rfl ?_
     refine wp_region_lit ?_
     refine wl_val ha247 rfl rfl rfl (op_move ha247 rfl rfl) ?_
     intro a249 ha249; clear ha247 a247
     refine wl_val ha249 rfl rfl rfl (op_assign ha249 rfl rfl) ?_
     intro a250 ha250; clear ha249 a249
     refine wpList_nil ?_
     refine then_n ?_
     refine wp_region_lit ?_
     refine wl_val ha250 rfl rfl rfl (op_move ha250 rfl rfl) ?_
     intro a251 ha251; clear ha250 a250
     refine wl_val ha251 rfl rfl rfl (op_move ha251 rfl rfl) ?_
     intro a252 ha252; clear ha251 a251
     refine wl_val ha252 rfl rfl rfl (op_len_str ha252 rfl Try.underlying9 rfl) ?_
     intro a253 ha253; clear ha252 a252
     refine wl_val ha253 rfl rfl rfl ((op_add ha253 rfl rfl rfl).int (IntWalk.i64_in _ (by omega))) ?_
     intro a254 ha254; clear ha253 a253
     refine wl_val ha254 rfl rfl rfl (op_assign ha254 rfl rfl) ?_
     intro a255 ha255; clear ha254 a254
     refine wpList_nil ?_
     refine block_n ?_
     refine then_n ?_
     refine wp_region_lit ?_
     refine wl_val ha255 rfl rfl rfl ((op_add ha255 rfl rfl rfl).int (IntWalk.i64_in _ (by omega))) ?_
     intro a256 ha256; clear ha255 a255
     refine wl_val ha256 rfl rfl rfl (op_move ha256 rfl rfl) ?_
     intro a257 ha257; clear ha256 a256
     refine wpList_nil ?_
     refine round_end (x := (i, l, f, a, v, acc)) ((i + 1), (l + (1 : Int)), a, (a + ((x25.length : Nat) : Int)), v, acc) ?_ ?_
     ·
      refine ⟨(Sl.cons_ ha257 rfl rfl (Sl.cons_ ha257 rfl (int_eq (by omega)) (Sl.cons_ ha257 rfl (int_eq (by omega)) (Sl.cons_ ha257 rfl (int_eq (by omega)) (Sl.cons_ ha257 rfl rfl (Sl.cons_ ha257 rfl rfl (Sl.cons_ ha257 rfl (int_eq (by omega)) (Sl.nil_ ha257)))))))), hx60, hf20, (hf19.fin (by omega) (by omega) (by omega)), (by omega), (by omega), (by omega), (by omega), (by omega), (by omega), (by first | omega | (simp; omega)), (by rw [drop_cons hx25, sal_skip (.inl c64)] at hF; rw [if_pos (by omega)] at hF; exact hF)⟩
     ·show ((pcS s).length - ((i + 1)) : Nat) < (pcS s).length - i; omega
    ·
     rw [decide_eq_false c248] at ha247
     refine cond_f ha247 rfl ?_
     refine wp_skip ?_
     refine then_n ?_
     refine wp_region_lit ?_
     refine wl_val ha247 rfl rfl rfl (op_move ha247 rfl rfl) ?_
     intro a258 ha258; clear ha247 a247
     refine wl_val ha258 rfl rfl rfl (op_move ha258 rfl rfl) ?_
     intro a259 ha259; clear ha258 a258
     refine wl_val ha259 rfl rfl rfl (op_len_str ha259 rfl Try.underlying9 rfl) ?_
     intro a260 ha260; clear ha259 a259
     refine wl_val ha260 rfl rfl rfl ((op_add ha260 rfl rfl rfl).int (IntWalk.i64_in _ (by omega))) ?_
     intro a261 ha261; clear ha260 a260
     refine wl_val ha261 rfl rfl rfl (op_assign ha261 rfl rfl) ?_
     intro a262 ha262; clear ha261 a261
     refine wpList_nil ?_
     refine block_n ?_
     refine then_n ?_
     refine wp_region_lit ?_
     refine wl_val ha262 rfl rfl rfl ((op_add ha262 rfl rfl rfl).int (IntWalk.i64_in _ (by omega))) ?_
     intro a263 ha263; clear ha262 a262
     refine wl_val ha263 rfl rfl rfl (op_move ha263 rfl rfl) ?_
     intro a264 ha264; clear ha263 a263
     refine wpList_nil ?_
     refine round_end (x := (i, l, f, a, v, acc)) ((i + 1), (l + (1 : Int)), f, (a + ((x25.length : Nat) : Int)), v, acc) ?_ ?_
     ·
      refine ⟨(Sl.cons_ ha264 rfl rfl (Sl.cons_ ha264 rfl (int_eq (by omega)) (Sl.cons_ ha264 rfl (int_eq (by omega)) (Sl.cons_ ha264 rfl (int_eq (by omega)) (Sl.cons_ ha264 rfl rfl (Sl.cons_ ha264 rfl rfl (Sl.cons_ ha264 rfl (int_eq (by omega)) (Sl.nil_ ha264)))))))), hx60, hf20, (hf19.fin (by omega) (by omega) (by omega)), (by omega), (by omega), (by omega), (by omega), (by omega), (by omega), (by first | omega | (simp; omega)), (by rw [drop_cons hx25, sal_skip (.inl c64)] at hF; rw [if_neg (by omega)] at hF; exact hF)⟩
     ·show ((pcS s).length - ((i + 1)) : Nat) < (pcS s).length - i; omega
  ·
   rw [decide_eq_false c24] at ha23
   refine cond_f ha23 rfl ?_
   refine wp_exit ?_
   refine then_e ?_
   refine then_e ?_
   refine block_hit ?_
   refine then_n ?_
   refine wp_seq ?_
   refine wp_region_lit ?_
   refine wl_val ha23 rfl rfl rfl (op_move ha23 rfl rfl) ?_
   intro a265 ha265; clear ha23 a23
   refine wl_val ha265 rfl rfl rfl (op_move ha265 rfl rfl) ?_
   intro a266 ha266; clear ha265 a265
   refine wl_val ha266 rfl rfl rfl (op_move ha266 rfl rfl) ?_
   intro a267 ha267; clear ha266 a266
   refine wl_val ha267 rfl rfl rfl (op_assign ha267 rfl rfl) ?_
   intro a268 ha268; clear ha267 a267
   refine wl_val ha268 rfl rfl rfl (op_assign ha268 rfl rfl) ?_
   intro a269 ha269; clear ha268 a268
   refine wl_val ha269 rfl rfl rfl (op_assign ha269 rfl rfl) ?_
   intro a270 ha270; clear ha269 a269
   refine wpList_nil ?_
   refine then_n ?_
   refine wp_ret ?_
   refine ret3 ha270 rfl rfl rfl rfl ?_
   clear ha270 a270
   refine ret_mk hx18 ⟨v, (tup3_eq rfl (int_eq (by rw [drop_nil (by omega), salGo] at hF; exact congrArg (fun q => q.2.1) hF)) (int_eq (by rw [drop_nil (by omega), salGo] at hF; exact congrArg (fun q => q.2.2) hF))), ?_⟩
   ·refine (hf19.fin (by omega) (by omega) (by omega)).cast ?_
    rw [drop_nil (by omega), salGo] at hF; exact congrArg Prod.fst hF

theorem c_spec_l32Salvage (w0 : World) (s : Str) (g0 : s.length ≤ 1048576) :
  Calls Try.prog 55 #[St s] w0 (Ret w0 (fun v w1 => ∃ r0, v = .tuple #[r0, .int .i64 ((salS s).2.1), .int .i64 ((salS s).2.2)] ∧ Own shRec 36 w0.heap.size w0.heap.size w1.heap.size w1 r0 ((salS s).1))) := by
 refine enter (N := 72) Try.func55 rfl rfl rfl ?_
 intro a0 ha0
 have hx0 := Ext.rfl' w0
 have hpl := pcS_len s
 have hpf := congrArg List.length (pcS_flat s)
 refine wp_seq ?_
 refine wp_region_lit ?_
 refine wl_val ha0 rfl rfl rfl (op_assign ha0 rfl rfl) ?_
 intro a1 ha1; clear ha0 a0
 refine wl_val ha1 rfl rfl rfl (op_assign ha1 rfl rfl) ?_
 intro a2 ha2; clear ha1 a1
 refine wl_val ha2 rfl rfl rfl (op_assign ha2 rfl rfl) ?_
 intro a3 ha3; clear ha2 a2
 refine wpList_nil ?_
 refine then_n ?_
 refine wp_seq ?_
 refine wp_region_lit ?_
 refine wl_eff ha3 rfl rfl rfl (op_buildSlice (s := shRec) (xs := ([] : List (Int × Str))) (cs := []) (vs := []) (S := fun _ => False) (le := w0.heap.size) ha3 rfl pos_shRec Try.underlying25 ti36 rfl rfl (by decide) (by kernel_rfl) rfl (fun _ h => h.elim)) ?_
 rintro v4 w5 ⟨ho6, he7, hob8⟩ a9 ha9; clear ha3 a3
 have hx10 := hx0.trans' he7
 have hzhx10 := he7.size
 refine wl_val ha9 rfl rfl rfl (op_assign ha9 rfl rfl) ?_
 intro a11 ha11; clear ha9 a9
 refine wl_val ha11 rfl rfl rfl (op_assign ha11 rfl rfl) ?_
 intro a12 ha12; clear ha11 a11
 refine wl_val ha12 rfl rfl rfl (op_assign ha12 rfl rfl) ?_
 intro a13 ha13; clear ha12 a12
 refine wl_val ha13 rfl rfl rfl (op_assign ha13 rfl rfl) ?_
 intro a14 ha14; clear ha13 a13
 refine wpList_nil ?_
 refine then_n ?_
 refine wp_seq ?_
 refine wp_region_lit ?_
 refine wl_val ha14 rfl rfl rfl (op_move ha14 rfl rfl) ?_
 intro a15 ha15; clear ha14 a14
 refine wl_callR ha15 rfl rfl rfl (op_call ha15 rfl cb69 rfl) (c_spec_l32Pieces _ s (by first | assumption | omega | (simp; omega) | (simp [mkN_length]; omega))) ?_
 rintro v16 w17 he18 ho19 a20 ha20; clear ha15 a15
 have hx21 := hx10.trans' he18
 have hzhx21 := he18.size
 replace ho6 := ho6.ext he18
 refine wl_val ha20 rfl rfl rfl (op_assign ha20 rfl rfl) ?_
 intro a22 ha22; clear ha20 a20
 refine wpList_nil ?_
 refine then_n ?_
 refine wp_seq ?_
 refine wp_seq ?_
 refine wp_region_lit ?_
 refine wl_val ha22 rfl rfl rfl (op_assign ha22 rfl rfl) ?_
 intro a23 ha23; clear ha22 a22
 refine wpList_nil ?_
 refine then_n ?_
 refine wp_block ?_
 refine loop_inv (X := Nat × Int × Int × Int × Value × (List (Int × Str))) (fun (⟨i, l, f, a, v, acc⟩ : Nat × Int × Int × Int × Value × (List (Int × Str))) fr wl => Sl 72 fr [(5, v), (6, .int .i64 l), (7, .int .i64 f), (8, .int .i64 a), (9, v16), (10, .int .i64 ((i : Nat) : Int))] ∧ Ext w0 wl ∧ Own shStr 9 w5.heap.size w5.heap.size w17.heap.size wl v16 ((pcS s)) ∧ Own shRec 36 w0.heap.size w0.heap.size wl.heap.size wl v acc ∧ w17.heap.size ≤ wl.heap.size ∧ (i ≤ (pcS s).length) ∧ (0 ≤ l) ∧ (l ≤ (i : Int)) ∧ (0 ≤ a) ∧ (a + (((pcS s).drop i).flatten.length : Int) = (s.length : Int)) ∧ (acc.length ≤ i) ∧ (salGo ((pcS s).drop i) acc l f a = salS s)) (fun (⟨i, l, f, a, v, acc⟩ : Nat × Int × Int × Int × Value × (List (Int × Str))) => (pcS s).length - i) (0, (0 : Int), (-1 : Int), (0 : Int), v4, ([] : List (Int × Str))) ?_ ?_
 ·
  exact ⟨(Sl.cons_ ha23 rfl rfl (Sl.cons_ ha23 rfl (int_eq (by omega)) (Sl.cons_ ha23 rfl (int_eq (by omega)) (Sl.cons_ ha23 rfl (int_eq (by omega)) (Sl.cons_ ha23 rfl rfl (Sl.cons_ ha23 rfl (int_eq (by omega)) (Sl.nil_ ha23))))))), hx21, ho19, (ho6.fin (by omega) (by omega) (by omega)), (by omega), (by omega), (by omega), (by omega), (by omega), (by rw [List.drop_zero]; omega), (by simp), (by rfl)⟩
 ·
  clear ha23 a23
  rintro ⟨i, l, f, a, v, acc⟩ a28 w24 ⟨ha28, hx25, hf27, hf26, hzl29, hi, hl0, hl1, ha0, haf, hal, hF⟩
  have hzhx25 := hx25.size
  refine wp_seq ?_
  refine wp_seq ?_
  refine wp_region_lit ?_
  refine wl_val ha28 rfl rfl rfl (op_move ha28 rfl rfl) ?_
  intro a30 ha30; clear ha28 a28
  refine wl_val ha30 rfl rfl rfl (op_move ha30 rfl rfl) ?_
  intro a31 ha31; clear ha30 a30
  refine wl_val ha31 rfl rfl rfl (op_len_sl ha31 rfl Try.underlying82 rfl (hf27.rds pos_shStr)) ?_
  intro a32 ha32; clear ha31 a31
  refine wl_val ha32 rfl rfl rfl (op_lss ha32 rfl rfl rfl) ?_
  intro a33 ha33; clear ha32 a32
  refine wpList_nil ?_
  refine then_n ?_
  by_cases c34 : ((i : Nat) : Int) < ((((pcS s)).length : Nat) : Int)
  ·
   rw [decide_eq_true c34] at ha33
   refine cond_t ha33 rfl ?_
   refine wp_skip ?_
   refine then_n ?_
   refine wp_seq ?_
   refine wp_block ?_
   refine wp_seq ?_
   refine wp_region_lit ?_
   refine wl_val ha33 rfl rfl rfl (op_move ha33 rfl rfl) ?_
   intro a35 ha35; clear ha33 a33
   refine wl_val ha35 rfl rfl rfl (op_move ha35 rfl rfl) ?_
   intro a36 ha36; clear ha35 a35
   obtain ⟨x37, hx37⟩ := get_ex (xs := (pcS s)) (j := i) (by omega)
   obtain ⟨p38, c39, hi40, hc41, hr42, hs43⟩ := Rds.at_ (hf27.rds pos_shStr) hx37
   obtain ⟨rfl, b44⟩ := inv_shStr hr42
   obtain ⟨_, _⟩ : _ ∧ _ := hs43
   have hflx37 := flat_drop hx37
   refine wl_val ha36 rfl rfl rfl (op_indexAddr ha36 rfl Try.underlying82 ti9 rfl rfl (by omega) hi40) ?_
   intro a45 ha45; clear ha36 a36
   refine wl_val ha45 rfl rfl rfl (op_loadH ha45 rfl Try.underlying9 rfl rfl hc41 rfl) ?_
   intro a46 ha46; clear ha45 a45
   refine wl_callR ha46 rfl rfl rfl (op_call ha46 rfl cb70 rfl) (c_spec_l32Record _ x37 (by first | assumption | omega | (simp; omega) | (simp [mkN_length]; omega))) ?_
   rintro v47 w48 he49 rfl a50 ha50; clear ha46 a46
   have hx51 := hx25.trans' he49
   have hzhx51 := he49.size
   replace hf27 := hf27.ext he49
   replace hf26 := hf26.ext he49
   replace hc41 := hc41.ext he49
   refine wl_val ha50 rfl rfl rfl (op_move ha50 rfl rfl) ?_
   intro a52 ha52; clear ha50 a50
   refine wl_val ha52 rfl rfl rfl (op_extract ha52 rfl rfl rfl) ?_
   intro a53 ha53; clear ha52 a52
   refine wl_val ha53 rfl rfl rfl (op_extract ha53 rfl rfl rfl) ?_
   intro a54 ha54; clear ha53 a53
   refine wl_eff ha54 rfl rfl rfl (op_alloc' rfl ti36 rfl) ?_
   rintro _ w56 ⟨rfl, he57, hb58, hz59⟩ a60 ha60; clear ha54 a54
   have hx61 := hx51.trans' he57
   have hzhx61 := he57.size
   replace hf27 := hf27.ext he57
   replace hf26 := hf26.ext he57
   replace hc41 := hc41.ext he57
   refine wl_effS ha60 rfl rfl (op_storeAll' ha60 rfl ti36 rfl rfl hb58 rfl rfl (by simp [Value.oneCell']) rfl) ?_
   rintro w62 ⟨hb64, hst63, hz65⟩
   have hx66 := hx61.stp hst63 (by intro q hq; cases hq; exact (by omega))
   have hzhx66 := hst63.size
   replace hf27 := hf27.stp hst63 (by intro q hq; cases hq; omega)
   replace hf26 := hf26.stp hst63 (by intro q hq; cases hq; omega)
   replace hc41 := hc41.stp hst63 (by intro q hq; cases hq; omega)
   clear hb58
   refine wl_val ha60 rfl rfl rfl (op_assign ha60 rfl rfl) ?_
   intro a67 ha67; clear ha60 a60
   refine wpList_nil ?_
   refine then_n ?_
   refine wp_seq ?_
   refine wp_seq ?_
   refine dr_enter Ext follows_mixed ?_
   intro w68 he69
   have hx70 := hx66.trans' he69
   have hzhx70 := he69.size
   replace hf27 := hf27.ext he69
   replace hf26 := hf26.ext he69
   replace hc41 := hc41.ext he69
   replace hb64 := hb64.ext he69
   have hs71 : Ext w68 w68 := Ext.rfl' _
   refine dr_val (i := 0) ha67 rfl (by kernel_rfl) (by kernel_rfl) (by kernel_rfl) rfl rfl rfl hs71 (fun w' hw' => op_move ha67 rfl rfl) ?_
   intro a72 ha72; clear ha67 a67
   refine dr_val (i := 1) ha72 rfl (by kernel_rfl) (by kernel_rfl) (by kernel_rfl) rfl rfl rfl hs71 (fun w' hw' => op_move ha72 rfl rfl) ?_
   intro a73 ha73; clear ha72 a72
   rcases Bool.eq_false_or_eq_true (rrB x37) with c74 | c74
   ·
    rw [c74] at ha73
    refine dr_val (i := 2) ha73 rfl (by kernel_rfl) (by kernel_rfl) (by kernel_rfl) rfl rfl rfl hs71 (fun w' hw' => op_move ha73 rfl rfl) ?_
    intro a75 ha75; clear ha73 a73
    refine dr_val (i := 3) ha75 rfl (by kernel_rfl) (by kernel_rfl) (by kernel_rfl) rfl rfl rfl hs71 (fun w' hw' => op_len_sl ha75 rfl Try.underlying25 rfl (hf26.rds pos_shRec)) ?_
    intro a76 ha76; clear ha75 a75
    refine dr_val (i := 4) ha76 rfl (by kernel_rfl) (by kernel_rfl) (by kernel_rfl) rfl rfl rfl hs71 (fun w' hw' => op_lss ha76 rfl rfl rfl) ?_
    intro a77 ha77; clear ha76 a76
    refine dr_val (i := 5) ha77 rfl (by kernel_rfl) (by kernel_rfl) (by kernel_rfl) rfl rfl rfl hs71 (fun w' hw' => op_pick_t ha77 rfl rfl rfl) ?_
    intro a78 ha78; clear ha77 a77
    refine dr_val (i := 6) ha78 rfl (by kernel_rfl) (by kernel_rfl) (by kernel_rfl) rfl rfl rfl hs71 (fun w' hw' => op_move ha78 rfl rfl) ?_
    intro a79 ha79; clear ha78 a78
    by_cases c80 : ((acc.length : Nat) : Int) < (30 : Int)
    ·
     rw [decide_eq_true c80] at ha79
     refine dr_val (i := 7) ha79 rfl (by kernel_rfl) (by kernel_rfl) (by kernel_rfl) rfl rfl rfl hs71 (fun w' hw' => op_move ha79 rfl rfl) ?_
     intro a81 ha81; clear ha79 a79
     refine dr_val (i := 8) ha81 rfl (by kernel_rfl) (by kernel_rfl) (by kernel_rfl) rfl rfl rfl hs71 (fun w' hw' => op_len_sl ha81 rfl Try.underlying25 rfl (hf26.rds pos_shRec)) ?_
     intro a82 ha82; clear ha81 a81
     refine dr_val (i := 9) ha82 rfl (by kernel_rfl) (by kernel_rfl) (by kernel_rfl) rfl rfl rfl hs71 (fun w' hw' => op_eql ha82 rfl rfl rfl) ?_
     intro a83 ha83; clear ha82 a82
     refine dr_val (i := 10) ha83 rfl (by kernel_rfl) (by kernel_rfl) (by kernel_rfl) rfl rfl rfl hs71 (fun w' hw' => op_move ha83 rfl rfl) ?_
     intro a84 ha84; clear ha83 a83
     by_cases c85 : ((acc.length : Nat) : Int) = (0 : Int)
     ·
      rw [decide_eq_true c85] at ha84
      refine dr_skip (i := 11) ha84 rfl (by kernel_rfl) (by kernel_rfl) (by kernel_rfl) rfl rfl rfl hs71 ?_
      intro a86 ha86; clear ha84 a84
      refine dr_skip (i := 12) ha86 rfl (by kernel_rfl) (by kernel_rfl) (by kernel_rfl) rfl rfl rfl hs71 ?_
      intro a87 ha87; clear ha86 a86
      refine dr_skip (i := 13) ha87 rfl (by kernel_rfl) (by kernel_rfl) (by kernel_rfl) rfl rfl rfl hs71 ?_
      intro a88 ha88; clear ha87 a87
      refine dr_skip (i := 14) ha88 rfl (by kernel_rfl) (by kernel_rfl) (by kernel_rfl) rfl rfl rfl hs71 ?_
      intro a89 ha89; clear ha88 a88
      refine dr_skip (i := 15) ha89 rfl (by kernel_rfl) (by kernel_rfl) (by kernel_rfl) rfl rfl rfl hs71 ?_
      intro a90 ha90; clear ha89 a89
      refine dr_skip (i := 16) ha90 rfl (by kernel_rfl) (by kernel_rfl) (by kernel_rfl) rfl rfl rfl hs71 ?_
      intro a91 ha91; clear ha90 a90
      refine dr_skip (i := 17) ha91 rfl (by kernel_rfl) (by kernel_rfl) (by kernel_rfl) rfl rfl rfl hs71 ?_
      intro a92 ha92; clear ha91 a91
      refine dr_skip (i := 18) ha92 rfl (by kernel_rfl) (by kernel_rfl) (by kernel_rfl) rfl rfl rfl hs71 ?_
      intro a93 ha93; clear ha92 a92
      refine dr_skip (i := 19) ha93 rfl (by kernel_rfl) (by kernel_rfl) (by kernel_rfl) rfl rfl rfl hs71 ?_
      intro a94 ha94; clear ha93 a93
      refine dr_skip (i := 20) ha94 rfl (by kernel_rfl) (by kernel_rfl) (by kernel_rfl) rfl rfl rfl hs71 ?_
      intro a95 ha95; clear ha94 a94
      refine dr_val (i := 21) ha95 rfl (by kernel_rfl) (by kernel_rfl) (by kernel_rfl) rfl rfl rfl hs71 (fun w' hw' => op_pick_t ha95 rfl rfl rfl) ?_
      intro a96 ha96; clear ha95 a95
      refine dr_val (i := 22) ha96 rfl (by kernel_rfl) (by kernel_rfl) (by kernel_rfl) rfl rfl rfl hs71 (fun w' hw' => op_pick_t ha96 rfl rfl rfl) ?_
      intro a97 ha97; clear ha96 a96
      refine dr_end (by kernel_rfl) ?_
      replace hf27 := hf27.ext hs71
      replace hf26 := hf26.ext hs71
      replace hc41 := hc41.ext hs71
      replace hb64 := hb64.ext hs71
      refine then_n ?_
      refine cond_t ha97 rfl ?_
      refine wp_region_lit ?_
      refine wl_val ha97 rfl rfl rfl (op_move ha97 rfl rfl) ?_
      intro a98 ha98; clear ha97 a97
      refine wl_val ha98 rfl rfl rfl (op_loadS ha98 rfl Try.underlying36 ti36 rfl rfl hb64.cells) ?_
      intro a99 ha99; clear ha98 a98
      refine wl_eff ha99 rfl rfl rfl (op_buildSlice (s := shRec) (xs := [(spR x37)]) (cs := [.int .i64 ((spR x37)).1, St (((spR x37)).2)]) (vs := [(0, .agg #[.int .i64 ((spR x37)).1, St (((spR x37)).2)])]) (S := fun _ => False) (le := w68.heap.size) ha99 rfl pos_shRec Try.underlying25 ti36 rfl rfl (by decide) (by kernel_rfl) (Els.single (mk_shRec ((spR x37)) (by first | assumption | omega | exact ⟨Int.le_trans (by decide) (spR_bd _).1, Int.le_trans (spR_bd _).2.1 (by decide)⟩ | exact Nat.le_trans (spR_bd _).2.2 (by omega)) (by first | assumption | omega | exact ⟨Int.le_trans (by decide) (spR_bd _).1, Int.le_trans (spR_bd _).2.1 (by decide)⟩ | exact Nat.le_trans (spR_bd _).2.2 (by omega)))) (fun _ h => h.elim)) ?_
      rintro v100 w101 ⟨ho102, he103, hob104⟩ a105 ha105; clear ha99 a99
      have hx106 := hx70.trans' he103
      have hzhx106 := he103.size
      replace hf27 := hf27.ext he103
      replace hf26 := hf26.ext he103
      replace hc41 := hc41.ext he103
      replace hb64 := hb64.ext he103
      refine wl_eff ha105 rfl rfl rfl (op_append (ts := #[]) (s := shRec) ha105 rfl Try.underlying25 ti36 rfl pos_shRec rfl rfl hf26 (ho102.rds pos_shRec) (by omega) (by omega) (by first | omega | (simp; omega)) (by first | omega | (simp; omega)) (.inl flat_shRec)) ?_
      rintro v107 w108 ⟨ho109, hst110, hob111⟩ a112 ha112; clear ha105 a105
      have hx113 := hx106.stp hst110 (by intro q hq; have hq0 := hf26.lt q hq; omega)
      have hzhx113 := hst110.size
      first | replace hf27 := hf27.stp hst110 (by intro q hq; have hq0 := hf26.lt q hq; omega) | replace hf27 := hf27.stpF flat_shStr hst110 (hf27.ne hf26 rfl)
      replace hb64 := hb64.stp hst110 (by intro q hq; have hq0 := hf26.lt q hq; omega)
      replace ho102 := ho102.stp hst110 (by intro q hq; have hq0 := hf26.lt q hq; omega)
      have hsp114 : ∀ q, Value.ownBlock v107 = some q → q ≠ w48.heap.size := by intro q hq; have hq0 := hb64.lt; rcases hob111 with h | h; (rw [h] at hq; first | (have hq1 := hf26.lt q hq; omega)); (rw [h] at hq; cases hq; omega)
      have hsp115 : ∀ q, Value.ownBlock v107 = some q → Value.ownBlock v100 ≠ some q := by intro q hq hb; have hq0 := ho102.lt q hb; rcases hob111 with h | h; (rw [h] at hq; first | (have hq1 := hf26.lt q hq; omega)); (rw [h] at hq; cases hq; omega)
      refine wl_val ha112 rfl rfl rfl (op_assign ha112 rfl rfl) ?_
      intro a116 ha116; clear ha112 a112
      refine wpList_nil ?_
      refine then_n ?_
      refine wp_region_lit ?_
      refine wl_val ha116 rfl rfl rfl (op_move ha116 rfl rfl) ?_
      intro a117 ha117; clear ha116 a116
      refine wl_val ha117 rfl rfl rfl (op_move ha117 rfl rfl) ?_
      intro a118 ha118; clear ha117 a117
      refine wl_val ha118 rfl rfl rfl (op_move ha118 rfl rfl) ?_
      intro a119 ha119; clear ha118 a118
      obtain ⟨p120, c121, hi122, hc123, hr124, hs125⟩ := Rds.at_ (hf27.rds pos_shStr) hx37
      obtain ⟨rfl, b126⟩ := inv_shStr hr124
      obtain ⟨_, _⟩ : _ ∧ _ := hs125
      refine wl_val ha119 rfl rfl rfl (op_indexAddr ha119 rfl Try.underlying82 ti9 rfl rfl (by omega) hi122) ?_
      intro a127 ha127; clear ha119 a119
      refine wl_val ha127 rfl rfl rfl (op_loadH ha127 rfl Try.underlying9 rfl rfl hc123 rfl) ?_
      intro a128 ha128; clear ha127 a127
      refine wl_val ha128 rfl rfl rfl (op_len_str ha128 rfl Try.underlying9 rfl) ?_
      intro a129 ha129; clear ha128 a128
      refine wl_val ha129 rfl rfl rfl ((op_add ha129 rfl rfl rfl).int (IntWalk.i64_in _ (by omega))) ?_
      intro a130 ha130; clear ha129 a129
      refine wl_val ha130 rfl rfl rfl (op_assign ha130 rfl rfl) ?_
      intro a131 ha131; clear ha130 a130
      refine wpList_nil ?_
      refine block_n ?_
      refine then_n ?_
      refine wp_region_lit ?_
      refine wl_val ha131 rfl rfl rfl (op_move ha131 rfl rfl) ?_
      intro a132 ha132; clear ha131 a131
      refine wl_val ha132 rfl rfl rfl ((op_add ha132 rfl rfl rfl).int (IntWalk.i64_in _ (by omega))) ?_
      intro a133 ha133; clear ha132 a132
      refine wl_val ha133 rfl rfl rfl (op_assign ha133 rfl rfl) ?_
      intro a134 ha134; clear ha133 a133
      refine wpList_nil ?_
      refine round_end (x := (i, l, f, a, v, acc)) ((i + 1), l, f, (a + ((x37.length : Nat) : Int)), v107, (acc ++ [(spR x37)])) ?_ ?_
      ·
       refine ⟨(Sl.cons_ ha134 rfl rfl (Sl.cons_ ha134 rfl (int_eq (by omega)) (Sl.cons_ ha134 rfl (int_eq (by omega)) (Sl.cons_ ha134 rfl (int_eq (by omega)) (Sl.cons_ ha134 rfl rfl (Sl.cons_ ha134 rfl (int_eq (by omega)) (Sl.nil_ ha134))))))), hx113, hf27, (ho109.fin (by omega) (by omega) (by omega)), (by omega), (by omega), (by omega), (by omega), (by omega), (by omega), (by first | omega | (simp; omega)), (by have hsr := spR_eq c74; rw [hsr]; rw [drop_cons hx37, sal_take c74 (by omega) (.inl (by omega))] at hF; exact hF)⟩
      ·show ((pcS s).length - ((i + 1)) : Nat) < (pcS s).length - i; omega
     ·
      rw [decide_eq_false c85] at ha84
      refine dr_val (i := 11) ha84 rfl (by kernel_rfl) (by kernel_rfl) (by kernel_rfl) rfl rfl rfl hs71 (fun w' hw' => op_move ha84 rfl rfl) ?_
      intro a135 ha135; clear ha84 a84
      refine dr_val (i := 12) ha135 rfl (by kernel_rfl) (by kernel_rfl) (by kernel_rfl) rfl rfl rfl hs71 (fun w' hw' => op_move ha135 rfl rfl) ?_
      intro a136 ha136; clear ha135 a135
      refine dr_val (i := 13) ha136 rfl (by kernel_rfl) (by kernel_rfl) (by kernel_rfl) rfl rfl rfl hs71 (fun w' hw' => op_len_sl ha136 rfl Try.underlying25 rfl (hf26.rds pos_shRec)) ?_
      intro a137 ha137; clear ha136 a136
      refine dr_val (i := 14) ha137 rfl (by kernel_rfl) (by kernel_rfl) (by kernel_rfl) rfl rfl rfl hs71 (fun w' hw' => (op_sub ha137 rfl rfl rfl).int (IntWalk.i64_in _ (by omega))) ?_
      intro a138 ha138; clear ha137 a137
      obtain ⟨x139, hx139⟩ := get_ex (xs := acc) (j := (acc.length - 1)) (by omega)
      obtain ⟨p140, c141, hi142, hc143, hr144, hs145⟩ := Rds.at_ (hf26.rds pos_shRec) hx139
      obtain ⟨rfl, b146, b147⟩ := inv_shRec hr144
      obtain ⟨_, _⟩ : _ ∧ _ := hs145
      refine dr_val (i := 15) ha138 rfl (by kernel_rfl) (by kernel_rfl) (by kernel_rfl) rfl rfl rfl hs71 (fun w' hw' => op_indexAddr ha138 rfl Try.underlying25 ti36 rfl rfl (by omega) hi142) ?_
      intro a148 ha148; clear ha138 a138
      refine dr_val (i := 16) ha148 rfl (by kernel_rfl) (by kernel_rfl) (by kernel_rfl) rfl rfl rfl hs71 (fun w' hw' => op_fieldAddr (sz := 0) ha148 rfl Try.underlying36 rfl rfl ti2 rfl) ?_
      intro a149 ha149; clear ha148 a148
      refine dr_val (i := 17) ha149 rfl (by kernel_rfl) (by kernel_rfl) (by kernel_rfl) rfl rfl rfl hs71 (fun w' hw' => op_loadF (off := 0) ha149 rfl Try.underlying2 rfl rfl (hc143.ext hw') rfl) ?_
      intro a150 ha150; clear ha149 a149
      refine dr_val (i := 18) ha150 rfl (by kernel_rfl) (by kernel_rfl) (by kernel_rfl) rfl rfl rfl hs71 (fun w' hw' => op_fieldAddr (sz := 0) ha150 rfl Try.underlying36 rfl rfl ti2 rfl) ?_
      intro a151 ha151; clear ha150 a150
      refine dr_val (i := 19) ha151 rfl (by kernel_rfl) (by kernel_rfl) (by kernel_rfl) rfl rfl rfl hs71 (fun w' hw' => op_loadF (off := 0) ha151 rfl Try.underlying2 rfl rfl (hb64.ext hw').cells rfl) ?_
      intro a152 ha152; clear ha151 a151
      refine dr_val (i := 20) ha152 rfl (by kernel_rfl) (by kernel_rfl) (by kernel_rfl) rfl rfl rfl hs71 (fun w' hw' => op_lss ha152 rfl rfl rfl) ?_
      intro a153 ha153; clear ha152 a152
      refine dr_val (i := 21) ha153 rfl (by kernel_rfl) (by kernel_rfl) (by kernel_rfl) rfl rfl rfl hs71 (fun w' hw' => op_pick_f ha153 rfl rfl rfl) ?_
      intro a154 ha154; clear ha153 a153
      refine dr_val (i := 22) ha154 rfl (by kernel_rfl) (by kernel_rfl) (by kernel_rfl) rfl rfl rfl hs71 (fun w' hw' => op_pick_t ha154 rfl rfl rfl) ?_
      intro a155 ha155; clear ha154 a154
      refine dr_end (by kernel_rfl) ?_
      replace hf27 := hf27.ext hs71
      replace hf26 := hf26.ext hs71
      replace hc41 := hc41.ext hs71
      replace hb64 := hb64.ext hs71
      replace hc143 := hc143.ext hs71
      refine then_n ?_
      by_cases c156 : x139.1 < ((spR x37)).1
      ·
       rw [decide_eq_true c156] at ha155
       refine cond_t ha155 rfl ?_
       refine wp_region_lit ?_
       refine wl_val ha155 rfl rfl rfl (op_move ha155 rfl rfl) ?_
       intro a157 ha157; clear ha155 a155
       refine wl_val ha157 rfl rfl rfl (op_loadS ha157 rfl Try.underlying36 ti36 rfl rfl hb64.cells) ?_
       intro a158 ha158; clear ha157 a157
       refine wl_eff ha158 rfl rfl rfl (op_buildSlice (s := shRec) (xs := [(spR x37)]) (cs := [.int .i64 ((spR x37)).1, St (((spR x37)).2)]) (vs := [(0, .agg #[.int .i64 ((spR x37)).1, St (((spR x37)).2)])]) (S := fun _ => False) (le := w68.heap.size) ha158 rfl pos_shRec Try.underlying25 ti36 rfl rfl (by decide) (by kernel_rfl) (Els.single (mk_shRec ((spR x37)) (by first | assumption | omega | exact ⟨Int.le_trans (by decide) (spR_bd _).1, Int.le_trans (spR_bd _).2.1 (by decide)⟩ | exact Nat.le_trans (spR_bd _).2.2 (by omega)) (by first | assumption | omega | exact ⟨Int.le_trans (by decide) (spR_bd _).1, Int.le_trans (spR_bd _).2.1 (by decide)⟩ | exact Nat.le_trans (spR_bd _).2.2 (by omega)))) (fun _ h => h.elim)) ?_
       rintro v159 w160 ⟨ho161, he162, hob163⟩ a164 ha164; clear ha158 a158
       have hx165 := hx70.trans' he162
       have hzhx165 := he162.size
       replace hf27 := hf27.ext he162
       replace hf26 := hf26.ext he162
       replace hc41 := hc41.ext he162
       replace hb64 := hb64.ext he162
       replace hc143 := hc143.ext he162
       refine wl_eff ha164 rfl rfl rfl (op_append (ts := #[]) (s := shRec) ha164 rfl Try.underlying25 ti36 rfl pos_shRec rfl rfl hf26 (ho161.rds pos_shRec) (by omega) (by omega) (by first | omega | (simp; omega)) (by first | omega | (simp; omega)) (.inl flat_shRec)) ?_
       rintro v166 w167 ⟨ho168, hst169, hob170⟩ a171 ha171; clear ha164 a164
       have hx172 := hx165.stp hst169 (by intro q hq; have hq0 := hf26.lt q hq; omega)
       have hzhx172 := hst169.size
       first | replace hf27 := hf27.stp hst169 (by intro q hq; have hq0 := hf26.lt q hq; omega) | replace hf27 := hf27.stpF flat_shStr hst169 (hf27.ne hf26 rfl)
       replace hb64 := hb64.stp hst169 (by intro q hq; have hq0 := hf26.lt q hq; omega)
       replace ho161 := ho161.stp hst169 (by intro q hq; have hq0 := hf26.lt q hq; omega)
       have hsp173 : ∀ q, Value.ownBlock v166 = some q → q ≠ w48.heap.size := by intro q hq; have hq0 := hb64.lt; rcases hob170 with h | h; (rw [h] at hq; first | (have hq1 := hf26.lt q hq; omega)); (rw [h] at hq; cases hq; omega)
       have hsp174 : ∀ q, Value.ownBlock v166 = some q → Value.ownBlock v159 ≠ some q := by intro q hq hb; have hq0 := ho161.lt q hb; rcases hob170 with h | h; (rw [h] at hq; first | (have hq1 := hf26.lt q hq; omega)); (rw [h] at hq; cases hq; omega)
       refine wl_val ha171 rfl rfl rfl (op_assign ha171 rfl rfl) ?_
       intro a175 ha175; clear ha171 a171
       refine wpList_nil ?_
       refine then_n ?_
       refine wp_region_lit ?_
       refine wl_val ha175 rfl rfl rfl (op_move ha175 rfl rfl) ?_
       intro a176 ha176; clear ha175 a175
       refine wl_val ha176 rfl rfl rfl (op_move ha176 rfl rfl) ?_
       intro a177 ha177; clear ha176 a176
       refine wl_val ha177 rfl rfl rfl (op_move ha177 rfl rfl) ?_
       intro a178 ha178; clear ha177 a177
       obtain ⟨p179, c180, hi181, hc182, hr183, hs184⟩ := Rds.at_ (hf27.rds pos_shStr) hx37
       obtain ⟨rfl, b185⟩ := inv_shStr hr183
       obtain ⟨_, _⟩ : _ ∧ _ := hs184
       refine wl_val ha178 rfl rfl rfl (op_indexAddr ha178 rfl Try.underlying82 ti9 rfl rfl (by omega) hi181) ?_
       intro a186 ha186; clear ha178 a178
       refine wl_val ha186 rfl rfl rfl (op_loadH ha186 rfl Try.underlying9 rfl rfl hc182 rfl) ?_
       intro a187 ha187; clear ha186 a186
       refine wl_val ha187 rfl rfl rfl (op_len_str ha187 rfl Try.underlying9 rfl) ?_
       intro a188 ha188; clear ha187 a187
       refine wl_val ha188 rfl rfl rfl ((op_add ha188 rfl rfl rfl).int (IntWalk.i64_in _ (by omega))) ?_
       intro a189 ha189; clear ha188 a188
       refine wl_val ha189 rfl rfl rfl (op_assign ha189 rfl rfl) ?_
       intro a190 ha190; clear ha189 a189
       refine wpList_nil ?_
       refine block_n ?_
       refine then_n ?_
       refine wp_region_lit ?_
       refine wl_val ha190 rfl rfl rfl (op_move ha190 rfl rfl) ?_
       intro a191 ha191; clear ha190 a190
       refine wl_val ha191 rfl rfl rfl ((op_add ha191 rfl rfl rfl).int (IntWalk.i64_in _ (by omega))) ?_
       intro a192 ha192; clear ha191 a191
       refine wl_val ha192 rfl rfl rfl (op_assign ha192 rfl rfl) ?_
       intro a193 ha193; clear ha192 a192
       refine wpList_nil ?_
       refine round_end (x := (i, l, f, a, v, acc)) ((i + 1), l, f, (a + ((x37.length : Nat) : Int)), v166, (acc ++ [(spR x37)])) ?_ ?_
       ·
        refine ⟨(Sl.cons_ ha193 rfl rfl (Sl.cons_ ha193 rfl (int_eq (by omega)) (Sl.cons_ ha193 rfl (int_eq (by omega)) (Sl.cons_ ha193 rfl (int_eq (by omega)) (Sl.cons_ ha193 rfl rfl (Sl.cons_ ha193 rfl (int_eq (by omega)) (Sl.nil_ ha193))))))), hx172, hf27, (ho168.fin (by omega) (by omega) (by omega)), (by omega), (by omega), (by omega), (by omega), (by omega), (by omega), (by first | omega | (simp; omega)), (by have hsr := spR_eq c74; rw [hsr] at c156; rw [hsr]; rw [drop_cons hx37, sal_take c74 (by omega) (.inr ⟨_, hx139, c156⟩)] at hF; exact hF)⟩
       ·show ((pcS s).length - ((i + 1)) : Nat) < (pcS s).length - i; omega
      ·
       rw [decide_eq_false c156] at ha155
       refine cond_f ha155 rfl ?_
       refine wp_seq ?_
       refine wp_region_lit ?_
       refine wl_val ha155 rfl rfl rfl (op_move ha155 rfl rfl) ?_
       intro a194 ha194; clear ha155 a155
       refine wl_val ha194 rfl rfl rfl ((op_add ha194 rfl rfl rfl).int (IntWalk.i64_in _ (by omega))) ?_
       intro a195 ha195; clear ha194 a194
       refine wl_val ha195 rfl rfl rfl (op_assign ha195 rfl rfl) ?_
       intro a196 ha196; clear ha195 a195
       refine wpList_nil ?_
       refine then_n ?_
       refine wp_seq ?_
       refine wp_region_lit ?_
       refine wl_val ha196 rfl rfl rfl (op_move ha196 rfl rfl) ?_
       intro a197 ha197; clear ha196 a196
       refine wl_val ha197 rfl rfl rfl (op_lss ha197 rfl rfl rfl) ?_
       intro a198 ha198; clear ha197 a197
       refine wpList_nil ?_
       refine then_n ?_
       by_cases c199 : f < (0 : Int)
       ·
        rw [decide_eq_true c199] at ha198
        refine cond_t ha198 rfl ?_
        refine wp_region_lit ?_
        refine wl_val ha198 rfl rfl rfl (op_move ha198 rfl rfl) ?_
        intro a200 ha200; clear ha198 a198
        refine wl_val ha200 rfl rfl rfl (op_assign ha200 rfl rfl) ?_
        intro a201 ha201; clear ha200 a200
        refine wpList_nil ?_
        refine then_n ?_
        refine wp_region_lit ?_
        refine wl_val ha201 rfl rfl rfl (op_move ha201 rfl rfl) ?_
        intro a202 ha202; clear ha201 a201
        refine wl_val ha202 rfl rfl rfl (op_move ha202 rfl rfl) ?_
        intro a203 ha203; clear ha202 a202
        refine wl_val ha203 rfl rfl rfl (op_move ha203 rfl rfl) ?_
        intro a204 ha204; clear ha203 a203
        refine wl_val ha204 rfl rfl rfl (op_indexAddr ha204 rfl Try.underlying82 ti9 rfl rfl (by omega) hi40) ?_
        intro a205 ha205; clear ha204 a204
        refine wl_val ha205 rfl rfl rfl (op_loadH ha205 rfl Try.underlying9 rfl rfl hc41 rfl) ?_
        intro a206 ha206; clear ha205 a205
        refine wl_val ha206 rfl rfl rfl (op_len_str ha206 rfl Try.underlying9 rfl) ?_
        intro a207 ha207; clear ha206 a206
        refine wl_val ha207 rfl rfl rfl ((op_add ha207 rfl rfl rfl).int (IntWalk.i64_in _ (by omega))) ?_
        intro a208 ha208; clear ha207 a207
        refine wl_val ha208 rfl rfl rfl (op_assign ha208 rfl rfl) ?_
        intro a209 ha209; clear ha208 a208
        refine wpList_nil ?_
        refine block_n ?_
        refine then_n ?_
        refine wp_region_lit ?_
        refine wl_val ha209 rfl rfl rfl (op_move ha209 rfl rfl) ?_
        intro a210 ha210; clear ha209 a209
        refine wl_val ha210 rfl rfl rfl ((op_add ha210 rfl rfl rfl).int (IntWalk.i64_in _ (by omega))) ?_
        intro a211 ha211; clear ha210 a210
        refine wl_val ha211 rfl rfl rfl (op_assign ha211 rfl rfl) ?_
        intro a212 ha212; clear ha211 a211
        refine wpList_nil ?_
        refine round_end (x := (i, l, f, a, v, acc)) ((i + 1), (l + (1 : Int)), a, (a + ((x37.length : Nat) : Int)), v, acc) ?_ ?_
        ·
         refine ⟨(Sl.cons_ ha212 rfl rfl (Sl.cons_ ha212 rfl (int_eq (by omega)) (Sl.cons_ ha212 rfl (int_eq (by omega)) (Sl.cons_ ha212 rfl (int_eq (by omega)) (Sl.cons_ ha212 rfl rfl (Sl.cons_ ha212 rfl (int_eq (by omega)) (Sl.nil_ ha212))))))), hx70, hf27, (hf26.fin (by omega) (by omega) (by omega)), (by omega), (by omega), (by omega), (by omega), (by omega), (by omega), (by first | omega | (simp; omega)), (by have hsr := spR_eq c74; rw [hsr] at c156; rw [drop_cons hx37, sal_skip (.inr (.inr ⟨_, hx139, c156⟩))] at hF; rw [if_pos (by omega)] at hF; exact hF)⟩
        ·show ((pcS s).length - ((i + 1)) : Nat) < (pcS s).length - i; omega
       ·
        rw [decide_eq_false c199] at ha198
        refine cond_f ha198 rfl ?_
        refine wp_skip ?_
        refine then_n ?_
        refine wp_region_lit ?_
        refine wl_val ha198 rfl rfl rfl (op_move ha198 rfl rfl) ?_
        intro a213 ha213; clear ha198 a198
        refine wl_val ha213 rfl rfl rfl (op_move ha213 rfl rfl) ?_
        intro a214 ha214; clear ha213 a213
        refine wl_val ha214 rfl rfl rfl (op_move ha214 rfl rfl) ?_
        intro a215 ha215; clear ha214 a214
        refine wl_val ha215 rfl rfl rfl (op_indexAddr ha215 rfl Try.underlying82 ti9 rfl rfl (by omega) hi40) ?_
        intro a216 ha216; clear ha215 a215
        refine wl_val ha216 rfl rfl rfl (op_loadH ha216 rfl Try.underlying9 rfl rfl hc41 rfl) ?_
        intro a217 ha217; clear ha216 a216
        refine wl_val ha217 rfl rfl rfl (op_len_str ha217 rfl Try.underlying9 rfl) ?_
        intro a218 ha218; clear ha217 a217
        refine wl_val ha218 rfl rfl rfl ((op_add ha218 rfl rfl rfl).int (IntWalk.i64_in _ (by omega))) ?_
        intro a219 ha219; clear ha218 a218
        refine wl_val ha219 rfl rfl rfl (op_assign ha219 rfl rfl) ?_
        intro a220 ha220; clear ha219 a219
        refine wpList_nil ?_
        refine block_n ?_
        refine then_n ?_
        refine wp_region_lit ?_
        refine wl_val ha220 rfl rfl rfl (op_move ha220 rfl rfl) ?_
        intro a221 ha221; clear ha220 a220
        refine wl_val ha221 rfl rfl rfl ((op_add ha221 rfl rfl rfl).int (IntWalk.i64_in _ (by omega))) ?_
        intro a222 ha222; clear ha221 a221
        refine wl_val ha222 rfl rfl rfl (op_assign ha222 rfl rfl) ?_
        intro a223 ha223; clear ha222 a222
        refine wpList_nil ?_
        refine round_end (x := (i, l, f, a, v, acc)) ((i + 1), (l + (1 : Int)), f, (a + ((x37.length : Nat) : Int)), v, acc) ?_ ?_
        ·
         refine ⟨(Sl.cons_ ha223 rfl rfl (Sl.cons_ ha223 rfl (int_eq (by omega)) (Sl.cons_ ha223 rfl (int_eq (by omega)) (Sl.cons_ ha223 rfl (int_eq (by omega)) (Sl.cons_ ha223 rfl rfl (Sl.cons_ ha223 rfl (int_eq (by omega)) (Sl.nil_ ha223))))))), hx70, hf27, (hf26.fin (by omega) (by omega) (by omega)), (by omega), (by omega), (by omega), (by omega), (by omega), (by omega), (by first | omega | (simp; omega)), (by have hsr := spR_eq c74; rw [hsr] at c156; rw [drop_cons hx37, sal_skip (.inr (.inr ⟨_, hx139, c156⟩))] at hF; rw [if_neg (by omega)] at hF; exact hF)⟩
        ·show ((pcS s).length - ((i + 1)) : Nat) < (pcS s).length - i; omega
    ·
     rw [decide_eq_false c80] at ha79
     refine dr_skip (i := 7) ha79 rfl (by kernel_rfl) (by kernel_rfl) (by kernel_rfl) rfl rfl rfl hs71 ?_
     intro a224 ha224; clear ha79 a79
     refine dr_skip (i := 8) ha224 rfl (by kernel_rfl) (by kernel_rfl) (by kernel_rfl) rfl rfl rfl hs71 ?_
     intro a225 ha225; clear ha224 a224
     refine dr_skip (i := 9) ha225 rfl (by kernel_rfl) (by kernel_rfl) (by kernel_rfl) rfl rfl rfl hs71 ?_
     intro a226 ha226; clear ha225 a225
     refine dr_skip (i := 10) ha226 rfl (by kernel_rfl) (by kernel_rfl) (by kernel_rfl) rfl rfl rfl hs71 ?_
     intro a227 ha227; clear ha226 a226
     refine dr_skip (i := 11) ha227 rfl (by kernel_rfl) (by kernel_rfl) (by kernel_rfl) rfl rfl rfl hs71 ?_
     intro a228 ha228; clear ha227 a227
     refine dr_skip (i := 12) ha228 rfl (by kernel_rfl) (by kernel_rfl) (by kernel_rfl) rfl rfl rfl hs71 ?_
     intro a229 ha229; clear ha228 a228
     refine dr_skip (i := 13) ha229 rfl (by kernel_rfl) (by kernel_rfl) (by kernel_rfl) rfl rfl rfl hs71 ?_
     intro a230 ha230; clear ha229 a229
     refine dr_skip (i := 14) ha230 rfl (by kernel_rfl) (by kernel_rfl) (by kernel_rfl) rfl rfl rfl hs71 ?_
     intro a231 ha231; clear ha230 a230
     refine dr_skip (i := 15) ha231 rfl (by kernel_rfl) (by kernel_rfl) (by kernel_rfl) rfl rfl rfl hs71 ?_
     intro a232 ha232; clear ha231 a231
     refine dr_skip (i := 16) ha232 rfl (by kernel_rfl) (by kernel_rfl) (by kernel_rfl) rfl rfl rfl hs71 ?_
     intro a233 ha233; clear ha232 a232
     refine dr_skip (i := 17) ha233 rfl (by kernel_rfl) (by kernel_rfl) (by kernel_rfl) rfl rfl rfl hs71 ?_
     intro a234 ha234; clear ha233 a233
     refine dr_skip (i := 18) ha234 rfl (by kernel_rfl) (by kernel_rfl) (by kernel_rfl) rfl rfl rfl hs71 ?_
     intro a235 ha235; clear ha234 a234
     refine dr_skip (i := 19) ha235 rfl (by kernel_rfl) (by kernel_rfl) (by kernel_rfl) rfl rfl rfl hs71 ?_
     intro a236 ha236; clear ha235 a235
     refine dr_skip (i := 20) ha236 rfl (by kernel_rfl) (by kernel_rfl) (by kernel_rfl) rfl rfl rfl hs71 ?_
     intro a237 ha237; clear ha236 a236
     refine dr_skip (i := 21) ha237 rfl (by kernel_rfl) (by kernel_rfl) (by kernel_rfl) rfl rfl rfl hs71 ?_
     intro a238 ha238; clear ha237 a237
     refine dr_val (i := 22) ha238 rfl (by kernel_rfl) (by kernel_rfl) (by kernel_rfl) rfl rfl rfl hs71 (fun w' hw' => op_pick_f ha238 rfl rfl rfl) ?_
     intro a239 ha239; clear ha238 a238
     refine dr_end (by kernel_rfl) ?_
     replace hf27 := hf27.ext hs71
     replace hf26 := hf26.ext hs71
     replace hc41 := hc41.ext hs71
     replace hb64 := hb64.ext hs71
     refine then_n ?_
     refine cond_f ha239 rfl ?_
     refine wp_seq ?_
     refine wp_region_lit ?_
     refine wl_val ha239 rfl rfl rfl (op_move ha239 rfl rfl) ?_
     intro a240 ha240; clear ha239 a239
     refine wl_val ha240 rfl rfl rfl ((op_add ha240 rfl rfl rfl).int (IntWalk.i64_in _ (by omega))) ?_
     intro a241 ha241; clear ha240 a240
     refine wl_val ha241 rfl rfl rfl (op_assign ha241 rfl rfl) ?_
     intro a242 ha242; clear ha241 a241
     refine wpList_nil ?_
     refine then_n ?_
     refine wp_seq ?_
     refine wp_region_lit ?_
     refine wl_val ha242 rfl rfl rfl (op_move ha242 rfl rfl) ?_
     intro a243 ha243; clear ha242 a242
     refine wl_val ha243 rfl rfl rfl (op_lss ha243 rfl rfl rfl) ?_
     intro a244 ha244; clear ha243 a243
     refine wpList_nil ?_
     refine then_n ?_
     by_cases c245 : f < (0 : Int)
     ·
      rw [decide_eq_true c245] at ha244
      refine cond_t ha244 rfl ?_
      refine wp_region_lit ?_
      refine wl_val ha244 rfl rfl rfl (op_move ha244 rfl rfl) ?_
      intro a246 ha246; clear ha244 a244
      refine wl_val ha246 rfl rfl rfl (op_assign ha246 rfl rfl) ?_
      intro a247 ha247; clear ha246 a246
      refine wpList_nil ?_
      refine then_n ?_
      refine wp_region_lit ?_
      refine wl_val ha247 rfl rfl rfl (op_move ha247 rfl rfl) ?_
      intro a248 ha248; clear ha247 a247
      refine wl_val ha248 rfl rfl rfl (op_move ha248 rfl rfl) ?_
      intro a249 ha249; clear ha248 a248
      refine wl_val ha249 rfl rfl rfl (op_move ha249 rfl rfl) ?_
      intro a250 ha250; clear ha249 a249
      refine wl_val ha250 rfl rfl rfl (op_indexAddr ha250 rfl Try.underlying82 ti9 rfl rfl (by omega) hi40) ?_
      intro a251 ha251; clear ha250 a250
      refine wl_val ha251 rfl rfl rfl (op_loadH ha251 rfl Try.underlying9 rfl rfl hc41 rfl) ?_
      intro a252 ha252; clear ha251 a251
      refine wl_val ha252 rfl rfl rfl (op_len_str ha252 rfl Try.underlying9 rfl) ?_
      intro a253 ha253; clear ha252 a252
      refine wl_val ha253 rfl rfl rfl ((op_add ha253 rfl rfl rfl).int (IntWalk.i64_in _ (by omega))) ?_
      intro a254 ha254; clear ha253 a253
      refine wl_val ha254 rfl rfl rfl (op_assign ha254 rfl rfl) ?_
      intro a255 ha255; clear ha254 a254
      refine wpList_nil ?_
      refine block_n ?_
      refine then_n ?_
      refine wp_region_lit ?_
      refine wl_val ha255 rfl rfl rfl (op_move ha255 rfl rfl) ?_
      intro a256 ha256; clear ha255 a255
      refine wl_val ha256 rfl rfl rfl ((op_add ha256 rfl rfl rfl).int (IntWalk.i64_in _ (by omega))) ?_
      intro a257 ha257; clear ha256 a256
      refine wl_val ha257 rfl rfl rfl (op_assign ha257 rfl rfl) ?_
      intro a258 ha258; clear ha257 a257
      refine wpList_nil ?_
      refine round_end (x := (i, l, f, a, v, acc)) ((i + 1), (l + (1 : Int)), a, (a + ((x37.length : Nat) : Int)), v, acc) ?_ ?_
      ·
       refine ⟨(Sl.cons_ ha258 rfl rfl (Sl.cons_ ha258 rfl (int_eq (by omega)) (Sl.cons_ ha258 rfl (int_eq (by omega)) (Sl.cons_ ha258 rfl (int_eq (by omega)) (Sl.cons_ ha258 rfl rfl (Sl.cons_ ha258 rfl (int_eq (by omega)) (Sl.nil_ ha258))))))), hx70, hf27, (hf26.fin (by omega) (by omega) (by omega)), (by omega), (by omega), (by omega), (by omega), (by omega), (by omega), (by first | omega | (simp; omega)), (by have hsr := spR_eq c74; rw [drop_cons hx37, sal_skip (.inr (.inl (by omega)))] at hF; rw [if_pos (by omega)] at hF; exact hF)⟩
      ·show ((pcS s).length - ((i + 1)) : Nat) < (pcS s).length - i; omega
     ·
      rw [decide_eq_false c245] at ha244
      refine cond_f ha244 rfl ?_
      refine wp_skip ?_
      refine then_n ?_
      refine wp_region_lit ?_
      refine wl_val ha244 rfl rfl rfl (op_move ha244 rfl rfl) ?_
      intro a259 ha259; clear ha244 a244
      refine wl_val ha259 rfl rfl rfl (op_move ha259 rfl rfl) ?_
      intro a260 ha260; clear ha259 a259
      refine wl_val ha260 rfl rfl rfl (op_move ha260 rfl rfl) ?_
      intro a261 ha261; clear ha260 a260
      refine wl_val ha261 rfl rfl rfl (op_indexAddr ha261 rfl Try.underlying82 ti9 rfl rfl (by omega) hi40) ?_
      intro a262 ha262; clear ha261 a261
      refine wl_val ha262 rfl rfl rfl (op_loadH ha262 rfl Try.underlying9 rfl rfl hc41 rfl) ?_
      intro a263 ha263; clear ha262 a262
      refine wl_val ha263 rfl rfl rfl (op_len_str ha263 rfl Try.underlying9 rfl) ?_
      intro a264 ha264; clear ha263 a263
      refine wl_val ha264 rfl rfl rfl ((op_add ha264 rfl rfl rfl).int (IntWalk.i64_in _ (by omega))) ?_
      intro a265 ha265; clear ha264 a264
      refine wl_val ha265 rfl rfl rfl (op_assign ha265 rfl rfl) ?_
      intro a266 ha266; clear ha265 a265
      refine wpList_nil ?_
      refine block_n ?_
      refine then_n ?_
      refine wp_region_lit ?_
      refine wl_val ha266 rfl rfl rfl (op_move ha266 rfl rfl) ?_
      intro a267 ha267; clear ha266 a266
      refine wl_val ha267 rfl rfl rfl ((op_add ha267 rfl rfl rfl).int (IntWalk.i64_in _ (by omega))) ?_
      intro a268 ha268; clear ha267 a267
      refine wl_val ha268 rfl rfl rfl (op_assign ha268 rfl rfl) ?_
      intro a269 ha269; clear ha268 a268
      refine wpList_nil ?_
      refine round_end (x := (i, l, f, a, v, acc)) ((i + 1), (l + (1 : Int)), f, (a + ((x37.length : Nat) : Int)), v, acc) ?_ ?_
      ·
       refine ⟨(Sl.cons_ ha269 rfl rfl (Sl.cons_ ha269 rfl (int_eq (by omega)) (Sl.cons_ ha269 rfl (int_eq (by omega)) (Sl.cons_ ha269 rfl (int_eq (by omega)) (Sl.cons_ ha269 rfl rfl (Sl.cons_ ha269 rfl (int_eq (by omega)) (Sl.nil_ ha269))))))), hx70, hf27, (hf26.fin (by omega) (by omega) (by omega)), (by omega), (by omega), (by omega), (by omega), (by omega), (by omega), (by first | omega | (simp; omega)), (by have hsr := spR_eq c74; rw [drop_cons hx37, sal_skip (.inr (.inl (by omega)))] at hF; rw [if_neg (by omega)] at hF; exact hF)⟩
      ·show ((pcS s).length - ((i + 1)) : Nat) < (pcS s).length - i; omega
   ·
    rw [c74] at ha73
    refine dr_skip (i := 2) ha73 rfl (by kernel_rfl) (by kernel_rfl) (by kernel_rfl) rfl rfl rfl hs71 ?_
    intro a270 ha270; clear ha73 a73
    refine dr_skip (i := 3) ha270 rfl (by kernel_rfl) (by kernel_rfl) (by kernel_rfl) rfl rfl rfl hs71 ?_
    intro a271 ha271; clear ha270 a270
    refine dr_skip (i := 4) ha271 rfl (by kernel_rfl) (by kernel_rfl) (by kernel_rfl) rfl rfl rfl hs71 ?_
    intro a272 ha272; clear ha271 a271
    refine dr_val (i := 5) ha272 rfl (by kernel_rfl) (by kernel_rfl) (by kernel_rfl) rfl rfl rfl hs71 (fun w' hw' => op_pick_f ha272 rfl rfl rfl) ?_
    intro a273 ha273; clear ha272 a272
    refine dr_val (i := 6) ha273 rfl (by kernel_rfl) (by kernel_rfl) (by kernel_rfl) rfl rfl rfl hs71 (fun w' hw' => op_move ha273 rfl rfl) ?_
    intro a274 ha274; clear ha273 a273
    refine dr_skip (i := 7) ha274 rfl (by kernel_rfl) (by kernel_rfl) (by kernel_rfl) rfl rfl rfl hs71 ?_
    intro a275 ha275; clear ha274 a274
    refine dr_skip (i := 8) ha275 rfl (by kernel_rfl) (by kernel_rfl) (by kernel_rfl) rfl rfl rfl hs71 ?_
    intro a276 ha276; clear ha275 a275
    refine dr_skip (i := 9) ha276 rfl (by kernel_rfl) (by kernel_rfl) (by kernel_rfl) rfl rfl rfl hs71 ?_
    intro a277 ha277; clear ha276 a276
    refine dr_skip (i := 10) ha277 rfl (by kernel_rfl) (by kernel_rfl) (by kernel_rfl) rfl rfl rfl hs71 ?_
    intro a278 ha278; clear ha277 a277
    refine dr_skip (i := 11) ha278 rfl (by kernel_rfl) (by kernel_rfl) (by kernel_rfl) rfl rfl rfl hs71 ?_
    intro a279 ha279; clear ha278 a278
    refine dr_skip (i := 12) ha279 rfl (by kernel_rfl) (by kernel_rfl) (by kernel_rfl) rfl rfl rfl hs71 ?_
    intro a280 ha280; clear ha279 a279
    refine dr_skip (i := 13) ha280 rfl (by kernel_rfl) (by kernel_rfl) (by kernel_rfl) rfl rfl rfl hs71 ?_
    intro a281 ha281; clear ha280 a280
    refine dr_skip (i := 14) ha281 rfl (by kernel_rfl) (by kernel_rfl) (by kernel_rfl) rfl rfl rfl hs71 ?_
    intro a282 ha282; clear ha281 a281
    refine dr_skip (i := 15) ha282 rfl (by kernel_rfl) (by kernel_rfl) (by kernel_rfl) rfl rfl rfl hs71 ?_
    intro a283 ha283; clear ha282 a282
    refine dr_skip (i := 16) ha283 rfl (by kernel_rfl) (by kernel_rfl) (by kernel_rfl) rfl rfl rfl hs71 ?_
    intro a284 ha284; clear ha283 a283
    refine dr_skip (i := 17) ha284 rfl (by kernel_rfl) (by kernel_rfl) (by kernel_rfl) rfl rfl rfl hs71 ?_
    intro a285 ha285; clear ha284 a284
    refine dr_skip (i := 18) ha285 rfl (by kernel_rfl) (by kernel_rfl) (by kernel_rfl) rfl rfl rfl hs71 ?_
    intro a286 ha286; clear ha285 a285
    refine dr_skip (i := 19) ha286 rfl (by kernel_rfl) (by kernel_rfl) (by kernel_rfl) rfl rfl rfl hs71 ?_
    intro a287 ha287; clear ha286 a286
    refine dr_skip (i := 20) ha287 rfl (by kernel_rfl) (by kernel_rfl) (by kernel_rfl) rfl rfl rfl hs71 ?_
    intro a288 ha288; clear ha287 a287
    refine dr_skip (i := 21) ha288 rfl (by kernel_rfl) (by kernel_rfl) (by kernel_rfl) rfl rfl rfl hs71 ?_
    intro a289 ha289; clear ha288 a288
    refine dr_val (i := 22) ha289 rfl (by kernel_rfl) (by kernel_rfl) (by kernel_rfl) rfl rfl rfl hs71 (fun w' hw' => op_pick_f ha289 rfl rfl rfl) ?_
    intro a290 ha290; clear ha289 a289
    refine dr_end (by kernel_rfl) ?_
    replace hf27 := hf27.ext hs71
    replace hf26 := hf26.ext hs71
    replace hc41 := hc41.ext hs71
    replace hb64 := hb64.ext hs71
    refine then_n ?_
    refine cond_f ha290 rfl ?_
    refine wp_seq ?_
    refine wp_region_lit ?_
    refine wl_val ha290 rfl rfl rfl (op_move ha290 rfl rfl) ?_
    intro a291 ha291; clear ha290 a290
    refine wl_val ha291 rfl rfl rfl ((op_add ha291 rfl rfl rfl).int (IntWalk.i64_in _ (by omega))) ?_
    intro a292 ha292; clear ha291 a291
    refine wl_val ha292 rfl rfl rfl (op_assign ha292 rfl rfl) ?_
    intro a293 ha293; clear ha292 a292
    refine wpList_nil ?_
    refine then_n ?_
    refine wp_seq ?_
    refine wp_region_lit ?_
    refine wl_val ha293 rfl rfl rfl (op_move ha293 rfl rfl) ?_
    intro a294 ha294; clear ha293 a293
    refine wl_val ha294 rfl rfl rfl (op_lss ha294 rfl rfl rfl) ?_
    intro a295 ha295; clear ha294 a294
    refine wpList_nil ?_
    refine then_n ?_
    by_cases c296 : f < (0 : Int)
    ·
     rw [decide_eq_true c296] at ha295
     refine cond_t ha295 rfl ?_
     refine wp_region_lit ?_
     refine wl_val ha295 rfl rfl rfl (op_move ha295 rfl rfl) ?_
     intro a297 ha297; clear ha295 a295
     refine wl_val ha297 rfl rfl rfl (op_assign ha297 rfl rfl) ?_
     intro a298 ha298; clear ha297 a297
     refine wpList_nil ?_
     refine then_n ?_
     refine wp_region_lit ?_
     refine wl_val ha298 rfl rfl rfl (op_move ha298 rfl rfl) ?_
     intro a299 ha299; clear ha298 a298
     refine wl_val ha299 rfl rfl rfl (op_move ha299 rfl rfl) ?_
     intro a300 ha300; clear ha299 a299
     refine wl_val ha300 rfl rfl rfl (op_move ha300 rfl rfl) ?_
     intro a301 ha301; clear ha300 a300
     refine wl_val ha301 rfl rfl rfl (op_indexAddr ha301 rfl Try.underlying82 ti9 rfl rfl (by omega) hi40) ?_
     intro a302 ha302; clear ha301 a301
     refine wl_val ha302 rfl rfl rfl (op_loadH ha302 rfl Try.underlying9 rfl rfl hc41 rfl) ?_
     intro a303 ha303; clear ha302 a302
     refine wl_val ha303 rfl rfl rfl (op_len_str ha303 rfl Try.underlying9 rfl) ?_
     intro a304 ha304; clear ha303 a303
     refine wl_val ha304 rfl rfl rfl ((op_add ha304 rfl rfl rfl).int (IntWalk.i64_in _ (by omega))) ?_
     intro a305 ha305; clear ha304 a304
     refine wl_val ha305 rfl rfl rfl (op_assign ha305 rfl rfl) ?_
     intro a306 ha306; clear ha305 a305
     refine wpList_nil ?_
     refine block_n ?_
     refine then_n ?_
     refine wp_region_lit ?_
     refine wl_val ha306 rfl rfl rfl (op_move ha306 rfl rfl) ?_
     intro a307 ha307; clear ha306 a306
     refine wl_val ha307 rfl rfl rfl ((op_add ha307 rfl rfl rfl).int (IntWalk.i64_in _ (by omega))) ?_
     intro a308 ha308; clear ha307 a307
     refine wl_val ha308 rfl rfl rfl (op_assign ha308 rfl rfl) ?_
     intro a309 ha309; clear ha308 a308
     refine wpList_nil ?_
     refine round_end (x := (i, l, f, a, v, acc)) ((i + 1), (l + (1 : Int)), a, (a + ((x37.length : Nat) : Int)), v, acc) ?_ ?_
     ·
      refine ⟨(Sl.cons_ ha309 rfl rfl (Sl.cons_ ha309 rfl (int_eq (by omega)) (Sl.cons_ ha309 rfl (int_eq (by omega)) (Sl.cons_ ha309 rfl (int_eq (by omega)) (Sl.cons_ ha309 rfl rfl (Sl.cons_ ha309 rfl (int_eq (by omega)) (Sl.nil_ ha309))))))), hx70, hf27, (hf26.fin (by omega) (by omega) (by omega)), (by omega), (by omega), (by omega), (by omega), (by omega), (by omega), (by first | omega | (simp; omega)), (by rw [drop_cons hx37, sal_skip (.inl c74)] at hF; rw [if_pos (by omega)] at hF; exact hF)⟩
     ·show ((pcS s).length - ((i + 1)) : Nat) < (pcS s).length - i; omega
    ·
     rw [decide_eq_false c296] at ha295
     refine cond_f ha295 rfl ?_
     refine wp_skip ?_
     refine then_n ?_
     refine wp_region_lit ?_
     refine wl_val ha295 rfl rfl rfl (op_move ha295 rfl rfl) ?_
     intro a310 ha310; clear ha295 a295
     refine wl_val ha310 rfl rfl rfl (op_move ha310 rfl rfl) ?_
     intro a311 ha311; clear ha310 a310
     refine wl_val ha311 rfl rfl rfl (op_move ha311 rfl rfl) ?_
     intro a312 ha312; clear ha311 a311
     refine wl_val ha312 rfl rfl rfl (op_indexAddr ha312 rfl Try.underlying82 ti9 rfl rfl (by omega) hi40) ?_
     intro a313 ha313; clear ha312 a312
     refine wl_val ha313 rfl rfl rfl (op_loadH ha313 rfl Try.underlying9 rfl rfl hc41 rfl) ?_
     intro a314 ha314; clear ha313 a313
     refine wl_val ha314 rfl rfl rfl (op_len_str ha314 rfl Try.underlying9 rfl) ?_
     intro a315 ha315; clear ha314 a314
     refine wl_val ha315 rfl rfl rfl ((op_add ha315 rfl rfl rfl).int (IntWalk.i64_in _ (by omega))) ?_
     intro a316 ha316; clear ha315 a315
     refine wl_val ha316 rfl rfl rfl (op_assign ha316 rfl rfl) ?_
     intro a317 ha317; clear ha316 a316
     refine wpList_nil ?_
     refine block_n ?_
     refine then_n ?_
     refine wp_region_lit ?_
     refine wl_val ha317 rfl rfl rfl (op_move ha317 rfl rfl) ?_
     intro a318 ha318; clear ha317 a317
     refine wl_val ha318 rfl rfl rfl ((op_add ha318 rfl rfl rfl).int (IntWalk.i64_in _ (by omega))) ?_
     intro a319 ha319; clear ha318 a318
     refine wl_val ha319 rfl rfl rfl (op_assign ha319 rfl rfl) ?_
     intro a320 ha320; clear ha319 a319
     refine wpList_nil ?_
     refine round_end (x := (i, l, f, a, v, acc)) ((i + 1), (l + (1 : Int)), f, (a + ((x37.length : Nat) : Int)), v, acc) ?_ ?_
     ·
      refine ⟨(Sl.cons_ ha320 rfl rfl (Sl.cons_ ha320 rfl (int_eq (by omega)) (Sl.cons_ ha320 rfl (int_eq (by omega)) (Sl.cons_ ha320 rfl (int_eq (by omega)) (Sl.cons_ ha320 rfl rfl (Sl.cons_ ha320 rfl (int_eq (by omega)) (Sl.nil_ ha320))))))), hx70, hf27, (hf26.fin (by omega) (by omega) (by omega)), (by omega), (by omega), (by omega), (by omega), (by omega), (by omega), (by first | omega | (simp; omega)), (by rw [drop_cons hx37, sal_skip (.inl c74)] at hF; rw [if_neg (by omega)] at hF; exact hF)⟩
     ·show ((pcS s).length - ((i + 1)) : Nat) < (pcS s).length - i; omega
  ·
   rw [decide_eq_false c34] at ha33
   refine cond_f ha33 rfl ?_
   refine wp_exit ?_
   refine then_e ?_
   refine then_e ?_
   refine block_hit ?_
   refine then_n ?_
   refine wp_seq ?_
   refine wp_region_lit ?_
   refine wl_val ha33 rfl rfl rfl (op_move ha33 rfl rfl) ?_
   intro a321 ha321; clear ha33 a33
   refine wl_val ha321 rfl rfl rfl (op_move ha321 rfl rfl) ?_
   intro a322 ha322; clear ha321 a321
   refine wl_val ha322 rfl rfl rfl (op_move ha322 rfl rfl) ?_
   intro a323 ha323; clear ha322 a322
   refine wl_val ha323 rfl rfl rfl (op_assign ha323 rfl rfl) ?_
   intro a324 ha324; clear ha323 a323
   refine wl_val ha324 rfl rfl rfl (op_assign ha324 rfl rfl) ?_
   intro a325 ha325; clear ha324 a324
   refine wl_val ha325 rfl rfl rfl (op_assign ha325 rfl rfl) ?_
   intro a326 ha326; clear ha325 a325
   refine wpList_nil ?_
   refine then_n ?_
   refine wp_ret ?_
   refine ret3 ha326 rfl rfl rfl rfl ?_
   clear ha326 a326
   refine ret_mk hx25 ⟨v, (tup3_eq rfl (int_eq (by rw [drop_nil (by omega), salGo] at hF; exact congrArg (fun q => q.2.1) hF)) (int_eq (by rw [drop_nil (by omega), salGo] at hF; exact congrArg (fun q => q.2.2) hF))), ?_⟩
   ·refine (hf26.fin (by omega) (by omega) (by omega)).cast ?_
    rw [drop_nil (by omega), salGo] at hF; exact congrArg Prod.fst hF


end Go.Proofs.Ytkdnclpgijkceaa
