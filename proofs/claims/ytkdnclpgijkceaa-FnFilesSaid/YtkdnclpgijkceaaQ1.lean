/- The law FnFiles, walked. -/
import Derived.Test.YtkdnclpgijkceaaN3
import Derived.Test.YtkdnclpgijkceaaN4
import Derived.Test.YtkdnclpgijkceaaQ0
import Derived.Test.YtkdnclpgijkceaaS2
import Derived.Test.YtkdnclpgijkceaaM1
namespace Go.Proofs.Ytkdnclpgijkceaa
open Go Go.RowKit

theorem if01 {b : Bool} (h : (if b = true then 0 else 1 : Int) = 0) : b = true := by cases b <;> simp_all

def nlC : Str → Nat
  | [] => 0
  | c :: s => (if (c.toNat : Int) = 10 then 1 else 0) + nlC s
theorem nlC_append : ∀ (s t : Str), nlC (s ++ t) = nlC s + nlC t
  | [], t => by simp [nlC]
  | c :: s, t => by rw [List.cons_append, nlC, nlC, nlC_append s t]; omega
theorem nlC_step {s : Str} {i : Nat} {b : UInt8} (h : s[i]? = some b) : nlC (s.take (i + 1)) = nlC (s.take i) + (if (b.toNat : Int) = 10 then 1 else 0) := by
  rw [take_snoc h, nlC_append]; rfl
theorem nlC_0 : ∀ {s : Str}, (∀ c ∈ s, c ≠ 10) → nlC s = 0
  | [], _ => rfl
  | c :: s, h => by
    rw [nlC, nlC_0 (s := s) fun d hd => h d (by simp [hd]), if_neg]
    intro e; exact h c (by simp) (UInt8.toNat_inj.1 (by have : (10 : UInt8).toNat = 10 := rfl; omega))
theorem pc_body : ∀ {b : Str} {cur t : Str}, (∀ c ∈ b, c ≠ 10) → pcGo cur (b ++ 10 :: t) = (cur ++ b ++ [10]) :: pcGo [] t
  | [], cur, t, _ => by rw [List.nil_append, pcGo, if_pos rfl]; simp
  | c :: b, cur, t, h => by rw [List.cons_append, pcGo, if_neg (h c (by simp)), pc_body fun d hd => h d (by simp [hd])]; simp
theorem pc_tail : ∀ {b cur : Str}, (∀ c ∈ b, c ≠ 10) → pcGo cur b = if cur ++ b = [] then [] else [cur ++ b]
  | [], cur, _ => by rw [pcGo, List.append_nil]
  | c :: b, cur, h => by
    rw [pcGo, if_neg (h c (by simp)), pc_tail fun d hd => h d (by simp [hd])]
    simp
def bodS (r : Int × Str) : Str := decS r.1 ++ [58] ++ r.2 ++ [35] ++ decS (chkGo r.1 r.2)
theorem line_bod (r : Int × Str) : lineS r = bodS r ++ [10] := rfl
theorem dec_10 {n : Int} : ∀ c ∈ decS n, c ≠ 10 := by
  intro c hc e; subst e
  unfold decS at hc
  split at hc
  · rcases List.mem_cons.1 hc with q | q
    · revert q; decide
    · have := digs_dig _ _ (Nat.le_refl _) _ q; revert this; decide
  · have := digs_dig _ _ (Nat.le_refl _) _ hc; revert this; decide
theorem bod_10 {r : Int × Str} (h : recB r = true) : ∀ c ∈ bodS r, c ≠ 10 := by
  intro c hc
  unfold bodS at hc
  simp only [List.mem_append, List.mem_singleton] at hc
  rcases hc with (((hc | hc) | hc) | hc) | hc
  · exact dec_10 c hc
  · subst hc; decide
  · unfold recB at h; simp only [Bool.and_eq_true, List.all_eq_true] at h
    have := h.2 c hc
    intro e; subst e; revert this; decide
  · subst hc; decide
  · exact dec_10 c hc
/-- The first bytes of a file: whole lines, and what is left of one. -/
theorem file_cut : ∀ {xs : List (Int × Str)} {a : Nat}, (∀ r ∈ xs, recB r = true) → a ≤ (fileS xs).length → ∃ (k : Nat) (tl : List Str), pcS ((fileS xs).take a) = (xs.take k).map lineS ++ tl ∧ nlC ((fileS xs).take a) = k ∧ k ≤ xs.length ∧ (tl = [] ∨ ∃ t, tl = [t] ∧ ∀ c ∈ t, c ≠ 10) ∧ (a = (fileS xs).length → tl = [] ∧ k = xs.length)
  | [], a, _, _ => ⟨0, [], by simp [fileS, pcS, pcGo], by simp [fileS, nlC], Nat.le_refl _, .inl rfl, fun _ => ⟨rfl, rfl⟩⟩
  | x :: xs, a, h, ha => by
    have hx := h x (by simp)
    have hb := bod_10 hx
    have hL : (lineS x).length = (bodS x).length + 1 := by rw [line_bod]; simp
    rw [fileS, List.length_append] at ha
    by_cases q : a < (lineS x).length
    · have e : (fileS (x :: xs)).take a = (bodS x).take a := by
        rw [fileS, line_bod, List.append_assoc, List.take_append_of_le_length (by omega)]
      have h10 : ∀ c ∈ (bodS x).take a, c ≠ 10 := fun c hc => hb c (List.mem_of_mem_take hc)
      rw [e]
      refine ⟨0, pcS ((bodS x).take a), by simp, nlC_0 h10, Nat.zero_le _, ?_, fun q2 => ?_⟩
      · unfold pcS; rw [pc_tail h10]; split
        · exact .inl rfl
        · exact .inr ⟨_, rfl, by simpa using h10⟩
      · rw [fileS, List.length_append] at q2; omega
    · obtain ⟨k, tl, h1, h2, h3, h4, h5⟩ := file_cut (xs := xs) (a := a - (lineS x).length) (fun r hr => h r (by simp [hr])) (by omega)
      have e : (fileS (x :: xs)).take a = lineS x ++ (fileS xs).take (a - (lineS x).length) := by
        rw [fileS, List.take_append, List.take_of_length_le (by omega)]
      rw [e]
      refine ⟨k + 1, tl, ?_, ?_, by simp; omega, h4, fun q2 => ?_⟩
      · have : lineS x ++ (fileS xs).take (a - (lineS x).length) = bodS x ++ 10 :: (fileS xs).take (a - (lineS x).length) := by rw [line_bod, List.append_assoc]; rfl
        unfold pcS at h1 ⊢
        rw [this, pc_body hb, h1]; simp [line_bod]
      · rw [nlC_append, h2, line_bod, nlC_append, nlC_0 hb]; simp [nlC]; omega
      · rw [fileS, List.length_append] at q2
        have := h5 (by omega); exact ⟨this.1, by simp; omega⟩
theorem sal_lines : ∀ (xs acc : List (Int × Str)) (tl : List Str) (l f a : Int), areB (acc ++ xs) = true → ∃ a', salGo (xs.map lineS ++ tl) acc l f a = salGo tl (acc ++ xs) l f a'
  | [], acc, tl, l, f, a, _ => ⟨a, by simp⟩
  | x :: xs, acc, tl, l, f, a, h => by
    have hl := areB_len h
    rw [List.length_append, List.length_cons] at hl
    have hx : recB x = true := areB_all h x (by simp)
    have hr := rr_line hx
    have hord : acc.length = 0 ∨ ∃ y, acc[acc.length - 1]? = some y ∧ y.1 < (rrR (lineS x)).1 := by
      by_cases q : acc.length = 0
      · exact .inl q
      · obtain ⟨y, hy⟩ := get_ex (xs := acc) (j := acc.length - 1) (by omega)
        refine .inr ⟨y, hy, ?_⟩
        rw [hr.2]
        exact are_pair h (j := acc.length - 1) (k := acc.length) (by omega) (by rw [List.getElem?_append_left (by omega)]; exact hy) (by rw [List.getElem?_append_right (Nat.le_refl _), Nat.sub_self]; rfl)
    rw [List.map_cons, List.cons_append, sal_take hr.1 (by omega) hord, hr.2]
    obtain ⟨a', e⟩ := sal_lines xs (acc ++ [x]) tl l f _ (by rw [List.append_assoc]; exact h)
    exact ⟨a', by rw [e, List.append_assoc]; rfl⟩
theorem rr_no {t : Str} (h : ∀ c ∈ t, c ≠ 10) : rrB t = false := by
  refine Bool.eq_false_iff.2 fun q => ?_
  have := (rr_rec q).2
  exact h 10 (by rw [← this, line_bod]; simp) rfl
theorem rise_take : ∀ (xs : List (Int × Str)) (p : Option Int) (k : Nat), riseB p xs = true → riseB p (xs.take k) = true
  | [], p, k, h => by simpa using h
  | x :: xs, p, 0, _ => by cases p <;> rfl
  | x :: xs, p, k + 1, h => by
    rw [List.take_succ_cons]
    simp only [riseB, Bool.and_eq_true] at h ⊢
    exact ⟨h.1, rise_take xs _ k h.2⟩
theorem are_take {xs : List (Int × Str)} (h : areB xs = true) (k : Nat) : areB (xs.take k) = true := by
  unfold areB at h ⊢
  simp only [Bool.and_eq_true, decide_eq_true_eq] at h ⊢
  exact ⟨by rw [List.length_take]; omega, rise_take _ _ k h.2⟩
/-- What is found in the first bytes of a file. -/
theorem sal_cut {xs : List (Int × Str)} {a : Nat} (h : areB xs = true) (ha : a ≤ (fileS xs).length) : (salS ((fileS xs).take a)).1 = xs.take (nlC ((fileS xs).take a)) ∧ (salS ((fileS xs).take a)).2.1 ≤ 1 ∧ nlC ((fileS xs).take a) ≤ xs.length ∧ (a = (fileS xs).length → (salS ((fileS xs).take a)).2.1 = 0 ∧ nlC ((fileS xs).take a) = xs.length) := by
  obtain ⟨k, tl, h1, h2, h3, h4, h5⟩ := file_cut (areB_all h) ha
  obtain ⟨a', e⟩ := sal_lines (xs.take k) [] tl 0 (-1) 0 (by rw [List.nil_append]; exact are_take h k)
  rw [List.nil_append] at e
  rw [h2]
  unfold salS; rw [h1, e]
  rcases h4 with h4 | ⟨t, h4, h6⟩
  · subst h4; rw [salGo]; exact ⟨rfl, by show (0 : Int) ≤ 1; decide, h3, fun q => ⟨rfl, (h5 q).2⟩⟩
  · subst h4; rw [sal_skip (.inl (rr_no h6)), salGo]
    refine ⟨rfl, by show (0 : Int) + 1 ≤ 1; decide, h3, fun q => ?_⟩
    have := (h5 q).1; cases this
theorem sal_first : ∀ (ps : List Str) (acc : List (Int × Str)) (l f a : Int), 0 ≤ l → 0 ≤ a → (f < 0 ↔ ¬ 0 < l) → ((salGo ps acc l f a).2.2 < 0 ↔ ¬ 0 < (salGo ps acc l f a).2.1)
  | [], acc, l, f, a, h0, h1, h => h
  | p :: ps, acc, l, f, a, h0, h1, h => by
    rw [salGo]; split
    · exact sal_first ps _ _ _ _ h0 (by omega) h
    · refine sal_first ps _ _ _ _ (by omega) (by omega) ?_
      split <;> omega
theorem fl_iff (s : Str) : (if (salS s).2.2 < 0 then 4 else 0 : Int) = 0 ↔ (0 : Int) < (salS s).2.1 := by
  have := sal_first (pcS s) [] 0 (-1) 0 (by omega) (by omega) (by omega)
  unfold salS
  split <;> omega
theorem bq {p q : Prop} [Decidable p] [Decidable q] (h : p ↔ q) (c : (decide p == decide q) = false) : False := by
  by_cases hq : q
  · rw [decide_eq_true hq, decide_eq_true (h.2 hq)] at c; cases c
  · rw [decide_eq_false hq, decide_eq_false (fun hp => hq (h.1 hp))] at c; cases c
/-- What is known of the file of records. -/
theorem fi_all {xs : List (Int × Str)} (h : areB xs = true) : (if areB xs then fileS xs else []) = fileS xs ∧ (fileS xs).length ≤ 2100 ∧ (salS (fileS xs)).1 = xs ∧ (salS (fileS xs)).2.1 = 0 ∧ xs.length ≤ 30 := by
  have hl := areB_len h
  have h2 := fileS_len (areB_all h)
  obtain ⟨c1, c2, c3, c4⟩ := sal_cut h (Nat.le_refl (fileS xs).length)
  have c5 := c4 rfl
  rw [List.take_length] at c1 c5
  exact ⟨if_pos h, by omega, by rw [c1, c5.2, List.take_length], c5.1, hl⟩

set_option maxHeartbeats 8000000 in
set_option maxRecDepth 16000 in
theorem c_laws_FnFiles (w0 : World) (v_code : Value) (code : List UInt8) {S_code : Nat → Prop} (h_code : Rds shU8 S_code w0 v_code code) :
  Calls Try.prog 11 #[v_code] w0 (Ret w0 (fun v _ => v = .bool (true))) := by
 refine enter (N := 178) Try.func11 rfl rfl rfl ?_
 intro a0 ha0
 have hx0 := Ext.rfl' w0
 have hl_code := h_code.length_le
 refine wp_seq ?_
 refine wp_region_lit ?_
 refine wl_val ha0 rfl rfl rfl (op_assign ha0 rfl rfl) ?_
 intro a1 ha1; clear ha0 a0
 refine wpList_nil ?_
 refine then_n ?_
 refine wp_seq ?_
 refine wp_seq ?_
 refine wp_region_lit ?_
 refine wl_val ha1 rfl rfl rfl (op_move ha1 rfl rfl) ?_
 intro a2 ha2; clear ha1 a1
 refine wl_callR ha2 rfl rfl rfl (op_call ha2 rfl cb39 rfl) (c_laws_big _ v_code code (h_code.ext pos_shU8 hx0)) ?_
 rintro v3 w4 he5 rfl a6 ha6; clear ha2 a2
 have hx7 := hx0.trans' he5
 have hzhx7 := he5.size
 refine wpList_nil ?_
 refine then_n ?_
 rcases Bool.eq_false_or_eq_true (decide (4096 < code.length)) with c8 | c8
 ·
  rw [c8] at ha6
  refine cond_t ha6 rfl ?_
  refine wp_seq ?_
  refine wp_region_lit ?_
  refine wl_val ha6 rfl rfl rfl (op_assign ha6 rfl rfl) ?_
  intro a9 ha9; clear ha6 a6
  refine wpList_nil ?_
  refine then_n ?_
  refine wp_ret ?_
  refine then_r ?_
  refine ret1 ha9 rfl rfl ?_
  clear ha9 a9
  exact ret_mk hx7 (congrArg Value.bool (by first | rfl | (rw [decide_eq_true_eq]; exact hc2) | (exact decide_eq_true hc2) | (simp at c8; done) | omega))
 ·
  rw [c8] at ha6
  refine cond_f ha6 rfl ?_
  refine wp_skip ?_
  refine then_n ?_
  refine wp_seq ?_
  refine wp_region_lit ?_
  refine wl_val ha6 rfl rfl rfl (op_move ha6 rfl rfl) ?_
  intro a10 ha10; clear ha6 a6
  refine wl_callR ha10 rfl rfl rfl (op_call ha10 rfl cb40 rfl) (c_spec_DrawFileText _ v_code code (h_code.ext pos_shU8 hx7)) ?_
  rintro v11 w12 he13 ⟨q14, hq15, ho16⟩ a17 ha17; clear ha10 a10
  have hx18 := hx7.trans' he13
  have hzhx18 := he13.size
  refine wl_val ha17 rfl rfl rfl (op_assign ha17 rfl rfl) ?_
  intro a19 ha19; clear ha17 a17
  refine wpList_nil ?_
  refine then_n ?_
  refine wp_seq ?_
  refine wp_region_lit ?_
  refine wl_val ha19 rfl rfl rfl (op_move ha19 rfl rfl) ?_
  intro a20 ha20; clear ha19 a19
  refine wl_callR ha20 rfl rfl rfl (op_call ha20 rfl cb19 rfl) (c_impl_FileText _ v11 ((q14)) (ho16.rds pos_shRec) (by first | assumption | omega | (exact Nat.le_trans (areB_len (salS_are _)) (Nat.le_of_ble_eq_true rfl)) | (simp; done) | (simp; omega))) ?_
  rintro v21 w22 he23 rfl a24 ha24; clear ha20 a20
  have hx25 := hx18.trans' he23
  have hzhx25 := he23.size
  replace ho16 := ho16.ext he23
  refine wl_val ha24 rfl rfl rfl (op_move ha24 rfl rfl) ?_
  intro a26 ha26; clear ha24 a24
  refine wl_val ha26 rfl rfl rfl (op_extract ha26 rfl rfl rfl) ?_
  intro a27 ha27; clear ha26 a26
  refine wl_val ha27 rfl rfl rfl (op_extract ha27 rfl rfl rfl) ?_
  intro a28 ha28; clear ha27 a27
  refine wl_val ha28 rfl rfl rfl (op_assign ha28 rfl rfl) ?_
  intro a29 ha29; clear ha28 a28
  refine wl_val ha29 rfl rfl rfl (op_assign ha29 rfl rfl) ?_
  intro a30 ha30; clear ha29 a29
  refine wpList_nil ?_
  refine then_n ?_
  refine wp_seq ?_
  refine wp_region_lit ?_
  refine wl_val ha30 rfl rfl rfl (op_move ha30 rfl rfl) ?_
  intro a31 ha31; clear ha30 a30
  refine wl_callR ha31 rfl rfl rfl (op_call ha31 rfl cb18 rfl) (c_spec_FileText _ v11 ((q14)) (ho16.rds pos_shRec) (by first | assumption | omega | (exact Nat.le_trans (areB_len (salS_are _)) (Nat.le_of_ble_eq_true rfl)) | (simp; done) | (simp; omega))) ?_
  rintro v32 w33 he34 rfl a35 ha35; clear ha31 a31
  have hx36 := hx25.trans' he34
  have hzhx36 := he34.size
  replace ho16 := ho16.ext he34
  refine wl_val ha35 rfl rfl rfl (op_move ha35 rfl rfl) ?_
  intro a37 ha37; clear ha35 a35
  refine wl_val ha37 rfl rfl rfl (op_extract ha37 rfl rfl rfl) ?_
  intro a38 ha38; clear ha37 a37
  refine wl_val ha38 rfl rfl rfl (op_extract ha38 rfl rfl rfl) ?_
  intro a39 ha39; clear ha38 a38
  refine wl_val ha39 rfl rfl rfl (op_assign ha39 rfl rfl) ?_
  intro a40 ha40; clear ha39 a39
  refine wl_val ha40 rfl rfl rfl (op_assign ha40 rfl rfl) ?_
  intro a41 ha41; clear ha40 a40
  refine wpList_nil ?_
  refine then_n ?_
  refine wp_seq ?_
  refine wp_region_lit ?_
  refine wl_val ha41 rfl rfl rfl (op_move ha41 rfl rfl) ?_
  intro a42 ha42; clear ha41 a41
  refine wl_callR ha42 rfl rfl rfl (op_call ha42 rfl cb41 rfl) (c_spec_DrawSalvageFile _ v_code code (h_code.ext pos_shU8 hx36)) ?_
  rintro v43 w44 he45 ⟨q46, hq47, rfl⟩ a48 ha48; clear ha42 a42
  have hx49 := hx36.trans' he45
  have hzhx49 := he45.size
  replace ho16 := ho16.ext he45
  refine wl_val ha48 rfl rfl rfl (op_assign ha48 rfl rfl) ?_
  intro a50 ha50; clear ha48 a48
  refine wpList_nil ?_
  refine then_n ?_
  refine wp_seq ?_
  refine wp_region_lit ?_
  refine wl_val ha50 rfl rfl rfl (op_move ha50 rfl rfl) ?_
  intro a51 ha51; clear ha50 a50
  refine wl_callR ha51 rfl rfl rfl (op_call ha51 rfl cb31 rfl) (c_impl_SalvageFile _ ((q46)) (by first | assumption | omega | (exact Nat.le_trans (areB_len (salS_are _)) (Nat.le_of_ble_eq_true rfl)) | (simp; done) | (simp; omega))) ?_
  rintro v52 w53 he54 ⟨v55, rfl, ho56⟩ a57 ha57; clear ha51 a51
  have hx58 := hx49.trans' he54
  have hzhx58 := he54.size
  replace ho16 := ho16.ext he54
  refine wl_val ha57 rfl rfl rfl (op_move ha57 rfl rfl) ?_
  intro a59 ha59; clear ha57 a57
  refine wl_val ha59 rfl rfl rfl (op_extract ha59 rfl rfl rfl) ?_
  intro a60 ha60; clear ha59 a59
  refine wl_val ha60 rfl rfl rfl (op_extract ha60 rfl rfl rfl) ?_
  intro a61 ha61; clear ha60 a60
  refine wl_val ha61 rfl rfl rfl (op_assign ha61 rfl rfl) ?_
  intro a62 ha62; clear ha61 a61
  refine wl_val ha62 rfl rfl rfl (op_assign ha62 rfl rfl) ?_
  intro a63 ha63; clear ha62 a62
  refine wpList_nil ?_
  refine then_n ?_
  refine wp_seq ?_
  refine wp_region_lit ?_
  refine wl_val ha63 rfl rfl rfl (op_move ha63 rfl rfl) ?_
  intro a64 ha64; clear ha63 a63
  refine wl_callR ha64 rfl rfl rfl (op_call ha64 rfl cb30 rfl) (c_spec_SalvageFile _ ((q46)) (by first | assumption | omega | (exact Nat.le_trans (areB_len (salS_are _)) (Nat.le_of_ble_eq_true rfl)) | (simp; done) | (simp; omega))) ?_
  rintro v65 w66 he67 ⟨v68, rfl, ho69⟩ a70 ha70; clear ha64 a64
  have hx71 := hx58.trans' he67
  have hzhx71 := he67.size
  replace ho16 := ho16.ext he67
  replace ho56 := ho56.ext he67
  refine wl_val ha70 rfl rfl rfl (op_move ha70 rfl rfl) ?_
  intro a72 ha72; clear ha70 a70
  refine wl_val ha72 rfl rfl rfl (op_extract ha72 rfl rfl rfl) ?_
  intro a73 ha73; clear ha72 a72
  refine wl_val ha73 rfl rfl rfl (op_extract ha73 rfl rfl rfl) ?_
  intro a74 ha74; clear ha73 a73
  refine wl_val ha74 rfl rfl rfl (op_assign ha74 rfl rfl) ?_
  intro a75 ha75; clear ha74 a74
  refine wl_val ha75 rfl rfl rfl (op_assign ha75 rfl rfl) ?_
  intro a76 ha76; clear ha75 a75
  refine wpList_nil ?_
  refine then_n ?_
  refine wp_seq ?_
  refine wp_region_lit ?_
  refine wl_val ha76 rfl rfl rfl (op_move ha76 rfl rfl) ?_
  intro a77 ha77; clear ha76 a76
  refine wl_callR ha77 rfl rfl rfl (op_call ha77 rfl cb33 rfl) (c_impl_MissingNumbers _ ((q46)) (by first | assumption | omega | (exact Nat.le_trans (areB_len (salS_are _)) (Nat.le_of_ble_eq_true rfl)) | (simp; done) | (simp; omega))) ?_
  rintro v78 w79 he80 ho81 a82 ha82; clear ha77 a77
  have hx83 := hx71.trans' he80
  have hzhx83 := he80.size
  replace ho16 := ho16.ext he80
  replace ho56 := ho56.ext he80
  replace ho69 := ho69.ext he80
  refine wl_val ha82 rfl rfl rfl (op_assign ha82 rfl rfl) ?_
  intro a84 ha84; clear ha82 a82
  refine wpList_nil ?_
  refine then_n ?_
  refine wp_seq ?_
  refine wp_region_lit ?_
  refine wl_val ha84 rfl rfl rfl (op_move ha84 rfl rfl) ?_
  intro a85 ha85; clear ha84 a84
  refine wl_callR ha85 rfl rfl rfl (op_call ha85 rfl cb29 rfl) (c_impl_FirstLost _ ((q46)) (by first | assumption | omega | (exact Nat.le_trans (areB_len (salS_are _)) (Nat.le_of_ble_eq_true rfl)) | (simp; done) | (simp; omega))) ?_
  rintro v86 w87 he88 rfl a89 ha89; clear ha85 a85
  have hx90 := hx83.trans' he88
  have hzhx90 := he88.size
  replace ho16 := ho16.ext he88
  replace ho56 := ho56.ext he88
  replace ho69 := ho69.ext he88
  replace ho81 := ho81.ext he88
  refine wl_val ha89 rfl rfl rfl (op_move ha89 rfl rfl) ?_
  intro a91 ha91; clear ha89 a89
  refine wl_val ha91 rfl rfl rfl (op_extract ha91 rfl rfl rfl) ?_
  intro a92 ha92; clear ha91 a91
  refine wl_val ha92 rfl rfl rfl (op_extract ha92 rfl rfl rfl) ?_
  intro a93 ha93; clear ha92 a92
  refine wl_val ha93 rfl rfl rfl (op_assign ha93 rfl rfl) ?_
  intro a94 ha94; clear ha93 a93
  refine wl_val ha94 rfl rfl rfl (op_assign ha94 rfl rfl) ?_
  intro a95 ha95; clear ha94 a94
  refine wpList_nil ?_
  refine then_n ?_
  refine wp_seq ?_
  refine wp_region_lit ?_
  refine wl_val ha95 rfl rfl rfl (op_move ha95 rfl rfl) ?_
  intro a96 ha96; clear ha95 a95
  refine wl_callR ha96 rfl rfl rfl (op_call ha96 rfl cb28 rfl) (c_spec_FirstLost _ ((q46)) (by first | assumption | omega | (exact Nat.le_trans (areB_len (salS_are _)) (Nat.le_of_ble_eq_true rfl)) | (simp; done) | (simp; omega))) ?_
  rintro v97 w98 he99 rfl a100 ha100; clear ha96 a96
  have hx101 := hx90.trans' he99
  have hzhx101 := he99.size
  replace ho16 := ho16.ext he99
  replace ho56 := ho56.ext he99
  replace ho69 := ho69.ext he99
  replace ho81 := ho81.ext he99
  refine wl_val ha100 rfl rfl rfl (op_move ha100 rfl rfl) ?_
  intro a102 ha102; clear ha100 a100
  refine wl_val ha102 rfl rfl rfl (op_extract ha102 rfl rfl rfl) ?_
  intro a103 ha103; clear ha102 a102
  refine wl_val ha103 rfl rfl rfl (op_extract ha103 rfl rfl rfl) ?_
  intro a104 ha104; clear ha103 a103
  refine wl_val ha104 rfl rfl rfl (op_assign ha104 rfl rfl) ?_
  intro a105 ha105; clear ha104 a104
  refine wl_val ha105 rfl rfl rfl (op_assign ha105 rfl rfl) ?_
  intro a106 ha106; clear ha105 a105
  refine wpList_nil ?_
  refine then_n ?_
  refine wp_seq ?_
  refine wp_seq ?_
  refine wp_region_lit ?_
  refine wl_val ha106 rfl rfl rfl (op_move ha106 rfl rfl) ?_
  intro a107 ha107; clear ha106 a106
  refine wl_val ha107 rfl rfl rfl (op_move ha107 rfl rfl) ?_
  intro a108 ha108; clear ha107 a107
  refine wl_val ha108 rfl rfl rfl ((op_neq ha108 rfl rfl rfl).to (congrArg Value.bool decide_not)) ?_
  intro a109 ha109; clear ha108 a108
  refine wl_val ha109 rfl rfl rfl (op_move ha109 rfl rfl) ?_
  intro a110 ha110; clear ha109 a109
  by_cases c111 : (if areB ((q14)) then 0 else 1 : Int) = (if areB ((q14)) then 0 else 1 : Int)
  ·
   rw [decide_eq_true c111] at ha110
   refine wl_val ha110 rfl rfl rfl (op_move ha110 rfl rfl) ?_
   intro a112 ha112; clear ha110 a110
   refine wl_val ha112 rfl rfl rfl (op_move ha112 rfl rfl) ?_
   intro a113 ha113; clear ha112 a112
   refine wl_val ha113 rfl rfl rfl ((op_sneq ha113 rfl rfl rfl).to (congrArg Value.bool decide_not)) ?_
   intro a114 ha114; clear ha113 a113
   refine wl_val ha114 rfl rfl rfl (op_pick_f ha114 rfl rfl rfl) ?_
   intro a115 ha115; clear ha114 a114
   refine wl_val ha115 rfl rfl rfl (op_move ha115 rfl rfl) ?_
   intro a116 ha116; clear ha115 a115
   by_cases c117 : (if areB ((q14)) then fileS ((q14)) else []) = (if areB ((q14)) then fileS ((q14)) else [])
   ·
    rw [decide_eq_true c117] at ha116
    refine wl_val ha116 rfl rfl rfl (op_move ha116 rfl rfl) ?_
    intro a118 ha118; clear ha116 a116
    refine wl_val ha118 rfl rfl rfl (op_move ha118 rfl rfl) ?_
    intro a119 ha119; clear ha118 a118
    refine wl_callR ha119 rfl rfl rfl (op_call ha119 rfl cb42 rfl) (c_laws_likeRecords _ v55 (((salS ((q46))).1)) v68 (((salS ((q46))).1)) (ho56.rds pos_shRec) (ho69.rds pos_shRec)) ?_
    rintro v120 w121 he122 rfl a123 ha123; clear ha119 a119
    have hx124 := hx101.trans' he122
    have hzhx124 := he122.size
    replace ho16 := ho16.ext he122
    replace ho56 := ho56.ext he122
    replace ho69 := ho69.ext he122
    replace ho81 := ho81.ext he122
    refine wl_val ha123 rfl rfl rfl (op_not ha123 rfl rfl) ?_
    intro a125 ha125; clear ha123 a123
    refine wl_val ha125 rfl rfl rfl (op_pick_f ha125 rfl rfl rfl) ?_
    intro a126 ha126; clear ha125 a125
    refine wl_val ha126 rfl rfl rfl (op_move ha126 rfl rfl) ?_
    intro a127 ha127; clear ha126 a126
    rcases Bool.eq_false_or_eq_true (eqL (((salS ((q46))).1)) (((salS ((q46))).1))) with c128 | c128
    ·
     rw [c128] at ha127
     refine wl_val ha127 rfl rfl rfl (op_move ha127 rfl rfl) ?_
     intro a129 ha129; clear ha127 a127
     refine wl_val ha129 rfl rfl rfl (op_move ha129 rfl rfl) ?_
     intro a130 ha130; clear ha129 a129
     refine wl_val ha130 rfl rfl rfl ((op_neq ha130 rfl rfl rfl).to (congrArg Value.bool decide_not)) ?_
     intro a131 ha131; clear ha130 a130
     refine wl_val ha131 rfl rfl rfl (op_pick_f ha131 rfl rfl rfl) ?_
     intro a132 ha132; clear ha131 a131
     refine wl_val ha132 rfl rfl rfl (op_move ha132 rfl rfl) ?_
     intro a133 ha133; clear ha132 a132
     by_cases c134 : ((salS ((q46))).2.1 : Int) = ((salS ((q46))).2.1 : Int)
     ·
      rw [decide_eq_true c134] at ha133
      refine wl_val ha133 rfl rfl rfl (op_move ha133 rfl rfl) ?_
      intro a135 ha135; clear ha133 a133
      refine wl_val ha135 rfl rfl rfl (op_move ha135 rfl rfl) ?_
      intro a136 ha136; clear ha135 a135
      refine wl_callR ha136 rfl rfl rfl (op_call ha136 rfl cb32 rfl) (c_spec_MissingNumbers _ ((q46)) (by first | assumption | omega | (exact Nat.le_trans (areB_len (salS_are _)) (Nat.le_of_ble_eq_true rfl)) | (simp; done) | (simp; omega))) ?_
      rintro v137 w138 he139 ho140 a141 ha141; clear ha136 a136
      have hx142 := hx124.trans' he139
      have hzhx142 := he139.size
      replace ho16 := ho16.ext he139
      replace ho56 := ho56.ext he139
      replace ho69 := ho69.ext he139
      replace ho81 := ho81.ext he139
      refine wl_callR ha141 rfl rfl rfl (op_call ha141 rfl cb43 rfl) (c_laws_likeInts _ v78 ((missU (salS ((q46))).1 (lastN (salS ((q46))).1))) v137 ((missU (salS ((q46))).1 (lastN (salS ((q46))).1))) (ho81.rds pos_shI64) (ho140.rds pos_shI64)) ?_
      rintro v143 w144 he145 rfl a146 ha146; clear ha141 a141
      have hx147 := hx142.trans' he145
      have hzhx147 := he145.size
      replace ho16 := ho16.ext he145
      replace ho56 := ho56.ext he145
      replace ho69 := ho69.ext he145
      replace ho81 := ho81.ext he145
      replace ho140 := ho140.ext he145
      refine wl_val ha146 rfl rfl rfl (op_not ha146 rfl rfl) ?_
      intro a148 ha148; clear ha146 a146
      refine wl_val ha148 rfl rfl rfl (op_pick_f ha148 rfl rfl rfl) ?_
      intro a149 ha149; clear ha148 a148
      refine wl_val ha149 rfl rfl rfl (op_move ha149 rfl rfl) ?_
      intro a150 ha150; clear ha149 a149
      rcases Bool.eq_false_or_eq_true (eqL ((missU (salS ((q46))).1 (lastN (salS ((q46))).1))) ((missU (salS ((q46))).1 (lastN (salS ((q46))).1)))) with c151 | c151
      ·
       rw [c151] at ha150
       refine wl_val ha150 rfl rfl rfl (op_move ha150 rfl rfl) ?_
       intro a152 ha152; clear ha150 a150
       refine wl_val ha152 rfl rfl rfl (op_move ha152 rfl rfl) ?_
       intro a153 ha153; clear ha152 a152
       refine wl_val ha153 rfl rfl rfl ((op_neq ha153 rfl rfl rfl).to (congrArg Value.bool decide_not)) ?_
       intro a154 ha154; clear ha153 a153
       refine wl_val ha154 rfl rfl rfl (op_pick_f ha154 rfl rfl rfl) ?_
       intro a155 ha155; clear ha154 a154
       refine wl_val ha155 rfl rfl rfl (op_move ha155 rfl rfl) ?_
       intro a156 ha156; clear ha155 a155
       by_cases c157 : (if (salS ((q46))).2.2 < 0 then 4 else 0 : Int) = (if (salS ((q46))).2.2 < 0 then 4 else 0 : Int)
       ·
        rw [decide_eq_true c157] at ha156
        refine wl_val ha156 rfl rfl rfl (op_move ha156 rfl rfl) ?_
        intro a158 ha158; clear ha156 a156
        refine wl_val ha158 rfl rfl rfl (op_move ha158 rfl rfl) ?_
        intro a159 ha159; clear ha158 a158
        refine wl_val ha159 rfl rfl rfl ((op_neq ha159 rfl rfl rfl).to (congrArg Value.bool decide_not)) ?_
        intro a160 ha160; clear ha159 a159
        refine wl_val ha160 rfl rfl rfl (op_pick_f ha160 rfl rfl rfl) ?_
        intro a161 ha161; clear ha160 a160
        refine wl_val ha161 rfl rfl rfl (op_move ha161 rfl rfl) ?_
        intro a162 ha162; clear ha161 a161
        by_cases c163 : (if (salS ((q46))).2.2 < 0 then 0 else (salS ((q46))).2.2 : Int) = (if (salS ((q46))).2.2 < 0 then 0 else (salS ((q46))).2.2 : Int)
        ·
         rw [decide_eq_true c163] at ha162
         refine wl_val ha162 rfl rfl rfl (op_move ha162 rfl rfl) ?_
         intro a164 ha164; clear ha162 a162
         refine wl_callR ha164 rfl rfl rfl (op_call ha164 rfl cb27 rfl) (c_impl_IsFile _ ((q46)) (by first | assumption | omega | (exact Nat.le_trans (areB_len (salS_are _)) (Nat.le_of_ble_eq_true rfl)) | (simp; done) | (simp; omega))) ?_
         rintro v165 w166 he167 rfl a168 ha168; clear ha164 a164
         have hx169 := hx147.trans' he167
         have hzhx169 := he167.size
         replace ho16 := ho16.ext he167
         replace ho56 := ho56.ext he167
         replace ho69 := ho69.ext he167
         replace ho81 := ho81.ext he167
         replace ho140 := ho140.ext he167
         refine wl_val ha168 rfl rfl rfl (op_move ha168 rfl rfl) ?_
         intro a170 ha170; clear ha168 a168
         refine wl_val ha170 rfl rfl rfl (op_eql ha170 rfl rfl rfl) ?_
         intro a171 ha171; clear ha170 a170
         refine wl_val ha171 rfl rfl rfl (op_bneq ha171 rfl Try.underlying4 rfl rfl) ?_
         intro a172 ha172; clear ha171 a171
         refine wl_val ha172 rfl rfl rfl (op_pick_f ha172 rfl rfl rfl) ?_
         intro a173 ha173; clear ha172 a172
         refine wl_val ha173 rfl rfl rfl (op_move ha173 rfl rfl) ?_
         intro a174 ha174; clear ha173 a173
         rcases Bool.eq_false_or_eq_true ((decide ((salS ((q46))).2.1 = 0) == decide (((salS ((q46))).2.1 : Int) = (0 : Int)))) with c175 | c175
         ·
          rw [c175] at ha174
          refine wl_val ha174 rfl rfl rfl (op_move ha174 rfl rfl) ?_
          intro a176 ha176; clear ha174 a174
          refine wl_callR ha176 rfl rfl rfl (op_call ha176 rfl cb16 rfl) (c_impl_AreRecords _ v11 ((q14)) (ho16.rds pos_shRec) (by first | assumption | omega | (exact Nat.le_trans (areB_len (salS_are _)) (Nat.le_of_ble_eq_true rfl)) | (simp; done) | (simp; omega))) ?_
          rintro v177 w178 he179 rfl a180 ha180; clear ha176 a176
          have hx181 := hx169.trans' he179
          have hzhx181 := he179.size
          replace ho16 := ho16.ext he179
          replace ho56 := ho56.ext he179
          replace ho69 := ho69.ext he179
          replace ho81 := ho81.ext he179
          replace ho140 := ho140.ext he179
          refine wl_val ha180 rfl rfl rfl (op_move ha180 rfl rfl) ?_
          intro a182 ha182; clear ha180 a180
          refine wl_val ha182 rfl rfl rfl (op_eql ha182 rfl rfl rfl) ?_
          intro a183 ha183; clear ha182 a182
          refine wl_val ha183 rfl rfl rfl (op_bneq ha183 rfl Try.underlying4 rfl rfl) ?_
          intro a184 ha184; clear ha183 a183
          refine wl_val ha184 rfl rfl rfl (op_pick_f ha184 rfl rfl rfl) ?_
          intro a185 ha185; clear ha184 a184
          refine wpList_nil ?_
          refine then_n ?_
          rcases Bool.eq_false_or_eq_true ((areB ((q14)) == decide ((if areB ((q14)) then 0 else 1 : Int) = (0 : Int)))) with c186 | c186
          ·
           rw [c186] at ha185
           refine cond_f ha185 rfl ?_
           refine wp_skip ?_
           refine then_n ?_
           refine wp_seq ?_
           refine wp_seq ?_
           clear ho69 ho81 ho140
           refine wp_region_lit ?_
           refine wl_val ha185 rfl rfl rfl (op_move ha185 rfl rfl) ?_
           intro a187 ha187; clear ha185 a185
           refine wl_callR ha187 rfl rfl rfl (op_call ha187 rfl cb16 rfl) (c_impl_AreRecords _ v55 (((salS ((q46))).1)) (ho56.rds pos_shRec) (by first | assumption | omega | (exact Nat.le_trans (areB_len (salS_are _)) (Nat.le_of_ble_eq_true rfl)) | (simp; done) | (simp; omega))) ?_
           rintro v188 w189 he190 rfl a191 ha191; clear ha187 a187
           have hx192 := hx181.trans' he190
           have hzhx192 := he190.size
           replace ho16 := ho16.ext he190
           replace ho56 := ho56.ext he190
           refine wl_val ha191 rfl rfl rfl (op_not ha191 rfl rfl) ?_
           intro a193 ha193; clear ha191 a191
           refine wl_val ha193 rfl rfl rfl (op_move ha193 rfl rfl) ?_
           intro a194 ha194; clear ha193 a193
           rcases Bool.eq_false_or_eq_true (areB (((salS ((q46))).1))) with c195 | c195
           ·
            rw [c195] at ha194
            refine wl_val ha194 rfl rfl rfl (op_move ha194 rfl rfl) ?_
            intro a196 ha196; clear ha194 a194
            refine wl_val ha196 rfl rfl rfl (op_eql ha196 rfl rfl rfl) ?_
            intro a197 ha197; clear ha196 a196
            refine wl_val ha197 rfl rfl rfl (op_move ha197 rfl rfl) ?_
            intro a198 ha198; clear ha197 a197
            refine wl_val ha198 rfl rfl rfl (op_gtr ha198 rfl rfl rfl) ?_
            intro a199 ha199; clear ha198 a198
            refine wl_val ha199 rfl rfl rfl (op_bneq ha199 rfl Try.underlying4 rfl rfl) ?_
            intro a200 ha200; clear ha199 a199
            refine wl_val ha200 rfl rfl rfl (op_pick_f ha200 rfl rfl rfl) ?_
            intro a201 ha201; clear ha200 a200
            refine wpList_nil ?_
            refine then_n ?_
            rcases Bool.eq_false_or_eq_true ((decide ((if (salS ((q46))).2.2 < 0 then 4 else 0 : Int) = (0 : Int)) == decide ((0 : Int) < ((salS ((q46))).2.1 : Int)))) with c202 | c202
            ·
             rw [c202] at ha201
             refine cond_f ha201 rfl ?_
             refine wp_skip ?_
             refine then_n ?_
             refine wp_seq ?_
             refine wp_seq ?_
             clear ho56
             refine wp_region_lit ?_
             refine wl_val ha201 rfl rfl rfl (op_move ha201 rfl rfl) ?_
             intro a203 ha203; clear ha201 a201
             refine wl_val ha203 rfl rfl rfl ((op_neq ha203 rfl rfl rfl).to (congrArg Value.bool decide_not)) ?_
             intro a204 ha204; clear ha203 a203
             refine wpList_nil ?_
             refine then_n ?_
             by_cases c205 : (if areB ((q14)) then 0 else 1 : Int) = (0 : Int)
             ·
              rw [decide_eq_true c205] at ha204
              have hA := if01 c205
              obtain ⟨hf1, hf2, hf3, hf4, hf5⟩ := fi_all hA
              have hf1l := congrArg List.length hf1
              refine cond_f ha204 rfl ?_
              refine wp_skip ?_
              refine then_n ?_
              refine wp_seq ?_
              refine wp_region_lit ?_
              refine wl_val ha204 rfl rfl rfl (op_move ha204 rfl rfl) ?_
              intro a206 ha206; clear ha204 a204
              refine wl_callR ha206 rfl rfl rfl (op_call ha206 rfl cb31 rfl) (c_impl_SalvageFile _ ((if areB ((q14)) then fileS ((q14)) else [])) (by first | assumption | omega | (exact Nat.le_trans (areB_len (salS_are _)) (Nat.le_of_ble_eq_true rfl)) | (simp; done) | (simp; omega))) ?_
              rintro v207 w208 he209 ⟨v210, rfl, ho211⟩ a212 ha212; clear ha206 a206
              have hx213 := hx192.trans' he209
              have hzhx213 := he209.size
              replace ho16 := ho16.ext he209
              refine wl_val ha212 rfl rfl rfl (op_move ha212 rfl rfl) ?_
              intro a214 ha214; clear ha212 a212
              refine wl_val ha214 rfl rfl rfl (op_extract ha214 rfl rfl rfl) ?_
              intro a215 ha215; clear ha214 a214
              refine wl_val ha215 rfl rfl rfl (op_extract ha215 rfl rfl rfl) ?_
              intro a216 ha216; clear ha215 a215
              refine wl_val ha216 rfl rfl rfl (op_assign ha216 rfl rfl) ?_
              intro a217 ha217; clear ha216 a216
              refine wl_val ha217 rfl rfl rfl (op_assign ha217 rfl rfl) ?_
              intro a218 ha218; clear ha217 a217
              refine wpList_nil ?_
              refine then_n ?_
              refine wp_seq ?_
              refine wp_region_lit ?_
              refine wl_val ha218 rfl rfl rfl (op_move ha218 rfl rfl) ?_
              intro a219 ha219; clear ha218 a218
              refine wl_callR ha219 rfl rfl rfl (op_call ha219 rfl cb44 rfl) (c_laws_roll _ v_code code (3201 : Int) (h_code.low pos_shU8 hx213 (Nat.le_refl _)) (by omega)) ?_
              rintro v220 w221 he222 ⟨g223, rfl, hg224, hS225⟩ a226 ha226; clear ha219 a219
              have hx227 := hx213.trans' he222
              have hzhx227 := he222.size
              replace ho16 := ho16.ext he222
              replace ho211 := ho211.ext he222
              have hSlhS225 := hS225.lt
              refine wl_val ha226 rfl rfl rfl (op_move ha226 rfl rfl) ?_
              intro a228 ha228; clear ha226 a226
              refine wl_val ha228 rfl rfl rfl (op_len_str ha228 rfl Try.underlying9 rfl) ?_
              intro a229 ha229; clear ha228 a228
              refine wl_val ha229 rfl rfl rfl ((op_add ha229 rfl rfl rfl).int (IntWalk.i64_in _ (by omega))) ?_
              intro a230 ha230; clear ha229 a229
              refine wl_callS ha230 rfl rfl rfl (op_call ha230 rfl cb45 rfl) (c_laws_below _ g223 w0.heap.size (((((if areB ((q14)) then fileS ((q14)) else [])).length : Nat) : Int) + (1 : Int)) hS225 (by first | assumption | omega | (exact Nat.le_trans (areB_len (salS_are _)) (Nat.le_of_ble_eq_true rfl)) | (simp; done) | (simp; omega)) (by first | assumption | omega | (exact Nat.le_trans (areB_len (salS_are _)) (Nat.le_of_ble_eq_true rfl)) | (simp; done) | (simp; omega))) ?_
              rintro v231 w232 he233 ⟨hS234, ⟨q235, hq236, hq237, rfl⟩⟩ a238 ha238; clear ha230 a230
              have hx239 := hx227.stp he233 (by intro q hq; cases hq; exact (by omega))
              have hzhx239 := he233.size
              first | replace ho16 := ho16.stp he233 (by intro q hq; cases hq; omega) | replace ho16 := ho16.stpF flat_shRec he233 (by intro q hq; cases hq; exact ho16.ne_box (by assumption) rfl)
              first | replace ho211 := ho211.stp he233 (by intro q hq; cases hq; omega) | replace ho211 := ho211.stpF flat_shRec he233 (by intro q hq; cases hq; exact ho211.ne_box (by assumption) rfl)
              clear hS225
              have hSlhS234 := hS234.lt
              refine wl_val ha238 rfl rfl rfl (op_assign ha238 rfl rfl) ?_
              intro a240 ha240; clear ha238 a238
              refine wpList_nil ?_
              refine then_n ?_
              refine wp_seq ?_
              clear hS234
              have hct := sal_cut (a := ((q235 : Int)).toNat) hA (by omega)
              rw [← hf1] at hct hf3 hf4
              obtain ⟨hc1, hc2, hc3, hc4⟩ := hct
              refine wp_region_lit ?_
              refine wl_val ha240 rfl rfl rfl (op_move ha240 rfl rfl) ?_
              intro a241 ha241; clear ha240 a240
              refine wl_val ha241 rfl rfl rfl (op_move ha241 rfl rfl) ?_
              intro a242 ha242; clear ha241 a241
              refine wl_val ha242 rfl rfl rfl (op_slice_str_t (j := ((q235 : Int)).toNat) (by omega) ha242 rfl Try.underlying9 rfl rfl (by first | omega | (simp; omega))) ?_
              intro a243 ha243; clear ha242 a242
              refine wl_callR ha243 rfl rfl rfl (op_call ha243 rfl cb31 rfl) (c_impl_SalvageFile _ (((if areB ((q14)) then fileS ((q14)) else [])).take (((q235 : Int)).toNat)) (by first | assumption | omega | (exact Nat.le_trans (areB_len (salS_are _)) (Nat.le_of_ble_eq_true rfl)) | (simp; done) | (simp; omega))) ?_
              rintro v244 w245 he246 ⟨v247, rfl, ho248⟩ a249 ha249; clear ha243 a243
              have hx250 := hx239.trans' he246
              have hzhx250 := he246.size
              replace ho16 := ho16.ext he246
              replace ho211 := ho211.ext he246
              refine wl_val ha249 rfl rfl rfl (op_move ha249 rfl rfl) ?_
              intro a251 ha251; clear ha249 a249
              refine wl_val ha251 rfl rfl rfl (op_extract ha251 rfl rfl rfl) ?_
              intro a252 ha252; clear ha251 a251
              refine wl_val ha252 rfl rfl rfl (op_extract ha252 rfl rfl rfl) ?_
              intro a253 ha253; clear ha252 a252
              refine wl_val ha253 rfl rfl rfl (op_assign ha253 rfl rfl) ?_
              intro a254 ha254; clear ha253 a253
              refine wl_val ha254 rfl rfl rfl (op_assign ha254 rfl rfl) ?_
              intro a255 ha255; clear ha254 a254
              refine wpList_nil ?_
              refine then_n ?_
              refine wp_seq ?_
              refine wp_region_lit ?_
              refine wl_val ha255 rfl rfl rfl (op_assign ha255 rfl rfl) ?_
              intro a256 ha256; clear ha255 a255
              refine wpList_nil ?_
              refine then_n ?_
              refine wp_seq ?_
              refine wp_seq ?_
              refine wp_region_lit ?_
              refine wl_val ha256 rfl rfl rfl (op_assign ha256 rfl rfl) ?_
              intro a257 ha257; clear ha256 a256
              refine wpList_nil ?_
              refine then_n ?_
              refine wp_block ?_
              refine loop_inv (X := Nat × Nat) (fun (⟨i, n⟩ : Nat × Nat) fr wl => Sl 178 fr [(3, v11), (4, St ((if areB ((q14)) then fileS ((q14)) else []))), (18, v210), (19, .int .i64 ((salS ((if areB ((q14)) then fileS ((q14)) else []))).2.1 : Int)), (20, .int .i64 (q235 : Int)), (21, v247), (22, .int .i64 ((salS (((if areB ((q14)) then fileS ((q14)) else [])).take (((q235 : Int)).toNat))).2.1 : Int)), (23, .int .i64 ((n : Nat) : Int)), (24, .int .i64 ((i : Nat) : Int))] ∧ Ext w0 wl ∧ Own shRec 36 w4.heap.size w4.heap.size w12.heap.size wl v11 ((q14)) ∧ Own shRec 36 w189.heap.size w189.heap.size w208.heap.size wl v210 (((salS ((if areB ((q14)) then fileS ((q14)) else []))).1)) ∧ Own shRec 36 w232.heap.size w232.heap.size w245.heap.size wl v247 (((salS (((if areB ((q14)) then fileS ((q14)) else [])).take (((q235 : Int)).toNat))).1)) ∧ w245.heap.size ≤ wl.heap.size ∧ (i ≤ ((q235 : Int)).toNat) ∧ (n = nlC (((if areB ((q14)) then fileS ((q14)) else [])).take i)) ∧ (n ≤ i)) (fun (⟨i, n⟩ : Nat × Nat) => ((q235 : Int)).toNat - i) (0, 0) ?_ ?_
              ·
               exact ⟨(Sl.cons_ ha257 rfl rfl (Sl.cons_ ha257 rfl rfl (Sl.cons_ ha257 rfl rfl (Sl.cons_ ha257 rfl rfl (Sl.cons_ ha257 rfl rfl (Sl.cons_ ha257 rfl rfl (Sl.cons_ ha257 rfl rfl (Sl.cons_ ha257 rfl (int_eq (by omega)) (Sl.cons_ ha257 rfl (int_eq (by omega)) (Sl.nil_ ha257)))))))))), hx250, ho16, ho211, ho248, (by omega), (by omega), (by rfl), (by omega)⟩
              ·
               clear ha257 a257
               rintro ⟨i, n⟩ a263 w258 ⟨ha263, hx259, hf260, hf261, hf262, hzl264, hi, hN0, hn⟩
               have hzhx259 := hx259.size
               refine wp_seq ?_
               refine wp_seq ?_
               refine wp_region_lit ?_
               refine wl_val ha263 rfl rfl rfl (op_move ha263 rfl rfl) ?_
               intro a265 ha265; clear ha263 a263
               refine wl_val ha265 rfl rfl rfl (op_move ha265 rfl rfl) ?_
               intro a266 ha266; clear ha265 a265
               refine wl_val ha266 rfl rfl rfl (op_lss ha266 rfl rfl rfl) ?_
               intro a267 ha267; clear ha266 a266
               refine wpList_nil ?_
               refine then_n ?_
               by_cases c268 : ((i : Nat) : Int) < (q235 : Int)
               ·
                rw [decide_eq_true c268] at ha267
                refine cond_t ha267 rfl ?_
                refine wp_skip ?_
                refine then_n ?_
                refine wp_seq ?_
                refine wp_block ?_
                refine wp_seq ?_
                refine wp_region_lit ?_
                refine wl_val ha267 rfl rfl rfl (op_move ha267 rfl rfl) ?_
                intro a269 ha269; clear ha267 a267
                refine wl_val ha269 rfl rfl rfl (op_move ha269 rfl rfl) ?_
                intro a270 ha270; clear ha269 a269
                obtain ⟨b271, hb271⟩ := get_ex (xs := (if areB ((q14)) then fileS ((q14)) else [])) (j := i) (by omega)
                have b271_lt := b271.toNat_lt
                refine wl_val ha270 rfl rfl rfl (op_index_str ha270 rfl Try.underlying9 rfl rfl (by omega) hb271) ?_
                intro a272 ha272; clear ha270 a270
                refine wl_val ha272 rfl rfl rfl (op_eql ha272 rfl rfl rfl) ?_
                intro a273 ha273; clear ha272 a272
                refine wpList_nil ?_
                refine then_n ?_
                by_cases c274 : (b271.toNat : Int) = (10 : Int)
                ·
                 rw [decide_eq_true c274] at ha273
                 refine cond_t ha273 rfl ?_
                 refine wp_region_lit ?_
                 refine wl_val ha273 rfl rfl rfl (op_move ha273 rfl rfl) ?_
                 intro a275 ha275; clear ha273 a273
                 refine wl_val ha275 rfl rfl rfl ((op_add ha275 rfl rfl rfl).int (IntWalk.i64_in _ (by omega))) ?_
                 intro a276 ha276; clear ha275 a275
                 refine wl_val ha276 rfl rfl rfl (op_assign ha276 rfl rfl) ?_
                 intro a277 ha277; clear ha276 a276
                 refine wpList_nil ?_
                 refine block_n ?_
                 refine then_n ?_
                 refine wp_region_lit ?_
                 refine wl_val ha277 rfl rfl rfl (op_move ha277 rfl rfl) ?_
                 intro a278 ha278; clear ha277 a277
                 refine wl_val ha278 rfl rfl rfl ((op_add ha278 rfl rfl rfl).int (IntWalk.i64_in _ (by omega))) ?_
                 intro a279 ha279; clear ha278 a278
                 refine wl_val ha279 rfl rfl rfl (op_assign ha279 rfl rfl) ?_
                 intro a280 ha280; clear ha279 a279
                 refine wpList_nil ?_
                 refine round_end (x := (i, n)) ((i + 1), (n + 1)) ?_ ?_
                 ·
                  refine ⟨(Sl.cons_ ha280 rfl rfl (Sl.cons_ ha280 rfl rfl (Sl.cons_ ha280 rfl rfl (Sl.cons_ ha280 rfl rfl (Sl.cons_ ha280 rfl rfl (Sl.cons_ ha280 rfl rfl (Sl.cons_ ha280 rfl rfl (Sl.cons_ ha280 rfl (int_eq (by omega)) (Sl.cons_ ha280 rfl (int_eq (by omega)) (Sl.nil_ ha280)))))))))), hx259, hf260, hf261, hf262, (by omega), (by omega), (by rw [nlC_step hb271, if_pos c274]; omega), (by omega)⟩
                 ·show (((q235 : Int)).toNat - ((i + 1)) : Nat) < ((q235 : Int)).toNat - i; omega
                ·
                 rw [decide_eq_false c274] at ha273
                 refine cond_f ha273 rfl ?_
                 refine wp_skip ?_
                 refine block_n ?_
                 refine then_n ?_
                 refine wp_region_lit ?_
                 refine wl_val ha273 rfl rfl rfl (op_move ha273 rfl rfl) ?_
                 intro a281 ha281; clear ha273 a273
                 refine wl_val ha281 rfl rfl rfl ((op_add ha281 rfl rfl rfl).int (IntWalk.i64_in _ (by omega))) ?_
                 intro a282 ha282; clear ha281 a281
                 refine wl_val ha282 rfl rfl rfl (op_assign ha282 rfl rfl) ?_
                 intro a283 ha283; clear ha282 a282
                 refine wpList_nil ?_
                 refine round_end (x := (i, n)) ((i + 1), n) ?_ ?_
                 ·
                  refine ⟨(Sl.cons_ ha283 rfl rfl (Sl.cons_ ha283 rfl rfl (Sl.cons_ ha283 rfl rfl (Sl.cons_ ha283 rfl rfl (Sl.cons_ ha283 rfl rfl (Sl.cons_ ha283 rfl rfl (Sl.cons_ ha283 rfl rfl (Sl.cons_ ha283 rfl (int_eq (by omega)) (Sl.cons_ ha283 rfl (int_eq (by omega)) (Sl.nil_ ha283)))))))))), hx259, hf260, hf261, hf262, (by omega), (by omega), (by rw [nlC_step hb271, if_neg c274]; omega), (by omega)⟩
                 ·show (((q235 : Int)).toNat - ((i + 1)) : Nat) < ((q235 : Int)).toNat - i; omega
               ·
                rw [decide_eq_false c268] at ha267
                refine cond_f ha267 rfl ?_
                refine wp_exit ?_
                refine then_e ?_
                refine then_e ?_
                refine block_hit ?_
                refine then_n ?_
                refine wp_seq ?_
                have hiA : i = ((q235 : Int)).toNat := by omega
                rw [hiA] at hN0
                have hN : n = _ := hN0
                refine wp_region_lit ?_
                refine wl_val ha267 rfl rfl rfl (op_move ha267 rfl rfl) ?_
                intro a284 ha284; clear ha267 a267
                refine wl_val ha284 rfl rfl rfl (op_move ha284 rfl rfl) ?_
                intro a285 ha285; clear ha284 a284
                refine wl_callR ha285 rfl rfl rfl (op_call ha285 rfl cb42 rfl) (c_laws_likeRecords _ v210 (((salS ((if areB ((q14)) then fileS ((q14)) else []))).1)) v11 ((q14)) (hf261.rds pos_shRec) (hf260.rds pos_shRec)) ?_
                rintro v286 w287 he288 rfl a289 ha289; clear ha285 a285
                have hx290 := hx259.trans' he288
                have hzhx290 := he288.size
                replace hf260 := hf260.ext he288
                replace hf261 := hf261.ext he288
                replace hf262 := hf262.ext he288
                refine wl_val ha289 rfl rfl rfl (op_move ha289 rfl rfl) ?_
                intro a291 ha291; clear ha289 a289
                rcases Bool.eq_false_or_eq_true (eqL (((salS ((if areB ((q14)) then fileS ((q14)) else []))).1)) ((q14))) with c292 | c292
                ·
                 rw [c292] at ha291
                 refine wl_val ha291 rfl rfl rfl (op_move ha291 rfl rfl) ?_
                 intro a293 ha293; clear ha291 a291
                 refine wl_val ha293 rfl rfl rfl (op_eql ha293 rfl rfl rfl) ?_
                 intro a294 ha294; clear ha293 a293
                 refine wl_val ha294 rfl rfl rfl (op_pick_t ha294 rfl rfl rfl) ?_
                 intro a295 ha295; clear ha294 a294
                 refine wl_val ha295 rfl rfl rfl (op_move ha295 rfl rfl) ?_
                 intro a296 ha296; clear ha295 a295
                 by_cases c297 : ((salS ((if areB ((q14)) then fileS ((q14)) else []))).2.1 : Int) = (0 : Int)
                 ·
                  rw [decide_eq_true c297] at ha296
                  refine wl_val ha296 rfl rfl rfl (op_move ha296 rfl rfl) ?_
                  intro a298 ha298; clear ha296 a296
                  refine wl_val ha298 rfl rfl rfl (op_len_sl ha298 rfl Try.underlying25 rfl (hf262.rds pos_shRec)) ?_
                  intro a299 ha299; clear ha298 a298
                  refine wl_val ha299 rfl rfl rfl (op_move ha299 rfl rfl) ?_
                  intro a300 ha300; clear ha299 a299
                  refine wl_val ha300 rfl rfl rfl (op_eql ha300 rfl rfl rfl) ?_
                  intro a301 ha301; clear ha300 a300
                  refine wl_val ha301 rfl rfl rfl (op_pick_t ha301 rfl rfl rfl) ?_
                  intro a302 ha302; clear ha301 a301
                  refine wl_val ha302 rfl rfl rfl (op_move ha302 rfl rfl) ?_
                  intro a303 ha303; clear ha302 a302
                  by_cases c304 : (((((salS (((if areB ((q14)) then fileS ((q14)) else [])).take (((q235 : Int)).toNat))).1)).length : Nat) : Int) = ((n : Nat) : Int)
                  ·
                   rw [decide_eq_true c304] at ha303
                   refine wl_val ha303 rfl rfl rfl (op_move ha303 rfl rfl) ?_
                   intro a305 ha305; clear ha303 a303
                   refine wl_val ha305 rfl rfl rfl (op_move ha305 rfl rfl) ?_
                   intro a306 ha306; clear ha305 a305
                   refine wl_val ha306 rfl rfl rfl (op_move ha306 rfl rfl) ?_
                   intro a307 ha307; clear ha306 a306
                   obtain ⟨u308, hu309, hr310⟩ := Rds.part (hf260.rds pos_shRec) Try.underlying25 ti36 none (some (.int .i64 (n : Nat))) 0 n (.inl ⟨rfl, rfl⟩) (.inr ⟨.i64, rfl⟩) (by first | omega | (simp; omega)) (by first | omega | (simp; omega))
                   replace hr310 := hr310.cast (ys := ((q14)).take n) (by first | rw [List.take_length] | simp)
                   refine wl_val ha307 rfl rfl rfl (op_slice_t (by omega) ha307 rfl rfl rfl hu309) ?_
                   intro a311 ha311; clear ha307 a307
                   refine wl_callR ha311 rfl rfl rfl (op_call ha311 rfl cb42 rfl) (c_laws_likeRecords _ v247 (((salS (((if areB ((q14)) then fileS ((q14)) else [])).take (((q235 : Int)).toNat))).1)) u308 (((q14)).take n) (hf262.rds pos_shRec) hr310) ?_
                   rintro v312 w313 he314 rfl a315 ha315; clear ha311 a311
                   have hx316 := hx290.trans' he314
                   have hzhx316 := he314.size
                   replace hf260 := hf260.ext he314
                   replace hf261 := hf261.ext he314
                   replace hf262 := hf262.ext he314
                   replace hr310 := hr310.ext pos_shRec he314
                   refine wl_val ha315 rfl rfl rfl (op_pick_t ha315 rfl rfl rfl) ?_
                   intro a317 ha317; clear ha315 a315
                   refine wl_val ha317 rfl rfl rfl (op_move ha317 rfl rfl) ?_
                   intro a318 ha318; clear ha317 a317
                   rcases Bool.eq_false_or_eq_true (eqL (((salS (((if areB ((q14)) then fileS ((q14)) else [])).take (((q235 : Int)).toNat))).1)) (((q14)).take n)) with c319 | c319
                   ·
                    rw [c319] at ha318
                    refine wl_val ha318 rfl rfl rfl (op_move ha318 rfl rfl) ?_
                    intro a320 ha320; clear ha318 a318
                    refine wl_val ha320 rfl rfl rfl (op_leq ha320 rfl rfl rfl) ?_
                    intro a321 ha321; clear ha320 a320
                    refine wl_val ha321 rfl rfl rfl (op_pick_t ha321 rfl rfl rfl) ?_
                    intro a322 ha322; clear ha321 a321
                    refine wl_val ha322 rfl rfl rfl (op_assign ha322 rfl rfl) ?_
                    intro a323 ha323; clear ha322 a322
                    refine wpList_nil ?_
                    refine then_n ?_
                    refine wp_ret ?_
                    refine ret1 ha323 rfl rfl ?_
                    clear ha323 a323
                    exact ret_mk hx316 (congrArg Value.bool (by first | rfl | (rw [decide_eq_true_eq]; exact hc2) | (exact decide_eq_true hc2) | (rw [salS_are] at c268; cases c268) | (exact (bq (fl_iff _) c268).elim) | (rw [hf3, eqL_self] at c268; cases c268) | (exact absurd hf4 c268) | (rw [hc1, ← hN, eqL_self] at c268; cases c268) | (rw [hc1] at c268; rw [List.length_take] at c268; omega) | (rw [hc1, eqL_self] at c268; cases c268) | (rw [salS_are] at c8; cases c8) | (exact (bq (fl_iff _) c8).elim) | (rw [hf3, eqL_self] at c8; cases c8) | (exact absurd hf4 c8) | (rw [hc1, ← hN, eqL_self] at c8; cases c8) | (rw [hc1] at c8; rw [List.length_take] at c8; omega) | (rw [hc1, eqL_self] at c8; cases c8) | (simp at c202; done) | (simp at c186; done) | (simp at c175; done) | (simp at c8; done) | omega))
                   ·
                    rw [c319] at ha318
                    refine wl_skip ha318 rfl rfl rfl ?_
                    intro a324 ha324; clear ha318 a318
                    refine wl_skip ha324 rfl rfl rfl ?_
                    intro a325 ha325; clear ha324 a324
                    refine wl_val ha325 rfl rfl rfl (op_pick_f ha325 rfl rfl rfl) ?_
                    intro a326 ha326; clear ha325 a325
                    refine wl_val ha326 rfl rfl rfl (op_assign ha326 rfl rfl) ?_
                    intro a327 ha327; clear ha326 a326
                    refine wpList_nil ?_
                    refine then_n ?_
                    refine wp_ret ?_
                    refine ret1 ha327 rfl rfl ?_
                    clear ha327 a327
                    exact ret_mk hx316 (congrArg Value.bool (by first | rfl | (rw [eqL_self] at c319; cases c319) | (rw [decide_eq_true_eq]; exact hc2) | (exact decide_eq_true hc2) | (rw [salS_are] at c319; cases c319) | (exact (bq (fl_iff _) c319).elim) | (rw [hf3, eqL_self] at c319; cases c319) | (exact absurd hf4 c319) | (rw [hc1, ← hN, eqL_self] at c319; cases c319) | (rw [hc1] at c319; rw [List.length_take] at c319; omega) | (rw [hc1, eqL_self] at c319; cases c319) | (rw [salS_are] at c268; cases c268) | (exact (bq (fl_iff _) c268).elim) | (rw [hf3, eqL_self] at c268; cases c268) | (exact absurd hf4 c268) | (rw [hc1, ← hN, eqL_self] at c268; cases c268) | (rw [hc1] at c268; rw [List.length_take] at c268; omega) | (rw [hc1, eqL_self] at c268; cases c268) | (rw [salS_are] at c8; cases c8) | (exact (bq (fl_iff _) c8).elim) | (rw [hf3, eqL_self] at c8; cases c8) | (exact absurd hf4 c8) | (rw [hc1, ← hN, eqL_self] at c8; cases c8) | (rw [hc1] at c8; rw [List.length_take] at c8; omega) | (rw [hc1, eqL_self] at c8; cases c8) | (simp at c202; done) | (simp at c186; done) | (simp at c175; done) | (simp at c8; done) | omega))
                  ·
                   rw [decide_eq_false c304] at ha303
                   refine wl_skip ha303 rfl rfl rfl ?_
                   intro a328 ha328; clear ha303 a303
                   refine wl_skip ha328 rfl rfl rfl ?_
                   intro a329 ha329; clear ha328 a328
                   refine wl_skip ha329 rfl rfl rfl ?_
                   intro a330 ha330; clear ha329 a329
                   refine wl_skip ha330 rfl rfl rfl ?_
                   intro a331 ha331; clear ha330 a330
                   refine wl_skip ha331 rfl rfl rfl ?_
                   intro a332 ha332; clear ha331 a331
                   refine wl_val ha332 rfl rfl rfl (op_pick_f ha332 rfl rfl rfl) ?_
                   intro a333 ha333; clear ha332 a332
                   refine wl_val ha333 rfl rfl rfl (op_move ha333 rfl rfl) ?_
                   intro a334 ha334; clear ha333 a333
                   refine wl_skip ha334 rfl rfl rfl ?_
                   intro a335 ha335; clear ha334 a334
                   refine wl_skip ha335 rfl rfl rfl ?_
                   intro a336 ha336; clear ha335 a335
                   refine wl_val ha336 rfl rfl rfl (op_pick_f ha336 rfl rfl rfl) ?_
                   intro a337 ha337; clear ha336 a336
                   refine wl_val ha337 rfl rfl rfl (op_assign ha337 rfl rfl) ?_
                   intro a338 ha338; clear ha337 a337
                   refine wpList_nil ?_
                   refine then_n ?_
                   refine wp_ret ?_
                   refine ret1 ha338 rfl rfl ?_
                   clear ha338 a338
                   exact ret_mk hx290 (congrArg Value.bool (by first | rfl | (rw [decide_eq_true_eq]; exact hc2) | (exact decide_eq_true hc2) | (rw [salS_are] at c304; cases c304) | (exact (bq (fl_iff _) c304).elim) | (rw [hf3, eqL_self] at c304; cases c304) | (exact absurd hf4 c304) | (rw [hc1, ← hN, eqL_self] at c304; cases c304) | (rw [hc1] at c304; rw [List.length_take] at c304; omega) | (rw [hc1, eqL_self] at c304; cases c304) | (rw [salS_are] at c268; cases c268) | (exact (bq (fl_iff _) c268).elim) | (rw [hf3, eqL_self] at c268; cases c268) | (exact absurd hf4 c268) | (rw [hc1, ← hN, eqL_self] at c268; cases c268) | (rw [hc1] at c268; rw [List.length_take] at c268; omega) | (rw [hc1, eqL_self] at c268; cases c268) | (rw [salS_are] at c8; cases c8) | (exact (bq (fl_iff _) c8).elim) | (rw [hf3, eqL_self] at c8; cases c8) | (exact absurd hf4 c8) | (rw [hc1, ← hN, eqL_self] at c8; cases c8) | (rw [hc1] at c8; rw [List.length_take] at c8; omega) | (rw [hc1, eqL_self] at c8; cases c8) | (exact absurd rfl c304) | (simp at c202; done) | (simp at c186; done) | (simp at c175; done) | (simp at c8; done) | omega))
                 ·
                  rw [decide_eq_false c297] at ha296
                  refine wl_skip ha296 rfl rfl rfl ?_
                  intro a339 ha339; clear ha296 a296
                  refine wl_skip ha339 rfl rfl rfl ?_
                  intro a340 ha340; clear ha339 a339
                  refine wl_skip ha340 rfl rfl rfl ?_
                  intro a341 ha341; clear ha340 a340
                  refine wl_skip ha341 rfl rfl rfl ?_
                  intro a342 ha342; clear ha341 a341
                  refine wl_val ha342 rfl rfl rfl (op_pick_f ha342 rfl rfl rfl) ?_
                  intro a343 ha343; clear ha342 a342
                  refine wl_val ha343 rfl rfl rfl (op_move ha343 rfl rfl) ?_
                  intro a344 ha344; clear ha343 a343
                  refine wl_skip ha344 rfl rfl rfl ?_
                  intro a345 ha345; clear ha344 a344
                  refine wl_skip ha345 rfl rfl rfl ?_
                  intro a346 ha346; clear ha345 a345
                  refine wl_skip ha346 rfl rfl rfl ?_
                  intro a347 ha347; clear ha346 a346
                  refine wl_skip ha347 rfl rfl rfl ?_
                  intro a348 ha348; clear ha347 a347
                  refine wl_skip ha348 rfl rfl rfl ?_
                  intro a349 ha349; clear ha348 a348
                  refine wl_val ha349 rfl rfl rfl (op_pick_f ha349 rfl rfl rfl) ?_
                  intro a350 ha350; clear ha349 a349
                  refine wl_val ha350 rfl rfl rfl (op_move ha350 rfl rfl) ?_
                  intro a351 ha351; clear ha350 a350
                  refine wl_skip ha351 rfl rfl rfl ?_
                  intro a352 ha352; clear ha351 a351
                  refine wl_skip ha352 rfl rfl rfl ?_
                  intro a353 ha353; clear ha352 a352
                  refine wl_val ha353 rfl rfl rfl (op_pick_f ha353 rfl rfl rfl) ?_
                  intro a354 ha354; clear ha353 a353
                  refine wl_val ha354 rfl rfl rfl (op_assign ha354 rfl rfl) ?_
                  intro a355 ha355; clear ha354 a354
                  refine wpList_nil ?_
                  refine then_n ?_
                  refine wp_ret ?_
                  refine ret1 ha355 rfl rfl ?_
                  clear ha355 a355
                  exact ret_mk hx290 (congrArg Value.bool (by first | rfl | (rw [decide_eq_true_eq]; exact hc2) | (exact decide_eq_true hc2) | (rw [salS_are] at c297; cases c297) | (exact (bq (fl_iff _) c297).elim) | (rw [hf3, eqL_self] at c297; cases c297) | (exact absurd hf4 c297) | (rw [hc1, ← hN, eqL_self] at c297; cases c297) | (rw [hc1] at c297; rw [List.length_take] at c297; omega) | (rw [hc1, eqL_self] at c297; cases c297) | (rw [salS_are] at c268; cases c268) | (exact (bq (fl_iff _) c268).elim) | (rw [hf3, eqL_self] at c268; cases c268) | (exact absurd hf4 c268) | (rw [hc1, ← hN, eqL_self] at c268; cases c268) | (rw [hc1] at c268; rw [List.length_take] at c268; omega) | (rw [hc1, eqL_self] at c268; cases c268) | (rw [salS_are] at c8; cases c8) | (exact (bq (fl_iff _) c8).elim) | (rw [hf3, eqL_self] at c8; cases c8) | (exact absurd hf4 c8) | (rw [hc1, ← hN, eqL_self] at c8; cases c8) | (rw [hc1] at c8; rw [List.length_take] at c8; omega) | (rw [hc1, eqL_self] at c8; cases c8) | (exact absurd rfl c297) | (simp at c202; done) | (simp at c186; done) | (simp at c175; done) | (simp at c8; done) | omega))
                ·
                 rw [c292] at ha291
                 refine wl_skip ha291 rfl rfl rfl ?_
                 intro a356 ha356; clear ha291 a291
                 refine wl_skip ha356 rfl rfl rfl ?_
                 intro a357 ha357; clear ha356 a356
                 refine wl_val ha357 rfl rfl rfl (op_pick_f ha357 rfl rfl rfl) ?_
                 intro a358 ha358; clear ha357 a357
                 refine wl_val ha358 rfl rfl rfl (op_move ha358 rfl rfl) ?_
                 intro a359 ha359; clear ha358 a358
                 refine wl_skip ha359 rfl rfl rfl ?_
                 intro a360 ha360; clear ha359 a359
                 refine wl_skip ha360 rfl rfl rfl ?_
                 intro a361 ha361; clear ha360 a360
                 refine wl_skip ha361 rfl rfl rfl ?_
                 intro a362 ha362; clear ha361 a361
                 refine wl_skip ha362 rfl rfl rfl ?_
                 intro a363 ha363; clear ha362 a362
                 refine wl_val ha363 rfl rfl rfl (op_pick_f ha363 rfl rfl rfl) ?_
                 intro a364 ha364; clear ha363 a363
                 refine wl_val ha364 rfl rfl rfl (op_move ha364 rfl rfl) ?_
                 intro a365 ha365; clear ha364 a364
                 refine wl_skip ha365 rfl rfl rfl ?_
                 intro a366 ha366; clear ha365 a365
                 refine wl_skip ha366 rfl rfl rfl ?_
                 intro a367 ha367; clear ha366 a366
                 refine wl_skip ha367 rfl rfl rfl ?_
                 intro a368 ha368; clear ha367 a367
                 refine wl_skip ha368 rfl rfl rfl ?_
                 intro a369 ha369; clear ha368 a368
                 refine wl_skip ha369 rfl rfl rfl ?_
                 intro a370 ha370; clear ha369 a369
                 refine wl_val ha370 rfl rfl rfl (op_pick_f ha370 rfl rfl rfl) ?_
                 intro a371 ha371; clear ha370 a370
                 refine wl_val ha371 rfl rfl rfl (op_move ha371 rfl rfl) ?_
                 intro a372 ha372; clear ha371 a371
                 refine wl_skip ha372 rfl rfl rfl ?_
                 intro a373 ha373; clear ha372 a372
                 refine wl_skip ha373 rfl rfl rfl ?_
                 intro a374 ha374; clear ha373 a373
                 refine wl_val ha374 rfl rfl rfl (op_pick_f ha374 rfl rfl rfl) ?_
                 intro a375 ha375; clear ha374 a374
                 refine wl_val ha375 rfl rfl rfl (op_assign ha375 rfl rfl) ?_
                 intro a376 ha376; clear ha375 a375
                 refine wpList_nil ?_
                 refine then_n ?_
                 refine wp_ret ?_
                 refine ret1 ha376 rfl rfl ?_
                 clear ha376 a376
                 exact ret_mk hx290 (congrArg Value.bool (by first | rfl | (rw [eqL_self] at c292; cases c292) | (rw [decide_eq_true_eq]; exact hc2) | (exact decide_eq_true hc2) | (rw [salS_are] at c292; cases c292) | (exact (bq (fl_iff _) c292).elim) | (rw [hf3, eqL_self] at c292; cases c292) | (exact absurd hf4 c292) | (rw [hc1, ← hN, eqL_self] at c292; cases c292) | (rw [hc1] at c292; rw [List.length_take] at c292; omega) | (rw [hc1, eqL_self] at c292; cases c292) | (rw [salS_are] at c268; cases c268) | (exact (bq (fl_iff _) c268).elim) | (rw [hf3, eqL_self] at c268; cases c268) | (exact absurd hf4 c268) | (rw [hc1, ← hN, eqL_self] at c268; cases c268) | (rw [hc1] at c268; rw [List.length_take] at c268; omega) | (rw [hc1, eqL_self] at c268; cases c268) | (rw [salS_are] at c8; cases c8) | (exact (bq (fl_iff _) c8).elim) | (rw [hf3, eqL_self] at c8; cases c8) | (exact absurd hf4 c8) | (rw [hc1, ← hN, eqL_self] at c8; cases c8) | (rw [hc1] at c8; rw [List.length_take] at c8; omega) | (rw [hc1, eqL_self] at c8; cases c8) | (simp at c202; done) | (simp at c186; done) | (simp at c175; done) | (simp at c8; done) | omega))
             ·
              rw [decide_eq_false c205] at ha204
              refine cond_t ha204 rfl ?_
              refine wp_seq ?_
              clear ho16
              refine wp_region_lit ?_
              refine wl_val ha204 rfl rfl rfl (op_assign ha204 rfl rfl) ?_
              intro a377 ha377; clear ha204 a204
              refine wpList_nil ?_
              refine then_n ?_
              refine wp_ret ?_
              refine then_r ?_
              refine ret1 ha377 rfl rfl ?_
              clear ha377 a377
              exact ret_mk hx192 (congrArg Value.bool (by first | rfl | (rw [decide_eq_true_eq]; exact hc2) | (exact decide_eq_true hc2) | (rw [salS_are] at c205; cases c205) | (exact (bq (fl_iff _) c205).elim) | (rw [hf3, eqL_self] at c205; cases c205) | (exact absurd hf4 c205) | (rw [hc1, ← hN, eqL_self] at c205; cases c205) | (rw [hc1] at c205; rw [List.length_take] at c205; omega) | (rw [hc1, eqL_self] at c205; cases c205) | (rw [salS_are] at c8; cases c8) | (exact (bq (fl_iff _) c8).elim) | (rw [hf3, eqL_self] at c8; cases c8) | (exact absurd hf4 c8) | (rw [hc1, ← hN, eqL_self] at c8; cases c8) | (rw [hc1] at c8; rw [List.length_take] at c8; omega) | (rw [hc1, eqL_self] at c8; cases c8) | (exact absurd rfl c205) | (simp at c202; done) | (simp at c186; done) | (simp at c175; done) | (simp at c8; done) | omega))
            ·
             rw [c202] at ha201
             refine cond_t ha201 rfl ?_
             refine wp_seq ?_
             clear ho16 ho56
             refine wp_region_lit ?_
             refine wl_val ha201 rfl rfl rfl (op_assign ha201 rfl rfl) ?_
             intro a378 ha378; clear ha201 a201
             refine wpList_nil ?_
             refine then_n ?_
             refine wp_ret ?_
             refine then_r ?_
             refine ret1 ha378 rfl rfl ?_
             clear ha378 a378
             exact ret_mk hx192 (congrArg Value.bool (by first | rfl | (rw [decide_eq_true_eq]; exact hc2) | (exact decide_eq_true hc2) | (rw [salS_are] at c202; cases c202) | (exact (bq (fl_iff _) c202).elim) | (rw [hf3, eqL_self] at c202; cases c202) | (exact absurd hf4 c202) | (rw [hc1, ← hN, eqL_self] at c202; cases c202) | (rw [hc1] at c202; rw [List.length_take] at c202; omega) | (rw [hc1, eqL_self] at c202; cases c202) | (rw [salS_are] at c8; cases c8) | (exact (bq (fl_iff _) c8).elim) | (rw [hf3, eqL_self] at c8; cases c8) | (exact absurd hf4 c8) | (rw [hc1, ← hN, eqL_self] at c8; cases c8) | (rw [hc1] at c8; rw [List.length_take] at c8; omega) | (rw [hc1, eqL_self] at c8; cases c8) | (exact absurd rfl c202) | (simp at c202; done) | (simp at c186; done) | (simp at c175; done) | (simp at c8; done) | omega))
           ·
            rw [c195] at ha194
            refine wl_skip ha194 rfl rfl rfl ?_
            intro a379 ha379; clear ha194 a194
            refine wl_skip ha379 rfl rfl rfl ?_
            intro a380 ha380; clear ha379 a379
            refine wl_skip ha380 rfl rfl rfl ?_
            intro a381 ha381; clear ha380 a380
            refine wl_skip ha381 rfl rfl rfl ?_
            intro a382 ha382; clear ha381 a381
            refine wl_skip ha382 rfl rfl rfl ?_
            intro a383 ha383; clear ha382 a382
            refine wl_val ha383 rfl rfl rfl (op_pick_t ha383 rfl rfl rfl) ?_
            intro a384 ha384; clear ha383 a383
            refine wpList_nil ?_
            refine then_n ?_
            refine cond_t ha384 rfl ?_
            refine wp_seq ?_
            clear ho16 ho56
            refine wp_region_lit ?_
            refine wl_val ha384 rfl rfl rfl (op_assign ha384 rfl rfl) ?_
            intro a385 ha385; clear ha384 a384
            refine wpList_nil ?_
            refine then_n ?_
            refine wp_ret ?_
            refine then_r ?_
            refine ret1 ha385 rfl rfl ?_
            clear ha385 a385
            exact ret_mk hx192 (congrArg Value.bool (by first | rfl | (rw [decide_eq_true_eq]; exact hc2) | (exact decide_eq_true hc2) | (rw [salS_are] at c195; cases c195) | (exact (bq (fl_iff _) c195).elim) | (rw [hf3, eqL_self] at c195; cases c195) | (exact absurd hf4 c195) | (rw [hc1, ← hN, eqL_self] at c195; cases c195) | (rw [hc1] at c195; rw [List.length_take] at c195; omega) | (rw [hc1, eqL_self] at c195; cases c195) | (rw [salS_are] at c8; cases c8) | (exact (bq (fl_iff _) c8).elim) | (rw [hf3, eqL_self] at c8; cases c8) | (exact absurd hf4 c8) | (rw [hc1, ← hN, eqL_self] at c8; cases c8) | (rw [hc1] at c8; rw [List.length_take] at c8; omega) | (rw [hc1, eqL_self] at c8; cases c8) | (simp at c186; done) | (simp at c175; done) | (simp at c8; done) | omega))
          ·
           rw [c186] at ha185
           refine cond_t ha185 rfl ?_
           refine wp_seq ?_
           clear ho16 ho56 ho69 ho81 ho140
           refine wp_region_lit ?_
           refine wl_val ha185 rfl rfl rfl (op_assign ha185 rfl rfl) ?_
           intro a386 ha386; clear ha185 a185
           refine wpList_nil ?_
           refine then_n ?_
           refine wp_ret ?_
           refine then_r ?_
           refine ret1 ha386 rfl rfl ?_
           clear ha386 a386
           exact ret_mk hx181 (congrArg Value.bool (by first | rfl | (rw [decide_eq_true_eq]; exact hc2) | (exact decide_eq_true hc2) | (rw [salS_are] at c186; cases c186) | (exact (bq (fl_iff _) c186).elim) | (rw [hf3, eqL_self] at c186; cases c186) | (exact absurd hf4 c186) | (rw [hc1, ← hN, eqL_self] at c186; cases c186) | (rw [hc1] at c186; rw [List.length_take] at c186; omega) | (rw [hc1, eqL_self] at c186; cases c186) | (rw [salS_are] at c8; cases c8) | (exact (bq (fl_iff _) c8).elim) | (rw [hf3, eqL_self] at c8; cases c8) | (exact absurd hf4 c8) | (rw [hc1, ← hN, eqL_self] at c8; cases c8) | (rw [hc1] at c8; rw [List.length_take] at c8; omega) | (rw [hc1, eqL_self] at c8; cases c8) | (exact absurd rfl c186) | (simp at c186; done) | (simp at c175; done) | (simp at c8; done) | omega))
         ·
          rw [c175] at ha174
          refine wl_skip ha174 rfl rfl rfl ?_
          intro a387 ha387; clear ha174 a174
          refine wl_skip ha387 rfl rfl rfl ?_
          intro a388 ha388; clear ha387 a387
          refine wl_skip ha388 rfl rfl rfl ?_
          intro a389 ha389; clear ha388 a388
          refine wl_skip ha389 rfl rfl rfl ?_
          intro a390 ha390; clear ha389 a389
          refine wl_skip ha390 rfl rfl rfl ?_
          intro a391 ha391; clear ha390 a390
          refine wl_val ha391 rfl rfl rfl (op_pick_t ha391 rfl rfl rfl) ?_
          intro a392 ha392; clear ha391 a391
          refine wpList_nil ?_
          refine then_n ?_
          refine cond_t ha392 rfl ?_
          refine wp_seq ?_
          clear ho16 ho56 ho69 ho81 ho140
          refine wp_region_lit ?_
          refine wl_val ha392 rfl rfl rfl (op_assign ha392 rfl rfl) ?_
          intro a393 ha393; clear ha392 a392
          refine wpList_nil ?_
          refine then_n ?_
          refine wp_ret ?_
          refine then_r ?_
          refine ret1 ha393 rfl rfl ?_
          clear ha393 a393
          exact ret_mk hx169 (congrArg Value.bool (by first | rfl | (rw [decide_eq_true_eq]; exact hc2) | (exact decide_eq_true hc2) | (rw [salS_are] at c175; cases c175) | (exact (bq (fl_iff _) c175).elim) | (rw [hf3, eqL_self] at c175; cases c175) | (exact absurd hf4 c175) | (rw [hc1, ← hN, eqL_self] at c175; cases c175) | (rw [hc1] at c175; rw [List.length_take] at c175; omega) | (rw [hc1, eqL_self] at c175; cases c175) | (rw [salS_are] at c8; cases c8) | (exact (bq (fl_iff _) c8).elim) | (rw [hf3, eqL_self] at c8; cases c8) | (exact absurd hf4 c8) | (rw [hc1, ← hN, eqL_self] at c8; cases c8) | (rw [hc1] at c8; rw [List.length_take] at c8; omega) | (rw [hc1, eqL_self] at c8; cases c8) | (exact absurd rfl c175) | (simp at c175; done) | (simp at c8; done) | omega))
        ·
         rw [decide_eq_false c163] at ha162
         refine wl_skip ha162 rfl rfl rfl ?_
         intro a394 ha394; clear ha162 a162
         refine wl_skip ha394 rfl rfl rfl ?_
         intro a395 ha395; clear ha394 a394
         refine wl_skip ha395 rfl rfl rfl ?_
         intro a396 ha396; clear ha395 a395
         refine wl_skip ha396 rfl rfl rfl ?_
         intro a397 ha397; clear ha396 a396
         refine wl_skip ha397 rfl rfl rfl ?_
         intro a398 ha398; clear ha397 a397
         refine wl_val ha398 rfl rfl rfl (op_pick_t ha398 rfl rfl rfl) ?_
         intro a399 ha399; clear ha398 a398
         refine wl_val ha399 rfl rfl rfl (op_move ha399 rfl rfl) ?_
         intro a400 ha400; clear ha399 a399
         refine wl_skip ha400 rfl rfl rfl ?_
         intro a401 ha401; clear ha400 a400
         refine wl_skip ha401 rfl rfl rfl ?_
         intro a402 ha402; clear ha401 a401
         refine wl_skip ha402 rfl rfl rfl ?_
         intro a403 ha403; clear ha402 a402
         refine wl_skip ha403 rfl rfl rfl ?_
         intro a404 ha404; clear ha403 a403
         refine wl_skip ha404 rfl rfl rfl ?_
         intro a405 ha405; clear ha404 a404
         refine wl_val ha405 rfl rfl rfl (op_pick_t ha405 rfl rfl rfl) ?_
         intro a406 ha406; clear ha405 a405
         refine wpList_nil ?_
         refine then_n ?_
         refine cond_t ha406 rfl ?_
         refine wp_seq ?_
         clear ho16 ho56 ho69 ho81 ho140
         refine wp_region_lit ?_
         refine wl_val ha406 rfl rfl rfl (op_assign ha406 rfl rfl) ?_
         intro a407 ha407; clear ha406 a406
         refine wpList_nil ?_
         refine then_n ?_
         refine wp_ret ?_
         refine then_r ?_
         refine ret1 ha407 rfl rfl ?_
         clear ha407 a407
         exact ret_mk hx147 (congrArg Value.bool (by first | rfl | (exact absurd rfl c163) | (rw [decide_eq_true_eq]; exact hc2) | (exact decide_eq_true hc2) | (rw [salS_are] at c163; cases c163) | (exact (bq (fl_iff _) c163).elim) | (rw [hf3, eqL_self] at c163; cases c163) | (exact absurd hf4 c163) | (rw [hc1, ← hN, eqL_self] at c163; cases c163) | (rw [hc1] at c163; rw [List.length_take] at c163; omega) | (rw [hc1, eqL_self] at c163; cases c163) | (rw [salS_are] at c8; cases c8) | (exact (bq (fl_iff _) c8).elim) | (rw [hf3, eqL_self] at c8; cases c8) | (exact absurd hf4 c8) | (rw [hc1, ← hN, eqL_self] at c8; cases c8) | (rw [hc1] at c8; rw [List.length_take] at c8; omega) | (rw [hc1, eqL_self] at c8; cases c8) | (simp at c8; done) | omega))
       ·
        rw [decide_eq_false c157] at ha156
        refine wl_skip ha156 rfl rfl rfl ?_
        intro a408 ha408; clear ha156 a156
        refine wl_skip ha408 rfl rfl rfl ?_
        intro a409 ha409; clear ha408 a408
        refine wl_skip ha409 rfl rfl rfl ?_
        intro a410 ha410; clear ha409 a409
        refine wl_val ha410 rfl rfl rfl (op_pick_t ha410 rfl rfl rfl) ?_
        intro a411 ha411; clear ha410 a410
        refine wl_val ha411 rfl rfl rfl (op_move ha411 rfl rfl) ?_
        intro a412 ha412; clear ha411 a411
        refine wl_skip ha412 rfl rfl rfl ?_
        intro a413 ha413; clear ha412 a412
        refine wl_skip ha413 rfl rfl rfl ?_
        intro a414 ha414; clear ha413 a413
        refine wl_skip ha414 rfl rfl rfl ?_
        intro a415 ha415; clear ha414 a414
        refine wl_skip ha415 rfl rfl rfl ?_
        intro a416 ha416; clear ha415 a415
        refine wl_skip ha416 rfl rfl rfl ?_
        intro a417 ha417; clear ha416 a416
        refine wl_val ha417 rfl rfl rfl (op_pick_t ha417 rfl rfl rfl) ?_
        intro a418 ha418; clear ha417 a417
        refine wl_val ha418 rfl rfl rfl (op_move ha418 rfl rfl) ?_
        intro a419 ha419; clear ha418 a418
        refine wl_skip ha419 rfl rfl rfl ?_
        intro a420 ha420; clear ha419 a419
        refine wl_skip ha420 rfl rfl rfl ?_
        intro a421 ha421; clear ha420 a420
        refine wl_skip ha421 rfl rfl rfl ?_
        intro a422 ha422; clear ha421 a421
        refine wl_skip ha422 rfl rfl rfl ?_
        intro a423 ha423; clear ha422 a422
        refine wl_skip ha423 rfl rfl rfl ?_
        intro a424 ha424; clear ha423 a423
        refine wl_val ha424 rfl rfl rfl (op_pick_t ha424 rfl rfl rfl) ?_
        intro a425 ha425; clear ha424 a424
        refine wpList_nil ?_
        refine then_n ?_
        refine cond_t ha425 rfl ?_
        refine wp_seq ?_
        clear ho16 ho56 ho69 ho81 ho140
        refine wp_region_lit ?_
        refine wl_val ha425 rfl rfl rfl (op_assign ha425 rfl rfl) ?_
        intro a426 ha426; clear ha425 a425
        refine wpList_nil ?_
        refine then_n ?_
        refine wp_ret ?_
        refine then_r ?_
        refine ret1 ha426 rfl rfl ?_
        clear ha426 a426
        exact ret_mk hx147 (congrArg Value.bool (by first | rfl | (exact absurd rfl c157) | (rw [decide_eq_true_eq]; exact hc2) | (exact decide_eq_true hc2) | (rw [salS_are] at c157; cases c157) | (exact (bq (fl_iff _) c157).elim) | (rw [hf3, eqL_self] at c157; cases c157) | (exact absurd hf4 c157) | (rw [hc1, ← hN, eqL_self] at c157; cases c157) | (rw [hc1] at c157; rw [List.length_take] at c157; omega) | (rw [hc1, eqL_self] at c157; cases c157) | (rw [salS_are] at c8; cases c8) | (exact (bq (fl_iff _) c8).elim) | (rw [hf3, eqL_self] at c8; cases c8) | (exact absurd hf4 c8) | (rw [hc1, ← hN, eqL_self] at c8; cases c8) | (rw [hc1] at c8; rw [List.length_take] at c8; omega) | (rw [hc1, eqL_self] at c8; cases c8) | (simp at c8; done) | omega))
      ·
       rw [c151] at ha150
       refine wl_skip ha150 rfl rfl rfl ?_
       intro a427 ha427; clear ha150 a150
       refine wl_skip ha427 rfl rfl rfl ?_
       intro a428 ha428; clear ha427 a427
       refine wl_skip ha428 rfl rfl rfl ?_
       intro a429 ha429; clear ha428 a428
       refine wl_val ha429 rfl rfl rfl (op_pick_t ha429 rfl rfl rfl) ?_
       intro a430 ha430; clear ha429 a429
       refine wl_val ha430 rfl rfl rfl (op_move ha430 rfl rfl) ?_
       intro a431 ha431; clear ha430 a430
       refine wl_skip ha431 rfl rfl rfl ?_
       intro a432 ha432; clear ha431 a431
       refine wl_skip ha432 rfl rfl rfl ?_
       intro a433 ha433; clear ha432 a432
       refine wl_skip ha433 rfl rfl rfl ?_
       intro a434 ha434; clear ha433 a433
       refine wl_val ha434 rfl rfl rfl (op_pick_t ha434 rfl rfl rfl) ?_
       intro a435 ha435; clear ha434 a434
       refine wl_val ha435 rfl rfl rfl (op_move ha435 rfl rfl) ?_
       intro a436 ha436; clear ha435 a435
       refine wl_skip ha436 rfl rfl rfl ?_
       intro a437 ha437; clear ha436 a436
       refine wl_skip ha437 rfl rfl rfl ?_
       intro a438 ha438; clear ha437 a437
       refine wl_skip ha438 rfl rfl rfl ?_
       intro a439 ha439; clear ha438 a438
       refine wl_skip ha439 rfl rfl rfl ?_
       intro a440 ha440; clear ha439 a439
       refine wl_skip ha440 rfl rfl rfl ?_
       intro a441 ha441; clear ha440 a440
       refine wl_val ha441 rfl rfl rfl (op_pick_t ha441 rfl rfl rfl) ?_
       intro a442 ha442; clear ha441 a441
       refine wl_val ha442 rfl rfl rfl (op_move ha442 rfl rfl) ?_
       intro a443 ha443; clear ha442 a442
       refine wl_skip ha443 rfl rfl rfl ?_
       intro a444 ha444; clear ha443 a443
       refine wl_skip ha444 rfl rfl rfl ?_
       intro a445 ha445; clear ha444 a444
       refine wl_skip ha445 rfl rfl rfl ?_
       intro a446 ha446; clear ha445 a445
       refine wl_skip ha446 rfl rfl rfl ?_
       intro a447 ha447; clear ha446 a446
       refine wl_skip ha447 rfl rfl rfl ?_
       intro a448 ha448; clear ha447 a447
       refine wl_val ha448 rfl rfl rfl (op_pick_t ha448 rfl rfl rfl) ?_
       intro a449 ha449; clear ha448 a448
       refine wpList_nil ?_
       refine then_n ?_
       refine cond_t ha449 rfl ?_
       refine wp_seq ?_
       clear ho16 ho56 ho69 ho81 ho140
       refine wp_region_lit ?_
       refine wl_val ha449 rfl rfl rfl (op_assign ha449 rfl rfl) ?_
       intro a450 ha450; clear ha449 a449
       refine wpList_nil ?_
       refine then_n ?_
       refine wp_ret ?_
       refine then_r ?_
       refine ret1 ha450 rfl rfl ?_
       clear ha450 a450
       exact ret_mk hx147 (congrArg Value.bool (by first | rfl | (rw [eqL_self] at c151; cases c151) | (rw [decide_eq_true_eq]; exact hc2) | (exact decide_eq_true hc2) | (rw [salS_are] at c151; cases c151) | (exact (bq (fl_iff _) c151).elim) | (rw [hf3, eqL_self] at c151; cases c151) | (exact absurd hf4 c151) | (rw [hc1, ← hN, eqL_self] at c151; cases c151) | (rw [hc1] at c151; rw [List.length_take] at c151; omega) | (rw [hc1, eqL_self] at c151; cases c151) | (rw [salS_are] at c8; cases c8) | (exact (bq (fl_iff _) c8).elim) | (rw [hf3, eqL_self] at c8; cases c8) | (exact absurd hf4 c8) | (rw [hc1, ← hN, eqL_self] at c8; cases c8) | (rw [hc1] at c8; rw [List.length_take] at c8; omega) | (rw [hc1, eqL_self] at c8; cases c8) | (simp at c8; done) | omega))
     ·
      rw [decide_eq_false c134] at ha133
      refine wl_skip ha133 rfl rfl rfl ?_
      intro a451 ha451; clear ha133 a133
      refine wl_skip ha451 rfl rfl rfl ?_
      intro a452 ha452; clear ha451 a451
      refine wl_skip ha452 rfl rfl rfl ?_
      intro a453 ha453; clear ha452 a452
      refine wl_skip ha453 rfl rfl rfl ?_
      intro a454 ha454; clear ha453 a453
      refine wl_skip ha454 rfl rfl rfl ?_
      intro a455 ha455; clear ha454 a454
      refine wl_val ha455 rfl rfl rfl (op_pick_t ha455 rfl rfl rfl) ?_
      intro a456 ha456; clear ha455 a455
      refine wl_val ha456 rfl rfl rfl (op_move ha456 rfl rfl) ?_
      intro a457 ha457; clear ha456 a456
      refine wl_skip ha457 rfl rfl rfl ?_
      intro a458 ha458; clear ha457 a457
      refine wl_skip ha458 rfl rfl rfl ?_
      intro a459 ha459; clear ha458 a458
      refine wl_skip ha459 rfl rfl rfl ?_
      intro a460 ha460; clear ha459 a459
      refine wl_val ha460 rfl rfl rfl (op_pick_t ha460 rfl rfl rfl) ?_
      intro a461 ha461; clear ha460 a460
      refine wl_val ha461 rfl rfl rfl (op_move ha461 rfl rfl) ?_
      intro a462 ha462; clear ha461 a461
      refine wl_skip ha462 rfl rfl rfl ?_
      intro a463 ha463; clear ha462 a462
      refine wl_skip ha463 rfl rfl rfl ?_
      intro a464 ha464; clear ha463 a463
      refine wl_skip ha464 rfl rfl rfl ?_
      intro a465 ha465; clear ha464 a464
      refine wl_val ha465 rfl rfl rfl (op_pick_t ha465 rfl rfl rfl) ?_
      intro a466 ha466; clear ha465 a465
      refine wl_val ha466 rfl rfl rfl (op_move ha466 rfl rfl) ?_
      intro a467 ha467; clear ha466 a466
      refine wl_skip ha467 rfl rfl rfl ?_
      intro a468 ha468; clear ha467 a467
      refine wl_skip ha468 rfl rfl rfl ?_
      intro a469 ha469; clear ha468 a468
      refine wl_skip ha469 rfl rfl rfl ?_
      intro a470 ha470; clear ha469 a469
      refine wl_skip ha470 rfl rfl rfl ?_
      intro a471 ha471; clear ha470 a470
      refine wl_skip ha471 rfl rfl rfl ?_
      intro a472 ha472; clear ha471 a471
      refine wl_val ha472 rfl rfl rfl (op_pick_t ha472 rfl rfl rfl) ?_
      intro a473 ha473; clear ha472 a472
      refine wl_val ha473 rfl rfl rfl (op_move ha473 rfl rfl) ?_
      intro a474 ha474; clear ha473 a473
      refine wl_skip ha474 rfl rfl rfl ?_
      intro a475 ha475; clear ha474 a474
      refine wl_skip ha475 rfl rfl rfl ?_
      intro a476 ha476; clear ha475 a475
      refine wl_skip ha476 rfl rfl rfl ?_
      intro a477 ha477; clear ha476 a476
      refine wl_skip ha477 rfl rfl rfl ?_
      intro a478 ha478; clear ha477 a477
      refine wl_skip ha478 rfl rfl rfl ?_
      intro a479 ha479; clear ha478 a478
      refine wl_val ha479 rfl rfl rfl (op_pick_t ha479 rfl rfl rfl) ?_
      intro a480 ha480; clear ha479 a479
      refine wpList_nil ?_
      refine then_n ?_
      refine cond_t ha480 rfl ?_
      refine wp_seq ?_
      clear ho16 ho56 ho69 ho81
      refine wp_region_lit ?_
      refine wl_val ha480 rfl rfl rfl (op_assign ha480 rfl rfl) ?_
      intro a481 ha481; clear ha480 a480
      refine wpList_nil ?_
      refine then_n ?_
      refine wp_ret ?_
      refine then_r ?_
      refine ret1 ha481 rfl rfl ?_
      clear ha481 a481
      exact ret_mk hx124 (congrArg Value.bool (by first | rfl | (exact absurd rfl c134) | (rw [decide_eq_true_eq]; exact hc2) | (exact decide_eq_true hc2) | (rw [salS_are] at c134; cases c134) | (exact (bq (fl_iff _) c134).elim) | (rw [hf3, eqL_self] at c134; cases c134) | (exact absurd hf4 c134) | (rw [hc1, ← hN, eqL_self] at c134; cases c134) | (rw [hc1] at c134; rw [List.length_take] at c134; omega) | (rw [hc1, eqL_self] at c134; cases c134) | (rw [salS_are] at c8; cases c8) | (exact (bq (fl_iff _) c8).elim) | (rw [hf3, eqL_self] at c8; cases c8) | (exact absurd hf4 c8) | (rw [hc1, ← hN, eqL_self] at c8; cases c8) | (rw [hc1] at c8; rw [List.length_take] at c8; omega) | (rw [hc1, eqL_self] at c8; cases c8) | (simp at c8; done) | omega))
    ·
     rw [c128] at ha127
     refine wl_skip ha127 rfl rfl rfl ?_
     intro a482 ha482; clear ha127 a127
     refine wl_skip ha482 rfl rfl rfl ?_
     intro a483 ha483; clear ha482 a482
     refine wl_skip ha483 rfl rfl rfl ?_
     intro a484 ha484; clear ha483 a483
     refine wl_val ha484 rfl rfl rfl (op_pick_t ha484 rfl rfl rfl) ?_
     intro a485 ha485; clear ha484 a484
     refine wl_val ha485 rfl rfl rfl (op_move ha485 rfl rfl) ?_
     intro a486 ha486; clear ha485 a485
     refine wl_skip ha486 rfl rfl rfl ?_
     intro a487 ha487; clear ha486 a486
     refine wl_skip ha487 rfl rfl rfl ?_
     intro a488 ha488; clear ha487 a487
     refine wl_skip ha488 rfl rfl rfl ?_
     intro a489 ha489; clear ha488 a488
     refine wl_skip ha489 rfl rfl rfl ?_
     intro a490 ha490; clear ha489 a489
     refine wl_skip ha490 rfl rfl rfl ?_
     intro a491 ha491; clear ha490 a490
     refine wl_val ha491 rfl rfl rfl (op_pick_t ha491 rfl rfl rfl) ?_
     intro a492 ha492; clear ha491 a491
     refine wl_val ha492 rfl rfl rfl (op_move ha492 rfl rfl) ?_
     intro a493 ha493; clear ha492 a492
     refine wl_skip ha493 rfl rfl rfl ?_
     intro a494 ha494; clear ha493 a493
     refine wl_skip ha494 rfl rfl rfl ?_
     intro a495 ha495; clear ha494 a494
     refine wl_skip ha495 rfl rfl rfl ?_
     intro a496 ha496; clear ha495 a495
     refine wl_val ha496 rfl rfl rfl (op_pick_t ha496 rfl rfl rfl) ?_
     intro a497 ha497; clear ha496 a496
     refine wl_val ha497 rfl rfl rfl (op_move ha497 rfl rfl) ?_
     intro a498 ha498; clear ha497 a497
     refine wl_skip ha498 rfl rfl rfl ?_
     intro a499 ha499; clear ha498 a498
     refine wl_skip ha499 rfl rfl rfl ?_
     intro a500 ha500; clear ha499 a499
     refine wl_skip ha500 rfl rfl rfl ?_
     intro a501 ha501; clear ha500 a500
     refine wl_val ha501 rfl rfl rfl (op_pick_t ha501 rfl rfl rfl) ?_
     intro a502 ha502; clear ha501 a501
     refine wl_val ha502 rfl rfl rfl (op_move ha502 rfl rfl) ?_
     intro a503 ha503; clear ha502 a502
     refine wl_skip ha503 rfl rfl rfl ?_
     intro a504 ha504; clear ha503 a503
     refine wl_skip ha504 rfl rfl rfl ?_
     intro a505 ha505; clear ha504 a504
     refine wl_skip ha505 rfl rfl rfl ?_
     intro a506 ha506; clear ha505 a505
     refine wl_skip ha506 rfl rfl rfl ?_
     intro a507 ha507; clear ha506 a506
     refine wl_skip ha507 rfl rfl rfl ?_
     intro a508 ha508; clear ha507 a507
     refine wl_val ha508 rfl rfl rfl (op_pick_t ha508 rfl rfl rfl) ?_
     intro a509 ha509; clear ha508 a508
     refine wl_val ha509 rfl rfl rfl (op_move ha509 rfl rfl) ?_
     intro a510 ha510; clear ha509 a509
     refine wl_skip ha510 rfl rfl rfl ?_
     intro a511 ha511; clear ha510 a510
     refine wl_skip ha511 rfl rfl rfl ?_
     intro a512 ha512; clear ha511 a511
     refine wl_skip ha512 rfl rfl rfl ?_
     intro a513 ha513; clear ha512 a512
     refine wl_skip ha513 rfl rfl rfl ?_
     intro a514 ha514; clear ha513 a513
     refine wl_skip ha514 rfl rfl rfl ?_
     intro a515 ha515; clear ha514 a514
     refine wl_val ha515 rfl rfl rfl (op_pick_t ha515 rfl rfl rfl) ?_
     intro a516 ha516; clear ha515 a515
     refine wpList_nil ?_
     refine then_n ?_
     refine cond_t ha516 rfl ?_
     refine wp_seq ?_
     clear ho16 ho56 ho69 ho81
     refine wp_region_lit ?_
     refine wl_val ha516 rfl rfl rfl (op_assign ha516 rfl rfl) ?_
     intro a517 ha517; clear ha516 a516
     refine wpList_nil ?_
     refine then_n ?_
     refine wp_ret ?_
     refine then_r ?_
     refine ret1 ha517 rfl rfl ?_
     clear ha517 a517
     exact ret_mk hx124 (congrArg Value.bool (by first | rfl | (rw [eqL_self] at c128; cases c128) | (rw [decide_eq_true_eq]; exact hc2) | (exact decide_eq_true hc2) | (rw [salS_are] at c128; cases c128) | (exact (bq (fl_iff _) c128).elim) | (rw [hf3, eqL_self] at c128; cases c128) | (exact absurd hf4 c128) | (rw [hc1, ← hN, eqL_self] at c128; cases c128) | (rw [hc1] at c128; rw [List.length_take] at c128; omega) | (rw [hc1, eqL_self] at c128; cases c128) | (rw [salS_are] at c8; cases c8) | (exact (bq (fl_iff _) c8).elim) | (rw [hf3, eqL_self] at c8; cases c8) | (exact absurd hf4 c8) | (rw [hc1, ← hN, eqL_self] at c8; cases c8) | (rw [hc1] at c8; rw [List.length_take] at c8; omega) | (rw [hc1, eqL_self] at c8; cases c8) | (simp at c8; done) | omega))
   ·
    rw [decide_eq_false c117] at ha116
    refine wl_skip ha116 rfl rfl rfl ?_
    intro a518 ha518; clear ha116 a116
    refine wl_skip ha518 rfl rfl rfl ?_
    intro a519 ha519; clear ha518 a518
    refine wl_skip ha519 rfl rfl rfl ?_
    intro a520 ha520; clear ha519 a519
    refine wl_skip ha520 rfl rfl rfl ?_
    intro a521 ha521; clear ha520 a520
    refine wl_val ha521 rfl rfl rfl (op_pick_t ha521 rfl rfl rfl) ?_
    intro a522 ha522; clear ha521 a521
    refine wl_val ha522 rfl rfl rfl (op_move ha522 rfl rfl) ?_
    intro a523 ha523; clear ha522 a522
    refine wl_skip ha523 rfl rfl rfl ?_
    intro a524 ha524; clear ha523 a523
    refine wl_skip ha524 rfl rfl rfl ?_
    intro a525 ha525; clear ha524 a524
    refine wl_skip ha525 rfl rfl rfl ?_
    intro a526 ha526; clear ha525 a525
    refine wl_val ha526 rfl rfl rfl (op_pick_t ha526 rfl rfl rfl) ?_
    intro a527 ha527; clear ha526 a526
    refine wl_val ha527 rfl rfl rfl (op_move ha527 rfl rfl) ?_
    intro a528 ha528; clear ha527 a527
    refine wl_skip ha528 rfl rfl rfl ?_
    intro a529 ha529; clear ha528 a528
    refine wl_skip ha529 rfl rfl rfl ?_
    intro a530 ha530; clear ha529 a529
    refine wl_skip ha530 rfl rfl rfl ?_
    intro a531 ha531; clear ha530 a530
    refine wl_skip ha531 rfl rfl rfl ?_
    intro a532 ha532; clear ha531 a531
    refine wl_skip ha532 rfl rfl rfl ?_
    intro a533 ha533; clear ha532 a532
    refine wl_val ha533 rfl rfl rfl (op_pick_t ha533 rfl rfl rfl) ?_
    intro a534 ha534; clear ha533 a533
    refine wl_val ha534 rfl rfl rfl (op_move ha534 rfl rfl) ?_
    intro a535 ha535; clear ha534 a534
    refine wl_skip ha535 rfl rfl rfl ?_
    intro a536 ha536; clear ha535 a535
    refine wl_skip ha536 rfl rfl rfl ?_
    intro a537 ha537; clear ha536 a536
    refine wl_skip ha537 rfl rfl rfl ?_
    intro a538 ha538; clear ha537 a537
    refine wl_val ha538 rfl rfl rfl (op_pick_t ha538 rfl rfl rfl) ?_
    intro a539 ha539; clear ha538 a538
    refine wl_val ha539 rfl rfl rfl (op_move ha539 rfl rfl) ?_
    intro a540 ha540; clear ha539 a539
    refine wl_skip ha540 rfl rfl rfl ?_
    intro a541 ha541; clear ha540 a540
    refine wl_skip ha541 rfl rfl rfl ?_
    intro a542 ha542; clear ha541 a541
    refine wl_skip ha542 rfl rfl rfl ?_
    intro a543 ha543; clear ha542 a542
    refine wl_val ha543 rfl rfl rfl (op_pick_t ha543 rfl rfl rfl) ?_
    intro a544 ha544; clear ha543 a543
    refine wl_val ha544 rfl rfl rfl (op_move ha544 rfl rfl) ?_
    intro a545 ha545; clear ha544 a544
    refine wl_skip ha545 rfl rfl rfl ?_
    intro a546 ha546; clear ha545 a545
    refine wl_skip ha546 rfl rfl rfl ?_
    intro a547 ha547; clear ha546 a546
    refine wl_skip ha547 rfl rfl rfl ?_
    intro a548 ha548; clear ha547 a547
    refine wl_skip ha548 rfl rfl rfl ?_
    intro a549 ha549; clear ha548 a548
    refine wl_skip ha549 rfl rfl rfl ?_
    intro a550 ha550; clear ha549 a549
    refine wl_val ha550 rfl rfl rfl (op_pick_t ha550 rfl rfl rfl) ?_
    intro a551 ha551; clear ha550 a550
    refine wl_val ha551 rfl rfl rfl (op_move ha551 rfl rfl) ?_
    intro a552 ha552; clear ha551 a551
    refine wl_skip ha552 rfl rfl rfl ?_
    intro a553 ha553; clear ha552 a552
    refine wl_skip ha553 rfl rfl rfl ?_
    intro a554 ha554; clear ha553 a553
    refine wl_skip ha554 rfl rfl rfl ?_
    intro a555 ha555; clear ha554 a554
    refine wl_skip ha555 rfl rfl rfl ?_
    intro a556 ha556; clear ha555 a555
    refine wl_skip ha556 rfl rfl rfl ?_
    intro a557 ha557; clear ha556 a556
    refine wl_val ha557 rfl rfl rfl (op_pick_t ha557 rfl rfl rfl) ?_
    intro a558 ha558; clear ha557 a557
    refine wpList_nil ?_
    refine then_n ?_
    refine cond_t ha558 rfl ?_
    refine wp_seq ?_
    clear ho16 ho56 ho69 ho81
    refine wp_region_lit ?_
    refine wl_val ha558 rfl rfl rfl (op_assign ha558 rfl rfl) ?_
    intro a559 ha559; clear ha558 a558
    refine wpList_nil ?_
    refine then_n ?_
    refine wp_ret ?_
    refine then_r ?_
    refine ret1 ha559 rfl rfl ?_
    clear ha559 a559
    exact ret_mk hx101 (congrArg Value.bool (by first | rfl | (exact absurd rfl c117) | (rw [decide_eq_true_eq]; exact hc2) | (exact decide_eq_true hc2) | (rw [salS_are] at c117; cases c117) | (exact (bq (fl_iff _) c117).elim) | (rw [hf3, eqL_self] at c117; cases c117) | (exact absurd hf4 c117) | (rw [hc1, ← hN, eqL_self] at c117; cases c117) | (rw [hc1] at c117; rw [List.length_take] at c117; omega) | (rw [hc1, eqL_self] at c117; cases c117) | (rw [salS_are] at c8; cases c8) | (exact (bq (fl_iff _) c8).elim) | (rw [hf3, eqL_self] at c8; cases c8) | (exact absurd hf4 c8) | (rw [hc1, ← hN, eqL_self] at c8; cases c8) | (rw [hc1] at c8; rw [List.length_take] at c8; omega) | (rw [hc1, eqL_self] at c8; cases c8) | (simp at c8; done) | omega))
  ·
   rw [decide_eq_false c111] at ha110
   refine wl_skip ha110 rfl rfl rfl ?_
   intro a560 ha560; clear ha110 a110
   refine wl_skip ha560 rfl rfl rfl ?_
   intro a561 ha561; clear ha560 a560
   refine wl_skip ha561 rfl rfl rfl ?_
   intro a562 ha562; clear ha561 a561
   refine wl_val ha562 rfl rfl rfl (op_pick_t ha562 rfl rfl rfl) ?_
   intro a563 ha563; clear ha562 a562
   refine wl_val ha563 rfl rfl rfl (op_move ha563 rfl rfl) ?_
   intro a564 ha564; clear ha563 a563
   refine wl_skip ha564 rfl rfl rfl ?_
   intro a565 ha565; clear ha564 a564
   refine wl_skip ha565 rfl rfl rfl ?_
   intro a566 ha566; clear ha565 a565
   refine wl_skip ha566 rfl rfl rfl ?_
   intro a567 ha567; clear ha566 a566
   refine wl_skip ha567 rfl rfl rfl ?_
   intro a568 ha568; clear ha567 a567
   refine wl_val ha568 rfl rfl rfl (op_pick_t ha568 rfl rfl rfl) ?_
   intro a569 ha569; clear ha568 a568
   refine wl_val ha569 rfl rfl rfl (op_move ha569 rfl rfl) ?_
   intro a570 ha570; clear ha569 a569
   refine wl_skip ha570 rfl rfl rfl ?_
   intro a571 ha571; clear ha570 a570
   refine wl_skip ha571 rfl rfl rfl ?_
   intro a572 ha572; clear ha571 a571
   refine wl_skip ha572 rfl rfl rfl ?_
   intro a573 ha573; clear ha572 a572
   refine wl_val ha573 rfl rfl rfl (op_pick_t ha573 rfl rfl rfl) ?_
   intro a574 ha574; clear ha573 a573
   refine wl_val ha574 rfl rfl rfl (op_move ha574 rfl rfl) ?_
   intro a575 ha575; clear ha574 a574
   refine wl_skip ha575 rfl rfl rfl ?_
   intro a576 ha576; clear ha575 a575
   refine wl_skip ha576 rfl rfl rfl ?_
   intro a577 ha577; clear ha576 a576
   refine wl_skip ha577 rfl rfl rfl ?_
   intro a578 ha578; clear ha577 a577
   refine wl_skip ha578 rfl rfl rfl ?_
   intro a579 ha579; clear ha578 a578
   refine wl_skip ha579 rfl rfl rfl ?_
   intro a580 ha580; clear ha579 a579
   refine wl_val ha580 rfl rfl rfl (op_pick_t ha580 rfl rfl rfl) ?_
   intro a581 ha581; clear ha580 a580
   refine wl_val ha581 rfl rfl rfl (op_move ha581 rfl rfl) ?_
   intro a582 ha582; clear ha581 a581
   refine wl_skip ha582 rfl rfl rfl ?_
   intro a583 ha583; clear ha582 a582
   refine wl_skip ha583 rfl rfl rfl ?_
   intro a584 ha584; clear ha583 a583
   refine wl_skip ha584 rfl rfl rfl ?_
   intro a585 ha585; clear ha584 a584
   refine wl_val ha585 rfl rfl rfl (op_pick_t ha585 rfl rfl rfl) ?_
   intro a586 ha586; clear ha585 a585
   refine wl_val ha586 rfl rfl rfl (op_move ha586 rfl rfl) ?_
   intro a587 ha587; clear ha586 a586
   refine wl_skip ha587 rfl rfl rfl ?_
   intro a588 ha588; clear ha587 a587
   refine wl_skip ha588 rfl rfl rfl ?_
   intro a589 ha589; clear ha588 a588
   refine wl_skip ha589 rfl rfl rfl ?_
   intro a590 ha590; clear ha589 a589
   refine wl_val ha590 rfl rfl rfl (op_pick_t ha590 rfl rfl rfl) ?_
   intro a591 ha591; clear ha590 a590
   refine wl_val ha591 rfl rfl rfl (op_move ha591 rfl rfl) ?_
   intro a592 ha592; clear ha591 a591
   refine wl_skip ha592 rfl rfl rfl ?_
   intro a593 ha593; clear ha592 a592
   refine wl_skip ha593 rfl rfl rfl ?_
   intro a594 ha594; clear ha593 a593
   refine wl_skip ha594 rfl rfl rfl ?_
   intro a595 ha595; clear ha594 a594
   refine wl_skip ha595 rfl rfl rfl ?_
   intro a596 ha596; clear ha595 a595
   refine wl_skip ha596 rfl rfl rfl ?_
   intro a597 ha597; clear ha596 a596
   refine wl_val ha597 rfl rfl rfl (op_pick_t ha597 rfl rfl rfl) ?_
   intro a598 ha598; clear ha597 a597
   refine wl_val ha598 rfl rfl rfl (op_move ha598 rfl rfl) ?_
   intro a599 ha599; clear ha598 a598
   refine wl_skip ha599 rfl rfl rfl ?_
   intro a600 ha600; clear ha599 a599
   refine wl_skip ha600 rfl rfl rfl ?_
   intro a601 ha601; clear ha600 a600
   refine wl_skip ha601 rfl rfl rfl ?_
   intro a602 ha602; clear ha601 a601
   refine wl_skip ha602 rfl rfl rfl ?_
   intro a603 ha603; clear ha602 a602
   refine wl_skip ha603 rfl rfl rfl ?_
   intro a604 ha604; clear ha603 a603
   refine wl_val ha604 rfl rfl rfl (op_pick_t ha604 rfl rfl rfl) ?_
   intro a605 ha605; clear ha604 a604
   refine wpList_nil ?_
   refine then_n ?_
   refine cond_t ha605 rfl ?_
   refine wp_seq ?_
   clear ho16 ho56 ho69 ho81
   refine wp_region_lit ?_
   refine wl_val ha605 rfl rfl rfl (op_assign ha605 rfl rfl) ?_
   intro a606 ha606; clear ha605 a605
   refine wpList_nil ?_
   refine then_n ?_
   refine wp_ret ?_
   refine then_r ?_
   refine ret1 ha606 rfl rfl ?_
   clear ha606 a606
   exact ret_mk hx101 (congrArg Value.bool (by first | rfl | (exact absurd rfl c111) | (rw [decide_eq_true_eq]; exact hc2) | (exact decide_eq_true hc2) | (rw [salS_are] at c111; cases c111) | (exact (bq (fl_iff _) c111).elim) | (rw [hf3, eqL_self] at c111; cases c111) | (exact absurd hf4 c111) | (rw [hc1, ← hN, eqL_self] at c111; cases c111) | (rw [hc1] at c111; rw [List.length_take] at c111; omega) | (rw [hc1, eqL_self] at c111; cases c111) | (rw [salS_are] at c8; cases c8) | (exact (bq (fl_iff _) c8).elim) | (rw [hf3, eqL_self] at c8; cases c8) | (exact absurd hf4 c8) | (rw [hc1, ← hN, eqL_self] at c8; cases c8) | (rw [hc1] at c8; rw [List.length_take] at c8; omega) | (rw [hc1, eqL_self] at c8; cases c8) | (simp at c8; done) | omega))


end Go.Proofs.Ytkdnclpgijkceaa
