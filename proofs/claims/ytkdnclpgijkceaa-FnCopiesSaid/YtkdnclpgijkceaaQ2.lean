/- The law FnCopies, walked. -/
import Derived.Test.YtkdnclpgijkceaaN3
import Derived.Test.YtkdnclpgijkceaaQ0
import Derived.Test.YtkdnclpgijkceaaM2
import Derived.Test.YtkdnclpgijkceaaS2
namespace Go.Proofs.Ytkdnclpgijkceaa
open Go Go.RowKit

theorem if01 {b : Bool} (h : (if b = true then 0 else 1 : Int) = 0) : b = true := by cases b <;> simp_all

theorem mL1 {x y : Int × Str} {xs ys : List (Int × Str)} (q : x.1 < y.1) : mrgL (x :: xs) (y :: ys) = x :: mrgL xs (y :: ys) ∧ mrgD (x :: xs) (y :: ys) = mrgD xs (y :: ys) := by
  rw [mrgL, mrgD, if_pos q, if_pos q]; exact ⟨rfl, rfl⟩
theorem mL2 {x y : Int × Str} {xs ys : List (Int × Str)} (q : y.1 < x.1) : mrgL (x :: xs) (y :: ys) = y :: mrgL (x :: xs) ys ∧ mrgD (x :: xs) (y :: ys) = mrgD (x :: xs) ys := by
  have h : ¬ x.1 < y.1 := by omega
  rw [mrgL, mrgD, if_neg h, if_pos q, if_neg h, if_pos q]; exact ⟨rfl, rfl⟩
theorem mL3 {x y : Int × Str} {xs ys : List (Int × Str)} (q : x.1 = y.1) : mrgL (x :: xs) (y :: ys) = x :: mrgL xs ys ∧ mrgD (x :: xs) (y :: ys) = (if x.2 = y.2 then [] else [x.1]) ++ mrgD xs ys := by
  have h : ¬ x.1 < y.1 := by omega
  have h2 : ¬ y.1 < x.1 := by omega
  rw [mrgL, mrgD, if_neg h, if_neg h2, if_neg h, if_neg h2]; exact ⟨rfl, rfl⟩
theorem mrg_all : ∀ (n : Nat) (a b : List (Int × Str)), a.length + b.length ≤ n → a.length ≤ (mrgL a b).length ∧ b.length ≤ (mrgL a b).length ∧ (mrgL a b).length ≤ a.length + b.length ∧ (mrgL b a).length = (mrgL a b).length ∧ mrgD b a = mrgD a b
  | _, [], b, _ => by rw [mrgL_nil, mrgL_nil', mrgD_nil, mrgD_nil']; simp
  | _, x :: xs, [], _ => by rw [mrgL_nil, mrgL_nil', mrgD_nil, mrgD_nil']; simp
  | 0, x :: xs, y :: ys, h => by simp at h
  | n + 1, x :: xs, y :: ys, h => by
    simp only [List.length_cons] at h
    rcases Int.lt_trichotomy x.1 y.1 with q | q | q
    · have ih := mrg_all n xs (y :: ys) (by simp only [List.length_cons]; omega)
      rw [(mL1 q).1, (mL1 q).2, (mL2 (x := y) (y := x) q).1, (mL2 (x := y) (y := x) q).2]
      simp only [List.length_cons] at ih ⊢
      exact ⟨by omega, by omega, by omega, by omega, ih.2.2.2.2⟩
    · have ih := mrg_all n xs ys (by omega)
      rw [(mL3 q).1, (mL3 q).2, (mL3 q.symm).1, (mL3 q.symm).2]
      simp only [List.length_cons]
      refine ⟨by omega, by omega, by omega, by omega, ?_⟩
      rw [ih.2.2.2.2, q]
      by_cases r : x.2 = y.2
      · rw [if_pos r, if_pos r.symm]
      · rw [if_neg r, if_neg (Ne.symm r)]
    · have ih := mrg_all n (x :: xs) ys (by simp only [List.length_cons]; omega)
      rw [(mL2 q).1, (mL2 q).2, (mL1 (x := y) (y := x) q).1, (mL1 (x := y) (y := x) q).2]
      simp only [List.length_cons] at ih ⊢
      exact ⟨by omega, by omega, by omega, by omega, ih.2.2.2.2⟩
theorem rise_up : ∀ (xs : List (Int × Str)) (p : Option Int), (∀ r ∈ xs, recB r = true) → Up xs → (∀ q, p = some q → ∀ r ∈ xs, q < r.1) → riseB p xs = true
  | [], p, _, _, _ => by cases p <;> rfl
  | x :: xs, p, h, hu, hp => by
    have hu' := List.pairwise_cons.1 hu
    have ih := rise_up xs (some x.1) (fun r hr => h r (by simp [hr])) hu'.2 fun q hq r hr => by cases hq; exact hu'.1 r hr
    cases p with
    | none => simp only [riseB, ih, h x (by simp)]; rfl
    | some q => have := hp q rfl x (by simp); simp only [riseB, ih, h x (by simp)]; simp [this]
theorem are_up {xs : List (Int × Str)} (h1 : xs.length ≤ 30) (h2 : ∀ r ∈ xs, recB r = true) (h3 : Up xs) : areB xs = true := by
  unfold areB; rw [rise_up xs none h2 h3 fun q hq => by cases hq]; simp [h1]
/-- What is known of two copies that have been made one. -/
theorem mg_all {s t : Str} (h : mgE s t = 0) : areB (mgL s t) = true ∧ (salS s).1.length ≤ (mgL s t).length ∧ (salS t).1.length ≤ (mgL s t).length ∧ (mgL s t).length ≤ (salS s).1.length + (salS t).1.length ∧ mgE t s = 0 ∧ (mgL t s).length = (mgL s t).length ∧ mgD t s = mgD s t ∧ (salS s).1.length ≤ 30 ∧ (salS t).1.length ≤ 30 := by
  have hA := salS_are s; have hB := salS_are t
  obtain ⟨m1, m2, m3, m4, m5⟩ := mrg_all _ (salS s).1 (salS t).1 (Nat.le_refl _)
  have hn : ¬ 30 < (mrgL (salS s).1 (salS t).1).length := fun q => by unfold mgE at h; rw [if_pos q] at h; cases h
  have hn' : ¬ 30 < (mrgL (salS t).1 (salS s).1).length := by omega
  obtain ⟨o1, o2⟩ := mrg_out _ (salS s).1 (salS t).1 (Nat.le_refl _) (areB_up hA) (areB_up hB)
  have e1 : mgL s t = mrgL (salS s).1 (salS t).1 := if_neg hn
  have e2 : mgL t s = mrgL (salS t).1 (salS s).1 := if_neg hn'
  have e3 : mgD s t = mrgD (salS s).1 (salS t).1 := if_neg hn
  have e4 : mgD t s = mrgD (salS t).1 (salS s).1 := if_neg hn'
  refine ⟨?_, by rw [e1]; exact m1, by rw [e1]; exact m2, by rw [e1]; exact m3, if_neg hn', by rw [e1, e2]; exact m4, by rw [e3, e4]; exact m5, areB_len hA, areB_len hB⟩
  rw [e1]
  refine are_up (by omega) (fun r hr => ?_) o1
  rcases (o2 r).1 hr with q | q
  · exact areB_all hA r q
  · exact areB_all hB r q.1
theorem put_mem : ∀ {xs : List (Int × Str)} {r z : Int × Str}, z ∈ putS xs r → z = r ∨ z ∈ xs
  | [], r, z, h => by rw [putS] at h; exact .inl (by simpa using h)
  | x :: xs, r, z, h => by
    rw [putS] at h; split at h
    · rcases List.mem_cons.1 h with q | q
      · exact .inr (by simp [q])
      · rcases put_mem q with q | q
        · exact .inl q
        · exact .inr (by simp [q])
    · split at h
      · rcases List.mem_cons.1 h with q | q
        · exact .inl q
        · exact .inr (by simp [q])
      · rcases List.mem_cons.1 h with q | q
        · exact .inl q
        · exact .inr q
theorem put_has : ∀ (xs : List (Int × Str)) (r : Int × Str), r ∈ putS xs r
  | [], r => by rw [putS]; simp
  | x :: xs, r => by
    rw [putS]; split
    · exact List.mem_cons_of_mem _ (put_has xs r)
    · split <;> simp
theorem put_ge : ∀ (xs : List (Int × Str)) (r : Int × Str), xs.length ≤ (putS xs r).length
  | [], r => Nat.zero_le _
  | x :: xs, r => by
    have := put_ge xs r
    rw [putS]; split
    · simp only [List.length_cons]; omega
    · split <;> simp only [List.length_cons] <;> omega
theorem put_up : ∀ {xs : List (Int × Str)} {r : Int × Str}, Up xs → Up (putS xs r)
  | [], r, _ => by rw [putS]; exact List.pairwise_singleton _ _
  | x :: xs, r, h => by
    have h' := List.pairwise_cons.1 h
    rw [putS]; split
    · refine List.Pairwise.cons (fun z hz => ?_) (put_up h'.2)
      rcases put_mem hz with q | q
      · subst q; assumption
      · exact h'.1 z q
    · split
      · refine List.Pairwise.cons (fun z hz => ?_) h'.2
        have := h'.1 z hz; omega
      · refine List.Pairwise.cons (fun z hz => ?_) h
        rcases List.mem_cons.1 hz with q | q
        · subst q; omega
        · have := h'.1 z q; omega
/-- What is known of records of which one has been replaced. -/
theorem rp_all {xs : List (Int × Str)} {r : Int × Str} (h : replE xs r = 0) : areB (replL xs r) = true ∧ r ∈ replL xs r ∧ xs.length ≤ (replL xs r).length := by
  have h1 : areB xs = true := by
    unfold replE at h; split at h
    · assumption
    · cases h
  have h2 : recB r = true := by
    unfold replE at h; rw [if_pos h1] at h; split at h
    · assumption
    · cases h
  have h3 : ¬ 30 < (putS xs r).length := fun q => by unfold replE at h; rw [if_pos h1, if_pos h2, if_pos q] at h; cases h
  have e : replL xs r = putS xs r := by unfold replL; rw [if_pos h1, if_pos h2, if_neg h3]
  rw [e]
  refine ⟨are_up (by omega) (fun z hz => ?_) (put_up (areB_up h1)), put_has xs r, put_ge xs r⟩
  rcases put_mem hz with q | q
  · subst q; exact h2
  · exact areB_all h1 z q

set_option maxHeartbeats 8000000 in
set_option maxRecDepth 16000 in
theorem c_laws_FnCopies (w0 : World) (v_code : Value) (code : List UInt8) {S_code : Nat → Prop} (h_code : Rds shU8 S_code w0 v_code code) :
  Calls Try.prog 12 #[v_code] w0 (Ret w0 (fun v _ => v = .bool (true))) := by
 refine enter (N := 178) Try.func12 rfl rfl rfl ?_
 intro a0 ha0
 have hx0 := Ext.rfl' w0
 have hl_code := h_code.length_le
 refine wp_seq ?_
 refine wp_region_lit ?_
 refine wl_val ha0 rfl rfl rfl (op_assign ha0 rfl rfl) ?_
 intro a1 ha1; clear ha0 a0
 refine wpList_nil ?_
 refine then_n ?_
 refine wp_seq ?_
 refine wp_seq ?_
 refine wp_region_lit ?_
 refine wl_val ha1 rfl rfl rfl (op_move ha1 rfl rfl) ?_
 intro a2 ha2; clear ha1 a1
 refine wl_callR ha2 rfl rfl rfl (op_call ha2 rfl cb39 rfl) (c_laws_big _ v_code code (h_code.ext pos_shU8 hx0)) ?_
 rintro v3 w4 he5 rfl a6 ha6; clear ha2 a2
 have hx7 := hx0.trans' he5
 have hzhx7 := he5.size
 refine wpList_nil ?_
 refine then_n ?_
 rcases Bool.eq_false_or_eq_true (decide (4096 < code.length)) with c8 | c8
 ·
  rw [c8] at ha6
  refine cond_t ha6 rfl ?_
  refine wp_seq ?_
  refine wp_region_lit ?_
  refine wl_val ha6 rfl rfl rfl (op_assign ha6 rfl rfl) ?_
  intro a9 ha9; clear ha6 a6
  refine wpList_nil ?_
  refine then_n ?_
  refine wp_ret ?_
  refine then_r ?_
  refine ret1 ha9 rfl rfl ?_
  clear ha9 a9
  exact ret_mk hx7 (congrArg Value.bool (by first | rfl | (exact (by rw [hg7]; exact eqL_self _)) | (rw [hg7, eqL_self]) | (simp at c8; done) | omega))
 ·
  rw [c8] at ha6
  refine cond_f ha6 rfl ?_
  refine wp_skip ?_
  refine then_n ?_
  refine wp_seq ?_
  refine wp_region_lit ?_
  refine wl_val ha6 rfl rfl rfl (op_move ha6 rfl rfl) ?_
  intro a10 ha10; clear ha6 a6
  refine wl_callR ha10 rfl rfl rfl (op_call ha10 rfl cb46 rfl) (c_spec_DrawMergeCopies _ v_code code (h_code.ext pos_shU8 hx7)) ?_
  rintro v11 w12 he13 ⟨q14, q15, hq16, hq17, rfl⟩ a18 ha18; clear ha10 a10
  have hx19 := hx7.trans' he13
  have hzhx19 := he13.size
  refine wl_val ha18 rfl rfl rfl (op_move ha18 rfl rfl) ?_
  intro a20 ha20; clear ha18 a18
  refine wl_val ha20 rfl rfl rfl (op_extract ha20 rfl rfl rfl) ?_
  intro a21 ha21; clear ha20 a20
  refine wl_val ha21 rfl rfl rfl (op_extract ha21 rfl rfl rfl) ?_
  intro a22 ha22; clear ha21 a21
  refine wl_val ha22 rfl rfl rfl (op_assign ha22 rfl rfl) ?_
  intro a23 ha23; clear ha22 a22
  refine wl_val ha23 rfl rfl rfl (op_assign ha23 rfl rfl) ?_
  intro a24 ha24; clear ha23 a23
  refine wpList_nil ?_
  refine then_n ?_
  refine wp_seq ?_
  refine wp_region_lit ?_
  refine wl_val ha24 rfl rfl rfl (op_move ha24 rfl rfl) ?_
  intro a25 ha25; clear ha24 a24
  refine wl_val ha25 rfl rfl rfl (op_move ha25 rfl rfl) ?_
  intro a26 ha26; clear ha25 a25
  refine wl_callR ha26 rfl rfl rfl (op_call ha26 rfl cb38 rfl) (c_impl_MergeCopies _ ((q14)) ((q15)) (by first | assumption | omega | (exact Nat.le_trans (areB_len (salS_are _)) (Nat.le_of_ble_eq_true rfl)) | (exact Nat.le_trans (mgL_len _ _) (Nat.le_of_ble_eq_true rfl)) | (exact Nat.le_trans (replL_len _ _) (Nat.le_of_ble_eq_true rfl)) | (simp; done) | (simp; omega)) (by first | assumption | omega | (exact Nat.le_trans (areB_len (salS_are _)) (Nat.le_of_ble_eq_true rfl)) | (exact Nat.le_trans (mgL_len _ _) (Nat.le_of_ble_eq_true rfl)) | (exact Nat.le_trans (replL_len _ _) (Nat.le_of_ble_eq_true rfl)) | (simp; done) | (simp; omega))) ?_
  rintro v27 w28 he29 ⟨v30, v32, rfl, ho31, ho33⟩ a34 ha34; clear ha26 a26
  have hx35 := hx19.trans' he29
  have hzhx35 := he29.size
  refine wl_val ha34 rfl rfl rfl (op_move ha34 rfl rfl) ?_
  intro a36 ha36; clear ha34 a34
  refine wl_val ha36 rfl rfl rfl (op_extract ha36 rfl rfl rfl) ?_
  intro a37 ha37; clear ha36 a36
  refine wl_val ha37 rfl rfl rfl (op_extract ha37 rfl rfl rfl) ?_
  intro a38 ha38; clear ha37 a37
  refine wl_val ha38 rfl rfl rfl (op_extract ha38 rfl rfl rfl) ?_
  intro a39 ha39; clear ha38 a38
  refine wl_val ha39 rfl rfl rfl (op_assign ha39 rfl rfl) ?_
  intro a40 ha40; clear ha39 a39
  refine wl_val ha40 rfl rfl rfl (op_assign ha40 rfl rfl) ?_
  intro a41 ha41; clear ha40 a40
  refine wl_val ha41 rfl rfl rfl (op_assign ha41 rfl rfl) ?_
  intro a42 ha42; clear ha41 a41
  refine wpList_nil ?_
  refine then_n ?_
  refine wp_seq ?_
  refine wp_region_lit ?_
  refine wl_val ha42 rfl rfl rfl (op_move ha42 rfl rfl) ?_
  intro a43 ha43; clear ha42 a42
  refine wl_val ha43 rfl rfl rfl (op_move ha43 rfl rfl) ?_
  intro a44 ha44; clear ha43 a43
  refine wl_callR ha44 rfl rfl rfl (op_call ha44 rfl cb37 rfl) (c_spec_MergeCopies _ ((q14)) ((q15)) (by first | assumption | omega | (exact Nat.le_trans (areB_len (salS_are _)) (Nat.le_of_ble_eq_true rfl)) | (exact Nat.le_trans (mgL_len _ _) (Nat.le_of_ble_eq_true rfl)) | (exact Nat.le_trans (replL_len _ _) (Nat.le_of_ble_eq_true rfl)) | (simp; done) | (simp; omega)) (by first | assumption | omega | (exact Nat.le_trans (areB_len (salS_are _)) (Nat.le_of_ble_eq_true rfl)) | (exact Nat.le_trans (mgL_len _ _) (Nat.le_of_ble_eq_true rfl)) | (exact Nat.le_trans (replL_len _ _) (Nat.le_of_ble_eq_true rfl)) | (simp; done) | (simp; omega))) ?_
  rintro v45 w46 he47 ⟨v48, v50, rfl, ho49, ho51⟩ a52 ha52; clear ha44 a44
  have hx53 := hx35.trans' he47
  have hzhx53 := he47.size
  replace ho31 := ho31.ext he47
  replace ho33 := ho33.ext he47
  refine wl_val ha52 rfl rfl rfl (op_move ha52 rfl rfl) ?_
  intro a54 ha54; clear ha52 a52
  refine wl_val ha54 rfl rfl rfl (op_extract ha54 rfl rfl rfl) ?_
  intro a55 ha55; clear ha54 a54
  refine wl_val ha55 rfl rfl rfl (op_extract ha55 rfl rfl rfl) ?_
  intro a56 ha56; clear ha55 a55
  refine wl_val ha56 rfl rfl rfl (op_extract ha56 rfl rfl rfl) ?_
  intro a57 ha57; clear ha56 a56
  refine wl_val ha57 rfl rfl rfl (op_assign ha57 rfl rfl) ?_
  intro a58 ha58; clear ha57 a57
  refine wl_val ha58 rfl rfl rfl (op_assign ha58 rfl rfl) ?_
  intro a59 ha59; clear ha58 a58
  refine wl_val ha59 rfl rfl rfl (op_assign ha59 rfl rfl) ?_
  intro a60 ha60; clear ha59 a59
  refine wpList_nil ?_
  refine then_n ?_
  refine wp_seq ?_
  refine wp_region_lit ?_
  refine wl_val ha60 rfl rfl rfl (op_move ha60 rfl rfl) ?_
  intro a61 ha61; clear ha60 a60
  refine wl_callR ha61 rfl rfl rfl (op_call ha61 rfl cb47 rfl) (c_spec_DrawReplaceRecord _ v_code code (h_code.ext pos_shU8 hx53)) ?_
  rintro v62 w63 he64 ⟨q65, q66, hq67, hq68, hq69, ⟨v70, rfl, ho71⟩⟩ a72 ha72; clear ha61 a61
  have hx73 := hx53.trans' he64
  have hzhx73 := he64.size
  replace ho31 := ho31.ext he64
  replace ho33 := ho33.ext he64
  replace ho49 := ho49.ext he64
  replace ho51 := ho51.ext he64
  refine wl_val ha72 rfl rfl rfl (op_move ha72 rfl rfl) ?_
  intro a74 ha74; clear ha72 a72
  refine wl_val ha74 rfl rfl rfl (op_extract ha74 rfl rfl rfl) ?_
  intro a75 ha75; clear ha74 a74
  refine wl_val ha75 rfl rfl rfl (op_extract ha75 rfl rfl rfl) ?_
  intro a76 ha76; clear ha75 a75
  refine wl_eff ha76 rfl rfl rfl (op_alloc' rfl ti36 rfl) ?_
  rintro _ w78 ⟨rfl, he79, hb80, hz81⟩ a82 ha82; clear ha76 a76
  have hx83 := hx73.trans' he79
  have hzhx83 := he79.size
  replace ho31 := ho31.ext he79
  replace ho33 := ho33.ext he79
  replace ho49 := ho49.ext he79
  replace ho51 := ho51.ext he79
  replace ho71 := ho71.ext he79
  refine wl_val ha82 rfl rfl rfl (op_assign ha82 rfl rfl) ?_
  intro a84 ha84; clear ha82 a82
  refine wl_effS ha84 rfl rfl (op_storeAll' ha84 rfl ti36 rfl rfl hb80 rfl rfl (by simp [Value.oneCell']) rfl) ?_
  rintro w85 ⟨hb87, hst86, hz88⟩
  have hx89 := hx83.stp hst86 (by intro q hq; cases hq; exact (by omega))
  have hzhx89 := hst86.size
  replace ho31 := ho31.stp hst86 (by intro q hq; cases hq; omega)
  replace ho33 := ho33.stp hst86 (by intro q hq; cases hq; omega)
  replace ho49 := ho49.stp hst86 (by intro q hq; cases hq; omega)
  replace ho51 := ho51.stp hst86 (by intro q hq; cases hq; omega)
  replace ho71 := ho71.stp hst86 (by intro q hq; cases hq; omega)
  clear hb80
  refine wpList_nil ?_
  refine then_n ?_
  refine wp_seq ?_
  refine wp_region_lit ?_
  refine wl_val ha84 rfl rfl rfl (op_move ha84 rfl rfl) ?_
  intro a90 ha90; clear ha84 a84
  refine wl_val ha90 rfl rfl rfl (op_loadS ha90 rfl Try.underlying36 ti36 rfl rfl hb87.cells) ?_
  intro a91 ha91; clear ha90 a90
  refine wl_callR ha91 rfl rfl rfl (op_call ha91 rfl cb23 rfl) (c_impl_ReplaceRecord _ v70 ((q65)) ((q66)) (ho71.rds pos_shRec) (by first | assumption | omega | (exact Nat.le_trans (areB_len (salS_are _)) (Nat.le_of_ble_eq_true rfl)) | (exact Nat.le_trans (mgL_len _ _) (Nat.le_of_ble_eq_true rfl)) | (exact Nat.le_trans (replL_len _ _) (Nat.le_of_ble_eq_true rfl)) | (simp; done) | (simp; omega)) (by first | assumption | omega | (exact Nat.le_trans (areB_len (salS_are _)) (Nat.le_of_ble_eq_true rfl)) | (exact Nat.le_trans (mgL_len _ _) (Nat.le_of_ble_eq_true rfl)) | (exact Nat.le_trans (replL_len _ _) (Nat.le_of_ble_eq_true rfl)) | (simp; done) | (simp; omega)) (by first | assumption | omega | (exact Nat.le_trans (areB_len (salS_are _)) (Nat.le_of_ble_eq_true rfl)) | (exact Nat.le_trans (mgL_len _ _) (Nat.le_of_ble_eq_true rfl)) | (exact Nat.le_trans (replL_len _ _) (Nat.le_of_ble_eq_true rfl)) | (simp; done) | (simp; omega))) ?_
  rintro v92 w93 he94 ⟨v95, rfl, ho96⟩ a97 ha97; clear ha91 a91
  have hx98 := hx89.trans' he94
  have hzhx98 := he94.size
  replace ho31 := ho31.ext he94
  replace ho33 := ho33.ext he94
  replace ho49 := ho49.ext he94
  replace ho51 := ho51.ext he94
  replace ho71 := ho71.ext he94
  replace hb87 := hb87.ext he94
  refine wl_val ha97 rfl rfl rfl (op_move ha97 rfl rfl) ?_
  intro a99 ha99; clear ha97 a97
  refine wl_val ha99 rfl rfl rfl (op_extract ha99 rfl rfl rfl) ?_
  intro a100 ha100; clear ha99 a99
  refine wl_val ha100 rfl rfl rfl (op_extract ha100 rfl rfl rfl) ?_
  intro a101 ha101; clear ha100 a100
  refine wl_val ha101 rfl rfl rfl (op_assign ha101 rfl rfl) ?_
  intro a102 ha102; clear ha101 a101
  refine wl_val ha102 rfl rfl rfl (op_assign ha102 rfl rfl) ?_
  intro a103 ha103; clear ha102 a102
  refine wpList_nil ?_
  refine then_n ?_
  refine wp_seq ?_
  refine wp_region_lit ?_
  refine wl_val ha103 rfl rfl rfl (op_move ha103 rfl rfl) ?_
  intro a104 ha104; clear ha103 a103
  refine wl_val ha104 rfl rfl rfl (op_loadS ha104 rfl Try.underlying36 ti36 rfl rfl hb87.cells) ?_
  intro a105 ha105; clear ha104 a104
  refine wl_callR ha105 rfl rfl rfl (op_call ha105 rfl cb21 rfl) (c_spec_ReplaceRecord _ v70 ((q65)) ((q66)) (ho71.rds pos_shRec) (by first | assumption | omega | (exact Nat.le_trans (areB_len (salS_are _)) (Nat.le_of_ble_eq_true rfl)) | (exact Nat.le_trans (mgL_len _ _) (Nat.le_of_ble_eq_true rfl)) | (exact Nat.le_trans (replL_len _ _) (Nat.le_of_ble_eq_true rfl)) | (simp; done) | (simp; omega)) (by first | assumption | omega | (exact Nat.le_trans (areB_len (salS_are _)) (Nat.le_of_ble_eq_true rfl)) | (exact Nat.le_trans (mgL_len _ _) (Nat.le_of_ble_eq_true rfl)) | (exact Nat.le_trans (replL_len _ _) (Nat.le_of_ble_eq_true rfl)) | (simp; done) | (simp; omega)) (by first | assumption | omega | (exact Nat.le_trans (areB_len (salS_are _)) (Nat.le_of_ble_eq_true rfl)) | (exact Nat.le_trans (mgL_len _ _) (Nat.le_of_ble_eq_true rfl)) | (exact Nat.le_trans (replL_len _ _) (Nat.le_of_ble_eq_true rfl)) | (simp; done) | (simp; omega))) ?_
  rintro v106 w107 he108 ⟨v109, rfl, ho110⟩ a111 ha111; clear ha105 a105
  have hx112 := hx98.trans' he108
  have hzhx112 := he108.size
  replace ho31 := ho31.ext he108
  replace ho33 := ho33.ext he108
  replace ho49 := ho49.ext he108
  replace ho51 := ho51.ext he108
  replace ho71 := ho71.ext he108
  replace hb87 := hb87.ext he108
  replace ho96 := ho96.ext he108
  refine wl_val ha111 rfl rfl rfl (op_move ha111 rfl rfl) ?_
  intro a113 ha113; clear ha111 a111
  refine wl_val ha113 rfl rfl rfl (op_extract ha113 rfl rfl rfl) ?_
  intro a114 ha114; clear ha113 a113
  refine wl_val ha114 rfl rfl rfl (op_extract ha114 rfl rfl rfl) ?_
  intro a115 ha115; clear ha114 a114
  refine wl_val ha115 rfl rfl rfl (op_assign ha115 rfl rfl) ?_
  intro a116 ha116; clear ha115 a115
  refine wl_val ha116 rfl rfl rfl (op_assign ha116 rfl rfl) ?_
  intro a117 ha117; clear ha116 a116
  refine wpList_nil ?_
  refine then_n ?_
  refine wp_seq ?_
  refine wp_seq ?_
  refine wp_region_lit ?_
  refine wl_val ha117 rfl rfl rfl (op_move ha117 rfl rfl) ?_
  intro a118 ha118; clear ha117 a117
  refine wl_val ha118 rfl rfl rfl (op_move ha118 rfl rfl) ?_
  intro a119 ha119; clear ha118 a118
  refine wl_val ha119 rfl rfl rfl ((op_neq ha119 rfl rfl rfl).to (congrArg Value.bool decide_not)) ?_
  intro a120 ha120; clear ha119 a119
  refine wl_val ha120 rfl rfl rfl (op_move ha120 rfl rfl) ?_
  intro a121 ha121; clear ha120 a120
  by_cases c122 : (mgE ((q14)) ((q15)) : Int) = (mgE ((q14)) ((q15)) : Int)
  ·
   rw [decide_eq_true c122] at ha121
   refine wl_val ha121 rfl rfl rfl (op_move ha121 rfl rfl) ?_
   intro a123 ha123; clear ha121 a121
   refine wl_val ha123 rfl rfl rfl (op_move ha123 rfl rfl) ?_
   intro a124 ha124; clear ha123 a123
   refine wl_callR ha124 rfl rfl rfl (op_call ha124 rfl cb42 rfl) (c_laws_likeRecords _ v30 ((mgL ((q14)) ((q15)))) v48 ((mgL ((q14)) ((q15)))) (ho31.rds pos_shRec) (ho49.rds pos_shRec)) ?_
   rintro v125 w126 he127 rfl a128 ha128; clear ha124 a124
   have hx129 := hx112.trans' he127
   have hzhx129 := he127.size
   replace ho31 := ho31.ext he127
   replace ho33 := ho33.ext he127
   replace ho49 := ho49.ext he127
   replace ho51 := ho51.ext he127
   replace ho71 := ho71.ext he127
   replace hb87 := hb87.ext he127
   replace ho96 := ho96.ext he127
   replace ho110 := ho110.ext he127
   refine wl_val ha128 rfl rfl rfl (op_not ha128 rfl rfl) ?_
   intro a130 ha130; clear ha128 a128
   refine wl_val ha130 rfl rfl rfl (op_pick_f ha130 rfl rfl rfl) ?_
   intro a131 ha131; clear ha130 a130
   refine wl_val ha131 rfl rfl rfl (op_move ha131 rfl rfl) ?_
   intro a132 ha132; clear ha131 a131
   rcases Bool.eq_false_or_eq_true (eqL ((mgL ((q14)) ((q15)))) ((mgL ((q14)) ((q15))))) with c133 | c133
   ·
    rw [c133] at ha132
    refine wl_val ha132 rfl rfl rfl (op_move ha132 rfl rfl) ?_
    intro a134 ha134; clear ha132 a132
    refine wl_val ha134 rfl rfl rfl (op_move ha134 rfl rfl) ?_
    intro a135 ha135; clear ha134 a134
    refine wl_callR ha135 rfl rfl rfl (op_call ha135 rfl cb43 rfl) (c_laws_likeInts _ v32 ((mgD ((q14)) ((q15)))) v50 ((mgD ((q14)) ((q15)))) (ho33.rds pos_shI64) (ho51.rds pos_shI64)) ?_
    rintro v136 w137 he138 rfl a139 ha139; clear ha135 a135
    have hx140 := hx129.trans' he138
    have hzhx140 := he138.size
    replace ho31 := ho31.ext he138
    replace ho33 := ho33.ext he138
    replace ho49 := ho49.ext he138
    replace ho51 := ho51.ext he138
    replace ho71 := ho71.ext he138
    replace hb87 := hb87.ext he138
    replace ho96 := ho96.ext he138
    replace ho110 := ho110.ext he138
    refine wl_val ha139 rfl rfl rfl (op_not ha139 rfl rfl) ?_
    intro a141 ha141; clear ha139 a139
    refine wl_val ha141 rfl rfl rfl (op_pick_f ha141 rfl rfl rfl) ?_
    intro a142 ha142; clear ha141 a141
    refine wl_val ha142 rfl rfl rfl (op_move ha142 rfl rfl) ?_
    intro a143 ha143; clear ha142 a142
    rcases Bool.eq_false_or_eq_true (eqL ((mgD ((q14)) ((q15)))) ((mgD ((q14)) ((q15))))) with c144 | c144
    ·
     rw [c144] at ha143
     refine wl_val ha143 rfl rfl rfl (op_move ha143 rfl rfl) ?_
     intro a145 ha145; clear ha143 a143
     refine wl_val ha145 rfl rfl rfl (op_move ha145 rfl rfl) ?_
     intro a146 ha146; clear ha145 a145
     refine wl_val ha146 rfl rfl rfl ((op_neq ha146 rfl rfl rfl).to (congrArg Value.bool decide_not)) ?_
     intro a147 ha147; clear ha146 a146
     refine wl_val ha147 rfl rfl rfl (op_pick_f ha147 rfl rfl rfl) ?_
     intro a148 ha148; clear ha147 a147
     refine wl_val ha148 rfl rfl rfl (op_move ha148 rfl rfl) ?_
     intro a149 ha149; clear ha148 a148
     by_cases c150 : (replE ((q65)) ((q66)) : Int) = (replE ((q65)) ((q66)) : Int)
     ·
      rw [decide_eq_true c150] at ha149
      refine wl_val ha149 rfl rfl rfl (op_move ha149 rfl rfl) ?_
      intro a151 ha151; clear ha149 a149
      refine wl_val ha151 rfl rfl rfl (op_move ha151 rfl rfl) ?_
      intro a152 ha152; clear ha151 a151
      refine wl_callR ha152 rfl rfl rfl (op_call ha152 rfl cb42 rfl) (c_laws_likeRecords _ v95 ((replL ((q65)) ((q66)))) v109 ((replL ((q65)) ((q66)))) (ho96.rds pos_shRec) (ho110.rds pos_shRec)) ?_
      rintro v153 w154 he155 rfl a156 ha156; clear ha152 a152
      have hx157 := hx140.trans' he155
      have hzhx157 := he155.size
      replace ho31 := ho31.ext he155
      replace ho33 := ho33.ext he155
      replace ho49 := ho49.ext he155
      replace ho51 := ho51.ext he155
      replace ho71 := ho71.ext he155
      replace hb87 := hb87.ext he155
      replace ho96 := ho96.ext he155
      replace ho110 := ho110.ext he155
      refine wl_val ha156 rfl rfl rfl (op_not ha156 rfl rfl) ?_
      intro a158 ha158; clear ha156 a156
      refine wl_val ha158 rfl rfl rfl (op_pick_f ha158 rfl rfl rfl) ?_
      intro a159 ha159; clear ha158 a158
      refine wpList_nil ?_
      refine then_n ?_
      rcases Bool.eq_false_or_eq_true (eqL ((replL ((q65)) ((q66)))) ((replL ((q65)) ((q66))))) with c160 | c160
      ·
       rw [c160] at ha159
       refine cond_f ha159 rfl ?_
       refine wp_skip ?_
       refine then_n ?_
       refine wp_seq ?_
       refine wp_seq ?_
       clear ho49 ho51 ho110
       refine wp_region_lit ?_
       refine wl_val ha159 rfl rfl rfl (op_move ha159 rfl rfl) ?_
       intro a161 ha161; clear ha159 a159
       refine wl_val ha161 rfl rfl rfl (op_eql ha161 rfl rfl rfl) ?_
       intro a162 ha162; clear ha161 a161
       refine wpList_nil ?_
       refine then_n ?_
       by_cases c163 : (replE ((q65)) ((q66)) : Int) = (0 : Int)
       ·
        rw [decide_eq_true c163] at ha162
        obtain ⟨hr1, hr2, hr3⟩ := rp_all c163
        refine cond_t ha162 rfl ?_
        refine wp_seq ?_
        refine wp_region_lit ?_
        refine wl_val ha162 rfl rfl rfl (op_assign ha162 rfl rfl) ?_
        intro a164 ha164; clear ha162 a162
        refine wpList_nil ?_
        refine then_n ?_
        refine wp_seq ?_
        refine wp_seq ?_
        refine wp_region_lit ?_
        refine wl_val ha164 rfl rfl rfl (op_assign ha164 rfl rfl) ?_
        intro a165 ha165; clear ha164 a164
        refine wpList_nil ?_
        refine then_n ?_
        refine wp_block ?_
        refine loop_inv (X := Nat × Bool) (fun (⟨i, f⟩ : Nat × Bool) fr wl => Sl 178 fr [(3, St ((q14))), (4, St ((q15))), (5, v30), (6, v32), (7, .int .i64 (mgE ((q14)) ((q15)) : Int)), (11, v70), (12, .pointer (some (⟨w63.heap.size, 0, none⟩ : Addr))), (13, v95), (17, .bool (f)), (18, .int .i64 ((i : Nat) : Int))] ∧ Ext w0 wl ∧ Own shRec 36 w12.heap.size w12.heap.size w28.heap.size wl v30 ((mgL ((q14)) ((q15)))) ∧ Own shI64 2 w12.heap.size w12.heap.size w28.heap.size wl v32 ((mgD ((q14)) ((q15)))) ∧ Own shRec 36 w46.heap.size w46.heap.size w63.heap.size wl v70 ((q65)) ∧ Box wl w63.heap.size 36 [.int .i64 ((q66)).1, St (((q66)).2)] ∧ Own shRec 36 w85.heap.size w85.heap.size w93.heap.size wl v95 ((replL ((q65)) ((q66)))) ∧ w154.heap.size ≤ wl.heap.size ∧ (i ≤ ((replL ((q65)) ((q66)))).length) ∧ (f = decide ((q66) ∈ ((replL ((q65)) ((q66)))).take i)) ∧ (((replL ((q65)) ((q66)))).length ≤ 30)) (fun (⟨i, f⟩ : Nat × Bool) => ((replL ((q65)) ((q66)))).length - i) (0, false) ?_ ?_
        ·
         exact ⟨(Sl.cons_ ha165 rfl rfl (Sl.cons_ ha165 rfl rfl (Sl.cons_ ha165 rfl rfl (Sl.cons_ ha165 rfl rfl (Sl.cons_ ha165 rfl rfl (Sl.cons_ ha165 rfl rfl (Sl.cons_ ha165 rfl rfl (Sl.cons_ ha165 rfl rfl (Sl.cons_ ha165 rfl rfl (Sl.cons_ ha165 rfl (int_eq (by omega)) (Sl.nil_ ha165))))))))))), hx157, ho31, ho33, ho71, hb87, ho96, (by omega), (by omega), (by simp), (by exact replL_len _ _)⟩
        ·
         clear ha165 a165
         rintro ⟨i, f⟩ a173 w166 ⟨ha173, hx167, hf168, hf169, hf170, hf171, hf172, hzl174, hi, hf, hP⟩
         have hzhx167 := hx167.size
         refine wp_seq ?_
         refine wp_seq ?_
         refine wp_region_lit ?_
         refine wl_val ha173 rfl rfl rfl (op_move ha173 rfl rfl) ?_
         intro a175 ha175; clear ha173 a173
         refine wl_val ha175 rfl rfl rfl (op_move ha175 rfl rfl) ?_
         intro a176 ha176; clear ha175 a175
         refine wl_val ha176 rfl rfl rfl (op_len_sl ha176 rfl Try.underlying25 rfl (hf172.rds pos_shRec)) ?_
         intro a177 ha177; clear ha176 a176
         refine wl_val ha177 rfl rfl rfl (op_lss ha177 rfl rfl rfl) ?_
         intro a178 ha178; clear ha177 a177
         refine wpList_nil ?_
         refine then_n ?_
         by_cases c179 : ((i : Nat) : Int) < ((((replL ((q65)) ((q66)))).length : Nat) : Int)
         ·
          rw [decide_eq_true c179] at ha178
          refine cond_t ha178 rfl ?_
          refine wp_skip ?_
          refine then_n ?_
          refine wp_seq ?_
          refine wp_block ?_
          refine dr_enter Ext follows_mixed ?_
          intro w180 he181
          have hx182 := hx167.trans' he181
          have hzhx182 := he181.size
          replace hf168 := hf168.ext he181
          replace hf169 := hf169.ext he181
          replace hf170 := hf170.ext he181
          replace hf171 := hf171.ext he181
          replace hf172 := hf172.ext he181
          have hs183 : Ext w180 w180 := Ext.rfl' _
          refine dr_val (i := 0) ha178 rfl (by kernel_rfl) (by kernel_rfl) (by kernel_rfl) rfl rfl rfl hs183 (fun w' hw' => op_move ha178 rfl rfl) ?_
          intro a184 ha184; clear ha178 a178
          refine dr_val (i := 1) ha184 rfl (by kernel_rfl) (by kernel_rfl) (by kernel_rfl) rfl rfl rfl hs183 (fun w' hw' => op_move ha184 rfl rfl) ?_
          intro a185 ha185; clear ha184 a184
          rcases Bool.eq_false_or_eq_true (f) with c186 | c186
          ·
           rw [c186] at ha185
           refine dr_skip (i := 2) ha185 rfl (by kernel_rfl) (by kernel_rfl) (by kernel_rfl) rfl rfl rfl hs183 ?_
           intro a187 ha187; clear ha185 a185
           refine dr_skip (i := 3) ha187 rfl (by kernel_rfl) (by kernel_rfl) (by kernel_rfl) rfl rfl rfl hs183 ?_
           intro a188 ha188; clear ha187 a187
           refine dr_skip (i := 4) ha188 rfl (by kernel_rfl) (by kernel_rfl) (by kernel_rfl) rfl rfl rfl hs183 ?_
           intro a189 ha189; clear ha188 a188
           refine dr_skip (i := 5) ha189 rfl (by kernel_rfl) (by kernel_rfl) (by kernel_rfl) rfl rfl rfl hs183 ?_
           intro a190 ha190; clear ha189 a189
           refine dr_skip (i := 6) ha190 rfl (by kernel_rfl) (by kernel_rfl) (by kernel_rfl) rfl rfl rfl hs183 ?_
           intro a191 ha191; clear ha190 a190
           refine dr_skip (i := 7) ha191 rfl (by kernel_rfl) (by kernel_rfl) (by kernel_rfl) rfl rfl rfl hs183 ?_
           intro a192 ha192; clear ha191 a191
           refine dr_val (i := 8) ha192 rfl (by kernel_rfl) (by kernel_rfl) (by kernel_rfl) rfl rfl rfl hs183 (fun w' hw' => op_pick_t ha192 rfl rfl rfl) ?_
           intro a193 ha193; clear ha192 a192
           refine dr_val (i := 9) ha193 rfl (by kernel_rfl) (by kernel_rfl) (by kernel_rfl) rfl rfl rfl hs183 (fun w' hw' => op_assign ha193 rfl rfl) ?_
           intro a194 ha194; clear ha193 a193
           refine dr_end (by kernel_rfl) ?_
           replace hf168 := hf168.ext hs183
           replace hf169 := hf169.ext hs183
           replace hf170 := hf170.ext hs183
           replace hf171 := hf171.ext hs183
           replace hf172 := hf172.ext hs183
           refine block_n ?_
           refine then_n ?_
           refine wp_region_lit ?_
           refine wl_val ha194 rfl rfl rfl (op_move ha194 rfl rfl) ?_
           intro a195 ha195; clear ha194 a194
           refine wl_val ha195 rfl rfl rfl ((op_add ha195 rfl rfl rfl).int (IntWalk.i64_in _ (by omega))) ?_
           intro a196 ha196; clear ha195 a195
           refine wl_val ha196 rfl rfl rfl (op_assign ha196 rfl rfl) ?_
           intro a197 ha197; clear ha196 a196
           refine wpList_nil ?_
           refine round_end (x := (i, f)) ((i + 1), true) ?_ ?_
           ·
            refine ⟨(Sl.cons_ ha197 rfl rfl (Sl.cons_ ha197 rfl rfl (Sl.cons_ ha197 rfl rfl (Sl.cons_ ha197 rfl rfl (Sl.cons_ ha197 rfl rfl (Sl.cons_ ha197 rfl rfl (Sl.cons_ ha197 rfl rfl (Sl.cons_ ha197 rfl rfl (Sl.cons_ ha197 rfl rfl (Sl.cons_ ha197 rfl (int_eq (by omega)) (Sl.nil_ ha197))))))))))), hx182, hf168, hf169, hf170, hf171, hf172, (by omega), (by omega), (by obtain ⟨x9, hx9⟩ := get_ex (xs := ((replL ((q65)) ((q66))))) (j := i) (by omega); rw [take_snoc hx9]; rw [c186] at hf; exact (decide_eq_true (List.mem_append.2 (.inl (of_decide_eq_true hf.symm)))).symm), (by exact hP)⟩
           ·show (((replL ((q65)) ((q66)))).length - ((i + 1)) : Nat) < ((replL ((q65)) ((q66)))).length - i; omega
          ·
           rw [c186] at ha185
           refine dr_val (i := 2) ha185 rfl (by kernel_rfl) (by kernel_rfl) (by kernel_rfl) rfl rfl rfl hs183 (fun w' hw' => op_move ha185 rfl rfl) ?_
           intro a198 ha198; clear ha185 a185
           refine dr_val (i := 3) ha198 rfl (by kernel_rfl) (by kernel_rfl) (by kernel_rfl) rfl rfl rfl hs183 (fun w' hw' => op_move ha198 rfl rfl) ?_
           intro a199 ha199; clear ha198 a198
           obtain ⟨x200, hx200⟩ := get_ex (xs := (replL ((q65)) ((q66)))) (j := i) (by omega)
           obtain ⟨p201, c202, hi203, hc204, hr205, hs206⟩ := Rds.at_ (hf172.rds pos_shRec) hx200
           obtain ⟨rfl, b207, b208⟩ := inv_shRec hr205
           obtain ⟨_, _⟩ : _ ∧ _ := hs206
           refine dr_val (i := 4) ha199 rfl (by kernel_rfl) (by kernel_rfl) (by kernel_rfl) rfl rfl rfl hs183 (fun w' hw' => op_indexAddr ha199 rfl Try.underlying25 ti36 rfl rfl (by omega) hi203) ?_
           intro a209 ha209; clear ha199 a199
           refine dr_val (i := 5) ha209 rfl (by kernel_rfl) (by kernel_rfl) (by kernel_rfl) rfl rfl rfl hs183 (fun w' hw' => op_loadS ha209 rfl Try.underlying36 ti36 rfl rfl (hc204.ext hw')) ?_
           intro a210 ha210; clear ha209 a209
           refine dr_val (i := 6) ha210 rfl (by kernel_rfl) (by kernel_rfl) (by kernel_rfl) rfl rfl rfl hs183 (fun w' hw' => op_loadS ha210 rfl Try.underlying36 ti36 rfl rfl (hf171.ext hw').cells) ?_
           intro a211 ha211; clear ha210 a210
           refine dr_val (i := 7) ha211 rfl (by kernel_rfl) (by kernel_rfl) (by kernel_rfl) rfl rfl rfl hs183 (fun w' hw' => (op_aeql ha211 rfl eg36 (aeq36 _ x200 ((q66))) rfl rfl)) ?_
           intro a212 ha212; clear ha211 a211
           refine dr_val (i := 8) ha212 rfl (by kernel_rfl) (by kernel_rfl) (by kernel_rfl) rfl rfl rfl hs183 (fun w' hw' => op_pick_f ha212 rfl rfl rfl) ?_
           intro a213 ha213; clear ha212 a212
           refine dr_val (i := 9) ha213 rfl (by kernel_rfl) (by kernel_rfl) (by kernel_rfl) rfl rfl rfl hs183 (fun w' hw' => op_assign ha213 rfl rfl) ?_
           intro a214 ha214; clear ha213 a213
           refine dr_end (by kernel_rfl) ?_
           replace hf168 := hf168.ext hs183
           replace hf169 := hf169.ext hs183
           replace hf170 := hf170.ext hs183
           replace hf171 := hf171.ext hs183
           replace hf172 := hf172.ext hs183
           replace hc204 := hc204.ext hs183
           refine block_n ?_
           refine then_n ?_
           clear hc204
           refine wp_region_lit ?_
           refine wl_val ha214 rfl rfl rfl (op_move ha214 rfl rfl) ?_
           intro a215 ha215; clear ha214 a214
           refine wl_val ha215 rfl rfl rfl ((op_add ha215 rfl rfl rfl).int (IntWalk.i64_in _ (by omega))) ?_
           intro a216 ha216; clear ha215 a215
           refine wl_val ha216 rfl rfl rfl (op_assign ha216 rfl rfl) ?_
           intro a217 ha217; clear ha216 a216
           refine wpList_nil ?_
           refine round_end (x := (i, f)) ((i + 1), decide (x200 = ((q66)))) ?_ ?_
           ·
            refine ⟨(Sl.cons_ ha217 rfl rfl (Sl.cons_ ha217 rfl rfl (Sl.cons_ ha217 rfl rfl (Sl.cons_ ha217 rfl rfl (Sl.cons_ ha217 rfl rfl (Sl.cons_ ha217 rfl rfl (Sl.cons_ ha217 rfl rfl (Sl.cons_ ha217 rfl rfl (Sl.cons_ ha217 rfl rfl (Sl.cons_ ha217 rfl (int_eq (by omega)) (Sl.nil_ ha217))))))))))), hx182, hf168, hf169, hf170, hf171, hf172, (by omega), (by omega), (by rw [take_snoc hx200]; refine decide_eq_decide.2 ⟨fun e => List.mem_append.2 (.inr (List.mem_singleton.2 e.symm)), fun q => ?_⟩; rcases List.mem_append.1 q with q | q; (rw [c186, decide_eq_true q] at hf; cases hf); (exact (List.mem_singleton.1 q).symm)), (by exact hP)⟩
           ·show (((replL ((q65)) ((q66)))).length - ((i + 1)) : Nat) < ((replL ((q65)) ((q66)))).length - i; omega
         ·
          rw [decide_eq_false c179] at ha178
          refine cond_f ha178 rfl ?_
          refine wp_exit ?_
          refine then_e ?_
          refine then_e ?_
          refine block_hit ?_
          refine then_n ?_
          refine wp_seq ?_
          clear hf171
          refine wp_region_lit ?_
          refine wl_val ha178 rfl rfl rfl (op_move ha178 rfl rfl) ?_
          intro a218 ha218; clear ha178 a178
          refine wl_val ha218 rfl rfl rfl (op_not ha218 rfl rfl) ?_
          intro a219 ha219; clear ha218 a218
          refine wl_val ha219 rfl rfl rfl (op_move ha219 rfl rfl) ?_
          intro a220 ha220; clear ha219 a219
          rcases Bool.eq_false_or_eq_true (f) with c221 | c221
          ·
           rw [c221] at ha220
           refine wl_val ha220 rfl rfl rfl (op_move ha220 rfl rfl) ?_
           intro a222 ha222; clear ha220 a220
           refine wl_callR ha222 rfl rfl rfl (op_call ha222 rfl cb16 rfl) (c_impl_AreRecords _ v95 ((replL ((q65)) ((q66)))) (hf172.rds pos_shRec) (by first | assumption | omega | (exact Nat.le_trans (areB_len (salS_are _)) (Nat.le_of_ble_eq_true rfl)) | (exact Nat.le_trans (mgL_len _ _) (Nat.le_of_ble_eq_true rfl)) | (exact Nat.le_trans (replL_len _ _) (Nat.le_of_ble_eq_true rfl)) | (simp; done) | (simp; omega))) ?_
           rintro v223 w224 he225 rfl a226 ha226; clear ha222 a222
           have hx227 := hx167.trans' he225
           have hzhx227 := he225.size
           replace hf168 := hf168.ext he225
           replace hf169 := hf169.ext he225
           replace hf170 := hf170.ext he225
           replace hf172 := hf172.ext he225
           refine wl_val ha226 rfl rfl rfl (op_not ha226 rfl rfl) ?_
           intro a228 ha228; clear ha226 a226
           refine wl_val ha228 rfl rfl rfl (op_pick_f ha228 rfl rfl rfl) ?_
           intro a229 ha229; clear ha228 a228
           refine wl_val ha229 rfl rfl rfl (op_move ha229 rfl rfl) ?_
           intro a230 ha230; clear ha229 a229
           rcases Bool.eq_false_or_eq_true (areB ((replL ((q65)) ((q66))))) with c231 | c231
           ·
            rw [c231] at ha230
            refine wl_val ha230 rfl rfl rfl (op_move ha230 rfl rfl) ?_
            intro a232 ha232; clear ha230 a230
            refine wl_val ha232 rfl rfl rfl (op_len_sl ha232 rfl Try.underlying25 rfl (hf172.rds pos_shRec)) ?_
            intro a233 ha233; clear ha232 a232
            refine wl_val ha233 rfl rfl rfl (op_move ha233 rfl rfl) ?_
            intro a234 ha234; clear ha233 a233
            refine wl_val ha234 rfl rfl rfl (op_len_sl ha234 rfl Try.underlying25 rfl (hf170.rds pos_shRec)) ?_
            intro a235 ha235; clear ha234 a234
            refine wl_val ha235 rfl rfl rfl (op_lss ha235 rfl rfl rfl) ?_
            intro a236 ha236; clear ha235 a235
            refine wl_val ha236 rfl rfl rfl (op_pick_f ha236 rfl rfl rfl) ?_
            intro a237 ha237; clear ha236 a236
            refine wpList_nil ?_
            refine then_n ?_
            by_cases c238 : ((((replL ((q65)) ((q66)))).length : Nat) : Int) < ((((q65)).length : Nat) : Int)
            ·
             rw [decide_eq_true c238] at ha237
             refine cond_t ha237 rfl ?_
             refine wp_seq ?_
             clear hf168 hf169 hf170 hf172
             refine wp_region_lit ?_
             refine wl_val ha237 rfl rfl rfl (op_assign ha237 rfl rfl) ?_
             intro a239 ha239; clear ha237 a237
             refine wpList_nil ?_
             refine then_n ?_
             refine wp_ret ?_
             refine then_r ?_
             refine ret1 ha239 rfl rfl ?_
             clear ha239 a239
             exact ret_mk hx227 (congrArg Value.bool (by first | rfl | (exact (by rw [hg7]; exact eqL_self _)) | (rw [hg7, eqL_self]) | (rw [hg1] at c179; cases c179) | (exact absurd hg5 c179) | (rw [hr1] at c179; cases c179) | (rw [c179, List.take_of_length_le (by omega), decide_eq_true hr2] at hf; cases hf) | (rw [hg1] at c8; cases c8) | (exact absurd hg5 c8) | (rw [hr1] at c8; cases c8) | (rw [c8, List.take_of_length_le (by omega), decide_eq_true hr2] at hf; cases hf) | (simp at c8; done) | omega))
            ·
             rw [decide_eq_false c238] at ha237
             refine cond_f ha237 rfl ?_
             refine wp_skip ?_
             refine then_n ?_
             refine wp_seq ?_
             refine wp_seq ?_
             clear hf170 hf172
             refine wp_region_lit ?_
             refine wl_val ha237 rfl rfl rfl (op_move ha237 rfl rfl) ?_
             intro a240 ha240; clear ha237 a237
             refine wl_val ha240 rfl rfl rfl ((op_neq ha240 rfl rfl rfl).to (congrArg Value.bool decide_not)) ?_
             intro a241 ha241; clear ha240 a240
             refine wpList_nil ?_
             refine then_n ?_
             by_cases c242 : (mgE ((q14)) ((q15)) : Int) = (0 : Int)
             ·
              rw [decide_eq_true c242] at ha241
              obtain ⟨hg1, hg2, hg3, hg4, hg5, hg6, hg7, hg8, hg9⟩ := mg_all c242
              refine cond_f ha241 rfl ?_
              refine wp_skip ?_
              refine then_n ?_
              refine wp_seq ?_
              refine wp_region_lit ?_
              refine wl_val ha241 rfl rfl rfl (op_move ha241 rfl rfl) ?_
              intro a243 ha243; clear ha241 a241
              refine wl_callR ha243 rfl rfl rfl (op_call ha243 rfl cb31 rfl) (c_impl_SalvageFile _ ((q14)) (by first | assumption | omega | (exact Nat.le_trans (areB_len (salS_are _)) (Nat.le_of_ble_eq_true rfl)) | (exact Nat.le_trans (mgL_len _ _) (Nat.le_of_ble_eq_true rfl)) | (exact Nat.le_trans (replL_len _ _) (Nat.le_of_ble_eq_true rfl)) | (simp; done) | (simp; omega))) ?_
              rintro v244 w245 he246 ⟨v247, rfl, ho248⟩ a249 ha249; clear ha243 a243
              have hx250 := hx227.trans' he246
              have hzhx250 := he246.size
              replace hf168 := hf168.ext he246
              replace hf169 := hf169.ext he246
              refine wl_val ha249 rfl rfl rfl (op_move ha249 rfl rfl) ?_
              intro a251 ha251; clear ha249 a249
              refine wl_val ha251 rfl rfl rfl (op_extract ha251 rfl rfl rfl) ?_
              intro a252 ha252; clear ha251 a251
              refine wl_val ha252 rfl rfl rfl (op_extract ha252 rfl rfl rfl) ?_
              intro a253 ha253; clear ha252 a252
              refine wl_val ha253 rfl rfl rfl (op_assign ha253 rfl rfl) ?_
              intro a254 ha254; clear ha253 a253
              refine wl_val ha254 rfl rfl rfl (op_assign ha254 rfl rfl) ?_
              intro a255 ha255; clear ha254 a254
              refine wpList_nil ?_
              refine then_n ?_
              refine wp_seq ?_
              refine wp_region_lit ?_
              refine wl_val ha255 rfl rfl rfl (op_move ha255 rfl rfl) ?_
              intro a256 ha256; clear ha255 a255
              refine wl_callR ha256 rfl rfl rfl (op_call ha256 rfl cb31 rfl) (c_impl_SalvageFile _ ((q15)) (by first | assumption | omega | (exact Nat.le_trans (areB_len (salS_are _)) (Nat.le_of_ble_eq_true rfl)) | (exact Nat.le_trans (mgL_len _ _) (Nat.le_of_ble_eq_true rfl)) | (exact Nat.le_trans (replL_len _ _) (Nat.le_of_ble_eq_true rfl)) | (simp; done) | (simp; omega))) ?_
              rintro v257 w258 he259 ⟨v260, rfl, ho261⟩ a262 ha262; clear ha256 a256
              have hx263 := hx250.trans' he259
              have hzhx263 := he259.size
              replace hf168 := hf168.ext he259
              replace hf169 := hf169.ext he259
              replace ho248 := ho248.ext he259
              refine wl_val ha262 rfl rfl rfl (op_move ha262 rfl rfl) ?_
              intro a264 ha264; clear ha262 a262
              refine wl_val ha264 rfl rfl rfl (op_extract ha264 rfl rfl rfl) ?_
              intro a265 ha265; clear ha264 a264
              refine wl_val ha265 rfl rfl rfl (op_extract ha265 rfl rfl rfl) ?_
              intro a266 ha266; clear ha265 a265
              refine wl_val ha266 rfl rfl rfl (op_assign ha266 rfl rfl) ?_
              intro a267 ha267; clear ha266 a266
              refine wl_val ha267 rfl rfl rfl (op_assign ha267 rfl rfl) ?_
              intro a268 ha268; clear ha267 a267
              refine wpList_nil ?_
              refine then_n ?_
              refine wp_seq ?_
              refine wp_region_lit ?_
              refine wl_val ha268 rfl rfl rfl (op_move ha268 rfl rfl) ?_
              intro a269 ha269; clear ha268 a268
              refine wl_val ha269 rfl rfl rfl (op_move ha269 rfl rfl) ?_
              intro a270 ha270; clear ha269 a269
              refine wl_callR ha270 rfl rfl rfl (op_call ha270 rfl cb38 rfl) (c_impl_MergeCopies _ ((q15)) ((q14)) (by first | assumption | omega | (exact Nat.le_trans (areB_len (salS_are _)) (Nat.le_of_ble_eq_true rfl)) | (exact Nat.le_trans (mgL_len _ _) (Nat.le_of_ble_eq_true rfl)) | (exact Nat.le_trans (replL_len _ _) (Nat.le_of_ble_eq_true rfl)) | (simp; done) | (simp; omega)) (by first | assumption | omega | (exact Nat.le_trans (areB_len (salS_are _)) (Nat.le_of_ble_eq_true rfl)) | (exact Nat.le_trans (mgL_len _ _) (Nat.le_of_ble_eq_true rfl)) | (exact Nat.le_trans (replL_len _ _) (Nat.le_of_ble_eq_true rfl)) | (simp; done) | (simp; omega))) ?_
              rintro v271 w272 he273 ⟨v274, v276, rfl, ho275, ho277⟩ a278 ha278; clear ha270 a270
              have hx279 := hx263.trans' he273
              have hzhx279 := he273.size
              replace hf168 := hf168.ext he273
              replace hf169 := hf169.ext he273
              replace ho248 := ho248.ext he273
              replace ho261 := ho261.ext he273
              refine wl_val ha278 rfl rfl rfl (op_move ha278 rfl rfl) ?_
              intro a280 ha280; clear ha278 a278
              refine wl_val ha280 rfl rfl rfl (op_extract ha280 rfl rfl rfl) ?_
              intro a281 ha281; clear ha280 a280
              refine wl_val ha281 rfl rfl rfl (op_extract ha281 rfl rfl rfl) ?_
              intro a282 ha282; clear ha281 a281
              refine wl_val ha282 rfl rfl rfl (op_extract ha282 rfl rfl rfl) ?_
              intro a283 ha283; clear ha282 a282
              refine wl_val ha283 rfl rfl rfl (op_assign ha283 rfl rfl) ?_
              intro a284 ha284; clear ha283 a283
              refine wl_val ha284 rfl rfl rfl (op_assign ha284 rfl rfl) ?_
              intro a285 ha285; clear ha284 a284
              refine wl_val ha285 rfl rfl rfl (op_assign ha285 rfl rfl) ?_
              intro a286 ha286; clear ha285 a285
              refine wpList_nil ?_
              refine then_n ?_
              refine wp_seq ?_
              refine wp_region_lit ?_
              refine wl_val ha286 rfl rfl rfl (op_move ha286 rfl rfl) ?_
              intro a287 ha287; clear ha286 a286
              refine wl_callR ha287 rfl rfl rfl (op_call ha287 rfl cb16 rfl) (c_impl_AreRecords _ v30 ((mgL ((q14)) ((q15)))) (hf168.rds pos_shRec) (by first | assumption | omega | (exact Nat.le_trans (areB_len (salS_are _)) (Nat.le_of_ble_eq_true rfl)) | (exact Nat.le_trans (mgL_len _ _) (Nat.le_of_ble_eq_true rfl)) | (exact Nat.le_trans (replL_len _ _) (Nat.le_of_ble_eq_true rfl)) | (simp; done) | (simp; omega))) ?_
              rintro v288 w289 he290 rfl a291 ha291; clear ha287 a287
              have hx292 := hx279.trans' he290
              have hzhx292 := he290.size
              replace hf168 := hf168.ext he290
              replace hf169 := hf169.ext he290
              replace ho248 := ho248.ext he290
              replace ho261 := ho261.ext he290
              replace ho275 := ho275.ext he290
              replace ho277 := ho277.ext he290
              refine wl_val ha291 rfl rfl rfl (op_move ha291 rfl rfl) ?_
              intro a293 ha293; clear ha291 a291
              rcases Bool.eq_false_or_eq_true (areB ((mgL ((q14)) ((q15))))) with c294 | c294
              ·
               rw [c294] at ha293
               refine wl_val ha293 rfl rfl rfl (op_move ha293 rfl rfl) ?_
               intro a295 ha295; clear ha293 a293
               refine wl_val ha295 rfl rfl rfl (op_len_sl ha295 rfl Try.underlying25 rfl (hf168.rds pos_shRec)) ?_
               intro a296 ha296; clear ha295 a295
               refine wl_val ha296 rfl rfl rfl (op_move ha296 rfl rfl) ?_
               intro a297 ha297; clear ha296 a296
               refine wl_val ha297 rfl rfl rfl (op_len_sl ha297 rfl Try.underlying25 rfl (ho248.rds pos_shRec)) ?_
               intro a298 ha298; clear ha297 a297
               refine wl_val ha298 rfl rfl rfl (op_move ha298 rfl rfl) ?_
               intro a299 ha299; clear ha298 a298
               refine wl_val ha299 rfl rfl rfl (op_len_sl ha299 rfl Try.underlying25 rfl (ho261.rds pos_shRec)) ?_
               intro a300 ha300; clear ha299 a299
               refine wl_val ha300 rfl rfl rfl (op_max ha300 rfl rfl rfl) ?_
               intro a301 ha301; clear ha300 a300
               refine wl_val ha301 rfl rfl rfl (op_geq ha301 rfl rfl rfl) ?_
               intro a302 ha302; clear ha301 a301
               refine wl_val ha302 rfl rfl rfl (op_pick_t ha302 rfl rfl rfl) ?_
               intro a303 ha303; clear ha302 a302
               refine wl_val ha303 rfl rfl rfl (op_move ha303 rfl rfl) ?_
               intro a304 ha304; clear ha303 a303
               by_cases c305 : (max (((((salS ((q14))).1)).length : Nat) : Int) (((((salS ((q15))).1)).length : Nat) : Int)) ≤ ((((mgL ((q14)) ((q15)))).length : Nat) : Int)
               ·
                rw [decide_eq_true c305] at ha304
                refine wl_val ha304 rfl rfl rfl (op_move ha304 rfl rfl) ?_
                intro a306 ha306; clear ha304 a304
                refine wl_val ha306 rfl rfl rfl (op_len_sl ha306 rfl Try.underlying25 rfl (hf168.rds pos_shRec)) ?_
                intro a307 ha307; clear ha306 a306
                refine wl_val ha307 rfl rfl rfl (op_move ha307 rfl rfl) ?_
                intro a308 ha308; clear ha307 a307
                refine wl_val ha308 rfl rfl rfl (op_len_sl ha308 rfl Try.underlying25 rfl (ho248.rds pos_shRec)) ?_
                intro a309 ha309; clear ha308 a308
                refine wl_val ha309 rfl rfl rfl (op_move ha309 rfl rfl) ?_
                intro a310 ha310; clear ha309 a309
                refine wl_val ha310 rfl rfl rfl (op_len_sl ha310 rfl Try.underlying25 rfl (ho261.rds pos_shRec)) ?_
                intro a311 ha311; clear ha310 a310
                refine wl_val ha311 rfl rfl rfl ((op_add ha311 rfl rfl rfl).int (IntWalk.i64_in _ (by omega))) ?_
                intro a312 ha312; clear ha311 a311
                refine wl_val ha312 rfl rfl rfl (op_leq ha312 rfl rfl rfl) ?_
                intro a313 ha313; clear ha312 a312
                refine wl_val ha313 rfl rfl rfl (op_pick_t ha313 rfl rfl rfl) ?_
                intro a314 ha314; clear ha313 a313
                refine wl_val ha314 rfl rfl rfl (op_move ha314 rfl rfl) ?_
                intro a315 ha315; clear ha314 a314
                by_cases c316 : ((((mgL ((q14)) ((q15)))).length : Nat) : Int) ≤ ((((((salS ((q14))).1)).length : Nat) : Int) + (((((salS ((q15))).1)).length : Nat) : Int))
                ·
                 rw [decide_eq_true c316] at ha315
                 refine wl_val ha315 rfl rfl rfl (op_move ha315 rfl rfl) ?_
                 intro a317 ha317; clear ha315 a315
                 refine wl_val ha317 rfl rfl rfl (op_eql ha317 rfl rfl rfl) ?_
                 intro a318 ha318; clear ha317 a317
                 refine wl_val ha318 rfl rfl rfl (op_pick_t ha318 rfl rfl rfl) ?_
                 intro a319 ha319; clear ha318 a318
                 refine wl_val ha319 rfl rfl rfl (op_move ha319 rfl rfl) ?_
                 intro a320 ha320; clear ha319 a319
                 by_cases c321 : (mgE ((q15)) ((q14)) : Int) = (0 : Int)
                 ·
                  rw [decide_eq_true c321] at ha320
                  refine wl_val ha320 rfl rfl rfl (op_move ha320 rfl rfl) ?_
                  intro a322 ha322; clear ha320 a320
                  refine wl_val ha322 rfl rfl rfl (op_len_sl ha322 rfl Try.underlying25 rfl (ho275.rds pos_shRec)) ?_
                  intro a323 ha323; clear ha322 a322
                  refine wl_val ha323 rfl rfl rfl (op_move ha323 rfl rfl) ?_
                  intro a324 ha324; clear ha323 a323
                  refine wl_val ha324 rfl rfl rfl (op_len_sl ha324 rfl Try.underlying25 rfl (hf168.rds pos_shRec)) ?_
                  intro a325 ha325; clear ha324 a324
                  refine wl_val ha325 rfl rfl rfl (op_eql ha325 rfl rfl rfl) ?_
                  intro a326 ha326; clear ha325 a325
                  refine wl_val ha326 rfl rfl rfl (op_pick_t ha326 rfl rfl rfl) ?_
                  intro a327 ha327; clear ha326 a326
                  refine wl_val ha327 rfl rfl rfl (op_move ha327 rfl rfl) ?_
                  intro a328 ha328; clear ha327 a327
                  by_cases c329 : ((((mgL ((q15)) ((q14)))).length : Nat) : Int) = ((((mgL ((q14)) ((q15)))).length : Nat) : Int)
                  ·
                   rw [decide_eq_true c329] at ha328
                   refine wl_val ha328 rfl rfl rfl (op_move ha328 rfl rfl) ?_
                   intro a330 ha330; clear ha328 a328
                   refine wl_val ha330 rfl rfl rfl (op_move ha330 rfl rfl) ?_
                   intro a331 ha331; clear ha330 a330
                   refine wl_callR ha331 rfl rfl rfl (op_call ha331 rfl cb43 rfl) (c_laws_likeInts _ v276 ((mgD ((q15)) ((q14)))) v32 ((mgD ((q14)) ((q15)))) (ho277.rds pos_shI64) (hf169.rds pos_shI64)) ?_
                   rintro v332 w333 he334 rfl a335 ha335; clear ha331 a331
                   have hx336 := hx292.trans' he334
                   have hzhx336 := he334.size
                   replace hf168 := hf168.ext he334
                   replace hf169 := hf169.ext he334
                   replace ho248 := ho248.ext he334
                   replace ho261 := ho261.ext he334
                   replace ho275 := ho275.ext he334
                   replace ho277 := ho277.ext he334
                   refine wl_val ha335 rfl rfl rfl (op_pick_t ha335 rfl rfl rfl) ?_
                   intro a337 ha337; clear ha335 a335
                   refine wl_val ha337 rfl rfl rfl (op_assign ha337 rfl rfl) ?_
                   intro a338 ha338; clear ha337 a337
                   refine wpList_nil ?_
                   refine then_n ?_
                   refine wp_ret ?_
                   refine ret1 ha338 rfl rfl ?_
                   clear ha338 a338
                   exact ret_mk hx336 (congrArg Value.bool (by first | rfl | (exact (by rw [hg7]; exact eqL_self _)) | (rw [hg7, eqL_self]) | (rw [hg1] at c238; cases c238) | (exact absurd hg5 c238) | (rw [hr1] at c238; cases c238) | (rw [c238, List.take_of_length_le (by omega), decide_eq_true hr2] at hf; cases hf) | (rw [hg1] at c179; cases c179) | (exact absurd hg5 c179) | (rw [hr1] at c179; cases c179) | (rw [c179, List.take_of_length_le (by omega), decide_eq_true hr2] at hf; cases hf) | (rw [hg1] at c8; cases c8) | (exact absurd hg5 c8) | (rw [hr1] at c8; cases c8) | (rw [c8, List.take_of_length_le (by omega), decide_eq_true hr2] at hf; cases hf) | (simp at c8; done) | omega))
                  ·
                   rw [decide_eq_false c329] at ha328
                   refine wl_skip ha328 rfl rfl rfl ?_
                   intro a339 ha339; clear ha328 a328
                   refine wl_skip ha339 rfl rfl rfl ?_
                   intro a340 ha340; clear ha339 a339
                   refine wl_skip ha340 rfl rfl rfl ?_
                   intro a341 ha341; clear ha340 a340
                   refine wl_val ha341 rfl rfl rfl (op_pick_f ha341 rfl rfl rfl) ?_
                   intro a342 ha342; clear ha341 a341
                   refine wl_val ha342 rfl rfl rfl (op_assign ha342 rfl rfl) ?_
                   intro a343 ha343; clear ha342 a342
                   refine wpList_nil ?_
                   refine then_n ?_
                   refine wp_ret ?_
                   refine ret1 ha343 rfl rfl ?_
                   clear ha343 a343
                   exact ret_mk hx292 (congrArg Value.bool (by first | rfl | (exact (by rw [hg7]; exact eqL_self _)) | (rw [hg7, eqL_self]) | (rw [hg1] at c329; cases c329) | (exact absurd hg5 c329) | (rw [hr1] at c329; cases c329) | (rw [c329, List.take_of_length_le (by omega), decide_eq_true hr2] at hf; cases hf) | (rw [hg1] at c238; cases c238) | (exact absurd hg5 c238) | (rw [hr1] at c238; cases c238) | (rw [c238, List.take_of_length_le (by omega), decide_eq_true hr2] at hf; cases hf) | (rw [hg1] at c179; cases c179) | (exact absurd hg5 c179) | (rw [hr1] at c179; cases c179) | (rw [c179, List.take_of_length_le (by omega), decide_eq_true hr2] at hf; cases hf) | (rw [hg1] at c8; cases c8) | (exact absurd hg5 c8) | (rw [hr1] at c8; cases c8) | (rw [c8, List.take_of_length_le (by omega), decide_eq_true hr2] at hf; cases hf) | (exact absurd rfl c329) | (simp at c8; done) | omega))
                 ·
                  rw [decide_eq_false c321] at ha320
                  refine wl_skip ha320 rfl rfl rfl ?_
                  intro a344 ha344; clear ha320 a320
                  refine wl_skip ha344 rfl rfl rfl ?_
                  intro a345 ha345; clear ha344 a344
                  refine wl_skip ha345 rfl rfl rfl ?_
                  intro a346 ha346; clear ha345 a345
                  refine wl_skip ha346 rfl rfl rfl ?_
                  intro a347 ha347; clear ha346 a346
                  refine wl_skip ha347 rfl rfl rfl ?_
                  intro a348 ha348; clear ha347 a347
                  refine wl_val ha348 rfl rfl rfl (op_pick_f ha348 rfl rfl rfl) ?_
                  intro a349 ha349; clear ha348 a348
                  refine wl_val ha349 rfl rfl rfl (op_move ha349 rfl rfl) ?_
                  intro a350 ha350; clear ha349 a349
                  refine wl_skip ha350 rfl rfl rfl ?_
                  intro a351 ha351; clear ha350 a350
                  refine wl_skip ha351 rfl rfl rfl ?_
                  intro a352 ha352; clear ha351 a351
                  refine wl_skip ha352 rfl rfl rfl ?_
                  intro a353 ha353; clear ha352 a352
                  refine wl_val ha353 rfl rfl rfl (op_pick_f ha353 rfl rfl rfl) ?_
                  intro a354 ha354; clear ha353 a353
                  refine wl_val ha354 rfl rfl rfl (op_assign ha354 rfl rfl) ?_
                  intro a355 ha355; clear ha354 a354
                  refine wpList_nil ?_
                  refine then_n ?_
                  refine wp_ret ?_
                  refine ret1 ha355 rfl rfl ?_
                  clear ha355 a355
                  exact ret_mk hx292 (congrArg Value.bool (by first | rfl | (exact (by rw [hg7]; exact eqL_self _)) | (rw [hg7, eqL_self]) | (rw [hg1] at c321; cases c321) | (exact absurd hg5 c321) | (rw [hr1] at c321; cases c321) | (rw [c321, List.take_of_length_le (by omega), decide_eq_true hr2] at hf; cases hf) | (rw [hg1] at c238; cases c238) | (exact absurd hg5 c238) | (rw [hr1] at c238; cases c238) | (rw [c238, List.take_of_length_le (by omega), decide_eq_true hr2] at hf; cases hf) | (rw [hg1] at c179; cases c179) | (exact absurd hg5 c179) | (rw [hr1] at c179; cases c179) | (rw [c179, List.take_of_length_le (by omega), decide_eq_true hr2] at hf; cases hf) | (rw [hg1] at c8; cases c8) | (exact absurd hg5 c8) | (rw [hr1] at c8; cases c8) | (rw [c8, List.take_of_length_le (by omega), decide_eq_true hr2] at hf; cases hf) | (exact absurd rfl c321) | (simp at c8; done) | omega))
                ·
                 rw [decide_eq_false c316] at ha315
                 refine wl_skip ha315 rfl rfl rfl ?_
                 intro a356 ha356; clear ha315 a315
                 refine wl_skip ha356 rfl rfl rfl ?_
                 intro a357 ha357; clear ha356 a356
                 refine wl_val ha357 rfl rfl rfl (op_pick_f ha357 rfl rfl rfl) ?_
                 intro a358 ha358; clear ha357 a357
                 refine wl_val ha358 rfl rfl rfl (op_move ha358 rfl rfl) ?_
                 intro a359 ha359; clear ha358 a358
                 refine wl_skip ha359 rfl rfl rfl ?_
                 intro a360 ha360; clear ha359 a359
                 refine wl_skip ha360 rfl rfl rfl ?_
                 intro a361 ha361; clear ha360 a360
                 refine wl_skip ha361 rfl rfl rfl ?_
                 intro a362 ha362; clear ha361 a361
                 refine wl_skip ha362 rfl rfl rfl ?_
                 intro a363 ha363; clear ha362 a362
                 refine wl_skip ha363 rfl rfl rfl ?_
                 intro a364 ha364; clear ha363 a363
                 refine wl_val ha364 rfl rfl rfl (op_pick_f ha364 rfl rfl rfl) ?_
                 intro a365 ha365; clear ha364 a364
                 refine wl_val ha365 rfl rfl rfl (op_move ha365 rfl rfl) ?_
                 intro a366 ha366; clear ha365 a365
                 refine wl_skip ha366 rfl rfl rfl ?_
                 intro a367 ha367; clear ha366 a366
                 refine wl_skip ha367 rfl rfl rfl ?_
                 intro a368 ha368; clear ha367 a367
                 refine wl_skip ha368 rfl rfl rfl ?_
                 intro a369 ha369; clear ha368 a368
                 refine wl_val ha369 rfl rfl rfl (op_pick_f ha369 rfl rfl rfl) ?_
                 intro a370 ha370; clear ha369 a369
                 refine wl_val ha370 rfl rfl rfl (op_assign ha370 rfl rfl) ?_
                 intro a371 ha371; clear ha370 a370
                 refine wpList_nil ?_
                 refine then_n ?_
                 refine wp_ret ?_
                 refine ret1 ha371 rfl rfl ?_
                 clear ha371 a371
                 exact ret_mk hx292 (congrArg Value.bool (by first | rfl | (exact (by rw [hg7]; exact eqL_self _)) | (rw [hg7, eqL_self]) | (rw [hg1] at c316; cases c316) | (exact absurd hg5 c316) | (rw [hr1] at c316; cases c316) | (rw [c316, List.take_of_length_le (by omega), decide_eq_true hr2] at hf; cases hf) | (rw [hg1] at c238; cases c238) | (exact absurd hg5 c238) | (rw [hr1] at c238; cases c238) | (rw [c238, List.take_of_length_le (by omega), decide_eq_true hr2] at hf; cases hf) | (rw [hg1] at c179; cases c179) | (exact absurd hg5 c179) | (rw [hr1] at c179; cases c179) | (rw [c179, List.take_of_length_le (by omega), decide_eq_true hr2] at hf; cases hf) | (rw [hg1] at c8; cases c8) | (exact absurd hg5 c8) | (rw [hr1] at c8; cases c8) | (rw [c8, List.take_of_length_le (by omega), decide_eq_true hr2] at hf; cases hf) | (simp at c8; done) | omega))
               ·
                rw [decide_eq_false c305] at ha304
                refine wl_skip ha304 rfl rfl rfl ?_
                intro a372 ha372; clear ha304 a304
                refine wl_skip ha372 rfl rfl rfl ?_
                intro a373 ha373; clear ha372 a372
                refine wl_skip ha373 rfl rfl rfl ?_
                intro a374 ha374; clear ha373 a373
                refine wl_skip ha374 rfl rfl rfl ?_
                intro a375 ha375; clear ha374 a374
                refine wl_skip ha375 rfl rfl rfl ?_
                intro a376 ha376; clear ha375 a375
                refine wl_skip ha376 rfl rfl rfl ?_
                intro a377 ha377; clear ha376 a376
                refine wl_skip ha377 rfl rfl rfl ?_
                intro a378 ha378; clear ha377 a377
                refine wl_skip ha378 rfl rfl rfl ?_
                intro a379 ha379; clear ha378 a378
                refine wl_val ha379 rfl rfl rfl (op_pick_f ha379 rfl rfl rfl) ?_
                intro a380 ha380; clear ha379 a379
                refine wl_val ha380 rfl rfl rfl (op_move ha380 rfl rfl) ?_
                intro a381 ha381; clear ha380 a380
                refine wl_skip ha381 rfl rfl rfl ?_
                intro a382 ha382; clear ha381 a381
                refine wl_skip ha382 rfl rfl rfl ?_
                intro a383 ha383; clear ha382 a382
                refine wl_val ha383 rfl rfl rfl (op_pick_f ha383 rfl rfl rfl) ?_
                intro a384 ha384; clear ha383 a383
                refine wl_val ha384 rfl rfl rfl (op_move ha384 rfl rfl) ?_
                intro a385 ha385; clear ha384 a384
                refine wl_skip ha385 rfl rfl rfl ?_
                intro a386 ha386; clear ha385 a385
                refine wl_skip ha386 rfl rfl rfl ?_
                intro a387 ha387; clear ha386 a386
                refine wl_skip ha387 rfl rfl rfl ?_
                intro a388 ha388; clear ha387 a387
                refine wl_skip ha388 rfl rfl rfl ?_
                intro a389 ha389; clear ha388 a388
                refine wl_skip ha389 rfl rfl rfl ?_
                intro a390 ha390; clear ha389 a389
                refine wl_val ha390 rfl rfl rfl (op_pick_f ha390 rfl rfl rfl) ?_
                intro a391 ha391; clear ha390 a390
                refine wl_val ha391 rfl rfl rfl (op_move ha391 rfl rfl) ?_
                intro a392 ha392; clear ha391 a391
                refine wl_skip ha392 rfl rfl rfl ?_
                intro a393 ha393; clear ha392 a392
                refine wl_skip ha393 rfl rfl rfl ?_
                intro a394 ha394; clear ha393 a393
                refine wl_skip ha394 rfl rfl rfl ?_
                intro a395 ha395; clear ha394 a394
                refine wl_val ha395 rfl rfl rfl (op_pick_f ha395 rfl rfl rfl) ?_
                intro a396 ha396; clear ha395 a395
                refine wl_val ha396 rfl rfl rfl (op_assign ha396 rfl rfl) ?_
                intro a397 ha397; clear ha396 a396
                refine wpList_nil ?_
                refine then_n ?_
                refine wp_ret ?_
                refine ret1 ha397 rfl rfl ?_
                clear ha397 a397
                exact ret_mk hx292 (congrArg Value.bool (by first | rfl | (exact (by rw [hg7]; exact eqL_self _)) | (rw [hg7, eqL_self]) | (rw [hg1] at c305; cases c305) | (exact absurd hg5 c305) | (rw [hr1] at c305; cases c305) | (rw [c305, List.take_of_length_le (by omega), decide_eq_true hr2] at hf; cases hf) | (rw [hg1] at c238; cases c238) | (exact absurd hg5 c238) | (rw [hr1] at c238; cases c238) | (rw [c238, List.take_of_length_le (by omega), decide_eq_true hr2] at hf; cases hf) | (rw [hg1] at c179; cases c179) | (exact absurd hg5 c179) | (rw [hr1] at c179; cases c179) | (rw [c179, List.take_of_length_le (by omega), decide_eq_true hr2] at hf; cases hf) | (rw [hg1] at c8; cases c8) | (exact absurd hg5 c8) | (rw [hr1] at c8; cases c8) | (rw [c8, List.take_of_length_le (by omega), decide_eq_true hr2] at hf; cases hf) | (simp at c8; done) | omega))
              ·
               rw [c294] at ha293
               refine wl_skip ha293 rfl rfl rfl ?_
               intro a398 ha398; clear ha293 a293
               refine wl_skip ha398 rfl rfl rfl ?_
               intro a399 ha399; clear ha398 a398
               refine wl_skip ha399 rfl rfl rfl ?_
               intro a400 ha400; clear ha399 a399
               refine wl_skip ha400 rfl rfl rfl ?_
               intro a401 ha401; clear ha400 a400
               refine wl_skip ha401 rfl rfl rfl ?_
               intro a402 ha402; clear ha401 a401
               refine wl_skip ha402 rfl rfl rfl ?_
               intro a403 ha403; clear ha402 a402
               refine wl_skip ha403 rfl rfl rfl ?_
               intro a404 ha404; clear ha403 a403
               refine wl_skip ha404 rfl rfl rfl ?_
               intro a405 ha405; clear ha404 a404
               refine wl_val ha405 rfl rfl rfl (op_pick_f ha405 rfl rfl rfl) ?_
               intro a406 ha406; clear ha405 a405
               refine wl_val ha406 rfl rfl rfl (op_move ha406 rfl rfl) ?_
               intro a407 ha407; clear ha406 a406
               refine wl_skip ha407 rfl rfl rfl ?_
               intro a408 ha408; clear ha407 a407
               refine wl_skip ha408 rfl rfl rfl ?_
               intro a409 ha409; clear ha408 a408
               refine wl_skip ha409 rfl rfl rfl ?_
               intro a410 ha410; clear ha409 a409
               refine wl_skip ha410 rfl rfl rfl ?_
               intro a411 ha411; clear ha410 a410
               refine wl_skip ha411 rfl rfl rfl ?_
               intro a412 ha412; clear ha411 a411
               refine wl_skip ha412 rfl rfl rfl ?_
               intro a413 ha413; clear ha412 a412
               refine wl_skip ha413 rfl rfl rfl ?_
               intro a414 ha414; clear ha413 a413
               refine wl_skip ha414 rfl rfl rfl ?_
               intro a415 ha415; clear ha414 a414
               refine wl_val ha415 rfl rfl rfl (op_pick_f ha415 rfl rfl rfl) ?_
               intro a416 ha416; clear ha415 a415
               refine wl_val ha416 rfl rfl rfl (op_move ha416 rfl rfl) ?_
               intro a417 ha417; clear ha416 a416
               refine wl_skip ha417 rfl rfl rfl ?_
               intro a418 ha418; clear ha417 a417
               refine wl_skip ha418 rfl rfl rfl ?_
               intro a419 ha419; clear ha418 a418
               refine wl_val ha419 rfl rfl rfl (op_pick_f ha419 rfl rfl rfl) ?_
               intro a420 ha420; clear ha419 a419
               refine wl_val ha420 rfl rfl rfl (op_move ha420 rfl rfl) ?_
               intro a421 ha421; clear ha420 a420
               refine wl_skip ha421 rfl rfl rfl ?_
               intro a422 ha422; clear ha421 a421
               refine wl_skip ha422 rfl rfl rfl ?_
               intro a423 ha423; clear ha422 a422
               refine wl_skip ha423 rfl rfl rfl ?_
               intro a424 ha424; clear ha423 a423
               refine wl_skip ha424 rfl rfl rfl ?_
               intro a425 ha425; clear ha424 a424
               refine wl_skip ha425 rfl rfl rfl ?_
               intro a426 ha426; clear ha425 a425
               refine wl_val ha426 rfl rfl rfl (op_pick_f ha426 rfl rfl rfl) ?_
               intro a427 ha427; clear ha426 a426
               refine wl_val ha427 rfl rfl rfl (op_move ha427 rfl rfl) ?_
               intro a428 ha428; clear ha427 a427
               refine wl_skip ha428 rfl rfl rfl ?_
               intro a429 ha429; clear ha428 a428
               refine wl_skip ha429 rfl rfl rfl ?_
               intro a430 ha430; clear ha429 a429
               refine wl_skip ha430 rfl rfl rfl ?_
               intro a431 ha431; clear ha430 a430
               refine wl_val ha431 rfl rfl rfl (op_pick_f ha431 rfl rfl rfl) ?_
               intro a432 ha432; clear ha431 a431
               refine wl_val ha432 rfl rfl rfl (op_assign ha432 rfl rfl) ?_
               intro a433 ha433; clear ha432 a432
               refine wpList_nil ?_
               refine then_n ?_
               refine wp_ret ?_
               refine ret1 ha433 rfl rfl ?_
               clear ha433 a433
               exact ret_mk hx292 (congrArg Value.bool (by first | rfl | (exact (by rw [hg7]; exact eqL_self _)) | (rw [hg7, eqL_self]) | (rw [hg1] at c294; cases c294) | (exact absurd hg5 c294) | (rw [hr1] at c294; cases c294) | (rw [c294, List.take_of_length_le (by omega), decide_eq_true hr2] at hf; cases hf) | (rw [hg1] at c238; cases c238) | (exact absurd hg5 c238) | (rw [hr1] at c238; cases c238) | (rw [c238, List.take_of_length_le (by omega), decide_eq_true hr2] at hf; cases hf) | (rw [hg1] at c179; cases c179) | (exact absurd hg5 c179) | (rw [hr1] at c179; cases c179) | (rw [c179, List.take_of_length_le (by omega), decide_eq_true hr2] at hf; cases hf) | (rw [hg1] at c8; cases c8) | (exact absurd hg5 c8) | (rw [hr1] at c8; cases c8) | (rw [c8, List.take_of_length_le (by omega), decide_eq_true hr2] at hf; cases hf) | (simp at c8; done) | omega))
             ·
              rw [decide_eq_false c242] at ha241
              refine cond_t ha241 rfl ?_
              refine wp_seq ?_
              clear hf168 hf169
              refine wp_region_lit ?_
              refine wl_val ha241 rfl rfl rfl (op_assign ha241 rfl rfl) ?_
              intro a434 ha434; clear ha241 a241
              refine wpList_nil ?_
              refine then_n ?_
              refine wp_ret ?_
              refine then_r ?_
              refine ret1 ha434 rfl rfl ?_
              clear ha434 a434
              exact ret_mk hx227 (congrArg Value.bool (by first | rfl | (exact (by rw [hg7]; exact eqL_self _)) | (rw [hg7, eqL_self]) | (rw [hg1] at c242; cases c242) | (exact absurd hg5 c242) | (rw [hr1] at c242; cases c242) | (rw [c242, List.take_of_length_le (by omega), decide_eq_true hr2] at hf; cases hf) | (rw [hg1] at c238; cases c238) | (exact absurd hg5 c238) | (rw [hr1] at c238; cases c238) | (rw [c238, List.take_of_length_le (by omega), decide_eq_true hr2] at hf; cases hf) | (rw [hg1] at c179; cases c179) | (exact absurd hg5 c179) | (rw [hr1] at c179; cases c179) | (rw [c179, List.take_of_length_le (by omega), decide_eq_true hr2] at hf; cases hf) | (rw [hg1] at c8; cases c8) | (exact absurd hg5 c8) | (rw [hr1] at c8; cases c8) | (rw [c8, List.take_of_length_le (by omega), decide_eq_true hr2] at hf; cases hf) | (exact absurd rfl c242) | (simp at c8; done) | omega))
           ·
            rw [c231] at ha230
            refine wl_skip ha230 rfl rfl rfl ?_
            intro a435 ha435; clear ha230 a230
            refine wl_skip ha435 rfl rfl rfl ?_
            intro a436 ha436; clear ha435 a435
            refine wl_skip ha436 rfl rfl rfl ?_
            intro a437 ha437; clear ha436 a436
            refine wl_skip ha437 rfl rfl rfl ?_
            intro a438 ha438; clear ha437 a437
            refine wl_skip ha438 rfl rfl rfl ?_
            intro a439 ha439; clear ha438 a438
            refine wl_val ha439 rfl rfl rfl (op_pick_t ha439 rfl rfl rfl) ?_
            intro a440 ha440; clear ha439 a439
            refine wpList_nil ?_
            refine then_n ?_
            refine cond_t ha440 rfl ?_
            refine wp_seq ?_
            clear hf168 hf169 hf170 hf172
            refine wp_region_lit ?_
            refine wl_val ha440 rfl rfl rfl (op_assign ha440 rfl rfl) ?_
            intro a441 ha441; clear ha440 a440
            refine wpList_nil ?_
            refine then_n ?_
            refine wp_ret ?_
            refine then_r ?_
            refine ret1 ha441 rfl rfl ?_
            clear ha441 a441
            exact ret_mk hx227 (congrArg Value.bool (by first | rfl | (exact (by rw [hg7]; exact eqL_self _)) | (rw [hg7, eqL_self]) | (rw [hg1] at c231; cases c231) | (exact absurd hg5 c231) | (rw [hr1] at c231; cases c231) | (rw [c231, List.take_of_length_le (by omega), decide_eq_true hr2] at hf; cases hf) | (rw [hg1] at c179; cases c179) | (exact absurd hg5 c179) | (rw [hr1] at c179; cases c179) | (rw [c179, List.take_of_length_le (by omega), decide_eq_true hr2] at hf; cases hf) | (rw [hg1] at c8; cases c8) | (exact absurd hg5 c8) | (rw [hr1] at c8; cases c8) | (rw [c8, List.take_of_length_le (by omega), decide_eq_true hr2] at hf; cases hf) | (simp at c8; done) | omega))
          ·
           rw [c221] at ha220
           refine wl_skip ha220 rfl rfl rfl ?_
           intro a442 ha442; clear ha220 a220
           refine wl_skip ha442 rfl rfl rfl ?_
           intro a443 ha443; clear ha442 a442
           refine wl_skip ha443 rfl rfl rfl ?_
           intro a444 ha444; clear ha443 a443
           refine wl_val ha444 rfl rfl rfl (op_pick_t ha444 rfl rfl rfl) ?_
           intro a445 ha445; clear ha444 a444
           refine wl_val ha445 rfl rfl rfl (op_move ha445 rfl rfl) ?_
           intro a446 ha446; clear ha445 a445
           refine wl_skip ha446 rfl rfl rfl ?_
           intro a447 ha447; clear ha446 a446
           refine wl_skip ha447 rfl rfl rfl ?_
           intro a448 ha448; clear ha447 a447
           refine wl_skip ha448 rfl rfl rfl ?_
           intro a449 ha449; clear ha448 a448
           refine wl_skip ha449 rfl rfl rfl ?_
           intro a450 ha450; clear ha449 a449
           refine wl_skip ha450 rfl rfl rfl ?_
           intro a451 ha451; clear ha450 a450
           refine wl_val ha451 rfl rfl rfl (op_pick_t ha451 rfl rfl rfl) ?_
           intro a452 ha452; clear ha451 a451
           refine wpList_nil ?_
           refine then_n ?_
           refine cond_t ha452 rfl ?_
           refine wp_seq ?_
           clear hf168 hf169 hf170 hf172
           refine wp_region_lit ?_
           refine wl_val ha452 rfl rfl rfl (op_assign ha452 rfl rfl) ?_
           intro a453 ha453; clear ha452 a452
           refine wpList_nil ?_
           refine then_n ?_
           refine wp_ret ?_
           refine then_r ?_
           refine ret1 ha453 rfl rfl ?_
           clear ha453 a453
           exact ret_mk hx167 (congrArg Value.bool (by first | rfl | (exact (by rw [hg7]; exact eqL_self _)) | (rw [hg7, eqL_self]) | (rw [hg1] at c221; cases c221) | (exact absurd hg5 c221) | (rw [hr1] at c221; cases c221) | (rw [c221, List.take_of_length_le (by omega), decide_eq_true hr2] at hf; cases hf) | (rw [hg1] at c179; cases c179) | (exact absurd hg5 c179) | (rw [hr1] at c179; cases c179) | (rw [c179, List.take_of_length_le (by omega), decide_eq_true hr2] at hf; cases hf) | (rw [hg1] at c8; cases c8) | (exact absurd hg5 c8) | (rw [hr1] at c8; cases c8) | (rw [c8, List.take_of_length_le (by omega), decide_eq_true hr2] at hf; cases hf) | (simp at c8; done) | omega))
       ·
        rw [decide_eq_false c163] at ha162
        refine cond_f ha162 rfl ?_
        refine wp_skip ?_
        refine then_n ?_
        refine wp_seq ?_
        refine wp_seq ?_
        clear ho71 hb87 ho96
        refine wp_region_lit ?_
        refine wl_val ha162 rfl rfl rfl (op_move ha162 rfl rfl) ?_
        intro a454 ha454; clear ha162 a162
        refine wl_val ha454 rfl rfl rfl ((op_neq ha454 rfl rfl rfl).to (congrArg Value.bool decide_not)) ?_
        intro a455 ha455; clear ha454 a454
        refine wpList_nil ?_
        refine then_n ?_
        by_cases c456 : (mgE ((q14)) ((q15)) : Int) = (0 : Int)
        ·
         rw [decide_eq_true c456] at ha455
         obtain ⟨hg1, hg2, hg3, hg4, hg5, hg6, hg7, hg8, hg9⟩ := mg_all c456
         refine cond_f ha455 rfl ?_
         refine wp_skip ?_
         refine then_n ?_
         refine wp_seq ?_
         refine wp_region_lit ?_
         refine wl_val ha455 rfl rfl rfl (op_move ha455 rfl rfl) ?_
         intro a457 ha457; clear ha455 a455
         refine wl_callR ha457 rfl rfl rfl (op_call ha457 rfl cb31 rfl) (c_impl_SalvageFile _ ((q14)) (by first | assumption | omega | (exact Nat.le_trans (areB_len (salS_are _)) (Nat.le_of_ble_eq_true rfl)) | (exact Nat.le_trans (mgL_len _ _) (Nat.le_of_ble_eq_true rfl)) | (exact Nat.le_trans (replL_len _ _) (Nat.le_of_ble_eq_true rfl)) | (simp; done) | (simp; omega))) ?_
         rintro v458 w459 he460 ⟨v461, rfl, ho462⟩ a463 ha463; clear ha457 a457
         have hx464 := hx157.trans' he460
         have hzhx464 := he460.size
         replace ho31 := ho31.ext he460
         replace ho33 := ho33.ext he460
         refine wl_val ha463 rfl rfl rfl (op_move ha463 rfl rfl) ?_
         intro a465 ha465; clear ha463 a463
         refine wl_val ha465 rfl rfl rfl (op_extract ha465 rfl rfl rfl) ?_
         intro a466 ha466; clear ha465 a465
         refine wl_val ha466 rfl rfl rfl (op_extract ha466 rfl rfl rfl) ?_
         intro a467 ha467; clear ha466 a466
         refine wl_val ha467 rfl rfl rfl (op_assign ha467 rfl rfl) ?_
         intro a468 ha468; clear ha467 a467
         refine wl_val ha468 rfl rfl rfl (op_assign ha468 rfl rfl) ?_
         intro a469 ha469; clear ha468 a468
         refine wpList_nil ?_
         refine then_n ?_
         refine wp_seq ?_
         refine wp_region_lit ?_
         refine wl_val ha469 rfl rfl rfl (op_move ha469 rfl rfl) ?_
         intro a470 ha470; clear ha469 a469
         refine wl_callR ha470 rfl rfl rfl (op_call ha470 rfl cb31 rfl) (c_impl_SalvageFile _ ((q15)) (by first | assumption | omega | (exact Nat.le_trans (areB_len (salS_are _)) (Nat.le_of_ble_eq_true rfl)) | (exact Nat.le_trans (mgL_len _ _) (Nat.le_of_ble_eq_true rfl)) | (exact Nat.le_trans (replL_len _ _) (Nat.le_of_ble_eq_true rfl)) | (simp; done) | (simp; omega))) ?_
         rintro v471 w472 he473 ⟨v474, rfl, ho475⟩ a476 ha476; clear ha470 a470
         have hx477 := hx464.trans' he473
         have hzhx477 := he473.size
         replace ho31 := ho31.ext he473
         replace ho33 := ho33.ext he473
         replace ho462 := ho462.ext he473
         refine wl_val ha476 rfl rfl rfl (op_move ha476 rfl rfl) ?_
         intro a478 ha478; clear ha476 a476
         refine wl_val ha478 rfl rfl rfl (op_extract ha478 rfl rfl rfl) ?_
         intro a479 ha479; clear ha478 a478
         refine wl_val ha479 rfl rfl rfl (op_extract ha479 rfl rfl rfl) ?_
         intro a480 ha480; clear ha479 a479
         refine wl_val ha480 rfl rfl rfl (op_assign ha480 rfl rfl) ?_
         intro a481 ha481; clear ha480 a480
         refine wl_val ha481 rfl rfl rfl (op_assign ha481 rfl rfl) ?_
         intro a482 ha482; clear ha481 a481
         refine wpList_nil ?_
         refine then_n ?_
         refine wp_seq ?_
         refine wp_region_lit ?_
         refine wl_val ha482 rfl rfl rfl (op_move ha482 rfl rfl) ?_
         intro a483 ha483; clear ha482 a482
         refine wl_val ha483 rfl rfl rfl (op_move ha483 rfl rfl) ?_
         intro a484 ha484; clear ha483 a483
         refine wl_callR ha484 rfl rfl rfl (op_call ha484 rfl cb38 rfl) (c_impl_MergeCopies _ ((q15)) ((q14)) (by first | assumption | omega | (exact Nat.le_trans (areB_len (salS_are _)) (Nat.le_of_ble_eq_true rfl)) | (exact Nat.le_trans (mgL_len _ _) (Nat.le_of_ble_eq_true rfl)) | (exact Nat.le_trans (replL_len _ _) (Nat.le_of_ble_eq_true rfl)) | (simp; done) | (simp; omega)) (by first | assumption | omega | (exact Nat.le_trans (areB_len (salS_are _)) (Nat.le_of_ble_eq_true rfl)) | (exact Nat.le_trans (mgL_len _ _) (Nat.le_of_ble_eq_true rfl)) | (exact Nat.le_trans (replL_len _ _) (Nat.le_of_ble_eq_true rfl)) | (simp; done) | (simp; omega))) ?_
         rintro v485 w486 he487 ⟨v488, v490, rfl, ho489, ho491⟩ a492 ha492; clear ha484 a484
         have hx493 := hx477.trans' he487
         have hzhx493 := he487.size
         replace ho31 := ho31.ext he487
         replace ho33 := ho33.ext he487
         replace ho462 := ho462.ext he487
         replace ho475 := ho475.ext he487
         refine wl_val ha492 rfl rfl rfl (op_move ha492 rfl rfl) ?_
         intro a494 ha494; clear ha492 a492
         refine wl_val ha494 rfl rfl rfl (op_extract ha494 rfl rfl rfl) ?_
         intro a495 ha495; clear ha494 a494
         refine wl_val ha495 rfl rfl rfl (op_extract ha495 rfl rfl rfl) ?_
         intro a496 ha496; clear ha495 a495
         refine wl_val ha496 rfl rfl rfl (op_extract ha496 rfl rfl rfl) ?_
         intro a497 ha497; clear ha496 a496
         refine wl_val ha497 rfl rfl rfl (op_assign ha497 rfl rfl) ?_
         intro a498 ha498; clear ha497 a497
         refine wl_val ha498 rfl rfl rfl (op_assign ha498 rfl rfl) ?_
         intro a499 ha499; clear ha498 a498
         refine wl_val ha499 rfl rfl rfl (op_assign ha499 rfl rfl) ?_
         intro a500 ha500; clear ha499 a499
         refine wpList_nil ?_
         refine then_n ?_
         refine wp_seq ?_
         refine wp_region_lit ?_
         refine wl_val ha500 rfl rfl rfl (op_move ha500 rfl rfl) ?_
         intro a501 ha501; clear ha500 a500
         refine wl_callR ha501 rfl rfl rfl (op_call ha501 rfl cb16 rfl) (c_impl_AreRecords _ v30 ((mgL ((q14)) ((q15)))) (ho31.rds pos_shRec) (by first | assumption | omega | (exact Nat.le_trans (areB_len (salS_are _)) (Nat.le_of_ble_eq_true rfl)) | (exact Nat.le_trans (mgL_len _ _) (Nat.le_of_ble_eq_true rfl)) | (exact Nat.le_trans (replL_len _ _) (Nat.le_of_ble_eq_true rfl)) | (simp; done) | (simp; omega))) ?_
         rintro v502 w503 he504 rfl a505 ha505; clear ha501 a501
         have hx506 := hx493.trans' he504
         have hzhx506 := he504.size
         replace ho31 := ho31.ext he504
         replace ho33 := ho33.ext he504
         replace ho462 := ho462.ext he504
         replace ho475 := ho475.ext he504
         replace ho489 := ho489.ext he504
         replace ho491 := ho491.ext he504
         refine wl_val ha505 rfl rfl rfl (op_move ha505 rfl rfl) ?_
         intro a507 ha507; clear ha505 a505
         rcases Bool.eq_false_or_eq_true (areB ((mgL ((q14)) ((q15))))) with c508 | c508
         ·
          rw [c508] at ha507
          refine wl_val ha507 rfl rfl rfl (op_move ha507 rfl rfl) ?_
          intro a509 ha509; clear ha507 a507
          refine wl_val ha509 rfl rfl rfl (op_len_sl ha509 rfl Try.underlying25 rfl (ho31.rds pos_shRec)) ?_
          intro a510 ha510; clear ha509 a509
          refine wl_val ha510 rfl rfl rfl (op_move ha510 rfl rfl) ?_
          intro a511 ha511; clear ha510 a510
          refine wl_val ha511 rfl rfl rfl (op_len_sl ha511 rfl Try.underlying25 rfl (ho462.rds pos_shRec)) ?_
          intro a512 ha512; clear ha511 a511
          refine wl_val ha512 rfl rfl rfl (op_move ha512 rfl rfl) ?_
          intro a513 ha513; clear ha512 a512
          refine wl_val ha513 rfl rfl rfl (op_len_sl ha513 rfl Try.underlying25 rfl (ho475.rds pos_shRec)) ?_
          intro a514 ha514; clear ha513 a513
          refine wl_val ha514 rfl rfl rfl (op_max ha514 rfl rfl rfl) ?_
          intro a515 ha515; clear ha514 a514
          refine wl_val ha515 rfl rfl rfl (op_geq ha515 rfl rfl rfl) ?_
          intro a516 ha516; clear ha515 a515
          refine wl_val ha516 rfl rfl rfl (op_pick_t ha516 rfl rfl rfl) ?_
          intro a517 ha517; clear ha516 a516
          refine wl_val ha517 rfl rfl rfl (op_move ha517 rfl rfl) ?_
          intro a518 ha518; clear ha517 a517
          by_cases c519 : (max (((((salS ((q14))).1)).length : Nat) : Int) (((((salS ((q15))).1)).length : Nat) : Int)) ≤ ((((mgL ((q14)) ((q15)))).length : Nat) : Int)
          ·
           rw [decide_eq_true c519] at ha518
           refine wl_val ha518 rfl rfl rfl (op_move ha518 rfl rfl) ?_
           intro a520 ha520; clear ha518 a518
           refine wl_val ha520 rfl rfl rfl (op_len_sl ha520 rfl Try.underlying25 rfl (ho31.rds pos_shRec)) ?_
           intro a521 ha521; clear ha520 a520
           refine wl_val ha521 rfl rfl rfl (op_move ha521 rfl rfl) ?_
           intro a522 ha522; clear ha521 a521
           refine wl_val ha522 rfl rfl rfl (op_len_sl ha522 rfl Try.underlying25 rfl (ho462.rds pos_shRec)) ?_
           intro a523 ha523; clear ha522 a522
           refine wl_val ha523 rfl rfl rfl (op_move ha523 rfl rfl) ?_
           intro a524 ha524; clear ha523 a523
           refine wl_val ha524 rfl rfl rfl (op_len_sl ha524 rfl Try.underlying25 rfl (ho475.rds pos_shRec)) ?_
           intro a525 ha525; clear ha524 a524
           refine wl_val ha525 rfl rfl rfl ((op_add ha525 rfl rfl rfl).int (IntWalk.i64_in _ (by omega))) ?_
           intro a526 ha526; clear ha525 a525
           refine wl_val ha526 rfl rfl rfl (op_leq ha526 rfl rfl rfl) ?_
           intro a527 ha527; clear ha526 a526
           refine wl_val ha527 rfl rfl rfl (op_pick_t ha527 rfl rfl rfl) ?_
           intro a528 ha528; clear ha527 a527
           refine wl_val ha528 rfl rfl rfl (op_move ha528 rfl rfl) ?_
           intro a529 ha529; clear ha528 a528
           by_cases c530 : ((((mgL ((q14)) ((q15)))).length : Nat) : Int) ≤ ((((((salS ((q14))).1)).length : Nat) : Int) + (((((salS ((q15))).1)).length : Nat) : Int))
           ·
            rw [decide_eq_true c530] at ha529
            refine wl_val ha529 rfl rfl rfl (op_move ha529 rfl rfl) ?_
            intro a531 ha531; clear ha529 a529
            refine wl_val ha531 rfl rfl rfl (op_eql ha531 rfl rfl rfl) ?_
            intro a532 ha532; clear ha531 a531
            refine wl_val ha532 rfl rfl rfl (op_pick_t ha532 rfl rfl rfl) ?_
            intro a533 ha533; clear ha532 a532
            refine wl_val ha533 rfl rfl rfl (op_move ha533 rfl rfl) ?_
            intro a534 ha534; clear ha533 a533
            by_cases c535 : (mgE ((q15)) ((q14)) : Int) = (0 : Int)
            ·
             rw [decide_eq_true c535] at ha534
             refine wl_val ha534 rfl rfl rfl (op_move ha534 rfl rfl) ?_
             intro a536 ha536; clear ha534 a534
             refine wl_val ha536 rfl rfl rfl (op_len_sl ha536 rfl Try.underlying25 rfl (ho489.rds pos_shRec)) ?_
             intro a537 ha537; clear ha536 a536
             refine wl_val ha537 rfl rfl rfl (op_move ha537 rfl rfl) ?_
             intro a538 ha538; clear ha537 a537
             refine wl_val ha538 rfl rfl rfl (op_len_sl ha538 rfl Try.underlying25 rfl (ho31.rds pos_shRec)) ?_
             intro a539 ha539; clear ha538 a538
             refine wl_val ha539 rfl rfl rfl (op_eql ha539 rfl rfl rfl) ?_
             intro a540 ha540; clear ha539 a539
             refine wl_val ha540 rfl rfl rfl (op_pick_t ha540 rfl rfl rfl) ?_
             intro a541 ha541; clear ha540 a540
             refine wl_val ha541 rfl rfl rfl (op_move ha541 rfl rfl) ?_
             intro a542 ha542; clear ha541 a541
             by_cases c543 : ((((mgL ((q15)) ((q14)))).length : Nat) : Int) = ((((mgL ((q14)) ((q15)))).length : Nat) : Int)
             ·
              rw [decide_eq_true c543] at ha542
              refine wl_val ha542 rfl rfl rfl (op_move ha542 rfl rfl) ?_
              intro a544 ha544; clear ha542 a542
              refine wl_val ha544 rfl rfl rfl (op_move ha544 rfl rfl) ?_
              intro a545 ha545; clear ha544 a544
              refine wl_callR ha545 rfl rfl rfl (op_call ha545 rfl cb43 rfl) (c_laws_likeInts _ v490 ((mgD ((q15)) ((q14)))) v32 ((mgD ((q14)) ((q15)))) (ho491.rds pos_shI64) (ho33.rds pos_shI64)) ?_
              rintro v546 w547 he548 rfl a549 ha549; clear ha545 a545
              have hx550 := hx506.trans' he548
              have hzhx550 := he548.size
              replace ho31 := ho31.ext he548
              replace ho33 := ho33.ext he548
              replace ho462 := ho462.ext he548
              replace ho475 := ho475.ext he548
              replace ho489 := ho489.ext he548
              replace ho491 := ho491.ext he548
              refine wl_val ha549 rfl rfl rfl (op_pick_t ha549 rfl rfl rfl) ?_
              intro a551 ha551; clear ha549 a549
              refine wl_val ha551 rfl rfl rfl (op_assign ha551 rfl rfl) ?_
              intro a552 ha552; clear ha551 a551
              refine wpList_nil ?_
              refine then_n ?_
              refine wp_ret ?_
              refine ret1 ha552 rfl rfl ?_
              clear ha552 a552
              exact ret_mk hx550 (congrArg Value.bool (by first | rfl | (exact (by rw [hg7]; exact eqL_self _)) | (rw [hg7, eqL_self]) | (rw [hg1] at c163; cases c163) | (exact absurd hg5 c163) | (rw [hr1] at c163; cases c163) | (rw [c163, List.take_of_length_le (by omega), decide_eq_true hr2] at hf; cases hf) | (rw [hg1] at c8; cases c8) | (exact absurd hg5 c8) | (rw [hr1] at c8; cases c8) | (rw [c8, List.take_of_length_le (by omega), decide_eq_true hr2] at hf; cases hf) | (exact absurd rfl c163) | (simp at c8; done) | omega))
             ·
              rw [decide_eq_false c543] at ha542
              refine wl_skip ha542 rfl rfl rfl ?_
              intro a553 ha553; clear ha542 a542
              refine wl_skip ha553 rfl rfl rfl ?_
              intro a554 ha554; clear ha553 a553
              refine wl_skip ha554 rfl rfl rfl ?_
              intro a555 ha555; clear ha554 a554
              refine wl_val ha555 rfl rfl rfl (op_pick_f ha555 rfl rfl rfl) ?_
              intro a556 ha556; clear ha555 a555
              refine wl_val ha556 rfl rfl rfl (op_assign ha556 rfl rfl) ?_
              intro a557 ha557; clear ha556 a556
              refine wpList_nil ?_
              refine then_n ?_
              refine wp_ret ?_
              refine ret1 ha557 rfl rfl ?_
              clear ha557 a557
              exact ret_mk hx506 (congrArg Value.bool (by first | rfl | (exact (by rw [hg7]; exact eqL_self _)) | (rw [hg7, eqL_self]) | (rw [hg1] at c543; cases c543) | (exact absurd hg5 c543) | (rw [hr1] at c543; cases c543) | (rw [c543, List.take_of_length_le (by omega), decide_eq_true hr2] at hf; cases hf) | (rw [hg1] at c163; cases c163) | (exact absurd hg5 c163) | (rw [hr1] at c163; cases c163) | (rw [c163, List.take_of_length_le (by omega), decide_eq_true hr2] at hf; cases hf) | (rw [hg1] at c8; cases c8) | (exact absurd hg5 c8) | (rw [hr1] at c8; cases c8) | (rw [c8, List.take_of_length_le (by omega), decide_eq_true hr2] at hf; cases hf) | (exact absurd rfl c543) | (exact absurd rfl c163) | (simp at c8; done) | omega))
            ·
             rw [decide_eq_false c535] at ha534
             refine wl_skip ha534 rfl rfl rfl ?_
             intro a558 ha558; clear ha534 a534
             refine wl_skip ha558 rfl rfl rfl ?_
             intro a559 ha559; clear ha558 a558
             refine wl_skip ha559 rfl rfl rfl ?_
             intro a560 ha560; clear ha559 a559
             refine wl_skip ha560 rfl rfl rfl ?_
             intro a561 ha561; clear ha560 a560
             refine wl_skip ha561 rfl rfl rfl ?_
             intro a562 ha562; clear ha561 a561
             refine wl_val ha562 rfl rfl rfl (op_pick_f ha562 rfl rfl rfl) ?_
             intro a563 ha563; clear ha562 a562
             refine wl_val ha563 rfl rfl rfl (op_move ha563 rfl rfl) ?_
             intro a564 ha564; clear ha563 a563
             refine wl_skip ha564 rfl rfl rfl ?_
             intro a565 ha565; clear ha564 a564
             refine wl_skip ha565 rfl rfl rfl ?_
             intro a566 ha566; clear ha565 a565
             refine wl_skip ha566 rfl rfl rfl ?_
             intro a567 ha567; clear ha566 a566
             refine wl_val ha567 rfl rfl rfl (op_pick_f ha567 rfl rfl rfl) ?_
             intro a568 ha568; clear ha567 a567
             refine wl_val ha568 rfl rfl rfl (op_assign ha568 rfl rfl) ?_
             intro a569 ha569; clear ha568 a568
             refine wpList_nil ?_
             refine then_n ?_
             refine wp_ret ?_
             refine ret1 ha569 rfl rfl ?_
             clear ha569 a569
             exact ret_mk hx506 (congrArg Value.bool (by first | rfl | (exact (by rw [hg7]; exact eqL_self _)) | (rw [hg7, eqL_self]) | (rw [hg1] at c535; cases c535) | (exact absurd hg5 c535) | (rw [hr1] at c535; cases c535) | (rw [c535, List.take_of_length_le (by omega), decide_eq_true hr2] at hf; cases hf) | (rw [hg1] at c163; cases c163) | (exact absurd hg5 c163) | (rw [hr1] at c163; cases c163) | (rw [c163, List.take_of_length_le (by omega), decide_eq_true hr2] at hf; cases hf) | (rw [hg1] at c8; cases c8) | (exact absurd hg5 c8) | (rw [hr1] at c8; cases c8) | (rw [c8, List.take_of_length_le (by omega), decide_eq_true hr2] at hf; cases hf) | (exact absurd rfl c535) | (exact absurd rfl c163) | (simp at c8; done) | omega))
           ·
            rw [decide_eq_false c530] at ha529
            refine wl_skip ha529 rfl rfl rfl ?_
            intro a570 ha570; clear ha529 a529
            refine wl_skip ha570 rfl rfl rfl ?_
            intro a571 ha571; clear ha570 a570
            refine wl_val ha571 rfl rfl rfl (op_pick_f ha571 rfl rfl rfl) ?_
            intro a572 ha572; clear ha571 a571
            refine wl_val ha572 rfl rfl rfl (op_move ha572 rfl rfl) ?_
            intro a573 ha573; clear ha572 a572
            refine wl_skip ha573 rfl rfl rfl ?_
            intro a574 ha574; clear ha573 a573
            refine wl_skip ha574 rfl rfl rfl ?_
            intro a575 ha575; clear ha574 a574
            refine wl_skip ha575 rfl rfl rfl ?_
            intro a576 ha576; clear ha575 a575
            refine wl_skip ha576 rfl rfl rfl ?_
            intro a577 ha577; clear ha576 a576
            refine wl_skip ha577 rfl rfl rfl ?_
            intro a578 ha578; clear ha577 a577
            refine wl_val ha578 rfl rfl rfl (op_pick_f ha578 rfl rfl rfl) ?_
            intro a579 ha579; clear ha578 a578
            refine wl_val ha579 rfl rfl rfl (op_move ha579 rfl rfl) ?_
            intro a580 ha580; clear ha579 a579
            refine wl_skip ha580 rfl rfl rfl ?_
            intro a581 ha581; clear ha580 a580
            refine wl_skip ha581 rfl rfl rfl ?_
            intro a582 ha582; clear ha581 a581
            refine wl_skip ha582 rfl rfl rfl ?_
            intro a583 ha583; clear ha582 a582
            refine wl_val ha583 rfl rfl rfl (op_pick_f ha583 rfl rfl rfl) ?_
            intro a584 ha584; clear ha583 a583
            refine wl_val ha584 rfl rfl rfl (op_assign ha584 rfl rfl) ?_
            intro a585 ha585; clear ha584 a584
            refine wpList_nil ?_
            refine then_n ?_
            refine wp_ret ?_
            refine ret1 ha585 rfl rfl ?_
            clear ha585 a585
            exact ret_mk hx506 (congrArg Value.bool (by first | rfl | (exact (by rw [hg7]; exact eqL_self _)) | (rw [hg7, eqL_self]) | (rw [hg1] at c530; cases c530) | (exact absurd hg5 c530) | (rw [hr1] at c530; cases c530) | (rw [c530, List.take_of_length_le (by omega), decide_eq_true hr2] at hf; cases hf) | (rw [hg1] at c163; cases c163) | (exact absurd hg5 c163) | (rw [hr1] at c163; cases c163) | (rw [c163, List.take_of_length_le (by omega), decide_eq_true hr2] at hf; cases hf) | (rw [hg1] at c8; cases c8) | (exact absurd hg5 c8) | (rw [hr1] at c8; cases c8) | (rw [c8, List.take_of_length_le (by omega), decide_eq_true hr2] at hf; cases hf) | (exact absurd rfl c163) | (simp at c8; done) | omega))
          ·
           rw [decide_eq_false c519] at ha518
           refine wl_skip ha518 rfl rfl rfl ?_
           intro a586 ha586; clear ha518 a518
           refine wl_skip ha586 rfl rfl rfl ?_
           intro a587 ha587; clear ha586 a586
           refine wl_skip ha587 rfl rfl rfl ?_
           intro a588 ha588; clear ha587 a587
           refine wl_skip ha588 rfl rfl rfl ?_
           intro a589 ha589; clear ha588 a588
           refine wl_skip ha589 rfl rfl rfl ?_
           intro a590 ha590; clear ha589 a589
           refine wl_skip ha590 rfl rfl rfl ?_
           intro a591 ha591; clear ha590 a590
           refine wl_skip ha591 rfl rfl rfl ?_
           intro a592 ha592; clear ha591 a591
           refine wl_skip ha592 rfl rfl rfl ?_
           intro a593 ha593; clear ha592 a592
           refine wl_val ha593 rfl rfl rfl (op_pick_f ha593 rfl rfl rfl) ?_
           intro a594 ha594; clear ha593 a593
           refine wl_val ha594 rfl rfl rfl (op_move ha594 rfl rfl) ?_
           intro a595 ha595; clear ha594 a594
           refine wl_skip ha595 rfl rfl rfl ?_
           intro a596 ha596; clear ha595 a595
           refine wl_skip ha596 rfl rfl rfl ?_
           intro a597 ha597; clear ha596 a596
           refine wl_val ha597 rfl rfl rfl (op_pick_f ha597 rfl rfl rfl) ?_
           intro a598 ha598; clear ha597 a597
           refine wl_val ha598 rfl rfl rfl (op_move ha598 rfl rfl) ?_
           intro a599 ha599; clear ha598 a598
           refine wl_skip ha599 rfl rfl rfl ?_
           intro a600 ha600; clear ha599 a599
           refine wl_skip ha600 rfl rfl rfl ?_
           intro a601 ha601; clear ha600 a600
           refine wl_skip ha601 rfl rfl rfl ?_
           intro a602 ha602; clear ha601 a601
           refine wl_skip ha602 rfl rfl rfl ?_
           intro a603 ha603; clear ha602 a602
           refine wl_skip ha603 rfl rfl rfl ?_
           intro a604 ha604; clear ha603 a603
           refine wl_val ha604 rfl rfl rfl (op_pick_f ha604 rfl rfl rfl) ?_
           intro a605 ha605; clear ha604 a604
           refine wl_val ha605 rfl rfl rfl (op_move ha605 rfl rfl) ?_
           intro a606 ha606; clear ha605 a605
           refine wl_skip ha606 rfl rfl rfl ?_
           intro a607 ha607; clear ha606 a606
           refine wl_skip ha607 rfl rfl rfl ?_
           intro a608 ha608; clear ha607 a607
           refine wl_skip ha608 rfl rfl rfl ?_
           intro a609 ha609; clear ha608 a608
           refine wl_val ha609 rfl rfl rfl (op_pick_f ha609 rfl rfl rfl) ?_
           intro a610 ha610; clear ha609 a609
           refine wl_val ha610 rfl rfl rfl (op_assign ha610 rfl rfl) ?_
           intro a611 ha611; clear ha610 a610
           refine wpList_nil ?_
           refine then_n ?_
           refine wp_ret ?_
           refine ret1 ha611 rfl rfl ?_
           clear ha611 a611
           exact ret_mk hx506 (congrArg Value.bool (by first | rfl | (exact (by rw [hg7]; exact eqL_self _)) | (rw [hg7, eqL_self]) | (rw [hg1] at c519; cases c519) | (exact absurd hg5 c519) | (rw [hr1] at c519; cases c519) | (rw [c519, List.take_of_length_le (by omega), decide_eq_true hr2] at hf; cases hf) | (rw [hg1] at c163; cases c163) | (exact absurd hg5 c163) | (rw [hr1] at c163; cases c163) | (rw [c163, List.take_of_length_le (by omega), decide_eq_true hr2] at hf; cases hf) | (rw [hg1] at c8; cases c8) | (exact absurd hg5 c8) | (rw [hr1] at c8; cases c8) | (rw [c8, List.take_of_length_le (by omega), decide_eq_true hr2] at hf; cases hf) | (exact absurd rfl c163) | (simp at c8; done) | omega))
         ·
          rw [c508] at ha507
          refine wl_skip ha507 rfl rfl rfl ?_
          intro a612 ha612; clear ha507 a507
          refine wl_skip ha612 rfl rfl rfl ?_
          intro a613 ha613; clear ha612 a612
          refine wl_skip ha613 rfl rfl rfl ?_
          intro a614 ha614; clear ha613 a613
          refine wl_skip ha614 rfl rfl rfl ?_
          intro a615 ha615; clear ha614 a614
          refine wl_skip ha615 rfl rfl rfl ?_
          intro a616 ha616; clear ha615 a615
          refine wl_skip ha616 rfl rfl rfl ?_
          intro a617 ha617; clear ha616 a616
          refine wl_skip ha617 rfl rfl rfl ?_
          intro a618 ha618; clear ha617 a617
          refine wl_skip ha618 rfl rfl rfl ?_
          intro a619 ha619; clear ha618 a618
          refine wl_val ha619 rfl rfl rfl (op_pick_f ha619 rfl rfl rfl) ?_
          intro a620 ha620; clear ha619 a619
          refine wl_val ha620 rfl rfl rfl (op_move ha620 rfl rfl) ?_
          intro a621 ha621; clear ha620 a620
          refine wl_skip ha621 rfl rfl rfl ?_
          intro a622 ha622; clear ha621 a621
          refine wl_skip ha622 rfl rfl rfl ?_
          intro a623 ha623; clear ha622 a622
          refine wl_skip ha623 rfl rfl rfl ?_
          intro a624 ha624; clear ha623 a623
          refine wl_skip ha624 rfl rfl rfl ?_
          intro a625 ha625; clear ha624 a624
          refine wl_skip ha625 rfl rfl rfl ?_
          intro a626 ha626; clear ha625 a625
          refine wl_skip ha626 rfl rfl rfl ?_
          intro a627 ha627; clear ha626 a626
          refine wl_skip ha627 rfl rfl rfl ?_
          intro a628 ha628; clear ha627 a627
          refine wl_skip ha628 rfl rfl rfl ?_
          intro a629 ha629; clear ha628 a628
          refine wl_val ha629 rfl rfl rfl (op_pick_f ha629 rfl rfl rfl) ?_
          intro a630 ha630; clear ha629 a629
          refine wl_val ha630 rfl rfl rfl (op_move ha630 rfl rfl) ?_
          intro a631 ha631; clear ha630 a630
          refine wl_skip ha631 rfl rfl rfl ?_
          intro a632 ha632; clear ha631 a631
          refine wl_skip ha632 rfl rfl rfl ?_
          intro a633 ha633; clear ha632 a632
          refine wl_val ha633 rfl rfl rfl (op_pick_f ha633 rfl rfl rfl) ?_
          intro a634 ha634; clear ha633 a633
          refine wl_val ha634 rfl rfl rfl (op_move ha634 rfl rfl) ?_
          intro a635 ha635; clear ha634 a634
          refine wl_skip ha635 rfl rfl rfl ?_
          intro a636 ha636; clear ha635 a635
          refine wl_skip ha636 rfl rfl rfl ?_
          intro a637 ha637; clear ha636 a636
          refine wl_skip ha637 rfl rfl rfl ?_
          intro a638 ha638; clear ha637 a637
          refine wl_skip ha638 rfl rfl rfl ?_
          intro a639 ha639; clear ha638 a638
          refine wl_skip ha639 rfl rfl rfl ?_
          intro a640 ha640; clear ha639 a639
          refine wl_val ha640 rfl rfl rfl (op_pick_f ha640 rfl rfl rfl) ?_
          intro a641 ha641; clear ha640 a640
          refine wl_val ha641 rfl rfl rfl (op_move ha641 rfl rfl) ?_
          intro a642 ha642; clear ha641 a641
          refine wl_skip ha642 rfl rfl rfl ?_
          intro a643 ha643; clear ha642 a642
          refine wl_skip ha643 rfl rfl rfl ?_
          intro a644 ha644; clear ha643 a643
          refine wl_skip ha644 rfl rfl rfl ?_
          intro a645 ha645; clear ha644 a644
          refine wl_val ha645 rfl rfl rfl (op_pick_f ha645 rfl rfl rfl) ?_
          intro a646 ha646; clear ha645 a645
          refine wl_val ha646 rfl rfl rfl (op_assign ha646 rfl rfl) ?_
          intro a647 ha647; clear ha646 a646
          refine wpList_nil ?_
          refine then_n ?_
          refine wp_ret ?_
          refine ret1 ha647 rfl rfl ?_
          clear ha647 a647
          exact ret_mk hx506 (congrArg Value.bool (by first | rfl | (exact (by rw [hg7]; exact eqL_self _)) | (rw [hg7, eqL_self]) | (rw [hg1] at c508; cases c508) | (exact absurd hg5 c508) | (rw [hr1] at c508; cases c508) | (rw [c508, List.take_of_length_le (by omega), decide_eq_true hr2] at hf; cases hf) | (rw [hg1] at c163; cases c163) | (exact absurd hg5 c163) | (rw [hr1] at c163; cases c163) | (rw [c163, List.take_of_length_le (by omega), decide_eq_true hr2] at hf; cases hf) | (rw [hg1] at c8; cases c8) | (exact absurd hg5 c8) | (rw [hr1] at c8; cases c8) | (rw [c8, List.take_of_length_le (by omega), decide_eq_true hr2] at hf; cases hf) | (exact absurd rfl c163) | (simp at c8; done) | omega))
        ·
         rw [decide_eq_false c456] at ha455
         refine cond_t ha455 rfl ?_
         refine wp_seq ?_
         clear ho31 ho33
         refine wp_region_lit ?_
         refine wl_val ha455 rfl rfl rfl (op_assign ha455 rfl rfl) ?_
         intro a648 ha648; clear ha455 a455
         refine wpList_nil ?_
         refine then_n ?_
         refine wp_ret ?_
         refine then_r ?_
         refine ret1 ha648 rfl rfl ?_
         clear ha648 a648
         exact ret_mk hx157 (congrArg Value.bool (by first | rfl | (exact (by rw [hg7]; exact eqL_self _)) | (rw [hg7, eqL_self]) | (rw [hg1] at c456; cases c456) | (exact absurd hg5 c456) | (rw [hr1] at c456; cases c456) | (rw [c456, List.take_of_length_le (by omega), decide_eq_true hr2] at hf; cases hf) | (rw [hg1] at c163; cases c163) | (exact absurd hg5 c163) | (rw [hr1] at c163; cases c163) | (rw [c163, List.take_of_length_le (by omega), decide_eq_true hr2] at hf; cases hf) | (rw [hg1] at c8; cases c8) | (exact absurd hg5 c8) | (rw [hr1] at c8; cases c8) | (rw [c8, List.take_of_length_le (by omega), decide_eq_true hr2] at hf; cases hf) | (exact absurd rfl c456) | (exact absurd rfl c163) | (simp at c8; done) | omega))
      ·
       rw [c160] at ha159
       refine cond_t ha159 rfl ?_
       refine wp_seq ?_
       clear ho31 ho33 ho49 ho51 ho71 hb87 ho96 ho110
       refine wp_region_lit ?_
       refine wl_val ha159 rfl rfl rfl (op_assign ha159 rfl rfl) ?_
       intro a649 ha649; clear ha159 a159
       refine wpList_nil ?_
       refine then_n ?_
       refine wp_ret ?_
       refine then_r ?_
       refine ret1 ha649 rfl rfl ?_
       clear ha649 a649
       exact ret_mk hx157 (congrArg Value.bool (by first | rfl | (rw [eqL_self] at c160; cases c160) | (exact (by rw [hg7]; exact eqL_self _)) | (rw [hg7, eqL_self]) | (rw [hg1] at c160; cases c160) | (exact absurd hg5 c160) | (rw [hr1] at c160; cases c160) | (rw [c160, List.take_of_length_le (by omega), decide_eq_true hr2] at hf; cases hf) | (rw [hg1] at c8; cases c8) | (exact absurd hg5 c8) | (rw [hr1] at c8; cases c8) | (rw [c8, List.take_of_length_le (by omega), decide_eq_true hr2] at hf; cases hf) | (simp at c8; done) | omega))
     ·
      rw [decide_eq_false c150] at ha149
      refine wl_skip ha149 rfl rfl rfl ?_
      intro a650 ha650; clear ha149 a149
      refine wl_skip ha650 rfl rfl rfl ?_
      intro a651 ha651; clear ha650 a650
      refine wl_skip ha651 rfl rfl rfl ?_
      intro a652 ha652; clear ha651 a651
      refine wl_skip ha652 rfl rfl rfl ?_
      intro a653 ha653; clear ha652 a652
      refine wl_val ha653 rfl rfl rfl (op_pick_t ha653 rfl rfl rfl) ?_
      intro a654 ha654; clear ha653 a653
      refine wpList_nil ?_
      refine then_n ?_
      refine cond_t ha654 rfl ?_
      refine wp_seq ?_
      clear ho31 ho33 ho49 ho51 ho71 hb87 ho96 ho110
      refine wp_region_lit ?_
      refine wl_val ha654 rfl rfl rfl (op_assign ha654 rfl rfl) ?_
      intro a655 ha655; clear ha654 a654
      refine wpList_nil ?_
      refine then_n ?_
      refine wp_ret ?_
      refine then_r ?_
      refine ret1 ha655 rfl rfl ?_
      clear ha655 a655
      exact ret_mk hx140 (congrArg Value.bool (by first | rfl | (exact absurd rfl c150) | (exact (by rw [hg7]; exact eqL_self _)) | (rw [hg7, eqL_self]) | (rw [hg1] at c150; cases c150) | (exact absurd hg5 c150) | (rw [hr1] at c150; cases c150) | (rw [c150, List.take_of_length_le (by omega), decide_eq_true hr2] at hf; cases hf) | (rw [hg1] at c8; cases c8) | (exact absurd hg5 c8) | (rw [hr1] at c8; cases c8) | (rw [c8, List.take_of_length_le (by omega), decide_eq_true hr2] at hf; cases hf) | (simp at c8; done) | omega))
    ·
     rw [c144] at ha143
     refine wl_skip ha143 rfl rfl rfl ?_
     intro a656 ha656; clear ha143 a143
     refine wl_skip ha656 rfl rfl rfl ?_
     intro a657 ha657; clear ha656 a656
     refine wl_skip ha657 rfl rfl rfl ?_
     intro a658 ha658; clear ha657 a657
     refine wl_val ha658 rfl rfl rfl (op_pick_t ha658 rfl rfl rfl) ?_
     intro a659 ha659; clear ha658 a658
     refine wl_val ha659 rfl rfl rfl (op_move ha659 rfl rfl) ?_
     intro a660 ha660; clear ha659 a659
     refine wl_skip ha660 rfl rfl rfl ?_
     intro a661 ha661; clear ha660 a660
     refine wl_skip ha661 rfl rfl rfl ?_
     intro a662 ha662; clear ha661 a661
     refine wl_skip ha662 rfl rfl rfl ?_
     intro a663 ha663; clear ha662 a662
     refine wl_skip ha663 rfl rfl rfl ?_
     intro a664 ha664; clear ha663 a663
     refine wl_val ha664 rfl rfl rfl (op_pick_t ha664 rfl rfl rfl) ?_
     intro a665 ha665; clear ha664 a664
     refine wpList_nil ?_
     refine then_n ?_
     refine cond_t ha665 rfl ?_
     refine wp_seq ?_
     clear ho31 ho33 ho49 ho51 ho71 hb87 ho96 ho110
     refine wp_region_lit ?_
     refine wl_val ha665 rfl rfl rfl (op_assign ha665 rfl rfl) ?_
     intro a666 ha666; clear ha665 a665
     refine wpList_nil ?_
     refine then_n ?_
     refine wp_ret ?_
     refine then_r ?_
     refine ret1 ha666 rfl rfl ?_
     clear ha666 a666
     exact ret_mk hx140 (congrArg Value.bool (by first | rfl | (rw [eqL_self] at c144; cases c144) | (exact (by rw [hg7]; exact eqL_self _)) | (rw [hg7, eqL_self]) | (rw [hg1] at c144; cases c144) | (exact absurd hg5 c144) | (rw [hr1] at c144; cases c144) | (rw [c144, List.take_of_length_le (by omega), decide_eq_true hr2] at hf; cases hf) | (rw [hg1] at c8; cases c8) | (exact absurd hg5 c8) | (rw [hr1] at c8; cases c8) | (rw [c8, List.take_of_length_le (by omega), decide_eq_true hr2] at hf; cases hf) | (simp at c8; done) | omega))
   ·
    rw [c133] at ha132
    refine wl_skip ha132 rfl rfl rfl ?_
    intro a667 ha667; clear ha132 a132
    refine wl_skip ha667 rfl rfl rfl ?_
    intro a668 ha668; clear ha667 a667
    refine wl_skip ha668 rfl rfl rfl ?_
    intro a669 ha669; clear ha668 a668
    refine wl_skip ha669 rfl rfl rfl ?_
    intro a670 ha670; clear ha669 a669
    refine wl_val ha670 rfl rfl rfl (op_pick_t ha670 rfl rfl rfl) ?_
    intro a671 ha671; clear ha670 a670
    refine wl_val ha671 rfl rfl rfl (op_move ha671 rfl rfl) ?_
    intro a672 ha672; clear ha671 a671
    refine wl_skip ha672 rfl rfl rfl ?_
    intro a673 ha673; clear ha672 a672
    refine wl_skip ha673 rfl rfl rfl ?_
    intro a674 ha674; clear ha673 a673
    refine wl_skip ha674 rfl rfl rfl ?_
    intro a675 ha675; clear ha674 a674
    refine wl_val ha675 rfl rfl rfl (op_pick_t ha675 rfl rfl rfl) ?_
    intro a676 ha676; clear ha675 a675
    refine wl_val ha676 rfl rfl rfl (op_move ha676 rfl rfl) ?_
    intro a677 ha677; clear ha676 a676
    refine wl_skip ha677 rfl rfl rfl ?_
    intro a678 ha678; clear ha677 a677
    refine wl_skip ha678 rfl rfl rfl ?_
    intro a679 ha679; clear ha678 a678
    refine wl_skip ha679 rfl rfl rfl ?_
    intro a680 ha680; clear ha679 a679
    refine wl_skip ha680 rfl rfl rfl ?_
    intro a681 ha681; clear ha680 a680
    refine wl_val ha681 rfl rfl rfl (op_pick_t ha681 rfl rfl rfl) ?_
    intro a682 ha682; clear ha681 a681
    refine wpList_nil ?_
    refine then_n ?_
    refine cond_t ha682 rfl ?_
    refine wp_seq ?_
    clear ho31 ho33 ho49 ho51 ho71 hb87 ho96 ho110
    refine wp_region_lit ?_
    refine wl_val ha682 rfl rfl rfl (op_assign ha682 rfl rfl) ?_
    intro a683 ha683; clear ha682 a682
    refine wpList_nil ?_
    refine then_n ?_
    refine wp_ret ?_
    refine then_r ?_
    refine ret1 ha683 rfl rfl ?_
    clear ha683 a683
    exact ret_mk hx129 (congrArg Value.bool (by first | rfl | (rw [eqL_self] at c133; cases c133) | (exact (by rw [hg7]; exact eqL_self _)) | (rw [hg7, eqL_self]) | (rw [hg1] at c133; cases c133) | (exact absurd hg5 c133) | (rw [hr1] at c133; cases c133) | (rw [c133, List.take_of_length_le (by omega), decide_eq_true hr2] at hf; cases hf) | (rw [hg1] at c8; cases c8) | (exact absurd hg5 c8) | (rw [hr1] at c8; cases c8) | (rw [c8, List.take_of_length_le (by omega), decide_eq_true hr2] at hf; cases hf) | (simp at c8; done) | omega))
  ·
   rw [decide_eq_false c122] at ha121
   refine wl_skip ha121 rfl rfl rfl ?_
   intro a684 ha684; clear ha121 a121
   refine wl_skip ha684 rfl rfl rfl ?_
   intro a685 ha685; clear ha684 a684
   refine wl_skip ha685 rfl rfl rfl ?_
   intro a686 ha686; clear ha685 a685
   refine wl_skip ha686 rfl rfl rfl ?_
   intro a687 ha687; clear ha686 a686
   refine wl_val ha687 rfl rfl rfl (op_pick_t ha687 rfl rfl rfl) ?_
   intro a688 ha688; clear ha687 a687
   refine wl_val ha688 rfl rfl rfl (op_move ha688 rfl rfl) ?_
   intro a689 ha689; clear ha688 a688
   refine wl_skip ha689 rfl rfl rfl ?_
   intro a690 ha690; clear ha689 a689
   refine wl_skip ha690 rfl rfl rfl ?_
   intro a691 ha691; clear ha690 a690
   refine wl_skip ha691 rfl rfl rfl ?_
   intro a692 ha692; clear ha691 a691
   refine wl_skip ha692 rfl rfl rfl ?_
   intro a693 ha693; clear ha692 a692
   refine wl_val ha693 rfl rfl rfl (op_pick_t ha693 rfl rfl rfl) ?_
   intro a694 ha694; clear ha693 a693
   refine wl_val ha694 rfl rfl rfl (op_move ha694 rfl rfl) ?_
   intro a695 ha695; clear ha694 a694
   refine wl_skip ha695 rfl rfl rfl ?_
   intro a696 ha696; clear ha695 a695
   refine wl_skip ha696 rfl rfl rfl ?_
   intro a697 ha697; clear ha696 a696
   refine wl_skip ha697 rfl rfl rfl ?_
   intro a698 ha698; clear ha697 a697
   refine wl_val ha698 rfl rfl rfl (op_pick_t ha698 rfl rfl rfl) ?_
   intro a699 ha699; clear ha698 a698
   refine wl_val ha699 rfl rfl rfl (op_move ha699 rfl rfl) ?_
   intro a700 ha700; clear ha699 a699
   refine wl_skip ha700 rfl rfl rfl ?_
   intro a701 ha701; clear ha700 a700
   refine wl_skip ha701 rfl rfl rfl ?_
   intro a702 ha702; clear ha701 a701
   refine wl_skip ha702 rfl rfl rfl ?_
   intro a703 ha703; clear ha702 a702
   refine wl_skip ha703 rfl rfl rfl ?_
   intro a704 ha704; clear ha703 a703
   refine wl_val ha704 rfl rfl rfl (op_pick_t ha704 rfl rfl rfl) ?_
   intro a705 ha705; clear ha704 a704
   refine wpList_nil ?_
   refine then_n ?_
   refine cond_t ha705 rfl ?_
   refine wp_seq ?_
   clear ho31 ho33 ho49 ho51 ho71 hb87 ho96 ho110
   refine wp_region_lit ?_
   refine wl_val ha705 rfl rfl rfl (op_assign ha705 rfl rfl) ?_
   intro a706 ha706; clear ha705 a705
   refine wpList_nil ?_
   refine then_n ?_
   refine wp_ret ?_
   refine then_r ?_
   refine ret1 ha706 rfl rfl ?_
   clear ha706 a706
   exact ret_mk hx112 (congrArg Value.bool (by first | rfl | (exact absurd rfl c122) | (exact (by rw [hg7]; exact eqL_self _)) | (rw [hg7, eqL_self]) | (rw [hg1] at c122; cases c122) | (exact absurd hg5 c122) | (rw [hr1] at c122; cases c122) | (rw [c122, List.take_of_length_le (by omega), decide_eq_true hr2] at hf; cases hf) | (rw [hg1] at c8; cases c8) | (exact absurd hg5 c8) | (rw [hr1] at c8; cases c8) | (rw [c8, List.take_of_length_le (by omega), decide_eq_true hr2] at hf; cases hf) | (simp at c8; done) | omega))


end Go.Proofs.Ytkdnclpgijkceaa
