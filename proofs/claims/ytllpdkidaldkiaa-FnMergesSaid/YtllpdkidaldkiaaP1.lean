/- The law FnMerges, walked. -/
import Derived.Test.YtllpdkidaldkiaaR6
import Derived.Test.YtllpdkidaldkiaaP0
import Derived.Test.YtllpdkidaldkiaaW8
namespace Go.Proofs.Ytllpdkidaldkiaa
open Go Go.RowKit

theorem ext_of {α : Type} {R : α → α → Prop} (hi : ∀ x, ¬ R x x) (ha : ∀ x y, R x y → ¬ R y x) : ∀ {a b : List α}, a.Pairwise R → b.Pairwise R → (∀ z, z ∈ a ↔ z ∈ b) → a = b
  | [], [], _, _, _ => rfl
  | [], y :: ys, _, _, h => by have := (h y).2 (by simp); simp at this
  | x :: xs, [], _, _, h => by have := (h x).1 (by simp); simp at this
  | x :: xs, y :: ys, hx, hy, h => by
    rw [List.pairwise_cons] at hx hy
    have e : x = y := by
      rcases List.mem_cons.1 ((h x).1 (by simp)) with e | h1
      · exact e
      · rcases List.mem_cons.1 ((h y).2 (by simp)) with e | h2
        · exact e.symm
        · exact absurd (hx.1 y h2) (ha _ _ (hy.1 x h1))
    subst e
    rw [ext_of hi ha hx.2 hy.2 fun z => ?_]
    constructor
    · intro hz
      rcases List.mem_cons.1 ((h z).1 (by simp [hz])) with e | q
      · subst e; exact absurd (hx.1 z hz) (hi z)
      · exact q
    · intro hz
      rcases List.mem_cons.1 ((h z).2 (by simp [hz])) with e | q
      · subst e; exact absurd (hy.1 z hz) (hi z)
      · exact q
theorem allK_perm {A B : List (List Line)} (h : ∀ s, s ∈ A ↔ s ∈ B) : allK A = allK B := ups_ext (allK_up A) (allK_up B) fun z => by
  rw [allK_mem, allK_mem]
  constructor
  · rintro ⟨s, hs, r⟩; exact ⟨s, (h s).1 hs, r⟩
  · rintro ⟨s, hs, r⟩; exact ⟨s, (h s).2 hs, r⟩
theorem mgc_sym (x y z : Int) : mgc x y z = mgc y x z := by
  unfold mgc; rw [Bool.eq_iff_iff]; simp; omega
theorem mgv_sym {x y z : Int} (h : mgc x y z = false) : mgv x y z = mgv y x z := by
  unfold mgc at h; simp at h
  unfold mgv
  by_cases h1 : x = y
  · subst h1; rfl
  · by_cases h2 : y = z
    · subst h2; rw [if_pos (.inr rfl)]; split
      · omega
      · rfl
    · rw [if_neg (by omega)]; split
      · rfl
      · omega
theorem mgL_sym (X Y Z : List Line) : ∀ ks, mgL X Y Z ks = mgL Y X Z ks
  | [] => rfl
  | k :: ks => by
    rw [mgL, mgL, mgc_sym, mgL_sym X Y Z ks]
    split
    · rfl
    · rename_i h
      rw [mgv_sym (by rw [mgc_sym]; simpa using h)]
theorem mgC_sym (X Y Z : List Line) : ∀ ks, mgC X Y Z ks = mgC Y X Z ks
  | [] => rfl
  | k :: ks => by rw [mgC, mgC, mgc_sym, mgC_sym X Y Z ks]
theorem cmF_nil : ∀ xs : List Int, cmF [] xs = 0
  | [] => rfl
  | x :: xs => by rw [cmF, if_neg (by simp), cmF_nil xs]
theorem cm_sym {vs : List Ver} (h : ParOk vs) : ∀ (n : Nat) (a b : Int), a + b < n → cmV vs a b = cmV vs b a := by
  intro n
  induction n with
  | zero =>
    intro a b hab
    rcases Int.lt_or_le a 0 with q | q
    · unfold cmV; rw [wayV_neg q, cmF_nil]; rfl
    · unfold cmV; rw [wayV_neg (v := b) (by omega), cmF_nil]; rfl
  | succ n ih =>
    intro a b hab
    by_cases q : a < 0
    · unfold cmV; rw [wayV_neg q, cmF_nil]; rfl
    · by_cases q2 : b < 0
      · unfold cmV; rw [wayV_neg q2, cmF_nil]; rfl
      · rcases Int.lt_trichotomy a b with r | r | r
        · have hp := h b (by omega)
          rw [cmV_b h (by omega) r, cmV_a h (by omega) r]; exact ih _ _ (by omega)
        · subst r; rfl
        · have hp := h a (by omega)
          rw [cmV_a h (by omega) r, cmV_b h (by omega) r]; exact ih _ _ (by omega)
theorem cmV_sym {vs : List Ver} (h : veB vs = true) (a b : Int) : cmV vs a b = cmV vs b a := cm_sym (par_ok h) (a + b + 1).toNat a b (by omega)
theorem mgKs_sym {vs : List Ver} (h : veB vs = true) (a b : Int) : mgKs vs b a = mgKs vs a b := by
  unfold mgKs; rw [cmV_sym h b a]
  exact allK_perm fun s => by simp only [List.mem_cons, List.not_mem_nil, or_false]; constructor <;> rintro (e | e | e) <;> simp [e]
theorem mgLV_sym {vs : List Ver} (h : veB vs = true) (a b : Int) : mgLV vs b a = mgLV vs a b := by
  unfold mgLV; rw [mgKs_sym h, cmV_sym h b a, mgL_sym]
theorem mgCV_sym {vs : List Ver} (h : veB vs = true) (a b : Int) : mgCV vs b a = mgCV vs a b := by
  unfold mgCV; rw [mgKs_sym h, cmV_sym h b a, mgC_sym]
theorem cdV_sym (vs : List Ver) (a b : Int) : cdV vs b a = cdV vs a b := by unfold cdV; rw [Bool.and_comm]
theorem mv_sym {vs : List Ver} (h : veB vs = true) (a b : Int) : mvC vs b a = mvC vs a b ∧ mvL vs b a = mvL vs a b := by
  have e : mvC vs b a = mvC vs a b := by unfold mvC; rw [cdV_sym, mgLV_sym h, mgCV_sym h]
  exact ⟨e, by unfold mvL; rw [e, mgLV_sym h]⟩
theorem valV_mem {k : Str} : ∀ {ls : List Line}, valV k ls ≠ -1 → ∃ l ∈ ls, l.1 = k ∧ l.2 = valV k ls
  | [], h => absurd rfl h
  | l :: ls, h => by
    rw [valV] at h ⊢
    split at h
    · rename_i e; rw [if_pos e]; exact ⟨l, by simp, e, rfl⟩
    · rename_i e; rw [if_neg e]; obtain ⟨x, hx, h1⟩ := valV_mem h; exact ⟨x, by simp [hx], h1⟩
theorem valV_of {k : Str} {v : Int} : ∀ {ls : List Line}, ls.Pairwise (fun x y => x.1 < y.1) → (k, v) ∈ ls → valV k ls = v
  | l :: ls, h, hm => by
    have h' := List.pairwise_cons.1 h
    rw [valV]
    rcases List.mem_cons.1 hm with e | e
    · subst e; rw [if_pos rfl]
    · rw [if_neg fun q => by have := h'.1 _ e; rw [q] at this; exact str_irr _ this]; exact valV_of h'.2 e
theorem sh_up2 {ls : List Line} (h : shB ls = true) : ls.Pairwise fun x y => x.1 < y.1 := sh_up h
theorem mgL_has {X Y Z : List Line} {k : Str} : ∀ {ks : List Str}, k ∈ ks → mgc (valV k X) (valV k Y) (valV k Z) = false → mgv (valV k X) (valV k Y) (valV k Z) ≠ -1 → (k, mgv (valV k X) (valV k Y) (valV k Z)) ∈ mgL X Y Z ks
  | j :: ks, h, h1, h2 => by
    rw [mgL]
    rcases List.mem_cons.1 h with e | e
    · subst e; rw [if_neg (by rw [h1]; decide), if_neg h2]; simp
    · have := mgL_has e h1 h2
      split
      · exact this
      · split
        · exact this
        · exact List.mem_cons_of_mem _ this
/-- Merged with what it comes from, a sheet stays. -/
theorem mg_stay {X Y : List Line} (hY : shB Y = true) : mgL X Y X (allK [X, Y, X]) = Y ∧ mgC X Y X (allK [X, Y, X]) = [] := by
  have hc : ∀ k, mgc (valV k X) (valV k Y) (valV k X) = false := fun k => by unfold mgc; simp
  have hv : ∀ k, mgv (valV k X) (valV k Y) (valV k X) = valV k Y := fun k => by unfold mgv; split <;> omega
  constructor
  · refine ext_of (R := fun x y : Line => x.1 < y.1) (fun x => str_irr _) (fun x y h => str_as h) (mgL_up (allK_up _)) (sh_up hY) fun l => ?_
    constructor
    · intro hl
      obtain ⟨h1, h2, h3, h4⟩ := mgL_mem hl
      rw [hv] at h3
      obtain ⟨x, hx, e1, e2⟩ := valV_mem (k := l.1) (ls := Y) (by rw [← h3]; exact h2)
      have : x = l := Prod.ext e1 (by rw [e2, h3])
      rw [← this]; exact hx
    · intro hl
      have e := valV_of (k := l.1) (v := l.2) (sh_up hY) hl
      have hb := (shB_el hY l hl).2
      have := mgL_has (X := X) (Y := Y) (Z := X) (k := l.1) (ks := allK [X, Y, X]) (allK_mem.2 ⟨Y, by simp, l, hl, rfl⟩) (hc _) (by rw [hv, e]; omega)
      rw [hv, e] at this; exact this
  · have : ∀ ks, mgC X Y X ks = [] := by
      intro ks
      induction ks with
      | nil => rfl
      | cons k ks ih => rw [mgC, if_neg (by rw [hc]; decide), ih]
    exact this _
theorem mg_base {vs : List Ver} {a b : Int} (h : cdV vs a b = 0) (e : cmV vs a b = a) : mvC vs a b = 0 ∧ mvL vs a b = lnV vs b := by
  have hv := (cdV_ok h).1
  have hs := mg_stay (X := lnV vs a) (lnV_sh hv b)
  have e1 : mgLV vs a b = lnV vs b := by unfold mgLV mgKs; rw [e]; exact hs.1
  have e2 : mgCV vs a b = [] := by unfold mgCV mgKs; rw [e]; exact hs.2
  have h8 := shB_len (lnV_sh hv b)
  have e3 : mvC vs a b = 0 := by unfold mvC; rw [if_pos h, e2, e1, if_neg (by simp), if_neg (by omega)]
  exact ⟨e3, by unfold mvL; rw [if_pos e3, e1]⟩
theorem mgC_mem {X Y Z : List Line} {k : Str} : ∀ {ks : List Str}, k ∈ mgC X Y Z ks → k ∈ ks ∧ mgc (valV k X) (valV k Y) (valV k Z) = true
  | [], h => by cases h
  | j :: ks, h => by
    rw [mgC] at h; split at h
    · rcases List.mem_cons.1 h with e | e
      · subst e; exact ⟨by simp, ‹_›⟩
      · have := mgC_mem e; exact ⟨by simp [this.1], this.2⟩
    · have := mgC_mem h; exact ⟨by simp [this.1], this.2⟩
theorem kcL_has {X Y : List Line} {k : Str} : ∀ {ks : List Str}, k ∈ ks → valV k X ≠ valV k Y → k ∈ kcL X Y ks
  | j :: ks, h, h1 => by
    rw [kcL]
    rcases List.mem_cons.1 h with e | e
    · subst e; rw [if_neg h1]; simp
    · have := kcL_has e h1
      split
      · exact this
      · exact List.mem_cons_of_mem _ this
theorem cf_kc {vs : List Ver} {a b : Int} {k : Str} (h : k ∈ cfV vs a b) : k ∈ kcV vs a b := by
  unfold cfV at h; split at h
  · rename_i h0
    obtain ⟨h1, h2⟩ := mgC_mem h
    have hne : valV k (lnV vs a) ≠ valV k (lnV vs b) := fun e => by unfold mgc at h2; simp [e] at h2
    unfold kcV; rw [if_pos h0]
    refine kcL_has (allK_mem.2 ?_) hne
    by_cases q : valV k (lnV vs a) = -1
    · obtain ⟨l, hl, e, _⟩ := valV_mem (k := k) (ls := lnV vs b) (fun r => hne (by rw [q, r]))
      exact ⟨_, by simp, l, hl, e⟩
    · obtain ⟨l, hl, e, _⟩ := valV_mem (k := k) (ls := lnV vs a) q
      exact ⟨_, by simp, l, hl, e⟩
  · cases h
/-- What is known of two versions that may be merged. -/
theorem mg_all {vs : List Ver} {a b : Int} (h : cdV vs a b = 0) : veB vs = true ∧ (0 ≤ a ∧ a < (vs.length : Nat)) ∧ (0 ≤ b ∧ b < (vs.length : Nat)) ∧ (mvC vs a b = 5 ↔ (0 : Int) < ((cfV vs a b).length : Nat)) ∧ mvC vs b a = mvC vs a b ∧ mvL vs b a = mvL vs a b ∧ (cvV vs a b = a → mvC vs a b = 0 ∧ mvL vs a b = lnV vs b) ∧ (cvV vs a b = b → mvC vs a b = 0 ∧ mvL vs a b = lnV vs a) := by
  obtain ⟨h1, h2, h3⟩ := cdV_ok h
  have hs := mv_sym h1 a b
  have hc : cvV vs a b = cmV vs a b := by unfold cvV; rw [if_pos h]
  refine ⟨h1, in_bd h2, in_bd h3, ?_, hs.1, hs.2, fun e => mg_base h (hc ▸ e), fun e => ?_⟩
  · unfold mvC cfV; rw [if_pos h, if_pos h]
    by_cases q : 0 < (mgCV vs a b).length
    · rw [if_pos q]; constructor
      · intro _; omega
      · intro _; rfl
    · rw [if_neg q]
      constructor
      · intro r; split at r <;> cases r
      · intro r; omega
  · have := mg_base (vs := vs) (a := b) (b := a) (by rw [cdV_sym]; exact h) (by rw [cmV_sym h1, ← hc]; exact e)
    rw [hs.1, hs.2] at this; exact this
theorem bq {p q : Prop} [Decidable p] [Decidable q] (h : p ↔ q) (c : (decide p == decide q) = false) : False := by
  by_cases hq : q
  · rw [decide_eq_true hq, decide_eq_true (h.2 hq)] at c; cases c
  · rw [decide_eq_false hq, decide_eq_false (fun hp => hq (h.1 hp))] at c; cases c

set_option maxHeartbeats 8000000 in
set_option maxRecDepth 16000 in
theorem c_laws_FnMerges (w0 : World) (v_code : Value) (code : List UInt8) {S_code : Nat → Prop} (h_code : Rds shU8 S_code w0 v_code code) :
  Calls Try.prog 7 #[v_code] w0 (Ret w0 (fun v _ => v = .bool (true))) := by
 refine enter (N := 237) Try.func7 rfl rfl rfl ?_
 intro a0 ha0
 have hx0 := Ext.rfl' w0
 have hl_code := h_code.length_le
 refine wp_seq ?_
 refine wp_region_lit ?_
 refine wl_val ha0 rfl rfl rfl (op_assign ha0 rfl rfl) ?_
 intro a1 ha1; clear ha0 a0
 refine wpList_nil ?_
 refine then_n ?_
 refine wp_seq ?_
 refine wp_seq ?_
 refine wp_region_lit ?_
 refine wl_val ha1 rfl rfl rfl (op_move ha1 rfl rfl) ?_
 intro a2 ha2; clear ha1 a1
 refine wl_callR ha2 rfl rfl rfl (op_call ha2 rfl cb24 rfl) (c_laws_big _ v_code code (h_code.ext pos_shU8 hx0)) ?_
 rintro v3 w4 he5 rfl a6 ha6; clear ha2 a2
 have hx7 := hx0.trans' he5
 have hzhx7 := he5.size
 refine wpList_nil ?_
 refine then_n ?_
 rcases Bool.eq_false_or_eq_true (decide (4096 < code.length)) with c8 | c8
 ·
  rw [c8] at ha6
  refine cond_t ha6 rfl ?_
  refine wp_seq ?_
  refine wp_region_lit ?_
  refine wl_val ha6 rfl rfl rfl (op_assign ha6 rfl rfl) ?_
  intro a9 ha9; clear ha6 a6
  refine wpList_nil ?_
  refine then_n ?_
  refine wp_ret ?_
  refine then_r ?_
  refine ret1 ha9 rfl rfl ?_
  clear ha9 a9
  exact ret_mk hx7 (congrArg Value.bool (by first | rfl | (simp at c8; done) | omega | omega))
 ·
  rw [c8] at ha6
  refine cond_f ha6 rfl ?_
  refine wp_skip ?_
  refine then_n ?_
  refine wp_seq ?_
  refine wp_region_lit ?_
  refine wl_val ha6 rfl rfl rfl (op_move ha6 rfl rfl) ?_
  intro a10 ha10; clear ha6 a6
  refine wl_callR ha10 rfl rfl rfl (op_call ha10 rfl cb42 rfl) (c_spec_DrawMergeVersions _ v_code code (h_code.ext pos_shU8 hx7)) ?_
  rintro v11 w12 he13 ⟨q14, q15, q16, hq17, hq18, hq19, hq20, ⟨u21, z23, rfl, ho22, hN24, hE25⟩⟩ a26 ha26; clear ha10 a10
  have hx27 := hx7.trans' he13
  have hzhx27 := he13.size
  have hlhE25 := absLen hE25
  refine wl_val ha26 rfl rfl rfl (op_move ha26 rfl rfl) ?_
  intro a28 ha28; clear ha26 a26
  refine wl_val ha28 rfl rfl rfl (op_extract ha28 rfl rfl rfl) ?_
  intro a29 ha29; clear ha28 a28
  refine wl_val ha29 rfl rfl rfl (op_extract ha29 rfl rfl rfl) ?_
  intro a30 ha30; clear ha29 a29
  refine wl_val ha30 rfl rfl rfl (op_extract ha30 rfl rfl rfl) ?_
  intro a31 ha31; clear ha30 a30
  refine wl_val ha31 rfl rfl rfl (op_assign ha31 rfl rfl) ?_
  intro a32 ha32; clear ha31 a31
  refine wl_val ha32 rfl rfl rfl (op_assign ha32 rfl rfl) ?_
  intro a33 ha33; clear ha32 a32
  refine wl_val ha33 rfl rfl rfl (op_assign ha33 rfl rfl) ?_
  intro a34 ha34; clear ha33 a33
  refine wpList_nil ?_
  refine then_n ?_
  refine wp_seq ?_
  refine wp_region_lit ?_
  refine wl_val ha34 rfl rfl rfl (op_move ha34 rfl rfl) ?_
  intro a35 ha35; clear ha34 a34
  refine wl_val ha35 rfl rfl rfl (op_move ha35 rfl rfl) ?_
  intro a36 ha36; clear ha35 a35
  refine wl_val ha36 rfl rfl rfl (op_move ha36 rfl rfl) ?_
  intro a37 ha37; clear ha36 a36
  refine wl_callR ha37 rfl rfl rfl (op_call ha37 rfl cb18 rfl) (c_impl_MergeVersions _ u21 ((q14)) (q15 : Int) (q16 : Int) ((rds_shVerN (ho22.fin (by omega) (by omega) (by omega)) hN24).cast hE25)) ?_
  rintro v38 w39 he40 ⟨v41, rfl, ho42⟩ a43 ha43; clear ha37 a37
  have hx44 := hx27.trans' he40
  have hzhx44 := he40.size
  replace ho22 := ho22.ext he40
  replace hN24 := hN24.ext he40
  refine wl_val ha43 rfl rfl rfl (op_move ha43 rfl rfl) ?_
  intro a45 ha45; clear ha43 a43
  refine wl_val ha45 rfl rfl rfl (op_extract ha45 rfl rfl rfl) ?_
  intro a46 ha46; clear ha45 a45
  refine wl_val ha46 rfl rfl rfl (op_extract ha46 rfl rfl rfl) ?_
  intro a47 ha47; clear ha46 a46
  refine wl_val ha47 rfl rfl rfl (op_assign ha47 rfl rfl) ?_
  intro a48 ha48; clear ha47 a47
  refine wl_val ha48 rfl rfl rfl (op_assign ha48 rfl rfl) ?_
  intro a49 ha49; clear ha48 a48
  refine wpList_nil ?_
  refine then_n ?_
  refine wp_seq ?_
  refine wp_region_lit ?_
  refine wl_val ha49 rfl rfl rfl (op_move ha49 rfl rfl) ?_
  intro a50 ha50; clear ha49 a49
  refine wl_val ha50 rfl rfl rfl (op_move ha50 rfl rfl) ?_
  intro a51 ha51; clear ha50 a50
  refine wl_val ha51 rfl rfl rfl (op_move ha51 rfl rfl) ?_
  intro a52 ha52; clear ha51 a51
  refine wl_callR ha52 rfl rfl rfl (op_call ha52 rfl cb17 rfl) (c_spec_MergeVersions _ u21 ((q14)) (q15 : Int) (q16 : Int) ((rds_shVerN (ho22.fin (by omega) (by omega) (by omega)) hN24).cast hE25)) ?_
  rintro v53 w54 he55 ⟨v56, rfl, ho57⟩ a58 ha58; clear ha52 a52
  have hx59 := hx44.trans' he55
  have hzhx59 := he55.size
  replace ho22 := ho22.ext he55
  replace hN24 := hN24.ext he55
  replace ho42 := ho42.ext he55
  refine wl_val ha58 rfl rfl rfl (op_move ha58 rfl rfl) ?_
  intro a60 ha60; clear ha58 a58
  refine wl_val ha60 rfl rfl rfl (op_extract ha60 rfl rfl rfl) ?_
  intro a61 ha61; clear ha60 a60
  refine wl_val ha61 rfl rfl rfl (op_extract ha61 rfl rfl rfl) ?_
  intro a62 ha62; clear ha61 a61
  refine wl_val ha62 rfl rfl rfl (op_assign ha62 rfl rfl) ?_
  intro a63 ha63; clear ha62 a62
  refine wl_val ha63 rfl rfl rfl (op_assign ha63 rfl rfl) ?_
  intro a64 ha64; clear ha63 a63
  refine wpList_nil ?_
  refine then_n ?_
  refine wp_seq ?_
  refine wp_region_lit ?_
  refine wl_val ha64 rfl rfl rfl (op_move ha64 rfl rfl) ?_
  intro a65 ha65; clear ha64 a64
  refine wl_val ha65 rfl rfl rfl (op_move ha65 rfl rfl) ?_
  intro a66 ha66; clear ha65 a65
  refine wl_val ha66 rfl rfl rfl (op_move ha66 rfl rfl) ?_
  intro a67 ha67; clear ha66 a66
  refine wl_callR ha67 rfl rfl rfl (op_call ha67 rfl cb23 rfl) (c_impl_ConflictsOf _ u21 ((q14)) (q15 : Int) (q16 : Int) ((rds_shVerN (ho22.fin (by omega) (by omega) (by omega)) hN24).cast hE25)) ?_
  rintro v68 w69 he70 ⟨v71, rfl, ho72⟩ a73 ha73; clear ha67 a67
  have hx74 := hx59.trans' he70
  have hzhx74 := he70.size
  replace ho22 := ho22.ext he70
  replace hN24 := hN24.ext he70
  replace ho42 := ho42.ext he70
  replace ho57 := ho57.ext he70
  refine wl_val ha73 rfl rfl rfl (op_move ha73 rfl rfl) ?_
  intro a75 ha75; clear ha73 a73
  refine wl_val ha75 rfl rfl rfl (op_extract ha75 rfl rfl rfl) ?_
  intro a76 ha76; clear ha75 a75
  refine wl_val ha76 rfl rfl rfl (op_extract ha76 rfl rfl rfl) ?_
  intro a77 ha77; clear ha76 a76
  refine wl_val ha77 rfl rfl rfl (op_assign ha77 rfl rfl) ?_
  intro a78 ha78; clear ha77 a77
  refine wl_val ha78 rfl rfl rfl (op_assign ha78 rfl rfl) ?_
  intro a79 ha79; clear ha78 a78
  refine wpList_nil ?_
  refine then_n ?_
  refine wp_seq ?_
  refine wp_region_lit ?_
  refine wl_val ha79 rfl rfl rfl (op_move ha79 rfl rfl) ?_
  intro a80 ha80; clear ha79 a79
  refine wl_val ha80 rfl rfl rfl (op_move ha80 rfl rfl) ?_
  intro a81 ha81; clear ha80 a80
  refine wl_val ha81 rfl rfl rfl (op_move ha81 rfl rfl) ?_
  intro a82 ha82; clear ha81 a81
  refine wl_callR ha82 rfl rfl rfl (op_call ha82 rfl cb22 rfl) (c_spec_ConflictsOf _ u21 ((q14)) (q15 : Int) (q16 : Int) ((rds_shVerN (ho22.fin (by omega) (by omega) (by omega)) hN24).cast hE25)) ?_
  rintro v83 w84 he85 ⟨v86, rfl, ho87⟩ a88 ha88; clear ha82 a82
  have hx89 := hx74.trans' he85
  have hzhx89 := he85.size
  replace ho22 := ho22.ext he85
  replace hN24 := hN24.ext he85
  replace ho42 := ho42.ext he85
  replace ho57 := ho57.ext he85
  replace ho72 := ho72.ext he85
  refine wl_val ha88 rfl rfl rfl (op_move ha88 rfl rfl) ?_
  intro a90 ha90; clear ha88 a88
  refine wl_val ha90 rfl rfl rfl (op_extract ha90 rfl rfl rfl) ?_
  intro a91 ha91; clear ha90 a90
  refine wl_val ha91 rfl rfl rfl (op_extract ha91 rfl rfl rfl) ?_
  intro a92 ha92; clear ha91 a91
  refine wl_val ha92 rfl rfl rfl (op_assign ha92 rfl rfl) ?_
  intro a93 ha93; clear ha92 a92
  refine wl_val ha93 rfl rfl rfl (op_assign ha93 rfl rfl) ?_
  intro a94 ha94; clear ha93 a93
  refine wpList_nil ?_
  refine then_n ?_
  refine wp_seq ?_
  refine wp_region_lit ?_
  refine wl_val ha94 rfl rfl rfl (op_move ha94 rfl rfl) ?_
  intro a95 ha95; clear ha94 a94
  refine wl_val ha95 rfl rfl rfl (op_move ha95 rfl rfl) ?_
  intro a96 ha96; clear ha95 a95
  refine wl_val ha96 rfl rfl rfl (op_move ha96 rfl rfl) ?_
  intro a97 ha97; clear ha96 a96
  refine wl_callR ha97 rfl rfl rfl (op_call ha97 rfl cb43 rfl) (c_impl_CommonVersion _ u21 ((q14)) (q15 : Int) (q16 : Int) ((rds_shVerN (ho22.fin (by omega) (by omega) (by omega)) hN24).cast hE25)) ?_
  rintro v98 w99 he100 rfl a101 ha101; clear ha97 a97
  have hx102 := hx89.trans' he100
  have hzhx102 := he100.size
  replace ho22 := ho22.ext he100
  replace hN24 := hN24.ext he100
  replace ho42 := ho42.ext he100
  replace ho57 := ho57.ext he100
  replace ho72 := ho72.ext he100
  replace ho87 := ho87.ext he100
  refine wl_val ha101 rfl rfl rfl (op_move ha101 rfl rfl) ?_
  intro a103 ha103; clear ha101 a101
  refine wl_val ha103 rfl rfl rfl (op_extract ha103 rfl rfl rfl) ?_
  intro a104 ha104; clear ha103 a103
  refine wl_val ha104 rfl rfl rfl (op_extract ha104 rfl rfl rfl) ?_
  intro a105 ha105; clear ha104 a104
  refine wl_val ha105 rfl rfl rfl (op_assign ha105 rfl rfl) ?_
  intro a106 ha106; clear ha105 a105
  refine wl_val ha106 rfl rfl rfl (op_assign ha106 rfl rfl) ?_
  intro a107 ha107; clear ha106 a106
  refine wpList_nil ?_
  refine then_n ?_
  refine wp_seq ?_
  refine wp_region_lit ?_
  refine wl_val ha107 rfl rfl rfl (op_move ha107 rfl rfl) ?_
  intro a108 ha108; clear ha107 a107
  refine wl_val ha108 rfl rfl rfl (op_move ha108 rfl rfl) ?_
  intro a109 ha109; clear ha108 a108
  refine wl_val ha109 rfl rfl rfl (op_move ha109 rfl rfl) ?_
  intro a110 ha110; clear ha109 a109
  refine wl_callR ha110 rfl rfl rfl (op_call ha110 rfl cb44 rfl) (c_spec_CommonVersion _ u21 ((q14)) (q15 : Int) (q16 : Int) ((rds_shVerN (ho22.fin (by omega) (by omega) (by omega)) hN24).cast hE25)) ?_
  rintro v111 w112 he113 rfl a114 ha114; clear ha110 a110
  have hx115 := hx102.trans' he113
  have hzhx115 := he113.size
  replace ho22 := ho22.ext he113
  replace hN24 := hN24.ext he113
  replace ho42 := ho42.ext he113
  replace ho57 := ho57.ext he113
  replace ho72 := ho72.ext he113
  replace ho87 := ho87.ext he113
  refine wl_val ha114 rfl rfl rfl (op_move ha114 rfl rfl) ?_
  intro a116 ha116; clear ha114 a114
  refine wl_val ha116 rfl rfl rfl (op_extract ha116 rfl rfl rfl) ?_
  intro a117 ha117; clear ha116 a116
  refine wl_val ha117 rfl rfl rfl (op_extract ha117 rfl rfl rfl) ?_
  intro a118 ha118; clear ha117 a117
  refine wl_val ha118 rfl rfl rfl (op_assign ha118 rfl rfl) ?_
  intro a119 ha119; clear ha118 a118
  refine wl_val ha119 rfl rfl rfl (op_assign ha119 rfl rfl) ?_
  intro a120 ha120; clear ha119 a119
  refine wpList_nil ?_
  refine then_n ?_
  refine wp_seq ?_
  refine wp_region_lit ?_
  refine wl_val ha120 rfl rfl rfl (op_move ha120 rfl rfl) ?_
  intro a121 ha121; clear ha120 a120
  refine wl_val ha121 rfl rfl rfl (op_move ha121 rfl rfl) ?_
  intro a122 ha122; clear ha121 a121
  refine wl_val ha122 rfl rfl rfl (op_move ha122 rfl rfl) ?_
  intro a123 ha123; clear ha122 a122
  refine wl_callR ha123 rfl rfl rfl (op_call ha123 rfl cb11 rfl) (c_impl_KeysChanged _ u21 ((q14)) (q15 : Int) (q16 : Int) ((rds_shVerN (ho22.fin (by omega) (by omega) (by omega)) hN24).cast hE25)) ?_
  rintro v124 w125 he126 ⟨v127, rfl, ho128⟩ a129 ha129; clear ha123 a123
  have hx130 := hx115.trans' he126
  have hzhx130 := he126.size
  replace ho22 := ho22.ext he126
  replace hN24 := hN24.ext he126
  replace ho42 := ho42.ext he126
  replace ho57 := ho57.ext he126
  replace ho72 := ho72.ext he126
  replace ho87 := ho87.ext he126
  refine wl_val ha129 rfl rfl rfl (op_move ha129 rfl rfl) ?_
  intro a131 ha131; clear ha129 a129
  refine wl_val ha131 rfl rfl rfl (op_extract ha131 rfl rfl rfl) ?_
  intro a132 ha132; clear ha131 a131
  refine wl_val ha132 rfl rfl rfl (op_extract ha132 rfl rfl rfl) ?_
  intro a133 ha133; clear ha132 a132
  refine wl_val ha133 rfl rfl rfl (op_assign ha133 rfl rfl) ?_
  intro a134 ha134; clear ha133 a133
  refine wl_val ha134 rfl rfl rfl (op_assign ha134 rfl rfl) ?_
  intro a135 ha135; clear ha134 a134
  refine wpList_nil ?_
  refine then_n ?_
  refine wp_seq ?_
  refine wp_region_lit ?_
  refine wl_val ha135 rfl rfl rfl (op_move ha135 rfl rfl) ?_
  intro a136 ha136; clear ha135 a135
  refine wl_val ha136 rfl rfl rfl (op_move ha136 rfl rfl) ?_
  intro a137 ha137; clear ha136 a136
  refine wl_val ha137 rfl rfl rfl (op_move ha137 rfl rfl) ?_
  intro a138 ha138; clear ha137 a137
  refine wl_callR ha138 rfl rfl rfl (op_call ha138 rfl cb9 rfl) (c_spec_KeysChanged _ u21 ((q14)) (q15 : Int) (q16 : Int) ((rds_shVerN (ho22.fin (by omega) (by omega) (by omega)) hN24).cast hE25)) ?_
  rintro v139 w140 he141 ⟨v142, rfl, ho143⟩ a144 ha144; clear ha138 a138
  have hx145 := hx130.trans' he141
  have hzhx145 := he141.size
  replace ho22 := ho22.ext he141
  replace hN24 := hN24.ext he141
  replace ho42 := ho42.ext he141
  replace ho57 := ho57.ext he141
  replace ho72 := ho72.ext he141
  replace ho87 := ho87.ext he141
  replace ho128 := ho128.ext he141
  refine wl_val ha144 rfl rfl rfl (op_move ha144 rfl rfl) ?_
  intro a146 ha146; clear ha144 a144
  refine wl_val ha146 rfl rfl rfl (op_extract ha146 rfl rfl rfl) ?_
  intro a147 ha147; clear ha146 a146
  refine wl_val ha147 rfl rfl rfl (op_extract ha147 rfl rfl rfl) ?_
  intro a148 ha148; clear ha147 a147
  refine wl_val ha148 rfl rfl rfl (op_assign ha148 rfl rfl) ?_
  intro a149 ha149; clear ha148 a148
  refine wl_val ha149 rfl rfl rfl (op_assign ha149 rfl rfl) ?_
  intro a150 ha150; clear ha149 a149
  refine wpList_nil ?_
  refine then_n ?_
  refine wp_seq ?_
  refine wp_region_lit ?_
  refine wl_val ha150 rfl rfl rfl (op_move ha150 rfl rfl) ?_
  intro a151 ha151; clear ha150 a150
  refine wl_callR ha151 rfl rfl rfl (op_call ha151 rfl cb45 rfl) (c_spec_DrawValueOf _ v_code code (h_code.ext pos_shU8 hx145)) ?_
  rintro v152 w153 he154 ⟨q155, q156, q157, hq158, hq159, hq160, hq161, ⟨u162, z164, rfl, ho163, hN165, hE166⟩⟩ a167 ha167; clear ha151 a151
  have hx168 := hx145.trans' he154
  have hzhx168 := he154.size
  replace ho22 := ho22.ext he154
  replace hN24 := hN24.ext he154
  replace ho42 := ho42.ext he154
  replace ho57 := ho57.ext he154
  replace ho72 := ho72.ext he154
  replace ho87 := ho87.ext he154
  replace ho128 := ho128.ext he154
  replace ho143 := ho143.ext he154
  have hlhE166 := absLen hE166
  refine wl_val ha167 rfl rfl rfl (op_move ha167 rfl rfl) ?_
  intro a169 ha169; clear ha167 a167
  refine wl_val ha169 rfl rfl rfl (op_extract ha169 rfl rfl rfl) ?_
  intro a170 ha170; clear ha169 a169
  refine wl_val ha170 rfl rfl rfl (op_extract ha170 rfl rfl rfl) ?_
  intro a171 ha171; clear ha170 a170
  refine wl_val ha171 rfl rfl rfl (op_extract ha171 rfl rfl rfl) ?_
  intro a172 ha172; clear ha171 a171
  refine wl_val ha172 rfl rfl rfl (op_assign ha172 rfl rfl) ?_
  intro a173 ha173; clear ha172 a172
  refine wl_val ha173 rfl rfl rfl (op_assign ha173 rfl rfl) ?_
  intro a174 ha174; clear ha173 a173
  refine wl_val ha174 rfl rfl rfl (op_assign ha174 rfl rfl) ?_
  intro a175 ha175; clear ha174 a174
  refine wpList_nil ?_
  refine then_n ?_
  refine wp_seq ?_
  refine wp_region_lit ?_
  refine wl_val ha175 rfl rfl rfl (op_move ha175 rfl rfl) ?_
  intro a176 ha176; clear ha175 a175
  refine wl_val ha176 rfl rfl rfl (op_move ha176 rfl rfl) ?_
  intro a177 ha177; clear ha176 a176
  refine wl_val ha177 rfl rfl rfl (op_move ha177 rfl rfl) ?_
  intro a178 ha178; clear ha177 a177
  refine wl_callR ha178 rfl rfl rfl (op_call ha178 rfl cb41 rfl) (c_impl_ValueOf _ u162 ((q155)) (q156 : Int) ((q157)) ((rds_shVerN (ho163.fin (by omega) (by omega) (by omega)) hN165).cast hE166) (by first | assumption | omega | (simp; done) | (simp; omega))) ?_
  rintro v179 w180 he181 rfl a182 ha182; clear ha178 a178
  have hx183 := hx168.trans' he181
  have hzhx183 := he181.size
  replace ho22 := ho22.ext he181
  replace hN24 := hN24.ext he181
  replace ho42 := ho42.ext he181
  replace ho57 := ho57.ext he181
  replace ho72 := ho72.ext he181
  replace ho87 := ho87.ext he181
  replace ho128 := ho128.ext he181
  replace ho143 := ho143.ext he181
  replace ho163 := ho163.ext he181
  replace hN165 := hN165.ext he181
  refine wl_val ha182 rfl rfl rfl (op_move ha182 rfl rfl) ?_
  intro a184 ha184; clear ha182 a182
  refine wl_val ha184 rfl rfl rfl (op_extract ha184 rfl rfl rfl) ?_
  intro a185 ha185; clear ha184 a184
  refine wl_val ha185 rfl rfl rfl (op_extract ha185 rfl rfl rfl) ?_
  intro a186 ha186; clear ha185 a185
  refine wl_val ha186 rfl rfl rfl (op_assign ha186 rfl rfl) ?_
  intro a187 ha187; clear ha186 a186
  refine wl_val ha187 rfl rfl rfl (op_assign ha187 rfl rfl) ?_
  intro a188 ha188; clear ha187 a187
  refine wpList_nil ?_
  refine then_n ?_
  refine wp_seq ?_
  refine wp_region_lit ?_
  refine wl_val ha188 rfl rfl rfl (op_move ha188 rfl rfl) ?_
  intro a189 ha189; clear ha188 a188
  refine wl_val ha189 rfl rfl rfl (op_move ha189 rfl rfl) ?_
  intro a190 ha190; clear ha189 a189
  refine wl_val ha190 rfl rfl rfl (op_move ha190 rfl rfl) ?_
  intro a191 ha191; clear ha190 a190
  refine wl_callR ha191 rfl rfl rfl (op_call ha191 rfl cb46 rfl) (c_spec_ValueOf _ u162 ((q155)) (q156 : Int) ((q157)) ((rds_shVerN (ho163.fin (by omega) (by omega) (by omega)) hN165).cast hE166) (by first | assumption | omega | (simp; done) | (simp; omega))) ?_
  rintro v192 w193 he194 rfl a195 ha195; clear ha191 a191
  have hx196 := hx183.trans' he194
  have hzhx196 := he194.size
  replace ho22 := ho22.ext he194
  replace hN24 := hN24.ext he194
  replace ho42 := ho42.ext he194
  replace ho57 := ho57.ext he194
  replace ho72 := ho72.ext he194
  replace ho87 := ho87.ext he194
  replace ho128 := ho128.ext he194
  replace ho143 := ho143.ext he194
  replace ho163 := ho163.ext he194
  replace hN165 := hN165.ext he194
  refine wl_val ha195 rfl rfl rfl (op_move ha195 rfl rfl) ?_
  intro a197 ha197; clear ha195 a195
  refine wl_val ha197 rfl rfl rfl (op_extract ha197 rfl rfl rfl) ?_
  intro a198 ha198; clear ha197 a197
  refine wl_val ha198 rfl rfl rfl (op_extract ha198 rfl rfl rfl) ?_
  intro a199 ha199; clear ha198 a198
  refine wl_val ha199 rfl rfl rfl (op_assign ha199 rfl rfl) ?_
  intro a200 ha200; clear ha199 a199
  refine wl_val ha200 rfl rfl rfl (op_assign ha200 rfl rfl) ?_
  intro a201 ha201; clear ha200 a200
  refine wpList_nil ?_
  refine then_n ?_
  refine wp_seq ?_
  refine wp_seq ?_
  clear ho163 hN165
  refine wp_region_lit ?_
  refine wl_val ha201 rfl rfl rfl (op_move ha201 rfl rfl) ?_
  intro a202 ha202; clear ha201 a201
  refine wl_val ha202 rfl rfl rfl (op_move ha202 rfl rfl) ?_
  intro a203 ha203; clear ha202 a202
  refine wl_val ha203 rfl rfl rfl ((op_neq ha203 rfl rfl rfl).to (congrArg Value.bool decide_not)) ?_
  intro a204 ha204; clear ha203 a203
  refine wl_val ha204 rfl rfl rfl (op_move ha204 rfl rfl) ?_
  intro a205 ha205; clear ha204 a204
  by_cases c206 : (mvC ((q14)) (q15 : Int) (q16 : Int) : Int) = (mvC ((q14)) (q15 : Int) (q16 : Int) : Int)
  ·
   rw [decide_eq_true c206] at ha205
   refine wl_val ha205 rfl rfl rfl (op_move ha205 rfl rfl) ?_
   intro a207 ha207; clear ha205 a205
   refine wl_val ha207 rfl rfl rfl (op_move ha207 rfl rfl) ?_
   intro a208 ha208; clear ha207 a207
   refine wl_callR ha208 rfl rfl rfl (op_call ha208 rfl cb39 rfl) (c_laws_likeLines _ v41 ((mvL ((q14)) (q15 : Int) (q16 : Int))) v56 ((mvL ((q14)) (q15 : Int) (q16 : Int))) (ho42.rds pos_shLine) (ho57.rds pos_shLine)) ?_
   rintro v209 w210 he211 rfl a212 ha212; clear ha208 a208
   have hx213 := hx196.trans' he211
   have hzhx213 := he211.size
   replace ho22 := ho22.ext he211
   replace hN24 := hN24.ext he211
   replace ho42 := ho42.ext he211
   replace ho57 := ho57.ext he211
   replace ho72 := ho72.ext he211
   replace ho87 := ho87.ext he211
   replace ho128 := ho128.ext he211
   replace ho143 := ho143.ext he211
   refine wl_val ha212 rfl rfl rfl (op_not ha212 rfl rfl) ?_
   intro a214 ha214; clear ha212 a212
   refine wl_val ha214 rfl rfl rfl (op_pick_f ha214 rfl rfl rfl) ?_
   intro a215 ha215; clear ha214 a214
   refine wl_val ha215 rfl rfl rfl (op_move ha215 rfl rfl) ?_
   intro a216 ha216; clear ha215 a215
   rcases Bool.eq_false_or_eq_true (eqL ((mvL ((q14)) (q15 : Int) (q16 : Int))) ((mvL ((q14)) (q15 : Int) (q16 : Int)))) with c217 | c217
   ·
    rw [c217] at ha216
    refine wl_val ha216 rfl rfl rfl (op_move ha216 rfl rfl) ?_
    intro a218 ha218; clear ha216 a216
    refine wl_val ha218 rfl rfl rfl (op_move ha218 rfl rfl) ?_
    intro a219 ha219; clear ha218 a218
    refine wl_val ha219 rfl rfl rfl ((op_neq ha219 rfl rfl rfl).to (congrArg Value.bool decide_not)) ?_
    intro a220 ha220; clear ha219 a219
    refine wl_val ha220 rfl rfl rfl (op_pick_f ha220 rfl rfl rfl) ?_
    intro a221 ha221; clear ha220 a220
    refine wl_val ha221 rfl rfl rfl (op_move ha221 rfl rfl) ?_
    intro a222 ha222; clear ha221 a221
    by_cases c223 : (cdV ((q14)) (q15 : Int) (q16 : Int) : Int) = (cdV ((q14)) (q15 : Int) (q16 : Int) : Int)
    ·
     rw [decide_eq_true c223] at ha222
     refine wl_val ha222 rfl rfl rfl (op_move ha222 rfl rfl) ?_
     intro a224 ha224; clear ha222 a222
     refine wl_val ha224 rfl rfl rfl (op_move ha224 rfl rfl) ?_
     intro a225 ha225; clear ha224 a224
     refine wl_callR ha225 rfl rfl rfl (op_call ha225 rfl cb47 rfl) (c_laws_likeTexts _ v71 ((cfV ((q14)) (q15 : Int) (q16 : Int))) v86 ((cfV ((q14)) (q15 : Int) (q16 : Int))) (ho72.rds pos_shStr) (ho87.rds pos_shStr)) ?_
     rintro v226 w227 he228 rfl a229 ha229; clear ha225 a225
     have hx230 := hx213.trans' he228
     have hzhx230 := he228.size
     replace ho22 := ho22.ext he228
     replace hN24 := hN24.ext he228
     replace ho42 := ho42.ext he228
     replace ho57 := ho57.ext he228
     replace ho72 := ho72.ext he228
     replace ho87 := ho87.ext he228
     replace ho128 := ho128.ext he228
     replace ho143 := ho143.ext he228
     refine wl_val ha229 rfl rfl rfl (op_not ha229 rfl rfl) ?_
     intro a231 ha231; clear ha229 a229
     refine wl_val ha231 rfl rfl rfl (op_pick_f ha231 rfl rfl rfl) ?_
     intro a232 ha232; clear ha231 a231
     refine wl_val ha232 rfl rfl rfl (op_move ha232 rfl rfl) ?_
     intro a233 ha233; clear ha232 a232
     rcases Bool.eq_false_or_eq_true (eqL ((cfV ((q14)) (q15 : Int) (q16 : Int))) ((cfV ((q14)) (q15 : Int) (q16 : Int)))) with c234 | c234
     ·
      rw [c234] at ha233
      refine wl_val ha233 rfl rfl rfl (op_move ha233 rfl rfl) ?_
      intro a235 ha235; clear ha233 a233
      refine wl_val ha235 rfl rfl rfl (op_move ha235 rfl rfl) ?_
      intro a236 ha236; clear ha235 a235
      refine wl_val ha236 rfl rfl rfl ((op_neq ha236 rfl rfl rfl).to (congrArg Value.bool decide_not)) ?_
      intro a237 ha237; clear ha236 a236
      refine wl_val ha237 rfl rfl rfl (op_pick_f ha237 rfl rfl rfl) ?_
      intro a238 ha238; clear ha237 a237
      refine wl_val ha238 rfl rfl rfl (op_move ha238 rfl rfl) ?_
      intro a239 ha239; clear ha238 a238
      rw [decide_eq_true c223] at ha239
      refine wl_val ha239 rfl rfl rfl (op_move ha239 rfl rfl) ?_
      intro a240 ha240; clear ha239 a239
      refine wl_val ha240 rfl rfl rfl (op_move ha240 rfl rfl) ?_
      intro a241 ha241; clear ha240 a240
      refine wl_val ha241 rfl rfl rfl ((op_neq ha241 rfl rfl rfl).to (congrArg Value.bool decide_not)) ?_
      intro a242 ha242; clear ha241 a241
      refine wl_val ha242 rfl rfl rfl (op_pick_f ha242 rfl rfl rfl) ?_
      intro a243 ha243; clear ha242 a242
      refine wl_val ha243 rfl rfl rfl (op_move ha243 rfl rfl) ?_
      intro a244 ha244; clear ha243 a243
      by_cases c245 : (cvV ((q14)) (q15 : Int) (q16 : Int) : Int) = (cvV ((q14)) (q15 : Int) (q16 : Int) : Int)
      ·
       rw [decide_eq_true c245] at ha244
       refine wl_val ha244 rfl rfl rfl (op_move ha244 rfl rfl) ?_
       intro a246 ha246; clear ha244 a244
       refine wl_val ha246 rfl rfl rfl (op_move ha246 rfl rfl) ?_
       intro a247 ha247; clear ha246 a246
       refine wl_val ha247 rfl rfl rfl ((op_neq ha247 rfl rfl rfl).to (congrArg Value.bool decide_not)) ?_
       intro a248 ha248; clear ha247 a247
       refine wl_val ha248 rfl rfl rfl (op_pick_f ha248 rfl rfl rfl) ?_
       intro a249 ha249; clear ha248 a248
       refine wl_val ha249 rfl rfl rfl (op_move ha249 rfl rfl) ?_
       intro a250 ha250; clear ha249 a249
       rw [decide_eq_true c223] at ha250
       refine wl_val ha250 rfl rfl rfl (op_move ha250 rfl rfl) ?_
       intro a251 ha251; clear ha250 a250
       refine wl_val ha251 rfl rfl rfl (op_move ha251 rfl rfl) ?_
       intro a252 ha252; clear ha251 a251
       refine wl_callR ha252 rfl rfl rfl (op_call ha252 rfl cb47 rfl) (c_laws_likeTexts _ v127 ((kcV ((q14)) (q15 : Int) (q16 : Int))) v142 ((kcV ((q14)) (q15 : Int) (q16 : Int))) (ho128.rds pos_shStr) (ho143.rds pos_shStr)) ?_
       rintro v253 w254 he255 rfl a256 ha256; clear ha252 a252
       have hx257 := hx230.trans' he255
       have hzhx257 := he255.size
       replace ho22 := ho22.ext he255
       replace hN24 := hN24.ext he255
       replace ho42 := ho42.ext he255
       replace ho57 := ho57.ext he255
       replace ho72 := ho72.ext he255
       replace ho87 := ho87.ext he255
       replace ho128 := ho128.ext he255
       replace ho143 := ho143.ext he255
       refine wl_val ha256 rfl rfl rfl (op_not ha256 rfl rfl) ?_
       intro a258 ha258; clear ha256 a256
       refine wl_val ha258 rfl rfl rfl (op_pick_f ha258 rfl rfl rfl) ?_
       intro a259 ha259; clear ha258 a258
       refine wl_val ha259 rfl rfl rfl (op_move ha259 rfl rfl) ?_
       intro a260 ha260; clear ha259 a259
       rcases Bool.eq_false_or_eq_true (eqL ((kcV ((q14)) (q15 : Int) (q16 : Int))) ((kcV ((q14)) (q15 : Int) (q16 : Int)))) with c261 | c261
       ·
        rw [c261] at ha260
        refine wl_val ha260 rfl rfl rfl (op_move ha260 rfl rfl) ?_
        intro a262 ha262; clear ha260 a260
        refine wl_val ha262 rfl rfl rfl (op_move ha262 rfl rfl) ?_
        intro a263 ha263; clear ha262 a262
        refine wl_val ha263 rfl rfl rfl ((op_neq ha263 rfl rfl rfl).to (congrArg Value.bool decide_not)) ?_
        intro a264 ha264; clear ha263 a263
        refine wl_val ha264 rfl rfl rfl (op_pick_f ha264 rfl rfl rfl) ?_
        intro a265 ha265; clear ha264 a264
        refine wl_val ha265 rfl rfl rfl (op_move ha265 rfl rfl) ?_
        intro a266 ha266; clear ha265 a265
        by_cases c267 : (cdW ((q155)) (q156 : Int) ((q157)) : Int) = (cdW ((q155)) (q156 : Int) ((q157)) : Int)
        ·
         rw [decide_eq_true c267] at ha266
         refine wl_val ha266 rfl rfl rfl (op_move ha266 rfl rfl) ?_
         intro a268 ha268; clear ha266 a266
         refine wl_val ha268 rfl rfl rfl (op_move ha268 rfl rfl) ?_
         intro a269 ha269; clear ha268 a268
         refine wl_val ha269 rfl rfl rfl ((op_neq ha269 rfl rfl rfl).to (congrArg Value.bool decide_not)) ?_
         intro a270 ha270; clear ha269 a269
         refine wl_val ha270 rfl rfl rfl (op_pick_f ha270 rfl rfl rfl) ?_
         intro a271 ha271; clear ha270 a270
         refine wpList_nil ?_
         refine then_n ?_
         by_cases c272 : (vaV ((q155)) (q156 : Int) ((q157)) : Int) = (vaV ((q155)) (q156 : Int) ((q157)) : Int)
         ·
          rw [decide_eq_true c272] at ha271
          refine cond_f ha271 rfl ?_
          refine wp_skip ?_
          refine then_n ?_
          refine wp_seq ?_
          refine wp_seq ?_
          clear ho57 ho87 ho143
          refine wp_region_lit ?_
          refine wl_val ha271 rfl rfl rfl (op_move ha271 rfl rfl) ?_
          intro a273 ha273; clear ha271 a271
          refine wl_val ha273 rfl rfl rfl ((op_neq ha273 rfl rfl rfl).to (congrArg Value.bool decide_not)) ?_
          intro a274 ha274; clear ha273 a273
          refine wpList_nil ?_
          refine then_n ?_
          by_cases c275 : (cdV ((q14)) (q15 : Int) (q16 : Int) : Int) = (0 : Int)
          ·
           rw [decide_eq_true c275] at ha274
           obtain ⟨hm1, hm2, hm3, hm4, hm5, hm6, hm7, hm8⟩ := mg_all c275
           refine cond_f ha274 rfl ?_
           refine wp_skip ?_
           refine then_n ?_
           refine wp_seq ?_
           refine wp_seq ?_
           refine wp_region_lit ?_
           refine wl_val ha274 rfl rfl rfl (op_move ha274 rfl rfl) ?_
           intro a276 ha276; clear ha274 a274
           refine wl_val ha276 rfl rfl rfl (op_eql ha276 rfl rfl rfl) ?_
           intro a277 ha277; clear ha276 a276
           refine wl_val ha277 rfl rfl rfl (op_move ha277 rfl rfl) ?_
           intro a278 ha278; clear ha277 a277
           refine wl_val ha278 rfl rfl rfl (op_len_sl ha278 rfl Try.underlying24 rfl (ho72.rds pos_shStr)) ?_
           intro a279 ha279; clear ha278 a278
           refine wl_val ha279 rfl rfl rfl (op_gtr ha279 rfl rfl rfl) ?_
           intro a280 ha280; clear ha279 a279
           refine wl_val ha280 rfl rfl rfl (op_bneq ha280 rfl Try.underlying4 rfl rfl) ?_
           intro a281 ha281; clear ha280 a280
           refine wpList_nil ?_
           refine then_n ?_
           rcases Bool.eq_false_or_eq_true ((decide ((mvC ((q14)) (q15 : Int) (q16 : Int) : Int) = (5 : Int)) == decide ((0 : Int) < ((((cfV ((q14)) (q15 : Int) (q16 : Int))).length : Nat) : Int)))) with c282 | c282
           ·
            rw [c282] at ha281
            refine cond_f ha281 rfl ?_
            refine wp_skip ?_
            refine then_n ?_
            refine wp_seq ?_
            refine wp_seq ?_
            refine wp_region_lit ?_
            refine wl_val ha281 rfl rfl rfl (op_assign ha281 rfl rfl) ?_
            intro a283 ha283; clear ha281 a281
            refine wpList_nil ?_
            refine then_n ?_
            refine wp_block ?_
            refine loop_inv (X := Nat) (fun (i : Nat) fr wl => Sl 237 fr [(3, u21), (4, .int .i64 (q15 : Int)), (5, .int .i64 (q16 : Int)), (6, v41), (7, .int .i64 (mvC ((q14)) (q15 : Int) (q16 : Int) : Int)), (10, v71), (14, .int .i64 (cvV ((q14)) (q15 : Int) (q16 : Int) : Int)), (18, v127), (29, .int .i64 ((i : Nat) : Int))] ∧ Ext w0 wl ∧ Own shVerN 56 w4.heap.size w4.heap.size w12.heap.size wl u21 z23 ∧ Nst shLine 83 (fun x : Int × List (Str × Int) => x.2) w4.heap.size w12.heap.size wl z23 ∧ Own shLine 83 w12.heap.size w12.heap.size w39.heap.size wl v41 ((mvL ((q14)) (q15 : Int) (q16 : Int))) ∧ Own shStr 9 w54.heap.size w54.heap.size w69.heap.size wl v71 ((cfV ((q14)) (q15 : Int) (q16 : Int))) ∧ Own shStr 9 w112.heap.size w112.heap.size w125.heap.size wl v127 ((kcV ((q14)) (q15 : Int) (q16 : Int))) ∧ w254.heap.size ≤ wl.heap.size ∧ (i ≤ (cfV ((q14)) (q15 : Int) (q16 : Int)).length) ∧ ((cfV ((q14)) (q15 : Int) (q16 : Int)).length ≤ 24)) (fun (i : Nat) => (cfV ((q14)) (q15 : Int) (q16 : Int)).length - i) (0) ?_ ?_
            ·
             exact ⟨(Sl.cons_ ha283 rfl rfl (Sl.cons_ ha283 rfl rfl (Sl.cons_ ha283 rfl rfl (Sl.cons_ ha283 rfl rfl (Sl.cons_ ha283 rfl rfl (Sl.cons_ ha283 rfl rfl (Sl.cons_ ha283 rfl rfl (Sl.cons_ ha283 rfl rfl (Sl.cons_ ha283 rfl (int_eq (by omega)) (Sl.nil_ ha283)))))))))), hx257, ho22, hN24, ho42, ho72, ho128, (by omega), (by omega), (by exact cfV_len _ _ _)⟩
            ·
             clear ha283 a283
             rintro i a291 w284 ⟨ha291, hx285, hf286, hf287, hf288, hf289, hf290, hzl292, hi, hD⟩
             have hzhx285 := hx285.size
             refine wp_seq ?_
             refine wp_seq ?_
             refine wp_region_lit ?_
             refine wl_val ha291 rfl rfl rfl (op_move ha291 rfl rfl) ?_
             intro a293 ha293; clear ha291 a291
             refine wl_val ha293 rfl rfl rfl (op_move ha293 rfl rfl) ?_
             intro a294 ha294; clear ha293 a293
             refine wl_val ha294 rfl rfl rfl (op_len_sl ha294 rfl Try.underlying24 rfl (hf289.rds pos_shStr)) ?_
             intro a295 ha295; clear ha294 a294
             refine wl_val ha295 rfl rfl rfl (op_lss ha295 rfl rfl rfl) ?_
             intro a296 ha296; clear ha295 a295
             refine wpList_nil ?_
             refine then_n ?_
             by_cases c297 : ((i : Nat) : Int) < ((((cfV ((q14)) (q15 : Int) (q16 : Int))).length : Nat) : Int)
             ·
              rw [decide_eq_true c297] at ha296
              refine cond_t ha296 rfl ?_
              refine wp_skip ?_
              refine then_n ?_
              refine wp_seq ?_
              refine wp_block ?_
              refine wp_seq ?_
              refine wp_region_lit ?_
              refine wl_val ha296 rfl rfl rfl (op_move ha296 rfl rfl) ?_
              intro a298 ha298; clear ha296 a296
              refine wl_val ha298 rfl rfl rfl (op_move ha298 rfl rfl) ?_
              intro a299 ha299; clear ha298 a298
              refine wl_val ha299 rfl rfl rfl (op_move ha299 rfl rfl) ?_
              intro a300 ha300; clear ha299 a299
              obtain ⟨x301, hx301⟩ := get_ex (xs := (cfV ((q14)) (q15 : Int) (q16 : Int))) (j := i) (by omega)
              obtain ⟨p302, c303, hi304, hc305, hr306, hs307⟩ := Rds.at_ (hf289.rds pos_shStr) hx301
              obtain ⟨rfl, b308⟩ := inv_shStr hr306
              obtain ⟨_, _⟩ : _ ∧ _ := hs307
              refine wl_val ha300 rfl rfl rfl (op_indexAddr ha300 rfl Try.underlying24 ti9 rfl rfl (by omega) hi304) ?_
              intro a309 ha309; clear ha300 a300
              refine wl_val ha309 rfl rfl rfl (op_loadH ha309 rfl Try.underlying9 rfl rfl hc305 rfl) ?_
              intro a310 ha310; clear ha309 a309
              refine wl_callR ha310 rfl rfl rfl (op_call ha310 rfl cb48 rfl) (c_laws_hasText _ v127 ((kcV ((q14)) (q15 : Int) (q16 : Int))) x301 (hf290.rds pos_shStr)) ?_
              rintro v311 w312 he313 rfl a314 ha314; clear ha310 a310
              have hx315 := hx285.trans' he313
              have hzhx315 := he313.size
              replace hf286 := hf286.ext he313
              replace hf287 := hf287.ext he313
              replace hf288 := hf288.ext he313
              replace hf289 := hf289.ext he313
              replace hf290 := hf290.ext he313
              replace hc305 := hc305.ext he313
              refine wl_val ha314 rfl rfl rfl (op_not ha314 rfl rfl) ?_
              intro a316 ha316; clear ha314 a314
              refine wpList_nil ?_
              refine then_n ?_
              rcases Bool.eq_false_or_eq_true (decide (x301 ∈ ((kcV ((q14)) (q15 : Int) (q16 : Int))))) with c317 | c317
              ·
               rw [c317] at ha316
               refine cond_f ha316 rfl ?_
               refine wp_skip ?_
               refine block_n ?_
               refine then_n ?_
               clear hc305
               refine wp_region_lit ?_
               refine wl_val ha316 rfl rfl rfl (op_move ha316 rfl rfl) ?_
               intro a318 ha318; clear ha316 a316
               refine wl_val ha318 rfl rfl rfl ((op_add ha318 rfl rfl rfl).int (IntWalk.i64_in _ (by omega))) ?_
               intro a319 ha319; clear ha318 a318
               refine wl_val ha319 rfl rfl rfl (op_assign ha319 rfl rfl) ?_
               intro a320 ha320; clear ha319 a319
               refine wpList_nil ?_
               refine round_end (x := i) ((i + 1)) ?_ ?_
               ·
                refine ⟨(Sl.cons_ ha320 rfl rfl (Sl.cons_ ha320 rfl rfl (Sl.cons_ ha320 rfl rfl (Sl.cons_ ha320 rfl rfl (Sl.cons_ ha320 rfl rfl (Sl.cons_ ha320 rfl rfl (Sl.cons_ ha320 rfl rfl (Sl.cons_ ha320 rfl rfl (Sl.cons_ ha320 rfl (int_eq (by omega)) (Sl.nil_ ha320)))))))))), hx315, hf286, hf287, hf288, hf289, hf290, (by omega), (by omega), (by exact hD)⟩
               ·show ((cfV ((q14)) (q15 : Int) (q16 : Int)).length - ((i + 1)) : Nat) < (cfV ((q14)) (q15 : Int) (q16 : Int)).length - i; omega
              ·
               rw [c317] at ha316
               refine cond_t ha316 rfl ?_
               refine wp_seq ?_
               clear hf286 hf287 hf288 hf289 hf290 hc305
               refine wp_region_lit ?_
               refine wl_val ha316 rfl rfl rfl (op_assign ha316 rfl rfl) ?_
               intro a321 ha321; clear ha316 a316
               refine wpList_nil ?_
               refine then_n ?_
               refine wp_ret ?_
               refine block_r ?_
               refine then_r ?_
               refine then_r ?_
               refine block_r ?_
               refine then_r ?_
               refine ret1 ha321 rfl rfl ?_
               clear ha321 a321
               exact ret_mk hx315 (congrArg Value.bool (by first | rfl | (simp at c317; done) | (simp at c282; done) | (simp at c8; done) | (rw [decide_eq_true (cf_kc (List.mem_of_getElem? hx301))] at c317; cases c317) | (exact absurd hm5 c317) | (rw [hm6, eqL_self] at c317; cases c317) | (exact absurd (hm7 c245).1 c317) | (exact absurd (hm8 c245).1 c317) | (rw [decide_eq_true (cf_kc (List.mem_of_getElem? hx301))] at c8; cases c8) | (exact absurd hm5 c8) | (rw [hm6, eqL_self] at c8; cases c8) | (exact absurd (hm7 c245).1 c8) | (exact absurd (hm8 c245).1 c8) | omega))
             ·
              rw [decide_eq_false c297] at ha296
              refine cond_f ha296 rfl ?_
              refine wp_exit ?_
              refine then_e ?_
              refine then_e ?_
              refine block_hit ?_
              refine then_n ?_
              refine wp_seq ?_
              clear hf289 hf290
              refine wp_region_lit ?_
              refine wl_val ha296 rfl rfl rfl (op_move ha296 rfl rfl) ?_
              intro a322 ha322; clear ha296 a296
              refine wl_val ha322 rfl rfl rfl (op_move ha322 rfl rfl) ?_
              intro a323 ha323; clear ha322 a322
              refine wl_val ha323 rfl rfl rfl (op_move ha323 rfl rfl) ?_
              intro a324 ha324; clear ha323 a323
              refine wl_callR ha324 rfl rfl rfl (op_call ha324 rfl cb18 rfl) (c_impl_MergeVersions _ u21 ((q14)) (q16 : Int) (q15 : Int) ((rds_shVerN (hf286.fin (by omega) (by omega) (by omega)) hf287).cast hE25)) ?_
              rintro v325 w326 he327 ⟨v328, rfl, ho329⟩ a330 ha330; clear ha324 a324
              have hx331 := hx285.trans' he327
              have hzhx331 := he327.size
              replace hf286 := hf286.ext he327
              replace hf287 := hf287.ext he327
              replace hf288 := hf288.ext he327
              refine wl_val ha330 rfl rfl rfl (op_move ha330 rfl rfl) ?_
              intro a332 ha332; clear ha330 a330
              refine wl_val ha332 rfl rfl rfl (op_extract ha332 rfl rfl rfl) ?_
              intro a333 ha333; clear ha332 a332
              refine wl_val ha333 rfl rfl rfl (op_extract ha333 rfl rfl rfl) ?_
              intro a334 ha334; clear ha333 a333
              refine wl_val ha334 rfl rfl rfl (op_assign ha334 rfl rfl) ?_
              intro a335 ha335; clear ha334 a334
              refine wl_val ha335 rfl rfl rfl (op_assign ha335 rfl rfl) ?_
              intro a336 ha336; clear ha335 a335
              refine wpList_nil ?_
              refine then_n ?_
              refine wp_seq ?_
              refine wp_seq ?_
              refine wp_region_lit ?_
              refine wl_val ha336 rfl rfl rfl (op_move ha336 rfl rfl) ?_
              intro a337 ha337; clear ha336 a336
              refine wl_val ha337 rfl rfl rfl (op_move ha337 rfl rfl) ?_
              intro a338 ha338; clear ha337 a337
              refine wl_val ha338 rfl rfl rfl ((op_neq ha338 rfl rfl rfl).to (congrArg Value.bool decide_not)) ?_
              intro a339 ha339; clear ha338 a338
              refine wl_val ha339 rfl rfl rfl (op_move ha339 rfl rfl) ?_
              intro a340 ha340; clear ha339 a339
              by_cases c341 : (mvC ((q14)) (q16 : Int) (q15 : Int) : Int) = (mvC ((q14)) (q15 : Int) (q16 : Int) : Int)
              ·
               rw [decide_eq_true c341] at ha340
               refine wl_val ha340 rfl rfl rfl (op_move ha340 rfl rfl) ?_
               intro a342 ha342; clear ha340 a340
               refine wl_val ha342 rfl rfl rfl (op_move ha342 rfl rfl) ?_
               intro a343 ha343; clear ha342 a342
               refine wl_callR ha343 rfl rfl rfl (op_call ha343 rfl cb39 rfl) (c_laws_likeLines _ v328 ((mvL ((q14)) (q16 : Int) (q15 : Int))) v41 ((mvL ((q14)) (q15 : Int) (q16 : Int))) (ho329.rds pos_shLine) (hf288.rds pos_shLine)) ?_
               rintro v344 w345 he346 rfl a347 ha347; clear ha343 a343
               have hx348 := hx331.trans' he346
               have hzhx348 := he346.size
               replace hf286 := hf286.ext he346
               replace hf287 := hf287.ext he346
               replace hf288 := hf288.ext he346
               replace ho329 := ho329.ext he346
               refine wl_val ha347 rfl rfl rfl (op_not ha347 rfl rfl) ?_
               intro a349 ha349; clear ha347 a347
               refine wl_val ha349 rfl rfl rfl (op_pick_f ha349 rfl rfl rfl) ?_
               intro a350 ha350; clear ha349 a349
               refine wpList_nil ?_
               refine then_n ?_
               rcases Bool.eq_false_or_eq_true (eqL ((mvL ((q14)) (q16 : Int) (q15 : Int))) ((mvL ((q14)) (q15 : Int) (q16 : Int)))) with c351 | c351
               ·
                rw [c351] at ha350
                refine cond_f ha350 rfl ?_
                refine wp_skip ?_
                refine then_n ?_
                refine seq_mid (fun fr wl => Sl 237 fr [(3, u21), (4, .int .i64 (q15 : Int)), (5, .int .i64 (q16 : Int)), (6, v41), (7, .int .i64 (mvC ((q14)) (q15 : Int) (q16 : Int) : Int)), (14, .int .i64 (cvV ((q14)) (q15 : Int) (q16 : Int) : Int))] ∧ Ext w0 wl ∧ Own shVerN 56 w4.heap.size w4.heap.size w12.heap.size wl u21 z23 ∧ Nst shLine 83 (fun x : Int × List (Str × Int) => x.2) w4.heap.size w12.heap.size wl z23 ∧ Own shLine 83 w12.heap.size w12.heap.size w39.heap.size wl v41 ((mvL ((q14)) (q15 : Int) (q16 : Int))) ∧ w345.heap.size ≤ wl.heap.size) ?_ ?_
                ·
                 refine wp_seq ?_
                 clear ho329
                 refine wp_region_lit ?_
                 refine wl_val ha350 rfl rfl rfl (op_move ha350 rfl rfl) ?_
                 intro a357 ha357; clear ha350 a350
                 refine wl_val ha357 rfl rfl rfl (op_move ha357 rfl rfl) ?_
                 intro a358 ha358; clear ha357 a357
                 refine wl_val ha358 rfl rfl rfl (op_eql ha358 rfl rfl rfl) ?_
                 intro a359 ha359; clear ha358 a358
                 refine wl_val ha359 rfl rfl rfl (op_move ha359 rfl rfl) ?_
                 intro a360 ha360; clear ha359 a359
                 by_cases c361 : (cvV ((q14)) (q15 : Int) (q16 : Int) : Int) = (q15 : Int)
                 ·
                  rw [decide_eq_true c361] at ha360
                  refine wl_val ha360 rfl rfl rfl (op_move ha360 rfl rfl) ?_
                  intro a362 ha362; clear ha360 a360
                  refine wl_val ha362 rfl rfl rfl ((op_neq ha362 rfl rfl rfl).to (congrArg Value.bool decide_not)) ?_
                  intro a363 ha363; clear ha362 a362
                  refine wl_val ha363 rfl rfl rfl (op_move ha363 rfl rfl) ?_
                  intro a364 ha364; clear ha363 a363
                  by_cases c365 : (mvC ((q14)) (q15 : Int) (q16 : Int) : Int) = (0 : Int)
                  ·
                   rw [decide_eq_true c365] at ha364
                   refine wl_val ha364 rfl rfl rfl (op_move ha364 rfl rfl) ?_
                   intro a366 ha366; clear ha364 a364
                   refine wl_val ha366 rfl rfl rfl (op_move ha366 rfl rfl) ?_
                   intro a367 ha367; clear ha366 a366
                   refine wl_val ha367 rfl rfl rfl (op_move ha367 rfl rfl) ?_
                   intro a368 ha368; clear ha367 a367
                   obtain ⟨x369, hx369⟩ := get_ex (xs := z23) (j := ((q16 : Int)).toNat) (by omega)
                   obtain ⟨p370, c371, hi372, hc373, hr374, hs375⟩ := Rds.at_ (hf286.rds pos_shVerN) hx369
                   obtain ⟨rfl, b376, b377⟩ := inv_shVerN hr374
                   have hn378 : Own shLine 83 w4.heap.size w4.heap.size w12.heap.size w345 x369.2 x369.1.2 := hf287.get hx369
                   obtain ⟨_, _⟩ : _ ∧ _ := hs375
                   have hlex369 := lnV_eq (abs_get hE25 hx369)
                   refine wl_val ha368 rfl rfl rfl (op_indexAddr ha368 rfl Try.underlying27 ti56 rfl rfl (by omega) hi372) ?_
                   intro a379 ha379; clear ha368 a368
                   refine wl_val ha379 rfl rfl rfl (op_fieldAddr (sz := 0) ha379 rfl Try.underlying56 rfl rfl ti34 rfl) ?_
                   intro a380 ha380; clear ha379 a379
                   refine wl_val ha380 rfl rfl rfl (op_loadF (off := 1) ha380 rfl Try.underlying34 rfl rfl hc373 rfl) ?_
                   intro a381 ha381; clear ha380 a380
                   refine wl_callR ha381 rfl rfl rfl (op_call ha381 rfl cb39 rfl) (c_laws_likeLines _ v41 ((mvL ((q14)) (q15 : Int) (q16 : Int))) x369.2 x369.1.2 (hf288.rds pos_shLine) (hn378.rds pos_shLine)) ?_
                   rintro v382 w383 he384 rfl a385 ha385; clear ha381 a381
                   have hx386 := hx348.trans' he384
                   have hzhx386 := he384.size
                   replace hf286 := hf286.ext he384
                   replace hf287 := hf287.ext he384
                   replace hf288 := hf288.ext he384
                   replace hn378 := hn378.ext he384
                   replace hc373 := hc373.ext he384
                   refine wl_val ha385 rfl rfl rfl (op_not ha385 rfl rfl) ?_
                   intro a387 ha387; clear ha385 a385
                   refine wl_val ha387 rfl rfl rfl (op_pick_f ha387 rfl rfl rfl) ?_
                   intro a388 ha388; clear ha387 a387
                   refine wl_val ha388 rfl rfl rfl (op_pick_t ha388 rfl rfl rfl) ?_
                   intro a389 ha389; clear ha388 a388
                   refine wpList_nil ?_
                   refine then_n ?_
                   rcases Bool.eq_false_or_eq_true (eqL ((mvL ((q14)) (q15 : Int) (q16 : Int))) x369.1.2) with c390 | c390
                   ·
                    rw [c390] at ha389
                    refine cond_f ha389 rfl ?_
                    refine wp_skip ?_
                    refine then_n ?_
                    refine ⟨(Sl.cons_ ha389 rfl rfl (Sl.cons_ ha389 rfl rfl (Sl.cons_ ha389 rfl rfl (Sl.cons_ ha389 rfl rfl (Sl.cons_ ha389 rfl rfl (Sl.cons_ ha389 rfl rfl (Sl.nil_ ha389))))))), hx386, hf286, hf287, hf288, (by omega)⟩
                   ·
                    rw [c390] at ha389
                    refine cond_t ha389 rfl ?_
                    refine wp_seq ?_
                    clear hf286 hf287 hf288 hn378 hc373
                    refine wp_region_lit ?_
                    refine wl_val ha389 rfl rfl rfl (op_assign ha389 rfl rfl) ?_
                    intro a391 ha391; clear ha389 a389
                    refine wpList_nil ?_
                    refine then_n ?_
                    refine wp_ret ?_
                    refine ret1 ha391 rfl rfl ?_
                    clear ha391 a391
                    exact ret_mk hx386 (congrArg Value.bool (by first | rfl | (rw [eqL_self] at c390; cases c390) | (simp at c282; done) | (simp at c8; done) | (exact absurd hm5 c390) | (rw [hm6, eqL_self] at c390; cases c390) | (exact absurd (hm7 c245).1 c390) | (exact absurd (hm8 c245).1 c390) | (rw [(hm7 c245).2, hlex369, eqL_self] at c390; cases c390) | (rw [(hm8 c245).2, hlex369, eqL_self] at c390; cases c390) | (exact absurd (hm7 c361).1 c390) | (exact absurd (hm8 c361).1 c390) | (rw [(hm7 c361).2, hlex369, eqL_self] at c390; cases c390) | (rw [(hm8 c361).2, hlex369, eqL_self] at c390; cases c390) | (exact absurd hm5 c297) | (rw [hm6, eqL_self] at c297; cases c297) | (exact absurd (hm7 c245).1 c297) | (exact absurd (hm8 c245).1 c297) | (rw [(hm7 c245).2, hlex369, eqL_self] at c297; cases c297) | (rw [(hm8 c245).2, hlex369, eqL_self] at c297; cases c297) | (exact absurd (hm7 c361).1 c297) | (exact absurd (hm8 c361).1 c297) | (rw [(hm7 c361).2, hlex369, eqL_self] at c297; cases c297) | (rw [(hm8 c361).2, hlex369, eqL_self] at c297; cases c297) | (exact absurd hm5 c8) | (rw [hm6, eqL_self] at c8; cases c8) | (exact absurd (hm7 c245).1 c8) | (exact absurd (hm8 c245).1 c8) | (rw [(hm7 c245).2, hlex369, eqL_self] at c8; cases c8) | (rw [(hm8 c245).2, hlex369, eqL_self] at c8; cases c8) | (exact absurd (hm7 c361).1 c8) | (exact absurd (hm8 c361).1 c8) | (rw [(hm7 c361).2, hlex369, eqL_self] at c8; cases c8) | (rw [(hm8 c361).2, hlex369, eqL_self] at c8; cases c8) | (rw [(hm8 c245).2, hlex369, eqL_self]) | (exact (by rw [(hm8 c245).2, hlex369]; exact eqL_self _)) | (rw [(hm8 c361).2, hlex369, eqL_self]) | (exact (by rw [(hm8 c361).2, hlex369]; exact eqL_self _)) | omega))
                  ·
                   rw [decide_eq_false c365] at ha364
                   refine wl_skip ha364 rfl rfl rfl ?_
                   intro a392 ha392; clear ha364 a364
                   refine wl_skip ha392 rfl rfl rfl ?_
                   intro a393 ha393; clear ha392 a392
                   refine wl_skip ha393 rfl rfl rfl ?_
                   intro a394 ha394; clear ha393 a393
                   refine wl_skip ha394 rfl rfl rfl ?_
                   intro a395 ha395; clear ha394 a394
                   refine wl_skip ha395 rfl rfl rfl ?_
                   intro a396 ha396; clear ha395 a395
                   refine wl_skip ha396 rfl rfl rfl ?_
                   intro a397 ha397; clear ha396 a396
                   refine wl_skip ha397 rfl rfl rfl ?_
                   intro a398 ha398; clear ha397 a397
                   refine wl_skip ha398 rfl rfl rfl ?_
                   intro a399 ha399; clear ha398 a398
                   refine wl_val ha399 rfl rfl rfl (op_pick_t ha399 rfl rfl rfl) ?_
                   intro a400 ha400; clear ha399 a399
                   refine wl_val ha400 rfl rfl rfl (op_pick_t ha400 rfl rfl rfl) ?_
                   intro a401 ha401; clear ha400 a400
                   refine wpList_nil ?_
                   refine then_n ?_
                   refine cond_t ha401 rfl ?_
                   refine wp_seq ?_
                   clear hf286 hf287 hf288
                   refine wp_region_lit ?_
                   refine wl_val ha401 rfl rfl rfl (op_assign ha401 rfl rfl) ?_
                   intro a402 ha402; clear ha401 a401
                   refine wpList_nil ?_
                   refine then_n ?_
                   refine wp_ret ?_
                   refine ret1 ha402 rfl rfl ?_
                   clear ha402 a402
                   exact ret_mk hx348 (congrArg Value.bool (by first | rfl | (exact absurd rfl c365) | (simp at c282; done) | (simp at c8; done) | (exact absurd hm5 c365) | (rw [hm6, eqL_self] at c365; cases c365) | (exact absurd (hm7 c245).1 c365) | (exact absurd (hm8 c245).1 c365) | (exact absurd (hm7 c361).1 c365) | (exact absurd (hm8 c361).1 c365) | (exact absurd hm5 c297) | (rw [hm6, eqL_self] at c297; cases c297) | (exact absurd (hm7 c245).1 c297) | (exact absurd (hm8 c245).1 c297) | (exact absurd (hm7 c361).1 c297) | (exact absurd (hm8 c361).1 c297) | (exact absurd hm5 c8) | (rw [hm6, eqL_self] at c8; cases c8) | (exact absurd (hm7 c245).1 c8) | (exact absurd (hm8 c245).1 c8) | (exact absurd (hm7 c361).1 c8) | (exact absurd (hm8 c361).1 c8) | omega))
                 ·
                  rw [decide_eq_false c361] at ha360
                  refine wl_skip ha360 rfl rfl rfl ?_
                  intro a403 ha403; clear ha360 a360
                  refine wl_skip ha403 rfl rfl rfl ?_
                  intro a404 ha404; clear ha403 a403
                  refine wl_skip ha404 rfl rfl rfl ?_
                  intro a405 ha405; clear ha404 a404
                  refine wl_skip ha405 rfl rfl rfl ?_
                  intro a406 ha406; clear ha405 a405
                  refine wl_skip ha406 rfl rfl rfl ?_
                  intro a407 ha407; clear ha406 a406
                  refine wl_skip ha407 rfl rfl rfl ?_
                  intro a408 ha408; clear ha407 a407
                  refine wl_skip ha408 rfl rfl rfl ?_
                  intro a409 ha409; clear ha408 a408
                  refine wl_skip ha409 rfl rfl rfl ?_
                  intro a410 ha410; clear ha409 a409
                  refine wl_skip ha410 rfl rfl rfl ?_
                  intro a411 ha411; clear ha410 a410
                  refine wl_skip ha411 rfl rfl rfl ?_
                  intro a412 ha412; clear ha411 a411
                  refine wl_skip ha412 rfl rfl rfl ?_
                  intro a413 ha413; clear ha412 a412
                  refine wl_skip ha413 rfl rfl rfl ?_
                  intro a414 ha414; clear ha413 a413
                  refine wl_val ha414 rfl rfl rfl (op_pick_f ha414 rfl rfl rfl) ?_
                  intro a415 ha415; clear ha414 a414
                  refine wpList_nil ?_
                  refine then_n ?_
                  refine cond_f ha415 rfl ?_
                  refine wp_skip ?_
                  refine then_n ?_
                  refine ⟨(Sl.cons_ ha415 rfl rfl (Sl.cons_ ha415 rfl rfl (Sl.cons_ ha415 rfl rfl (Sl.cons_ ha415 rfl rfl (Sl.cons_ ha415 rfl rfl (Sl.cons_ ha415 rfl rfl (Sl.nil_ ha415))))))), hx348, hf286, hf287, hf288, (by omega)⟩
                ·
                 clear ha350 a350
                 rintro a416 w352 ⟨ha416, hx353, hf354, hf355, hf356, hzl417⟩
                 have hzhx353 := hx353.size
                 refine wp_seq ?_
                 refine wp_region_lit ?_
                 refine wl_val ha416 rfl rfl rfl (op_move ha416 rfl rfl) ?_
                 intro a418 ha418; clear ha416 a416
                 refine wl_val ha418 rfl rfl rfl (op_move ha418 rfl rfl) ?_
                 intro a419 ha419; clear ha418 a418
                 refine wl_val ha419 rfl rfl rfl ((op_neq ha419 rfl rfl rfl).to (congrArg Value.bool decide_not)) ?_
                 intro a420 ha420; clear ha419 a419
                 refine wl_val ha420 rfl rfl rfl (op_move ha420 rfl rfl) ?_
                 intro a421 ha421; clear ha420 a420
                 by_cases c422 : (cvV ((q14)) (q15 : Int) (q16 : Int) : Int) = (q16 : Int)
                 ·
                  rw [decide_eq_true c422] at ha421
                  refine wl_val ha421 rfl rfl rfl (op_move ha421 rfl rfl) ?_
                  intro a423 ha423; clear ha421 a421
                  refine wl_val ha423 rfl rfl rfl (op_eql ha423 rfl rfl rfl) ?_
                  intro a424 ha424; clear ha423 a423
                  refine wl_val ha424 rfl rfl rfl (op_move ha424 rfl rfl) ?_
                  intro a425 ha425; clear ha424 a424
                  by_cases c426 : (mvC ((q14)) (q15 : Int) (q16 : Int) : Int) = (0 : Int)
                  ·
                   rw [decide_eq_true c426] at ha425
                   refine wl_val ha425 rfl rfl rfl (op_move ha425 rfl rfl) ?_
                   intro a427 ha427; clear ha425 a425
                   refine wl_val ha427 rfl rfl rfl (op_move ha427 rfl rfl) ?_
                   intro a428 ha428; clear ha427 a427
                   refine wl_val ha428 rfl rfl rfl (op_move ha428 rfl rfl) ?_
                   intro a429 ha429; clear ha428 a428
                   obtain ⟨x430, hx430⟩ := get_ex (xs := z23) (j := ((q15 : Int)).toNat) (by omega)
                   obtain ⟨p431, c432, hi433, hc434, hr435, hs436⟩ := Rds.at_ (hf354.rds pos_shVerN) hx430
                   obtain ⟨rfl, b437, b438⟩ := inv_shVerN hr435
                   have hn439 : Own shLine 83 w4.heap.size w4.heap.size w12.heap.size w352 x430.2 x430.1.2 := hf355.get hx430
                   obtain ⟨_, _⟩ : _ ∧ _ := hs436
                   have hlex430 := lnV_eq (abs_get hE25 hx430)
                   refine wl_val ha429 rfl rfl rfl (op_indexAddr ha429 rfl Try.underlying27 ti56 rfl rfl (by omega) hi433) ?_
                   intro a440 ha440; clear ha429 a429
                   refine wl_val ha440 rfl rfl rfl (op_fieldAddr (sz := 0) ha440 rfl Try.underlying56 rfl rfl ti34 rfl) ?_
                   intro a441 ha441; clear ha440 a440
                   refine wl_val ha441 rfl rfl rfl (op_loadF (off := 1) ha441 rfl Try.underlying34 rfl rfl hc434 rfl) ?_
                   intro a442 ha442; clear ha441 a441
                   refine wl_callR ha442 rfl rfl rfl (op_call ha442 rfl cb39 rfl) (c_laws_likeLines _ v41 ((mvL ((q14)) (q15 : Int) (q16 : Int))) x430.2 x430.1.2 (hf356.rds pos_shLine) (hn439.rds pos_shLine)) ?_
                   rintro v443 w444 he445 rfl a446 ha446; clear ha442 a442
                   have hx447 := hx353.trans' he445
                   have hzhx447 := he445.size
                   replace hf354 := hf354.ext he445
                   replace hf355 := hf355.ext he445
                   replace hf356 := hf356.ext he445
                   replace hn439 := hn439.ext he445
                   replace hc434 := hc434.ext he445
                   refine wl_val ha446 rfl rfl rfl (op_pick_t ha446 rfl rfl rfl) ?_
                   intro a448 ha448; clear ha446 a446
                   refine wl_val ha448 rfl rfl rfl (op_pick_f ha448 rfl rfl rfl) ?_
                   intro a449 ha449; clear ha448 a448
                   refine wl_val ha449 rfl rfl rfl (op_assign ha449 rfl rfl) ?_
                   intro a450 ha450; clear ha449 a449
                   refine wpList_nil ?_
                   refine then_n ?_
                   refine wp_ret ?_
                   refine ret1 ha450 rfl rfl ?_
                   clear ha450 a450
                   exact ret_mk hx447 (congrArg Value.bool (by first | rfl | (simp at c282; done) | (simp at c8; done) | (exact absurd hm5 c297) | (rw [hm6, eqL_self] at c297; cases c297) | (exact absurd (hm7 c245).1 c297) | (exact absurd (hm8 c245).1 c297) | (rw [(hm7 c245).2, hlex430, eqL_self] at c297; cases c297) | (rw [(hm8 c245).2, hlex430, eqL_self] at c297; cases c297) | (exact absurd (hm7 c422).1 c297) | (exact absurd (hm8 c422).1 c297) | (rw [(hm7 c422).2, hlex430, eqL_self] at c297; cases c297) | (rw [(hm8 c422).2, hlex430, eqL_self] at c297; cases c297) | (exact absurd hm5 c8) | (rw [hm6, eqL_self] at c8; cases c8) | (exact absurd (hm7 c245).1 c8) | (exact absurd (hm8 c245).1 c8) | (rw [(hm7 c245).2, hlex430, eqL_self] at c8; cases c8) | (rw [(hm8 c245).2, hlex430, eqL_self] at c8; cases c8) | (exact absurd (hm7 c422).1 c8) | (exact absurd (hm8 c422).1 c8) | (rw [(hm7 c422).2, hlex430, eqL_self] at c8; cases c8) | (rw [(hm8 c422).2, hlex430, eqL_self] at c8; cases c8) | (rw [(hm8 c245).2, hlex430, eqL_self]) | (exact (by rw [(hm8 c245).2, hlex430]; exact eqL_self _)) | (rw [(hm8 c422).2, hlex430, eqL_self]) | (exact (by rw [(hm8 c422).2, hlex430]; exact eqL_self _)) | omega))
                  ·
                   rw [decide_eq_false c426] at ha425
                   refine wl_skip ha425 rfl rfl rfl ?_
                   intro a451 ha451; clear ha425 a425
                   refine wl_skip ha451 rfl rfl rfl ?_
                   intro a452 ha452; clear ha451 a451
                   refine wl_skip ha452 rfl rfl rfl ?_
                   intro a453 ha453; clear ha452 a452
                   refine wl_skip ha453 rfl rfl rfl ?_
                   intro a454 ha454; clear ha453 a453
                   refine wl_skip ha454 rfl rfl rfl ?_
                   intro a455 ha455; clear ha454 a454
                   refine wl_skip ha455 rfl rfl rfl ?_
                   intro a456 ha456; clear ha455 a455
                   refine wl_skip ha456 rfl rfl rfl ?_
                   intro a457 ha457; clear ha456 a456
                   refine wl_val ha457 rfl rfl rfl (op_pick_f ha457 rfl rfl rfl) ?_
                   intro a458 ha458; clear ha457 a457
                   refine wl_val ha458 rfl rfl rfl (op_pick_f ha458 rfl rfl rfl) ?_
                   intro a459 ha459; clear ha458 a458
                   refine wl_val ha459 rfl rfl rfl (op_assign ha459 rfl rfl) ?_
                   intro a460 ha460; clear ha459 a459
                   refine wpList_nil ?_
                   refine then_n ?_
                   refine wp_ret ?_
                   refine ret1 ha460 rfl rfl ?_
                   clear ha460 a460
                   exact ret_mk hx353 (congrArg Value.bool (by first | rfl | (exact absurd rfl c426) | (simp at c282; done) | (simp at c8; done) | (exact absurd hm5 c426) | (rw [hm6, eqL_self] at c426; cases c426) | (exact absurd (hm7 c245).1 c426) | (exact absurd (hm8 c245).1 c426) | (exact absurd (hm7 c422).1 c426) | (exact absurd (hm8 c422).1 c426) | (exact absurd hm5 c297) | (rw [hm6, eqL_self] at c297; cases c297) | (exact absurd (hm7 c245).1 c297) | (exact absurd (hm8 c245).1 c297) | (exact absurd (hm7 c422).1 c297) | (exact absurd (hm8 c422).1 c297) | (exact absurd hm5 c8) | (rw [hm6, eqL_self] at c8; cases c8) | (exact absurd (hm7 c245).1 c8) | (exact absurd (hm8 c245).1 c8) | (exact absurd (hm7 c422).1 c8) | (exact absurd (hm8 c422).1 c8) | omega))
                 ·
                  rw [decide_eq_false c422] at ha421
                  refine wl_skip ha421 rfl rfl rfl ?_
                  intro a461 ha461; clear ha421 a421
                  refine wl_skip ha461 rfl rfl rfl ?_
                  intro a462 ha462; clear ha461 a461
                  refine wl_skip ha462 rfl rfl rfl ?_
                  intro a463 ha463; clear ha462 a462
                  refine wl_skip ha463 rfl rfl rfl ?_
                  intro a464 ha464; clear ha463 a463
                  refine wl_skip ha464 rfl rfl rfl ?_
                  intro a465 ha465; clear ha464 a464
                  refine wl_skip ha465 rfl rfl rfl ?_
                  intro a466 ha466; clear ha465 a465
                  refine wl_skip ha466 rfl rfl rfl ?_
                  intro a467 ha467; clear ha466 a466
                  refine wl_skip ha467 rfl rfl rfl ?_
                  intro a468 ha468; clear ha467 a467
                  refine wl_skip ha468 rfl rfl rfl ?_
                  intro a469 ha469; clear ha468 a468
                  refine wl_skip ha469 rfl rfl rfl ?_
                  intro a470 ha470; clear ha469 a469
                  refine wl_skip ha470 rfl rfl rfl ?_
                  intro a471 ha471; clear ha470 a470
                  refine wl_val ha471 rfl rfl rfl (op_pick_t ha471 rfl rfl rfl) ?_
                  intro a472 ha472; clear ha471 a471
                  refine wl_val ha472 rfl rfl rfl (op_assign ha472 rfl rfl) ?_
                  intro a473 ha473; clear ha472 a472
                  refine wpList_nil ?_
                  refine then_n ?_
                  refine wp_ret ?_
                  refine ret1 ha473 rfl rfl ?_
                  clear ha473 a473
                  exact ret_mk hx353 (congrArg Value.bool (by first | rfl | (exact absurd rfl c422) | (simp at c282; done) | (simp at c8; done) | (exact absurd hm5 c422) | (rw [hm6, eqL_self] at c422; cases c422) | (exact absurd (hm7 c245).1 c422) | (exact absurd (hm8 c245).1 c422) | (exact absurd hm5 c297) | (rw [hm6, eqL_self] at c297; cases c297) | (exact absurd (hm7 c245).1 c297) | (exact absurd (hm8 c245).1 c297) | (exact absurd hm5 c8) | (rw [hm6, eqL_self] at c8; cases c8) | (exact absurd (hm7 c245).1 c8) | (exact absurd (hm8 c245).1 c8) | omega))
               ·
                rw [c351] at ha350
                refine cond_t ha350 rfl ?_
                refine wp_seq ?_
                clear hf286 hf287 hf288 ho329
                refine wp_region_lit ?_
                refine wl_val ha350 rfl rfl rfl (op_assign ha350 rfl rfl) ?_
                intro a474 ha474; clear ha350 a350
                refine wpList_nil ?_
                refine then_n ?_
                refine wp_ret ?_
                refine then_r ?_
                refine ret1 ha474 rfl rfl ?_
                clear ha474 a474
                exact ret_mk hx348 (congrArg Value.bool (by first | rfl | (rw [eqL_self] at c351; cases c351) | (simp at c282; done) | (simp at c8; done) | (exact absurd hm5 c351) | (rw [hm6, eqL_self] at c351; cases c351) | (exact absurd (hm7 c245).1 c351) | (exact absurd (hm8 c245).1 c351) | (exact absurd hm5 c297) | (rw [hm6, eqL_self] at c297; cases c297) | (exact absurd (hm7 c245).1 c297) | (exact absurd (hm8 c245).1 c297) | (exact absurd hm5 c8) | (rw [hm6, eqL_self] at c8; cases c8) | (exact absurd (hm7 c245).1 c8) | (exact absurd (hm8 c245).1 c8) | omega))
              ·
               rw [decide_eq_false c341] at ha340
               refine wl_skip ha340 rfl rfl rfl ?_
               intro a475 ha475; clear ha340 a340
               refine wl_skip ha475 rfl rfl rfl ?_
               intro a476 ha476; clear ha475 a475
               refine wl_skip ha476 rfl rfl rfl ?_
               intro a477 ha477; clear ha476 a476
               refine wl_skip ha477 rfl rfl rfl ?_
               intro a478 ha478; clear ha477 a477
               refine wl_val ha478 rfl rfl rfl (op_pick_t ha478 rfl rfl rfl) ?_
               intro a479 ha479; clear ha478 a478
               refine wpList_nil ?_
               refine then_n ?_
               refine cond_t ha479 rfl ?_
               refine wp_seq ?_
               clear hf286 hf287 hf288 ho329
               refine wp_region_lit ?_
               refine wl_val ha479 rfl rfl rfl (op_assign ha479 rfl rfl) ?_
               intro a480 ha480; clear ha479 a479
               refine wpList_nil ?_
               refine then_n ?_
               refine wp_ret ?_
               refine then_r ?_
               refine ret1 ha480 rfl rfl ?_
               clear ha480 a480
               exact ret_mk hx331 (congrArg Value.bool (by first | rfl | (exact absurd rfl c341) | (simp at c282; done) | (simp at c8; done) | (exact absurd hm5 c341) | (rw [hm6, eqL_self] at c341; cases c341) | (exact absurd (hm7 c245).1 c341) | (exact absurd (hm8 c245).1 c341) | (exact absurd hm5 c297) | (rw [hm6, eqL_self] at c297; cases c297) | (exact absurd (hm7 c245).1 c297) | (exact absurd (hm8 c245).1 c297) | (exact absurd hm5 c8) | (rw [hm6, eqL_self] at c8; cases c8) | (exact absurd (hm7 c245).1 c8) | (exact absurd (hm8 c245).1 c8) | omega))
           ·
            rw [c282] at ha281
            refine cond_t ha281 rfl ?_
            refine wp_seq ?_
            clear ho22 hN24 ho42 ho72 ho128
            refine wp_region_lit ?_
            refine wl_val ha281 rfl rfl rfl (op_assign ha281 rfl rfl) ?_
            intro a481 ha481; clear ha281 a281
            refine wpList_nil ?_
            refine then_n ?_
            refine wp_ret ?_
            refine then_r ?_
            refine ret1 ha481 rfl rfl ?_
            clear ha481 a481
            exact ret_mk hx257 (congrArg Value.bool (by first | rfl | (exact absurd rfl c282) | (simp at c282; done) | (simp at c8; done) | (exact (bq hm4 c282).elim) | (exact absurd hm5 c282) | (rw [hm6, eqL_self] at c282; cases c282) | (exact absurd (hm7 c245).1 c282) | (exact absurd (hm8 c245).1 c282) | (exact absurd hm5 c8) | (rw [hm6, eqL_self] at c8; cases c8) | (exact absurd (hm7 c245).1 c8) | (exact absurd (hm8 c245).1 c8) | omega))
          ·
           rw [decide_eq_false c275] at ha274
           refine cond_t ha274 rfl ?_
           refine wp_seq ?_
           clear ho22 hN24 ho42 ho72 ho128
           refine wp_region_lit ?_
           refine wl_val ha274 rfl rfl rfl (op_assign ha274 rfl rfl) ?_
           intro a482 ha482; clear ha274 a274
           refine wpList_nil ?_
           refine then_n ?_
           refine wp_ret ?_
           refine then_r ?_
           refine ret1 ha482 rfl rfl ?_
           clear ha482 a482
           exact ret_mk hx257 (congrArg Value.bool (by first | rfl | (exact absurd rfl c275) | (simp at c8; done) | (exact absurd hm5 c275) | (rw [hm6, eqL_self] at c275; cases c275) | (exact absurd (hm7 c245).1 c275) | (exact absurd (hm8 c245).1 c275) | (exact absurd hm5 c8) | (rw [hm6, eqL_self] at c8; cases c8) | (exact absurd (hm7 c245).1 c8) | (exact absurd (hm8 c245).1 c8) | omega))
         ·
          rw [decide_eq_false c272] at ha271
          refine cond_t ha271 rfl ?_
          refine wp_seq ?_
          clear ho22 hN24 ho42 ho57 ho72 ho87 ho128 ho143
          refine wp_region_lit ?_
          refine wl_val ha271 rfl rfl rfl (op_assign ha271 rfl rfl) ?_
          intro a483 ha483; clear ha271 a271
          refine wpList_nil ?_
          refine then_n ?_
          refine wp_ret ?_
          refine then_r ?_
          refine ret1 ha483 rfl rfl ?_
          clear ha483 a483
          exact ret_mk hx257 (congrArg Value.bool (by first | rfl | (exact absurd rfl c272) | (simp at c8; done) | (exact absurd hm5 c272) | (rw [hm6, eqL_self] at c272; cases c272) | (exact absurd (hm7 c245).1 c272) | (exact absurd (hm8 c245).1 c272) | (exact absurd hm5 c8) | (rw [hm6, eqL_self] at c8; cases c8) | (exact absurd (hm7 c245).1 c8) | (exact absurd (hm8 c245).1 c8) | omega))
        ·
         rw [decide_eq_false c267] at ha266
         refine wl_skip ha266 rfl rfl rfl ?_
         intro a484 ha484; clear ha266 a266
         refine wl_skip ha484 rfl rfl rfl ?_
         intro a485 ha485; clear ha484 a484
         refine wl_skip ha485 rfl rfl rfl ?_
         intro a486 ha486; clear ha485 a485
         refine wl_val ha486 rfl rfl rfl (op_pick_t ha486 rfl rfl rfl) ?_
         intro a487 ha487; clear ha486 a486
         refine wpList_nil ?_
         refine then_n ?_
         refine cond_t ha487 rfl ?_
         refine wp_seq ?_
         clear ho22 hN24 ho42 ho57 ho72 ho87 ho128 ho143
         refine wp_region_lit ?_
         refine wl_val ha487 rfl rfl rfl (op_assign ha487 rfl rfl) ?_
         intro a488 ha488; clear ha487 a487
         refine wpList_nil ?_
         refine then_n ?_
         refine wp_ret ?_
         refine then_r ?_
         refine ret1 ha488 rfl rfl ?_
         clear ha488 a488
         exact ret_mk hx257 (congrArg Value.bool (by first | rfl | (exact absurd rfl c267) | (simp at c8; done) | (exact absurd hm5 c267) | (rw [hm6, eqL_self] at c267; cases c267) | (exact absurd (hm7 c245).1 c267) | (exact absurd (hm8 c245).1 c267) | (exact absurd hm5 c8) | (rw [hm6, eqL_self] at c8; cases c8) | (exact absurd (hm7 c245).1 c8) | (exact absurd (hm8 c245).1 c8) | omega))
       ·
        rw [c261] at ha260
        refine wl_skip ha260 rfl rfl rfl ?_
        intro a489 ha489; clear ha260 a260
        refine wl_skip ha489 rfl rfl rfl ?_
        intro a490 ha490; clear ha489 a489
        refine wl_skip ha490 rfl rfl rfl ?_
        intro a491 ha491; clear ha490 a490
        refine wl_val ha491 rfl rfl rfl (op_pick_t ha491 rfl rfl rfl) ?_
        intro a492 ha492; clear ha491 a491
        refine wl_val ha492 rfl rfl rfl (op_move ha492 rfl rfl) ?_
        intro a493 ha493; clear ha492 a492
        refine wl_skip ha493 rfl rfl rfl ?_
        intro a494 ha494; clear ha493 a493
        refine wl_skip ha494 rfl rfl rfl ?_
        intro a495 ha495; clear ha494 a494
        refine wl_skip ha495 rfl rfl rfl ?_
        intro a496 ha496; clear ha495 a495
        refine wl_val ha496 rfl rfl rfl (op_pick_t ha496 rfl rfl rfl) ?_
        intro a497 ha497; clear ha496 a496
        refine wpList_nil ?_
        refine then_n ?_
        refine cond_t ha497 rfl ?_
        refine wp_seq ?_
        clear ho22 hN24 ho42 ho57 ho72 ho87 ho128 ho143
        refine wp_region_lit ?_
        refine wl_val ha497 rfl rfl rfl (op_assign ha497 rfl rfl) ?_
        intro a498 ha498; clear ha497 a497
        refine wpList_nil ?_
        refine then_n ?_
        refine wp_ret ?_
        refine then_r ?_
        refine ret1 ha498 rfl rfl ?_
        clear ha498 a498
        exact ret_mk hx257 (congrArg Value.bool (by first | rfl | (rw [eqL_self] at c261; cases c261) | (simp at c8; done) | (exact absurd hm5 c261) | (rw [hm6, eqL_self] at c261; cases c261) | (exact absurd (hm7 c245).1 c261) | (exact absurd (hm8 c245).1 c261) | (exact absurd hm5 c8) | (rw [hm6, eqL_self] at c8; cases c8) | (exact absurd (hm7 c245).1 c8) | (exact absurd (hm8 c245).1 c8) | omega))
      ·
       rw [decide_eq_false c245] at ha244
       refine wl_skip ha244 rfl rfl rfl ?_
       intro a499 ha499; clear ha244 a244
       refine wl_skip ha499 rfl rfl rfl ?_
       intro a500 ha500; clear ha499 a499
       refine wl_skip ha500 rfl rfl rfl ?_
       intro a501 ha501; clear ha500 a500
       refine wl_val ha501 rfl rfl rfl (op_pick_t ha501 rfl rfl rfl) ?_
       intro a502 ha502; clear ha501 a501
       refine wl_val ha502 rfl rfl rfl (op_move ha502 rfl rfl) ?_
       intro a503 ha503; clear ha502 a502
       refine wl_skip ha503 rfl rfl rfl ?_
       intro a504 ha504; clear ha503 a503
       refine wl_skip ha504 rfl rfl rfl ?_
       intro a505 ha505; clear ha504 a504
       refine wl_skip ha505 rfl rfl rfl ?_
       intro a506 ha506; clear ha505 a505
       refine wl_skip ha506 rfl rfl rfl ?_
       intro a507 ha507; clear ha506 a506
       refine wl_val ha507 rfl rfl rfl (op_pick_t ha507 rfl rfl rfl) ?_
       intro a508 ha508; clear ha507 a507
       refine wl_val ha508 rfl rfl rfl (op_move ha508 rfl rfl) ?_
       intro a509 ha509; clear ha508 a508
       refine wl_skip ha509 rfl rfl rfl ?_
       intro a510 ha510; clear ha509 a509
       refine wl_skip ha510 rfl rfl rfl ?_
       intro a511 ha511; clear ha510 a510
       refine wl_skip ha511 rfl rfl rfl ?_
       intro a512 ha512; clear ha511 a511
       refine wl_val ha512 rfl rfl rfl (op_pick_t ha512 rfl rfl rfl) ?_
       intro a513 ha513; clear ha512 a512
       refine wl_val ha513 rfl rfl rfl (op_move ha513 rfl rfl) ?_
       intro a514 ha514; clear ha513 a513
       refine wl_skip ha514 rfl rfl rfl ?_
       intro a515 ha515; clear ha514 a514
       refine wl_skip ha515 rfl rfl rfl ?_
       intro a516 ha516; clear ha515 a515
       refine wl_skip ha516 rfl rfl rfl ?_
       intro a517 ha517; clear ha516 a516
       refine wl_val ha517 rfl rfl rfl (op_pick_t ha517 rfl rfl rfl) ?_
       intro a518 ha518; clear ha517 a517
       refine wpList_nil ?_
       refine then_n ?_
       refine cond_t ha518 rfl ?_
       refine wp_seq ?_
       clear ho22 hN24 ho42 ho57 ho72 ho87 ho128 ho143
       refine wp_region_lit ?_
       refine wl_val ha518 rfl rfl rfl (op_assign ha518 rfl rfl) ?_
       intro a519 ha519; clear ha518 a518
       refine wpList_nil ?_
       refine then_n ?_
       refine wp_ret ?_
       refine then_r ?_
       refine ret1 ha519 rfl rfl ?_
       clear ha519 a519
       exact ret_mk hx230 (congrArg Value.bool (by first | rfl | (exact absurd rfl c245) | (simp at c8; done) | (exact absurd hm5 c245) | (rw [hm6, eqL_self] at c245; cases c245) | (exact absurd hm5 c8) | (rw [hm6, eqL_self] at c8; cases c8) | omega))
     ·
      rw [c234] at ha233
      refine wl_skip ha233 rfl rfl rfl ?_
      intro a520 ha520; clear ha233 a233
      refine wl_skip ha520 rfl rfl rfl ?_
      intro a521 ha521; clear ha520 a520
      refine wl_skip ha521 rfl rfl rfl ?_
      intro a522 ha522; clear ha521 a521
      refine wl_val ha522 rfl rfl rfl (op_pick_t ha522 rfl rfl rfl) ?_
      intro a523 ha523; clear ha522 a522
      refine wl_val ha523 rfl rfl rfl (op_move ha523 rfl rfl) ?_
      intro a524 ha524; clear ha523 a523
      refine wl_skip ha524 rfl rfl rfl ?_
      intro a525 ha525; clear ha524 a524
      refine wl_skip ha525 rfl rfl rfl ?_
      intro a526 ha526; clear ha525 a525
      refine wl_skip ha526 rfl rfl rfl ?_
      intro a527 ha527; clear ha526 a526
      refine wl_val ha527 rfl rfl rfl (op_pick_t ha527 rfl rfl rfl) ?_
      intro a528 ha528; clear ha527 a527
      refine wl_val ha528 rfl rfl rfl (op_move ha528 rfl rfl) ?_
      intro a529 ha529; clear ha528 a528
      refine wl_skip ha529 rfl rfl rfl ?_
      intro a530 ha530; clear ha529 a529
      refine wl_skip ha530 rfl rfl rfl ?_
      intro a531 ha531; clear ha530 a530
      refine wl_skip ha531 rfl rfl rfl ?_
      intro a532 ha532; clear ha531 a531
      refine wl_val ha532 rfl rfl rfl (op_pick_t ha532 rfl rfl rfl) ?_
      intro a533 ha533; clear ha532 a532
      refine wl_val ha533 rfl rfl rfl (op_move ha533 rfl rfl) ?_
      intro a534 ha534; clear ha533 a533
      refine wl_skip ha534 rfl rfl rfl ?_
      intro a535 ha535; clear ha534 a534
      refine wl_skip ha535 rfl rfl rfl ?_
      intro a536 ha536; clear ha535 a535
      refine wl_skip ha536 rfl rfl rfl ?_
      intro a537 ha537; clear ha536 a536
      refine wl_skip ha537 rfl rfl rfl ?_
      intro a538 ha538; clear ha537 a537
      refine wl_val ha538 rfl rfl rfl (op_pick_t ha538 rfl rfl rfl) ?_
      intro a539 ha539; clear ha538 a538
      refine wl_val ha539 rfl rfl rfl (op_move ha539 rfl rfl) ?_
      intro a540 ha540; clear ha539 a539
      refine wl_skip ha540 rfl rfl rfl ?_
      intro a541 ha541; clear ha540 a540
      refine wl_skip ha541 rfl rfl rfl ?_
      intro a542 ha542; clear ha541 a541
      refine wl_skip ha542 rfl rfl rfl ?_
      intro a543 ha543; clear ha542 a542
      refine wl_val ha543 rfl rfl rfl (op_pick_t ha543 rfl rfl rfl) ?_
      intro a544 ha544; clear ha543 a543
      refine wl_val ha544 rfl rfl rfl (op_move ha544 rfl rfl) ?_
      intro a545 ha545; clear ha544 a544
      refine wl_skip ha545 rfl rfl rfl ?_
      intro a546 ha546; clear ha545 a545
      refine wl_skip ha546 rfl rfl rfl ?_
      intro a547 ha547; clear ha546 a546
      refine wl_skip ha547 rfl rfl rfl ?_
      intro a548 ha548; clear ha547 a547
      refine wl_val ha548 rfl rfl rfl (op_pick_t ha548 rfl rfl rfl) ?_
      intro a549 ha549; clear ha548 a548
      refine wpList_nil ?_
      refine then_n ?_
      refine cond_t ha549 rfl ?_
      refine wp_seq ?_
      clear ho22 hN24 ho42 ho57 ho72 ho87 ho128 ho143
      refine wp_region_lit ?_
      refine wl_val ha549 rfl rfl rfl (op_assign ha549 rfl rfl) ?_
      intro a550 ha550; clear ha549 a549
      refine wpList_nil ?_
      refine then_n ?_
      refine wp_ret ?_
      refine then_r ?_
      refine ret1 ha550 rfl rfl ?_
      clear ha550 a550
      exact ret_mk hx230 (congrArg Value.bool (by first | rfl | (rw [eqL_self] at c234; cases c234) | (simp at c8; done) | (exact absurd hm5 c234) | (rw [hm6, eqL_self] at c234; cases c234) | (exact absurd hm5 c8) | (rw [hm6, eqL_self] at c8; cases c8) | omega))
    ·
     rw [decide_eq_false c223] at ha222
     refine wl_skip ha222 rfl rfl rfl ?_
     intro a551 ha551; clear ha222 a222
     refine wl_skip ha551 rfl rfl rfl ?_
     intro a552 ha552; clear ha551 a551
     refine wl_skip ha552 rfl rfl rfl ?_
     intro a553 ha553; clear ha552 a552
     refine wl_skip ha553 rfl rfl rfl ?_
     intro a554 ha554; clear ha553 a553
     refine wl_val ha554 rfl rfl rfl (op_pick_t ha554 rfl rfl rfl) ?_
     intro a555 ha555; clear ha554 a554
     refine wl_val ha555 rfl rfl rfl (op_move ha555 rfl rfl) ?_
     intro a556 ha556; clear ha555 a555
     refine wl_skip ha556 rfl rfl rfl ?_
     intro a557 ha557; clear ha556 a556
     refine wl_skip ha557 rfl rfl rfl ?_
     intro a558 ha558; clear ha557 a557
     refine wl_skip ha558 rfl rfl rfl ?_
     intro a559 ha559; clear ha558 a558
     refine wl_val ha559 rfl rfl rfl (op_pick_t ha559 rfl rfl rfl) ?_
     intro a560 ha560; clear ha559 a559
     refine wl_val ha560 rfl rfl rfl (op_move ha560 rfl rfl) ?_
     intro a561 ha561; clear ha560 a560
     refine wl_skip ha561 rfl rfl rfl ?_
     intro a562 ha562; clear ha561 a561
     refine wl_skip ha562 rfl rfl rfl ?_
     intro a563 ha563; clear ha562 a562
     refine wl_skip ha563 rfl rfl rfl ?_
     intro a564 ha564; clear ha563 a563
     refine wl_val ha564 rfl rfl rfl (op_pick_t ha564 rfl rfl rfl) ?_
     intro a565 ha565; clear ha564 a564
     refine wl_val ha565 rfl rfl rfl (op_move ha565 rfl rfl) ?_
     intro a566 ha566; clear ha565 a565
     refine wl_skip ha566 rfl rfl rfl ?_
     intro a567 ha567; clear ha566 a566
     refine wl_skip ha567 rfl rfl rfl ?_
     intro a568 ha568; clear ha567 a567
     refine wl_skip ha568 rfl rfl rfl ?_
     intro a569 ha569; clear ha568 a568
     refine wl_val ha569 rfl rfl rfl (op_pick_t ha569 rfl rfl rfl) ?_
     intro a570 ha570; clear ha569 a569
     refine wl_val ha570 rfl rfl rfl (op_move ha570 rfl rfl) ?_
     intro a571 ha571; clear ha570 a570
     refine wl_skip ha571 rfl rfl rfl ?_
     intro a572 ha572; clear ha571 a571
     refine wl_skip ha572 rfl rfl rfl ?_
     intro a573 ha573; clear ha572 a572
     refine wl_skip ha573 rfl rfl rfl ?_
     intro a574 ha574; clear ha573 a573
     refine wl_skip ha574 rfl rfl rfl ?_
     intro a575 ha575; clear ha574 a574
     refine wl_val ha575 rfl rfl rfl (op_pick_t ha575 rfl rfl rfl) ?_
     intro a576 ha576; clear ha575 a575
     refine wl_val ha576 rfl rfl rfl (op_move ha576 rfl rfl) ?_
     intro a577 ha577; clear ha576 a576
     refine wl_skip ha577 rfl rfl rfl ?_
     intro a578 ha578; clear ha577 a577
     refine wl_skip ha578 rfl rfl rfl ?_
     intro a579 ha579; clear ha578 a578
     refine wl_skip ha579 rfl rfl rfl ?_
     intro a580 ha580; clear ha579 a579
     refine wl_val ha580 rfl rfl rfl (op_pick_t ha580 rfl rfl rfl) ?_
     intro a581 ha581; clear ha580 a580
     refine wl_val ha581 rfl rfl rfl (op_move ha581 rfl rfl) ?_
     intro a582 ha582; clear ha581 a581
     refine wl_skip ha582 rfl rfl rfl ?_
     intro a583 ha583; clear ha582 a582
     refine wl_skip ha583 rfl rfl rfl ?_
     intro a584 ha584; clear ha583 a583
     refine wl_skip ha584 rfl rfl rfl ?_
     intro a585 ha585; clear ha584 a584
     refine wl_val ha585 rfl rfl rfl (op_pick_t ha585 rfl rfl rfl) ?_
     intro a586 ha586; clear ha585 a585
     refine wpList_nil ?_
     refine then_n ?_
     refine cond_t ha586 rfl ?_
     refine wp_seq ?_
     clear ho22 hN24 ho42 ho57 ho72 ho87 ho128 ho143
     refine wp_region_lit ?_
     refine wl_val ha586 rfl rfl rfl (op_assign ha586 rfl rfl) ?_
     intro a587 ha587; clear ha586 a586
     refine wpList_nil ?_
     refine then_n ?_
     refine wp_ret ?_
     refine then_r ?_
     refine ret1 ha587 rfl rfl ?_
     clear ha587 a587
     exact ret_mk hx213 (congrArg Value.bool (by first | rfl | (exact absurd rfl c223) | (simp at c8; done) | (exact absurd hm5 c223) | (rw [hm6, eqL_self] at c223; cases c223) | (exact absurd hm5 c8) | (rw [hm6, eqL_self] at c8; cases c8) | omega))
   ·
    rw [c217] at ha216
    refine wl_skip ha216 rfl rfl rfl ?_
    intro a588 ha588; clear ha216 a216
    refine wl_skip ha588 rfl rfl rfl ?_
    intro a589 ha589; clear ha588 a588
    refine wl_skip ha589 rfl rfl rfl ?_
    intro a590 ha590; clear ha589 a589
    refine wl_val ha590 rfl rfl rfl (op_pick_t ha590 rfl rfl rfl) ?_
    intro a591 ha591; clear ha590 a590
    refine wl_val ha591 rfl rfl rfl (op_move ha591 rfl rfl) ?_
    intro a592 ha592; clear ha591 a591
    refine wl_skip ha592 rfl rfl rfl ?_
    intro a593 ha593; clear ha592 a592
    refine wl_skip ha593 rfl rfl rfl ?_
    intro a594 ha594; clear ha593 a593
    refine wl_skip ha594 rfl rfl rfl ?_
    intro a595 ha595; clear ha594 a594
    refine wl_skip ha595 rfl rfl rfl ?_
    intro a596 ha596; clear ha595 a595
    refine wl_val ha596 rfl rfl rfl (op_pick_t ha596 rfl rfl rfl) ?_
    intro a597 ha597; clear ha596 a596
    refine wl_val ha597 rfl rfl rfl (op_move ha597 rfl rfl) ?_
    intro a598 ha598; clear ha597 a597
    refine wl_skip ha598 rfl rfl rfl ?_
    intro a599 ha599; clear ha598 a598
    refine wl_skip ha599 rfl rfl rfl ?_
    intro a600 ha600; clear ha599 a599
    refine wl_skip ha600 rfl rfl rfl ?_
    intro a601 ha601; clear ha600 a600
    refine wl_val ha601 rfl rfl rfl (op_pick_t ha601 rfl rfl rfl) ?_
    intro a602 ha602; clear ha601 a601
    refine wl_val ha602 rfl rfl rfl (op_move ha602 rfl rfl) ?_
    intro a603 ha603; clear ha602 a602
    refine wl_skip ha603 rfl rfl rfl ?_
    intro a604 ha604; clear ha603 a603
    refine wl_skip ha604 rfl rfl rfl ?_
    intro a605 ha605; clear ha604 a604
    refine wl_skip ha605 rfl rfl rfl ?_
    intro a606 ha606; clear ha605 a605
    refine wl_val ha606 rfl rfl rfl (op_pick_t ha606 rfl rfl rfl) ?_
    intro a607 ha607; clear ha606 a606
    refine wl_val ha607 rfl rfl rfl (op_move ha607 rfl rfl) ?_
    intro a608 ha608; clear ha607 a607
    refine wl_skip ha608 rfl rfl rfl ?_
    intro a609 ha609; clear ha608 a608
    refine wl_skip ha609 rfl rfl rfl ?_
    intro a610 ha610; clear ha609 a609
    refine wl_skip ha610 rfl rfl rfl ?_
    intro a611 ha611; clear ha610 a610
    refine wl_val ha611 rfl rfl rfl (op_pick_t ha611 rfl rfl rfl) ?_
    intro a612 ha612; clear ha611 a611
    refine wl_val ha612 rfl rfl rfl (op_move ha612 rfl rfl) ?_
    intro a613 ha613; clear ha612 a612
    refine wl_skip ha613 rfl rfl rfl ?_
    intro a614 ha614; clear ha613 a613
    refine wl_skip ha614 rfl rfl rfl ?_
    intro a615 ha615; clear ha614 a614
    refine wl_skip ha615 rfl rfl rfl ?_
    intro a616 ha616; clear ha615 a615
    refine wl_skip ha616 rfl rfl rfl ?_
    intro a617 ha617; clear ha616 a616
    refine wl_val ha617 rfl rfl rfl (op_pick_t ha617 rfl rfl rfl) ?_
    intro a618 ha618; clear ha617 a617
    refine wl_val ha618 rfl rfl rfl (op_move ha618 rfl rfl) ?_
    intro a619 ha619; clear ha618 a618
    refine wl_skip ha619 rfl rfl rfl ?_
    intro a620 ha620; clear ha619 a619
    refine wl_skip ha620 rfl rfl rfl ?_
    intro a621 ha621; clear ha620 a620
    refine wl_skip ha621 rfl rfl rfl ?_
    intro a622 ha622; clear ha621 a621
    refine wl_val ha622 rfl rfl rfl (op_pick_t ha622 rfl rfl rfl) ?_
    intro a623 ha623; clear ha622 a622
    refine wl_val ha623 rfl rfl rfl (op_move ha623 rfl rfl) ?_
    intro a624 ha624; clear ha623 a623
    refine wl_skip ha624 rfl rfl rfl ?_
    intro a625 ha625; clear ha624 a624
    refine wl_skip ha625 rfl rfl rfl ?_
    intro a626 ha626; clear ha625 a625
    refine wl_skip ha626 rfl rfl rfl ?_
    intro a627 ha627; clear ha626 a626
    refine wl_val ha627 rfl rfl rfl (op_pick_t ha627 rfl rfl rfl) ?_
    intro a628 ha628; clear ha627 a627
    refine wpList_nil ?_
    refine then_n ?_
    refine cond_t ha628 rfl ?_
    refine wp_seq ?_
    clear ho22 hN24 ho42 ho57 ho72 ho87 ho128 ho143
    refine wp_region_lit ?_
    refine wl_val ha628 rfl rfl rfl (op_assign ha628 rfl rfl) ?_
    intro a629 ha629; clear ha628 a628
    refine wpList_nil ?_
    refine then_n ?_
    refine wp_ret ?_
    refine then_r ?_
    refine ret1 ha629 rfl rfl ?_
    clear ha629 a629
    exact ret_mk hx213 (congrArg Value.bool (by first | rfl | (rw [eqL_self] at c217; cases c217) | (simp at c8; done) | (exact absurd hm5 c217) | (rw [hm6, eqL_self] at c217; cases c217) | (exact absurd hm5 c8) | (rw [hm6, eqL_self] at c8; cases c8) | omega))
  ·
   rw [decide_eq_false c206] at ha205
   refine wl_skip ha205 rfl rfl rfl ?_
   intro a630 ha630; clear ha205 a205
   refine wl_skip ha630 rfl rfl rfl ?_
   intro a631 ha631; clear ha630 a630
   refine wl_skip ha631 rfl rfl rfl ?_
   intro a632 ha632; clear ha631 a631
   refine wl_skip ha632 rfl rfl rfl ?_
   intro a633 ha633; clear ha632 a632
   refine wl_val ha633 rfl rfl rfl (op_pick_t ha633 rfl rfl rfl) ?_
   intro a634 ha634; clear ha633 a633
   refine wl_val ha634 rfl rfl rfl (op_move ha634 rfl rfl) ?_
   intro a635 ha635; clear ha634 a634
   refine wl_skip ha635 rfl rfl rfl ?_
   intro a636 ha636; clear ha635 a635
   refine wl_skip ha636 rfl rfl rfl ?_
   intro a637 ha637; clear ha636 a636
   refine wl_skip ha637 rfl rfl rfl ?_
   intro a638 ha638; clear ha637 a637
   refine wl_val ha638 rfl rfl rfl (op_pick_t ha638 rfl rfl rfl) ?_
   intro a639 ha639; clear ha638 a638
   refine wl_val ha639 rfl rfl rfl (op_move ha639 rfl rfl) ?_
   intro a640 ha640; clear ha639 a639
   refine wl_skip ha640 rfl rfl rfl ?_
   intro a641 ha641; clear ha640 a640
   refine wl_skip ha641 rfl rfl rfl ?_
   intro a642 ha642; clear ha641 a641
   refine wl_skip ha642 rfl rfl rfl ?_
   intro a643 ha643; clear ha642 a642
   refine wl_skip ha643 rfl rfl rfl ?_
   intro a644 ha644; clear ha643 a643
   refine wl_val ha644 rfl rfl rfl (op_pick_t ha644 rfl rfl rfl) ?_
   intro a645 ha645; clear ha644 a644
   refine wl_val ha645 rfl rfl rfl (op_move ha645 rfl rfl) ?_
   intro a646 ha646; clear ha645 a645
   refine wl_skip ha646 rfl rfl rfl ?_
   intro a647 ha647; clear ha646 a646
   refine wl_skip ha647 rfl rfl rfl ?_
   intro a648 ha648; clear ha647 a647
   refine wl_skip ha648 rfl rfl rfl ?_
   intro a649 ha649; clear ha648 a648
   refine wl_val ha649 rfl rfl rfl (op_pick_t ha649 rfl rfl rfl) ?_
   intro a650 ha650; clear ha649 a649
   refine wl_val ha650 rfl rfl rfl (op_move ha650 rfl rfl) ?_
   intro a651 ha651; clear ha650 a650
   refine wl_skip ha651 rfl rfl rfl ?_
   intro a652 ha652; clear ha651 a651
   refine wl_skip ha652 rfl rfl rfl ?_
   intro a653 ha653; clear ha652 a652
   refine wl_skip ha653 rfl rfl rfl ?_
   intro a654 ha654; clear ha653 a653
   refine wl_val ha654 rfl rfl rfl (op_pick_t ha654 rfl rfl rfl) ?_
   intro a655 ha655; clear ha654 a654
   refine wl_val ha655 rfl rfl rfl (op_move ha655 rfl rfl) ?_
   intro a656 ha656; clear ha655 a655
   refine wl_skip ha656 rfl rfl rfl ?_
   intro a657 ha657; clear ha656 a656
   refine wl_skip ha657 rfl rfl rfl ?_
   intro a658 ha658; clear ha657 a657
   refine wl_skip ha658 rfl rfl rfl ?_
   intro a659 ha659; clear ha658 a658
   refine wl_val ha659 rfl rfl rfl (op_pick_t ha659 rfl rfl rfl) ?_
   intro a660 ha660; clear ha659 a659
   refine wl_val ha660 rfl rfl rfl (op_move ha660 rfl rfl) ?_
   intro a661 ha661; clear ha660 a660
   refine wl_skip ha661 rfl rfl rfl ?_
   intro a662 ha662; clear ha661 a661
   refine wl_skip ha662 rfl rfl rfl ?_
   intro a663 ha663; clear ha662 a662
   refine wl_skip ha663 rfl rfl rfl ?_
   intro a664 ha664; clear ha663 a663
   refine wl_skip ha664 rfl rfl rfl ?_
   intro a665 ha665; clear ha664 a664
   refine wl_val ha665 rfl rfl rfl (op_pick_t ha665 rfl rfl rfl) ?_
   intro a666 ha666; clear ha665 a665
   refine wl_val ha666 rfl rfl rfl (op_move ha666 rfl rfl) ?_
   intro a667 ha667; clear ha666 a666
   refine wl_skip ha667 rfl rfl rfl ?_
   intro a668 ha668; clear ha667 a667
   refine wl_skip ha668 rfl rfl rfl ?_
   intro a669 ha669; clear ha668 a668
   refine wl_skip ha669 rfl rfl rfl ?_
   intro a670 ha670; clear ha669 a669
   refine wl_val ha670 rfl rfl rfl (op_pick_t ha670 rfl rfl rfl) ?_
   intro a671 ha671; clear ha670 a670
   refine wl_val ha671 rfl rfl rfl (op_move ha671 rfl rfl) ?_
   intro a672 ha672; clear ha671 a671
   refine wl_skip ha672 rfl rfl rfl ?_
   intro a673 ha673; clear ha672 a672
   refine wl_skip ha673 rfl rfl rfl ?_
   intro a674 ha674; clear ha673 a673
   refine wl_skip ha674 rfl rfl rfl ?_
   intro a675 ha675; clear ha674 a674
   refine wl_val ha675 rfl rfl rfl (op_pick_t ha675 rfl rfl rfl) ?_
   intro a676 ha676; clear ha675 a675
   refine wpList_nil ?_
   refine then_n ?_
   refine cond_t ha676 rfl ?_
   refine wp_seq ?_
   clear ho22 hN24 ho42 ho57 ho72 ho87 ho128 ho143
   refine wp_region_lit ?_
   refine wl_val ha676 rfl rfl rfl (op_assign ha676 rfl rfl) ?_
   intro a677 ha677; clear ha676 a676
   refine wpList_nil ?_
   refine then_n ?_
   refine wp_ret ?_
   refine then_r ?_
   refine ret1 ha677 rfl rfl ?_
   clear ha677 a677
   exact ret_mk hx196 (congrArg Value.bool (by first | rfl | (exact absurd rfl c206) | (simp at c8; done) | (exact absurd hm5 c206) | (rw [hm6, eqL_self] at c206; cases c206) | (exact absurd hm5 c8) | (rw [hm6, eqL_self] at c8; cases c8) | omega))


end Go.Proofs.Ytllpdkidaldkiaa
