/- The law FnVersions, walked. -/
import Derived.Test.YtllpdkidaldkiaaR7
import Derived.Test.YtllpdkidaldkiaaP0
import Derived.Test.YtllpdkidaldkiaaW9
import Derived.Test.YtllpdkidaldkiaaW10
import Derived.Test.YtllpdkidaldkiaaW11
namespace Go.Proofs.Ytllpdkidaldkiaa
open Go Go.RowKit
theorem valV_mem {k : Str} : ∀ {ls : List Line}, valV k ls ≠ -1 → ∃ l ∈ ls, l.1 = k ∧ l.2 = valV k ls
  | [], h => absurd rfl h
  | l :: ls, h => by
    rw [valV] at h ⊢
    split at h
    · rename_i e; rw [if_pos e]; exact ⟨l, by simp, e, rfl⟩
    · rename_i e; rw [if_neg e]; obtain ⟨x, hx, h1⟩ := valV_mem h; exact ⟨x, by simp [hx], h1⟩
theorem valV_of {k : Str} {v : Int} : ∀ {ls : List Line}, ls.Pairwise (fun x y => x.1 < y.1) → (k, v) ∈ ls → valV k ls = v
  | l :: ls, h, hm => by
    have h' := List.pairwise_cons.1 h
    rw [valV]
    rcases List.mem_cons.1 hm with e | e
    · subst e; rw [if_pos rfl]
    · rw [if_neg fun q => by have := h'.1 _ e; rw [q] at this; exact str_irr _ this]; exact valV_of h'.2 e

theorem way_next {vs : List Ver} (h : ParOk vs) : ∀ (n : Nat) (v : Int), v < n → ∀ (i : Nat) (a b : Int), (wayV vs v)[i]? = some a → (wayV vs v)[i + 1]? = some b → b = parV vs a
  | 0, v, hv, i, a, b, ha, _ => by rw [wayV_neg (by omega)] at ha; simp at ha
  | n + 1, v, hv, i, a, b, ha, hb => by
    by_cases q : v < 0
    · rw [wayV_neg q] at ha; simp at ha
    · have hp := h v (by omega)
      rw [wayV_step h (by omega)] at ha hb
      cases i with
      | zero =>
        simp at ha; subst ha
        simp only [List.getElem?_cons_succ] at hb
        by_cases r : parV vs v < 0
        · rw [wayV_neg r] at hb; simp at hb
        · rw [wayV_step h (by omega)] at hb; simp at hb; exact hb.symm
      | succ i =>
        simp only [List.getElem?_cons_succ] at ha hb
        exact way_next h n (parV vs v) (by omega) i a b ha hb
theorem wf_bd {vs : List Ver} {v : Int} (h : cdV vs v v = 0) {i : Nat} {a : Int} (ha : (wfV vs v)[i]? = some a) : 0 ≤ a ∧ a < (vs.length : Nat) := by
  obtain ⟨h1, h2, _⟩ := cdV_ok h
  unfold wfV at ha; rw [if_pos h] at ha
  have := wayV_mem (par_ok h1) (List.mem_of_getElem? ha)
  have := in_bd h2; omega
/-- The next one on a way is the parent, and no head. -/
theorem wf_next {vs : List Ver} {v : Int} (h : cdV vs v v = 0) {i : Nat} {a b : Int} {c : Ver} (hi : 1 ≤ i) (ha : (wfV vs v)[i - 1]? = some a) (hb : (wfV vs v)[i]? = some b) (hc : vs[a.toNat]? = some c) : c.1 = b ∧ b ∉ hdL vs := by
  obtain ⟨h1, h2, _⟩ := cdV_ok h
  have hbd := wf_bd h hb
  unfold wfV at ha hb; rw [if_pos h] at ha hb
  have e := way_next (par_ok h1) (v + 1).toNat v (by omega) (i - 1) a b ha (by rw [Nat.sub_add_cancel hi]; exact hb)
  rw [parV_eq hc] at e
  refine ⟨e.symm, fun q => ?_⟩
  unfold hdL at q; rw [if_pos (cd00 h1)] at q
  obtain ⟨k, hk, hp⟩ := hdU_mem q
  unfold parB at hp
  rw [List.any_eq_false] at hp
  exact hp c (List.mem_of_getElem? hc) (by rw [decide_eq_true_eq]; omega)
theorem wf_len {vs : List Ver} {v : Int} (h : cdV vs v v = 0) : (wfV vs v).length ≤ 20 := by
  obtain ⟨h1, h2, _⟩ := cdV_ok h
  have := in_bd h2; have := veB_len h1
  unfold wfV; rw [if_pos h]; exact wayV_len (par_ok h1) 20 v (by omega)
theorem av_all {vs : List Ver} {p : Int} {ls : List Line} (h : avC vs p ls = 0) : veB (avL vs p ls) = true ∧ (avL vs p ls).length = vs.length + 1 ∧ (avL vs p ls)[vs.length]? = some (p, ls) := by
  have e : avL vs p ls = vs ++ [(p, ls)] := by unfold avL; rw [if_pos h]
  unfold avC at h
  split at h
  · rename_i hs
    split at h
    · rename_i hc
      split at h
      · cases h
      · rename_i hl
        have h1 := cdV_in hc; have hb := veB_len h1.1
        rw [e]; exact ⟨ve_app h1.1 h1.2 hs (by omega), by simp, by simp⟩
    · exact absurd h ‹_›
  · cases h
theorem av_len {vs : List Ver} {p : Int} {ls : List Line} : (avL vs p ls).length ≤ vs.length + 1 := by
  unfold avL; split <;> simp
theorem sd_len (vs : List Ver) (v : Int) (k : Str) (n : Int) : (sdL vs v k n).length ≤ vs.length + 1 := by
  unfold sdL; split <;> simp
theorem valV_none {k : Str} : ∀ {ls : List Line}, (∀ l ∈ ls, l.1 ≠ k) → valV k ls = -1
  | [], _ => rfl
  | l :: ls, h => by rw [valV, if_neg (h l (by simp))]; exact valV_none fun x hx => h x (by simp [hx])
theorem stG_has {k : Str} {v : Int} : ∀ {ls : List Line}, (k, v) ∈ stG k v ls false
  | [] => by rw [stG]; simp
  | l :: ls => by
    by_cases q : l.1 < k
    · rw [st_no (.inr q)]; exact List.mem_append_right _ stG_has
    · rw [st_put q]; simp
theorem stG_old {k : Str} {v : Int} {z : Line} : ∀ {ls : List Line} {d : Bool}, z ∈ ls → z.1 ≠ k → z ∈ stG k v ls d
  | l :: ls, d, h, hn => by
    have key : ∀ d', z ∈ (if l.1 = k then [] else [l]) ++ stG k v ls d' := by
      intro d'
      rcases List.mem_cons.1 h with e | e
      · subst e; rw [if_neg hn]; simp
      · exact List.mem_append_right _ (stG_old e hn)
    by_cases q : d = true ∨ l.1 < k
    · rw [st_no q]; exact key d
    · rw [not_or] at q
      have e : d = false := by simpa using q.1
      subst e
      rw [st_put q.2]; exact List.mem_cons_of_mem _ (key true)
theorem st_val {k : Str} {v : Int} {ls : List Line} (h : shB ls = true) (hv : -1 ≤ v) : valV k (stL k v ls) = v := by
  have hp : (stL k v ls).Pairwise fun x y => x.1 < y.1 := stG_pw (sh_up h)
  unfold stL at hp ⊢
  by_cases e : v = -1
  · subst e
    refine valV_none fun l hl => ?_
    rcases stG_mem hl with q | q
    · simp at q
    · exact q.2
  · have : decide (v = -1) = false := by simpa using e
    rw [this] at hp ⊢
    exact valV_of hp stG_has
theorem st_other {k j : Str} {v : Int} {ls : List Line} (h : shB ls = true) (hj : j ≠ k) : valV j (stL k v ls) = valV j ls := by
  have hp : (stL k v ls).Pairwise fun x y => x.1 < y.1 := stG_pw (sh_up h)
  by_cases e : valV j ls = -1
  · rw [e]
    refine Classical.byContradiction fun q => ?_
    obtain ⟨l, hl, e1, e2⟩ := valV_mem q
    unfold stL at hl
    rcases stG_mem hl with r | r
    · rw [r.2] at e1; exact hj e1.symm
    · have h9 := valV_of (k := l.1) (v := l.2) (sh_up h) r.1
      rw [e1] at h9; rw [h9] at e
      have := (shB_el h l r.1).2; omega
  · obtain ⟨l, hl, e1, e2⟩ := valV_mem e
    have : (j, valV j ls) ∈ stL k v ls := by
      have h2 : l = (j, valV j ls) := Prod.ext e1 e2
      rw [← h2]; unfold stL; exact stG_old hl (by rw [e1]; exact hj)
    exact valV_of hp this
theorem kcL_mem {X Y : List Line} {k : Str} : ∀ {ks : List Str}, k ∈ kcL X Y ks → k ∈ ks ∧ valV k X ≠ valV k Y
  | [], h => by cases h
  | j :: ks, h => by
    rw [kcL] at h; split at h
    · have := kcL_mem h; exact ⟨by simp [this.1], this.2⟩
    · rcases List.mem_cons.1 h with e | e
      · subst e; exact ⟨by simp, ‹_›⟩
      · have := kcL_mem e; exact ⟨by simp [this.1], this.2⟩
theorem kcL_up {X Y : List Line} : ∀ {ks : List Str}, UpS ks → UpS (kcL X Y ks)
  | [], _ => List.Pairwise.nil
  | j :: ks, h => by
    have h' := List.pairwise_cons.1 h
    rw [kcL]; split
    · exact kcL_up h'.2
    · exact List.Pairwise.cons (fun z hz => h'.1 z (kcL_mem hz).1) (kcL_up h'.2)
theorem one_len {ks : List Str} {k : Str} (h : UpS ks) (h2 : ∀ j ∈ ks, j = k) : ks.length ≤ 1 := by
  match ks, h with
  | [], _ => simp
  | [a], _ => simp
  | a :: b :: r, h =>
    have h1 := (List.pairwise_cons.1 h).1 b (by simp)
    rw [h2 a (by simp), h2 b (by simp)] at h1
    exact absurd h1 (str_irr k)
theorem ve_cd (vs : List Ver) : (veB vs == decide (cdV vs 0 0 = 0)) = true := by
  by_cases h : veB vs = true
  · rw [h, decide_eq_true (cd00 h)]; rfl
  · have h' : veB vs = false := by simpa using h
    rw [h', decide_eq_false (by rw [cdV_1 h']; decide)]; rfl
theorem wf_20 (vs : List Ver) (v : Int) : (wfV vs v).length ≤ 20 := by
  by_cases h : cdV vs v v = 0
  · exact wf_len h
  · unfold wfV; rw [if_neg h]; exact Nat.zero_le _
theorem av_el {vs : List Ver} {p : Int} {ls : List Line} {i : Nat} {x : Ver} (h : avC vs p ls = 0) (hx : (avL vs p ls)[i]? = some x) (hi : i = vs.length) : x = (p, ls) := by
  subst hi; rw [(av_all h).2.2] at hx; exact (Option.some.inj hx).symm
/-- What is known of versions behind one in which a value has been set. -/
theorem sv_all {vs : List Ver} {v : Int} {k : Str} {n : Int} (h : sdC vs v k n = 0) : veB (sdL vs v k n) = true ∧ (sdL vs v k n).length = vs.length + 1 ∧ cdW (sdL vs v k n) (vs.length : Nat) k = 0 ∧ vaV (sdL vs v k n) (vs.length : Nat) k = n ∧ cdV (sdL vs v k n) v (vs.length : Nat) = 0 ∧ (kcV (sdL vs v k n) v (vs.length : Nat)).length ≤ 1 ∧ ∀ x, (sdL vs v k n)[vs.length]? = some x → x.1 = v := by
  have hve := sd_ve h
  have e : sdL vs v k n = vs ++ [(v, stL k n (lnV vs v))] := by unfold sdL; rw [if_pos h]
  have hlen : (sdL vs v k n).length = vs.length + 1 := by rw [e]; simp
  have hat : (sdL vs v k n)[vs.length]? = some (v, stL k n (lnV vs v)) := by rw [e]; simp
  have hparts : wordB k = true ∧ cdV vs v v = 0 ∧ -1 ≤ n := by
    unfold sdC at h
    split at h
    · rename_i hk
      split at h
      · rename_i hc
        split at h
        · rename_i hn; exact ⟨hk, hc, hn.1⟩
        · cases h
      · exact absurd h ‹_›
    · cases h
  obtain ⟨hk, hc, hn⟩ := hparts
  obtain ⟨c1, c2, _⟩ := cdV_ok hc
  have hb := in_bd c2
  have hin : ∀ x : Int, 0 ≤ x → x ≤ (vs.length : Nat) → inV (sdL vs v k n) x = true := fun x h0 h1 => by unfold inV; rw [hlen]; simp; omega
  have hcl : cdV (sdL vs v k n) (vs.length : Nat) (vs.length : Nat) = 0 := cdV_0 hve (hin _ (by omega) (by omega)) (hin _ (by omega) (by omega))
  have hcv : cdV (sdL vs v k n) v (vs.length : Nat) = 0 := cdV_0 hve (hin _ (by omega) (by omega)) (hin _ (by omega) (by omega))
  have hl1 : lnV (sdL vs v k n) (vs.length : Nat) = stL k n (lnV vs v) := lnV_eq (x := (v, stL k n (lnV vs v))) (by rw [Int.toNat_natCast]; exact hat)
  have hl2 : lnV (sdL vs v k n) v = lnV vs v := by
    unfold lnV; rw [e, List.getElem?_append_left (by omega)]
  have hsh := lnV_sh c1 v
  have hw : cdW (sdL vs v k n) (vs.length : Nat) k = 0 := by unfold cdW; rw [if_pos hk]; exact hcl
  refine ⟨hve, hlen, hw, ?_, hcv, ?_, fun x hx => by rw [hat] at hx; cases hx; rfl⟩
  · unfold vaV; rw [if_pos hw, hl1, st_val hsh hn]
  · unfold kcV; rw [if_pos hcv, hl1, hl2]
    exact one_len (kcL_up (allK_up _)) fun j hj => Classical.byContradiction fun q => (kcL_mem hj).2 (st_other hsh q).symm

set_option maxHeartbeats 8000000 in
set_option maxRecDepth 16000 in
theorem c_laws_FnVersions (w0 : World) (v_code : Value) (code : List UInt8) {S_code : Nat → Prop} (h_code : Rds shU8 S_code w0 v_code code) :
  Calls Try.prog 6 #[v_code] w0 (Ret w0 (fun v _ => v = .bool (true))) := by
 refine enter (N := 252) Try.func6 rfl rfl rfl ?_
 intro a0 ha0
 have hx0 := Ext.rfl' w0
 have hl_code := h_code.length_le
 refine wp_seq ?_
 refine wp_region_lit ?_
 refine wl_val ha0 rfl rfl rfl (op_assign ha0 rfl rfl) ?_
 intro a1 ha1; clear ha0 a0
 refine wpList_nil ?_
 refine then_n ?_
 refine wp_seq ?_
 refine wp_seq ?_
 refine wp_region_lit ?_
 refine wl_val ha1 rfl rfl rfl (op_move ha1 rfl rfl) ?_
 intro a2 ha2; clear ha1 a1
 refine wl_callR ha2 rfl rfl rfl (op_call ha2 rfl cb24 rfl) (c_laws_big _ v_code code (h_code.ext pos_shU8 hx0)) ?_
 rintro v3 w4 he5 rfl a6 ha6; clear ha2 a2
 have hx7 := hx0.trans' he5
 have hzhx7 := he5.size
 refine wpList_nil ?_
 refine then_n ?_
 rcases Bool.eq_false_or_eq_true (decide (4096 < code.length)) with c8 | c8
 ·
  rw [c8] at ha6
  refine cond_t ha6 rfl ?_
  refine wp_seq ?_
  refine wp_region_lit ?_
  refine wl_val ha6 rfl rfl rfl (op_assign ha6 rfl rfl) ?_
  intro a9 ha9; clear ha6 a6
  refine wpList_nil ?_
  refine then_n ?_
  refine wp_ret ?_
  refine then_r ?_
  refine ret1 ha9 rfl rfl ?_
  clear ha9 a9
  exact ret_mk hx7 (congrArg Value.bool (by first | rfl | (rw [decide_eq_true_eq]; exact hsx) | (simp at c8; done) | omega))
 ·
  rw [c8] at ha6
  refine cond_f ha6 rfl ?_
  refine wp_skip ?_
  refine then_n ?_
  refine wp_seq ?_
  refine wp_region_lit ?_
  refine wl_val ha6 rfl rfl rfl (op_move ha6 rfl rfl) ?_
  intro a10 ha10; clear ha6 a6
  refine wl_callR ha10 rfl rfl rfl (op_call ha10 rfl cb25 rfl) (c_spec_DrawSetValue _ v_code code (h_code.ext pos_shU8 hx7)) ?_
  rintro v11 w12 he13 ⟨q14, q15, q16, q17, hq18, hq19, hq20, hq21, hq22, ⟨u23, z25, rfl, ho24, hN26, hE27⟩⟩ a28 ha28; clear ha10 a10
  have hx29 := hx7.trans' he13
  have hzhx29 := he13.size
  have hlhE27 := absLen hE27
  refine wl_val ha28 rfl rfl rfl (op_move ha28 rfl rfl) ?_
  intro a30 ha30; clear ha28 a28
  refine wl_val ha30 rfl rfl rfl (op_extract ha30 rfl rfl rfl) ?_
  intro a31 ha31; clear ha30 a30
  refine wl_val ha31 rfl rfl rfl (op_extract ha31 rfl rfl rfl) ?_
  intro a32 ha32; clear ha31 a31
  refine wl_val ha32 rfl rfl rfl (op_extract ha32 rfl rfl rfl) ?_
  intro a33 ha33; clear ha32 a32
  refine wl_val ha33 rfl rfl rfl (op_extract ha33 rfl rfl rfl) ?_
  intro a34 ha34; clear ha33 a33
  refine wl_val ha34 rfl rfl rfl (op_assign ha34 rfl rfl) ?_
  intro a35 ha35; clear ha34 a34
  refine wl_val ha35 rfl rfl rfl (op_assign ha35 rfl rfl) ?_
  intro a36 ha36; clear ha35 a35
  refine wl_val ha36 rfl rfl rfl (op_assign ha36 rfl rfl) ?_
  intro a37 ha37; clear ha36 a36
  refine wl_val ha37 rfl rfl rfl (op_assign ha37 rfl rfl) ?_
  intro a38 ha38; clear ha37 a37
  refine wpList_nil ?_
  refine then_n ?_
  refine wp_seq ?_
  refine wp_region_lit ?_
  refine wl_val ha38 rfl rfl rfl (op_move ha38 rfl rfl) ?_
  intro a39 ha39; clear ha38 a38
  refine wl_val ha39 rfl rfl rfl (op_move ha39 rfl rfl) ?_
  intro a40 ha40; clear ha39 a39
  refine wl_val ha40 rfl rfl rfl (op_move ha40 rfl rfl) ?_
  intro a41 ha41; clear ha40 a40
  refine wl_val ha41 rfl rfl rfl (op_move ha41 rfl rfl) ?_
  intro a42 ha42; clear ha41 a41
  refine wl_callR ha42 rfl rfl rfl (op_call ha42 rfl cb26 rfl) (c_impl_SetValue _ u23 ((q14)) (q15 : Int) ((q16)) (q17 : Int) ((rds_shVerN (ho24.fin (by omega) (by omega) (by omega)) hN26).cast hE27) (by first | assumption | omega | (simp; done) | (simp; omega)) (by first | assumption | omega | (simp; done) | (simp; omega)) (by first | assumption | omega | (simp; done) | (simp; omega))) ?_
  rintro v43 w44 he45 ⟨u46, z48, rfl, ho47, hN49, hE50⟩ a51 ha51; clear ha42 a42
  have hx52 := hx29.trans' he45
  have hzhx52 := he45.size
  replace ho24 := ho24.ext he45
  replace hN26 := hN26.ext he45
  have hlhE50 := absLen hE50
  refine wl_val ha51 rfl rfl rfl (op_move ha51 rfl rfl) ?_
  intro a53 ha53; clear ha51 a51
  refine wl_val ha53 rfl rfl rfl (op_extract ha53 rfl rfl rfl) ?_
  intro a54 ha54; clear ha53 a53
  refine wl_val ha54 rfl rfl rfl (op_extract ha54 rfl rfl rfl) ?_
  intro a55 ha55; clear ha54 a54
  refine wl_val ha55 rfl rfl rfl (op_assign ha55 rfl rfl) ?_
  intro a56 ha56; clear ha55 a55
  refine wl_val ha56 rfl rfl rfl (op_assign ha56 rfl rfl) ?_
  intro a57 ha57; clear ha56 a56
  refine wpList_nil ?_
  refine then_n ?_
  refine wp_seq ?_
  refine wp_region_lit ?_
  refine wl_val ha57 rfl rfl rfl (op_move ha57 rfl rfl) ?_
  intro a58 ha58; clear ha57 a57
  refine wl_val ha58 rfl rfl rfl (op_move ha58 rfl rfl) ?_
  intro a59 ha59; clear ha58 a58
  refine wl_val ha59 rfl rfl rfl (op_move ha59 rfl rfl) ?_
  intro a60 ha60; clear ha59 a59
  refine wl_val ha60 rfl rfl rfl (op_move ha60 rfl rfl) ?_
  intro a61 ha61; clear ha60 a60
  refine wl_callR ha61 rfl rfl rfl (op_call ha61 rfl cb27 rfl) (c_spec_SetValue _ u23 ((q14)) (q15 : Int) ((q16)) (q17 : Int) ((rds_shVerN (ho24.fin (by omega) (by omega) (by omega)) hN26).cast hE27) (by first | assumption | omega | (simp; done) | (simp; omega)) (by first | assumption | omega | (simp; done) | (simp; omega)) (by first | assumption | omega | (simp; done) | (simp; omega))) ?_
  rintro v62 w63 he64 ⟨u65, z67, rfl, ho66, hN68, hE69⟩ a70 ha70; clear ha61 a61
  have hx71 := hx52.trans' he64
  have hzhx71 := he64.size
  replace ho24 := ho24.ext he64
  replace hN26 := hN26.ext he64
  replace ho47 := ho47.ext he64
  replace hN49 := hN49.ext he64
  have hlhE69 := absLen hE69
  refine wl_val ha70 rfl rfl rfl (op_move ha70 rfl rfl) ?_
  intro a72 ha72; clear ha70 a70
  refine wl_val ha72 rfl rfl rfl (op_extract ha72 rfl rfl rfl) ?_
  intro a73 ha73; clear ha72 a72
  refine wl_val ha73 rfl rfl rfl (op_extract ha73 rfl rfl rfl) ?_
  intro a74 ha74; clear ha73 a73
  refine wl_val ha74 rfl rfl rfl (op_assign ha74 rfl rfl) ?_
  intro a75 ha75; clear ha74 a74
  refine wl_val ha75 rfl rfl rfl (op_assign ha75 rfl rfl) ?_
  intro a76 ha76; clear ha75 a75
  refine wpList_nil ?_
  refine then_n ?_
  refine wp_seq ?_
  refine wp_region_lit ?_
  refine wl_val ha76 rfl rfl rfl (op_move ha76 rfl rfl) ?_
  intro a77 ha77; clear ha76 a76
  refine wl_callR ha77 rfl rfl rfl (op_call ha77 rfl cb28 rfl) (c_spec_DrawWayToFirst _ v_code code (h_code.ext pos_shU8 hx71)) ?_
  rintro v78 w79 he80 ⟨q81, q82, hq83, hq84, hq85, ⟨u86, z88, rfl, ho87, hN89, hE90⟩⟩ a91 ha91; clear ha77 a77
  have hx92 := hx71.trans' he80
  have hzhx92 := he80.size
  replace ho24 := ho24.ext he80
  replace hN26 := hN26.ext he80
  replace ho47 := ho47.ext he80
  replace hN49 := hN49.ext he80
  replace ho66 := ho66.ext he80
  replace hN68 := hN68.ext he80
  have hlhE90 := absLen hE90
  refine wl_val ha91 rfl rfl rfl (op_move ha91 rfl rfl) ?_
  intro a93 ha93; clear ha91 a91
  refine wl_val ha93 rfl rfl rfl (op_extract ha93 rfl rfl rfl) ?_
  intro a94 ha94; clear ha93 a93
  refine wl_val ha94 rfl rfl rfl (op_extract ha94 rfl rfl rfl) ?_
  intro a95 ha95; clear ha94 a94
  refine wl_val ha95 rfl rfl rfl (op_assign ha95 rfl rfl) ?_
  intro a96 ha96; clear ha95 a95
  refine wl_val ha96 rfl rfl rfl (op_assign ha96 rfl rfl) ?_
  intro a97 ha97; clear ha96 a96
  refine wpList_nil ?_
  refine then_n ?_
  refine wp_seq ?_
  refine wp_region_lit ?_
  refine wl_val ha97 rfl rfl rfl (op_move ha97 rfl rfl) ?_
  intro a98 ha98; clear ha97 a97
  refine wl_val ha98 rfl rfl rfl (op_move ha98 rfl rfl) ?_
  intro a99 ha99; clear ha98 a98
  refine wl_callR ha99 rfl rfl rfl (op_call ha99 rfl cb29 rfl) (c_impl_WayToFirst _ u86 ((q81)) (q82 : Int) ((rds_shVerN (ho87.fin (by omega) (by omega) (by omega)) hN89).cast hE90)) ?_
  rintro v100 w101 he102 ⟨v103, rfl, ho104⟩ a105 ha105; clear ha99 a99
  have hx106 := hx92.trans' he102
  have hzhx106 := he102.size
  replace ho24 := ho24.ext he102
  replace hN26 := hN26.ext he102
  replace ho47 := ho47.ext he102
  replace hN49 := hN49.ext he102
  replace ho66 := ho66.ext he102
  replace hN68 := hN68.ext he102
  replace ho87 := ho87.ext he102
  replace hN89 := hN89.ext he102
  refine wl_val ha105 rfl rfl rfl (op_move ha105 rfl rfl) ?_
  intro a107 ha107; clear ha105 a105
  refine wl_val ha107 rfl rfl rfl (op_extract ha107 rfl rfl rfl) ?_
  intro a108 ha108; clear ha107 a107
  refine wl_val ha108 rfl rfl rfl (op_extract ha108 rfl rfl rfl) ?_
  intro a109 ha109; clear ha108 a108
  refine wl_val ha109 rfl rfl rfl (op_assign ha109 rfl rfl) ?_
  intro a110 ha110; clear ha109 a109
  refine wl_val ha110 rfl rfl rfl (op_assign ha110 rfl rfl) ?_
  intro a111 ha111; clear ha110 a110
  refine wpList_nil ?_
  refine then_n ?_
  refine wp_seq ?_
  refine wp_region_lit ?_
  refine wl_val ha111 rfl rfl rfl (op_move ha111 rfl rfl) ?_
  intro a112 ha112; clear ha111 a111
  refine wl_val ha112 rfl rfl rfl (op_move ha112 rfl rfl) ?_
  intro a113 ha113; clear ha112 a112
  refine wl_callR ha113 rfl rfl rfl (op_call ha113 rfl cb30 rfl) (c_spec_WayToFirst _ u86 ((q81)) (q82 : Int) ((rds_shVerN (ho87.fin (by omega) (by omega) (by omega)) hN89).cast hE90)) ?_
  rintro v114 w115 he116 ⟨v117, rfl, ho118⟩ a119 ha119; clear ha113 a113
  have hx120 := hx106.trans' he116
  have hzhx120 := he116.size
  replace ho24 := ho24.ext he116
  replace hN26 := hN26.ext he116
  replace ho47 := ho47.ext he116
  replace hN49 := hN49.ext he116
  replace ho66 := ho66.ext he116
  replace hN68 := hN68.ext he116
  replace ho87 := ho87.ext he116
  replace hN89 := hN89.ext he116
  replace ho104 := ho104.ext he116
  refine wl_val ha119 rfl rfl rfl (op_move ha119 rfl rfl) ?_
  intro a121 ha121; clear ha119 a119
  refine wl_val ha121 rfl rfl rfl (op_extract ha121 rfl rfl rfl) ?_
  intro a122 ha122; clear ha121 a121
  refine wl_val ha122 rfl rfl rfl (op_extract ha122 rfl rfl rfl) ?_
  intro a123 ha123; clear ha122 a122
  refine wl_val ha123 rfl rfl rfl (op_assign ha123 rfl rfl) ?_
  intro a124 ha124; clear ha123 a123
  refine wl_val ha124 rfl rfl rfl (op_assign ha124 rfl rfl) ?_
  intro a125 ha125; clear ha124 a124
  refine wpList_nil ?_
  refine then_n ?_
  refine wp_seq ?_
  refine wp_region_lit ?_
  refine wl_val ha125 rfl rfl rfl (op_move ha125 rfl rfl) ?_
  intro a126 ha126; clear ha125 a125
  refine wl_callR ha126 rfl rfl rfl (op_call ha126 rfl cb31 rfl) (c_impl_HeadsOf _ u86 ((q81)) ((rds_shVerN (ho87.fin (by omega) (by omega) (by omega)) hN89).cast hE90)) ?_
  rintro v127 w128 he129 ⟨v130, rfl, ho131⟩ a132 ha132; clear ha126 a126
  have hx133 := hx120.trans' he129
  have hzhx133 := he129.size
  replace ho24 := ho24.ext he129
  replace hN26 := hN26.ext he129
  replace ho47 := ho47.ext he129
  replace hN49 := hN49.ext he129
  replace ho66 := ho66.ext he129
  replace hN68 := hN68.ext he129
  replace ho87 := ho87.ext he129
  replace hN89 := hN89.ext he129
  replace ho104 := ho104.ext he129
  replace ho118 := ho118.ext he129
  refine wl_val ha132 rfl rfl rfl (op_move ha132 rfl rfl) ?_
  intro a134 ha134; clear ha132 a132
  refine wl_val ha134 rfl rfl rfl (op_extract ha134 rfl rfl rfl) ?_
  intro a135 ha135; clear ha134 a134
  refine wl_val ha135 rfl rfl rfl (op_extract ha135 rfl rfl rfl) ?_
  intro a136 ha136; clear ha135 a135
  refine wl_val ha136 rfl rfl rfl (op_assign ha136 rfl rfl) ?_
  intro a137 ha137; clear ha136 a136
  refine wl_val ha137 rfl rfl rfl (op_assign ha137 rfl rfl) ?_
  intro a138 ha138; clear ha137 a137
  refine wpList_nil ?_
  refine then_n ?_
  refine wp_seq ?_
  refine wp_region_lit ?_
  refine wl_val ha138 rfl rfl rfl (op_move ha138 rfl rfl) ?_
  intro a139 ha139; clear ha138 a138
  refine wl_callR ha139 rfl rfl rfl (op_call ha139 rfl cb32 rfl) (c_spec_HeadsOf _ u86 ((q81)) ((rds_shVerN (ho87.fin (by omega) (by omega) (by omega)) hN89).cast hE90)) ?_
  rintro v140 w141 he142 ⟨v143, rfl, ho144⟩ a145 ha145; clear ha139 a139
  have hx146 := hx133.trans' he142
  have hzhx146 := he142.size
  replace ho24 := ho24.ext he142
  replace hN26 := hN26.ext he142
  replace ho47 := ho47.ext he142
  replace hN49 := hN49.ext he142
  replace ho66 := ho66.ext he142
  replace hN68 := hN68.ext he142
  replace ho87 := ho87.ext he142
  replace hN89 := hN89.ext he142
  replace ho104 := ho104.ext he142
  replace ho118 := ho118.ext he142
  replace ho131 := ho131.ext he142
  refine wl_val ha145 rfl rfl rfl (op_move ha145 rfl rfl) ?_
  intro a147 ha147; clear ha145 a145
  refine wl_val ha147 rfl rfl rfl (op_extract ha147 rfl rfl rfl) ?_
  intro a148 ha148; clear ha147 a147
  refine wl_val ha148 rfl rfl rfl (op_extract ha148 rfl rfl rfl) ?_
  intro a149 ha149; clear ha148 a148
  refine wl_val ha149 rfl rfl rfl (op_assign ha149 rfl rfl) ?_
  intro a150 ha150; clear ha149 a149
  refine wl_val ha150 rfl rfl rfl (op_assign ha150 rfl rfl) ?_
  intro a151 ha151; clear ha150 a150
  refine wpList_nil ?_
  refine then_n ?_
  refine wp_seq ?_
  refine wp_region_lit ?_
  refine wl_val ha151 rfl rfl rfl (op_move ha151 rfl rfl) ?_
  intro a152 ha152; clear ha151 a151
  refine wl_callR ha152 rfl rfl rfl (op_call ha152 rfl cb33 rfl) (c_spec_DrawAddVersion _ v_code code (h_code.ext pos_shU8 hx146)) ?_
  rintro v153 w154 he155 ⟨q156, q157, q158, hq159, hq160, hq161, hq162, ⟨u163, z165, u168, rfl, ho164, hN166, hE167, ho169⟩⟩ a170 ha170; clear ha152 a152
  have hx171 := hx146.trans' he155
  have hzhx171 := he155.size
  replace ho24 := ho24.ext he155
  replace hN26 := hN26.ext he155
  replace ho47 := ho47.ext he155
  replace hN49 := hN49.ext he155
  replace ho66 := ho66.ext he155
  replace hN68 := hN68.ext he155
  replace ho87 := ho87.ext he155
  replace hN89 := hN89.ext he155
  replace ho104 := ho104.ext he155
  replace ho118 := ho118.ext he155
  replace ho131 := ho131.ext he155
  replace ho144 := ho144.ext he155
  have hlhE167 := absLen hE167
  refine wl_val ha170 rfl rfl rfl (op_move ha170 rfl rfl) ?_
  intro a172 ha172; clear ha170 a170
  refine wl_val ha172 rfl rfl rfl (op_extract ha172 rfl rfl rfl) ?_
  intro a173 ha173; clear ha172 a172
  refine wl_val ha173 rfl rfl rfl (op_extract ha173 rfl rfl rfl) ?_
  intro a174 ha174; clear ha173 a173
  refine wl_val ha174 rfl rfl rfl (op_extract ha174 rfl rfl rfl) ?_
  intro a175 ha175; clear ha174 a174
  refine wl_val ha175 rfl rfl rfl (op_assign ha175 rfl rfl) ?_
  intro a176 ha176; clear ha175 a175
  refine wl_val ha176 rfl rfl rfl (op_assign ha176 rfl rfl) ?_
  intro a177 ha177; clear ha176 a176
  refine wl_val ha177 rfl rfl rfl (op_assign ha177 rfl rfl) ?_
  intro a178 ha178; clear ha177 a177
  refine wpList_nil ?_
  refine then_n ?_
  refine wp_seq ?_
  refine wp_region_lit ?_
  refine wl_val ha178 rfl rfl rfl (op_move ha178 rfl rfl) ?_
  intro a179 ha179; clear ha178 a178
  refine wl_val ha179 rfl rfl rfl (op_move ha179 rfl rfl) ?_
  intro a180 ha180; clear ha179 a179
  refine wl_val ha180 rfl rfl rfl (op_move ha180 rfl rfl) ?_
  intro a181 ha181; clear ha180 a180
  refine wl_callR ha181 rfl rfl rfl (op_call ha181 rfl cb34 rfl) (c_impl_AddVersion _ u163 ((q156)) (q157 : Int) u168 ((q158)) ((rds_shVerN (ho164.fin (by omega) (by omega) (by omega)) hN166).cast hE167) (ho169.rds pos_shLine) (by first | assumption | omega | (simp; done) | (simp; omega))) ?_
  rintro v182 w183 he184 ⟨u185, z187, rfl, ho186, hN188, hE189⟩ a190 ha190; clear ha181 a181
  have hx191 := hx171.trans' he184
  have hzhx191 := he184.size
  replace ho24 := ho24.ext he184
  replace hN26 := hN26.ext he184
  replace ho47 := ho47.ext he184
  replace hN49 := hN49.ext he184
  replace ho66 := ho66.ext he184
  replace hN68 := hN68.ext he184
  replace ho87 := ho87.ext he184
  replace hN89 := hN89.ext he184
  replace ho104 := ho104.ext he184
  replace ho118 := ho118.ext he184
  replace ho131 := ho131.ext he184
  replace ho144 := ho144.ext he184
  replace ho164 := ho164.ext he184
  replace hN166 := hN166.ext he184
  replace ho169 := ho169.ext he184
  have hlhE189 := absLen hE189
  refine wl_val ha190 rfl rfl rfl (op_move ha190 rfl rfl) ?_
  intro a192 ha192; clear ha190 a190
  refine wl_val ha192 rfl rfl rfl (op_extract ha192 rfl rfl rfl) ?_
  intro a193 ha193; clear ha192 a192
  refine wl_val ha193 rfl rfl rfl (op_extract ha193 rfl rfl rfl) ?_
  intro a194 ha194; clear ha193 a193
  refine wl_val ha194 rfl rfl rfl (op_assign ha194 rfl rfl) ?_
  intro a195 ha195; clear ha194 a194
  refine wl_val ha195 rfl rfl rfl (op_assign ha195 rfl rfl) ?_
  intro a196 ha196; clear ha195 a195
  refine wpList_nil ?_
  refine then_n ?_
  refine wp_seq ?_
  refine wp_region_lit ?_
  refine wl_val ha196 rfl rfl rfl (op_move ha196 rfl rfl) ?_
  intro a197 ha197; clear ha196 a196
  refine wl_val ha197 rfl rfl rfl (op_move ha197 rfl rfl) ?_
  intro a198 ha198; clear ha197 a197
  refine wl_val ha198 rfl rfl rfl (op_move ha198 rfl rfl) ?_
  intro a199 ha199; clear ha198 a198
  refine wl_callR ha199 rfl rfl rfl (op_call ha199 rfl cb35 rfl) (c_spec_AddVersion _ u163 ((q156)) (q157 : Int) u168 ((q158)) ((rds_shVerN (ho164.fin (by omega) (by omega) (by omega)) hN166).cast hE167) (ho169.rds pos_shLine) (by first | assumption | omega | (simp; done) | (simp; omega))) ?_
  rintro v200 w201 he202 ⟨u203, z205, rfl, ho204, hN206, hE207⟩ a208 ha208; clear ha199 a199
  have hx209 := hx191.trans' he202
  have hzhx209 := he202.size
  replace ho24 := ho24.ext he202
  replace hN26 := hN26.ext he202
  replace ho47 := ho47.ext he202
  replace hN49 := hN49.ext he202
  replace ho66 := ho66.ext he202
  replace hN68 := hN68.ext he202
  replace ho87 := ho87.ext he202
  replace hN89 := hN89.ext he202
  replace ho104 := ho104.ext he202
  replace ho118 := ho118.ext he202
  replace ho131 := ho131.ext he202
  replace ho144 := ho144.ext he202
  replace ho164 := ho164.ext he202
  replace hN166 := hN166.ext he202
  replace ho169 := ho169.ext he202
  replace ho186 := ho186.ext he202
  replace hN188 := hN188.ext he202
  have hlhE207 := absLen hE207
  refine wl_val ha208 rfl rfl rfl (op_move ha208 rfl rfl) ?_
  intro a210 ha210; clear ha208 a208
  refine wl_val ha210 rfl rfl rfl (op_extract ha210 rfl rfl rfl) ?_
  intro a211 ha211; clear ha210 a210
  refine wl_val ha211 rfl rfl rfl (op_extract ha211 rfl rfl rfl) ?_
  intro a212 ha212; clear ha211 a211
  refine wl_val ha212 rfl rfl rfl (op_assign ha212 rfl rfl) ?_
  intro a213 ha213; clear ha212 a212
  refine wl_val ha213 rfl rfl rfl (op_assign ha213 rfl rfl) ?_
  intro a214 ha214; clear ha213 a213
  refine wpList_nil ?_
  refine then_n ?_
  refine wp_seq ?_
  refine wp_seq ?_
  refine wp_region_lit ?_
  refine wl_val ha214 rfl rfl rfl (op_move ha214 rfl rfl) ?_
  intro a215 ha215; clear ha214 a214
  refine wl_val ha215 rfl rfl rfl (op_move ha215 rfl rfl) ?_
  intro a216 ha216; clear ha215 a215
  refine wl_val ha216 rfl rfl rfl ((op_neq ha216 rfl rfl rfl).to (congrArg Value.bool decide_not)) ?_
  intro a217 ha217; clear ha216 a216
  refine wl_val ha217 rfl rfl rfl (op_move ha217 rfl rfl) ?_
  intro a218 ha218; clear ha217 a217
  by_cases c219 : (sdC ((q14)) (q15 : Int) ((q16)) (q17 : Int) : Int) = (sdC ((q14)) (q15 : Int) ((q16)) (q17 : Int) : Int)
  ·
   rw [decide_eq_true c219] at ha218
   refine wl_val ha218 rfl rfl rfl (op_move ha218 rfl rfl) ?_
   intro a220 ha220; clear ha218 a218
   refine wl_val ha220 rfl rfl rfl (op_move ha220 rfl rfl) ?_
   intro a221 ha221; clear ha220 a220
   refine wl_callR ha221 rfl rfl rfl (op_call ha221 rfl cb36 rfl) (c_laws_likeVersions _ u46 ((sdL ((q14)) (q15 : Int) ((q16)) (q17 : Int))) u65 ((sdL ((q14)) (q15 : Int) ((q16)) (q17 : Int))) ((rds_shVerN (ho47.fin (by omega) (by omega) (by omega)) hN49).cast hE50) ((rds_shVerN (ho66.fin (by omega) (by omega) (by omega)) hN68).cast hE69)) ?_
   rintro v222 w223 he224 rfl a225 ha225; clear ha221 a221
   have hx226 := hx209.trans' he224
   have hzhx226 := he224.size
   replace ho24 := ho24.ext he224
   replace hN26 := hN26.ext he224
   replace ho47 := ho47.ext he224
   replace hN49 := hN49.ext he224
   replace ho66 := ho66.ext he224
   replace hN68 := hN68.ext he224
   replace ho87 := ho87.ext he224
   replace hN89 := hN89.ext he224
   replace ho104 := ho104.ext he224
   replace ho118 := ho118.ext he224
   replace ho131 := ho131.ext he224
   replace ho144 := ho144.ext he224
   replace ho164 := ho164.ext he224
   replace hN166 := hN166.ext he224
   replace ho169 := ho169.ext he224
   replace ho186 := ho186.ext he224
   replace hN188 := hN188.ext he224
   replace ho204 := ho204.ext he224
   replace hN206 := hN206.ext he224
   refine wl_val ha225 rfl rfl rfl (op_not ha225 rfl rfl) ?_
   intro a227 ha227; clear ha225 a225
   refine wl_val ha227 rfl rfl rfl (op_pick_f ha227 rfl rfl rfl) ?_
   intro a228 ha228; clear ha227 a227
   refine wl_val ha228 rfl rfl rfl (op_move ha228 rfl rfl) ?_
   intro a229 ha229; clear ha228 a228
   rcases Bool.eq_false_or_eq_true (eqL ((sdL ((q14)) (q15 : Int) ((q16)) (q17 : Int))) ((sdL ((q14)) (q15 : Int) ((q16)) (q17 : Int)))) with c230 | c230
   ·
    rw [c230] at ha229
    refine wl_val ha229 rfl rfl rfl (op_move ha229 rfl rfl) ?_
    intro a231 ha231; clear ha229 a229
    refine wl_val ha231 rfl rfl rfl (op_move ha231 rfl rfl) ?_
    intro a232 ha232; clear ha231 a231
    refine wl_val ha232 rfl rfl rfl ((op_neq ha232 rfl rfl rfl).to (congrArg Value.bool decide_not)) ?_
    intro a233 ha233; clear ha232 a232
    refine wl_val ha233 rfl rfl rfl (op_pick_f ha233 rfl rfl rfl) ?_
    intro a234 ha234; clear ha233 a233
    refine wl_val ha234 rfl rfl rfl (op_move ha234 rfl rfl) ?_
    intro a235 ha235; clear ha234 a234
    by_cases c236 : (cdV ((q81)) (q82 : Int) (q82 : Int) : Int) = (cdV ((q81)) (q82 : Int) (q82 : Int) : Int)
    ·
     rw [decide_eq_true c236] at ha235
     refine wl_val ha235 rfl rfl rfl (op_move ha235 rfl rfl) ?_
     intro a237 ha237; clear ha235 a235
     refine wl_val ha237 rfl rfl rfl (op_move ha237 rfl rfl) ?_
     intro a238 ha238; clear ha237 a237
     refine wl_callR ha238 rfl rfl rfl (op_call ha238 rfl cb37 rfl) (c_laws_likeInts _ v103 ((wfV ((q81)) (q82 : Int))) v117 ((wfV ((q81)) (q82 : Int))) (ho104.rds pos_shI64) (ho118.rds pos_shI64)) ?_
     rintro v239 w240 he241 rfl a242 ha242; clear ha238 a238
     have hx243 := hx226.trans' he241
     have hzhx243 := he241.size
     replace ho24 := ho24.ext he241
     replace hN26 := hN26.ext he241
     replace ho47 := ho47.ext he241
     replace hN49 := hN49.ext he241
     replace ho66 := ho66.ext he241
     replace hN68 := hN68.ext he241
     replace ho87 := ho87.ext he241
     replace hN89 := hN89.ext he241
     replace ho104 := ho104.ext he241
     replace ho118 := ho118.ext he241
     replace ho131 := ho131.ext he241
     replace ho144 := ho144.ext he241
     replace ho164 := ho164.ext he241
     replace hN166 := hN166.ext he241
     replace ho169 := ho169.ext he241
     replace ho186 := ho186.ext he241
     replace hN188 := hN188.ext he241
     replace ho204 := ho204.ext he241
     replace hN206 := hN206.ext he241
     refine wl_val ha242 rfl rfl rfl (op_not ha242 rfl rfl) ?_
     intro a244 ha244; clear ha242 a242
     refine wl_val ha244 rfl rfl rfl (op_pick_f ha244 rfl rfl rfl) ?_
     intro a245 ha245; clear ha244 a244
     refine wl_val ha245 rfl rfl rfl (op_move ha245 rfl rfl) ?_
     intro a246 ha246; clear ha245 a245
     rcases Bool.eq_false_or_eq_true (eqL ((wfV ((q81)) (q82 : Int))) ((wfV ((q81)) (q82 : Int)))) with c247 | c247
     ·
      rw [c247] at ha246
      refine wl_val ha246 rfl rfl rfl (op_move ha246 rfl rfl) ?_
      intro a248 ha248; clear ha246 a246
      refine wl_val ha248 rfl rfl rfl (op_move ha248 rfl rfl) ?_
      intro a249 ha249; clear ha248 a248
      refine wl_val ha249 rfl rfl rfl ((op_neq ha249 rfl rfl rfl).to (congrArg Value.bool decide_not)) ?_
      intro a250 ha250; clear ha249 a249
      refine wl_val ha250 rfl rfl rfl (op_pick_f ha250 rfl rfl rfl) ?_
      intro a251 ha251; clear ha250 a250
      refine wl_val ha251 rfl rfl rfl (op_move ha251 rfl rfl) ?_
      intro a252 ha252; clear ha251 a251
      by_cases c253 : (cdV ((q81)) 0 0 : Int) = (cdV ((q81)) 0 0 : Int)
      ·
       rw [decide_eq_true c253] at ha252
       refine wl_val ha252 rfl rfl rfl (op_move ha252 rfl rfl) ?_
       intro a254 ha254; clear ha252 a252
       refine wl_val ha254 rfl rfl rfl (op_move ha254 rfl rfl) ?_
       intro a255 ha255; clear ha254 a254
       refine wl_callR ha255 rfl rfl rfl (op_call ha255 rfl cb37 rfl) (c_laws_likeInts _ v130 ((hdL ((q81)))) v143 ((hdL ((q81)))) (ho131.rds pos_shI64) (ho144.rds pos_shI64)) ?_
       rintro v256 w257 he258 rfl a259 ha259; clear ha255 a255
       have hx260 := hx243.trans' he258
       have hzhx260 := he258.size
       replace ho24 := ho24.ext he258
       replace hN26 := hN26.ext he258
       replace ho47 := ho47.ext he258
       replace hN49 := hN49.ext he258
       replace ho66 := ho66.ext he258
       replace hN68 := hN68.ext he258
       replace ho87 := ho87.ext he258
       replace hN89 := hN89.ext he258
       replace ho104 := ho104.ext he258
       replace ho118 := ho118.ext he258
       replace ho131 := ho131.ext he258
       replace ho144 := ho144.ext he258
       replace ho164 := ho164.ext he258
       replace hN166 := hN166.ext he258
       replace ho169 := ho169.ext he258
       replace ho186 := ho186.ext he258
       replace hN188 := hN188.ext he258
       replace ho204 := ho204.ext he258
       replace hN206 := hN206.ext he258
       refine wl_val ha259 rfl rfl rfl (op_not ha259 rfl rfl) ?_
       intro a261 ha261; clear ha259 a259
       refine wl_val ha261 rfl rfl rfl (op_pick_f ha261 rfl rfl rfl) ?_
       intro a262 ha262; clear ha261 a261
       refine wl_val ha262 rfl rfl rfl (op_move ha262 rfl rfl) ?_
       intro a263 ha263; clear ha262 a262
       rcases Bool.eq_false_or_eq_true (eqL ((hdL ((q81)))) ((hdL ((q81))))) with c264 | c264
       ·
        rw [c264] at ha263
        refine wl_val ha263 rfl rfl rfl (op_move ha263 rfl rfl) ?_
        intro a265 ha265; clear ha263 a263
        refine wl_val ha265 rfl rfl rfl (op_move ha265 rfl rfl) ?_
        intro a266 ha266; clear ha265 a265
        refine wl_val ha266 rfl rfl rfl ((op_neq ha266 rfl rfl rfl).to (congrArg Value.bool decide_not)) ?_
        intro a267 ha267; clear ha266 a266
        refine wl_val ha267 rfl rfl rfl (op_pick_f ha267 rfl rfl rfl) ?_
        intro a268 ha268; clear ha267 a267
        refine wl_val ha268 rfl rfl rfl (op_move ha268 rfl rfl) ?_
        intro a269 ha269; clear ha268 a268
        by_cases c270 : (avC ((q156)) (q157 : Int) ((q158)) : Int) = (avC ((q156)) (q157 : Int) ((q158)) : Int)
        ·
         rw [decide_eq_true c270] at ha269
         refine wl_val ha269 rfl rfl rfl (op_move ha269 rfl rfl) ?_
         intro a271 ha271; clear ha269 a269
         refine wl_val ha271 rfl rfl rfl (op_move ha271 rfl rfl) ?_
         intro a272 ha272; clear ha271 a271
         refine wl_callR ha272 rfl rfl rfl (op_call ha272 rfl cb36 rfl) (c_laws_likeVersions _ u185 ((avL ((q156)) (q157 : Int) ((q158)))) u203 ((avL ((q156)) (q157 : Int) ((q158)))) ((rds_shVerN (ho186.fin (by omega) (by omega) (by omega)) hN188).cast hE189) ((rds_shVerN (ho204.fin (by omega) (by omega) (by omega)) hN206).cast hE207)) ?_
         rintro v273 w274 he275 rfl a276 ha276; clear ha272 a272
         have hx277 := hx260.trans' he275
         have hzhx277 := he275.size
         replace ho24 := ho24.ext he275
         replace hN26 := hN26.ext he275
         replace ho47 := ho47.ext he275
         replace hN49 := hN49.ext he275
         replace ho66 := ho66.ext he275
         replace hN68 := hN68.ext he275
         replace ho87 := ho87.ext he275
         replace hN89 := hN89.ext he275
         replace ho104 := ho104.ext he275
         replace ho118 := ho118.ext he275
         replace ho131 := ho131.ext he275
         replace ho144 := ho144.ext he275
         replace ho164 := ho164.ext he275
         replace hN166 := hN166.ext he275
         replace ho169 := ho169.ext he275
         replace ho186 := ho186.ext he275
         replace hN188 := hN188.ext he275
         replace ho204 := ho204.ext he275
         replace hN206 := hN206.ext he275
         refine wl_val ha276 rfl rfl rfl (op_not ha276 rfl rfl) ?_
         intro a278 ha278; clear ha276 a276
         refine wl_val ha278 rfl rfl rfl (op_pick_f ha278 rfl rfl rfl) ?_
         intro a279 ha279; clear ha278 a278
         refine wl_val ha279 rfl rfl rfl (op_move ha279 rfl rfl) ?_
         intro a280 ha280; clear ha279 a279
         rcases Bool.eq_false_or_eq_true (eqL ((avL ((q156)) (q157 : Int) ((q158)))) ((avL ((q156)) (q157 : Int) ((q158))))) with c281 | c281
         ·
          rw [c281] at ha280
          refine wl_val ha280 rfl rfl rfl (op_move ha280 rfl rfl) ?_
          intro a282 ha282; clear ha280 a280
          refine wl_callR ha282 rfl rfl rfl (op_call ha282 rfl cb38 rfl) (c_impl_AreVersions _ u86 ((q81)) ((rds_shVerN (ho87.fin (by omega) (by omega) (by omega)) hN89).cast hE90)) ?_
          rintro v283 w284 he285 rfl a286 ha286; clear ha282 a282
          have hx287 := hx277.trans' he285
          have hzhx287 := he285.size
          replace ho24 := ho24.ext he285
          replace hN26 := hN26.ext he285
          replace ho47 := ho47.ext he285
          replace hN49 := hN49.ext he285
          replace ho66 := ho66.ext he285
          replace hN68 := hN68.ext he285
          replace ho87 := ho87.ext he285
          replace hN89 := hN89.ext he285
          replace ho104 := ho104.ext he285
          replace ho118 := ho118.ext he285
          replace ho131 := ho131.ext he285
          replace ho144 := ho144.ext he285
          replace ho164 := ho164.ext he285
          replace hN166 := hN166.ext he285
          replace ho169 := ho169.ext he285
          replace ho186 := ho186.ext he285
          replace hN188 := hN188.ext he285
          replace ho204 := ho204.ext he285
          replace hN206 := hN206.ext he285
          refine wl_val ha286 rfl rfl rfl (op_move ha286 rfl rfl) ?_
          intro a288 ha288; clear ha286 a286
          refine wl_val ha288 rfl rfl rfl (op_eql ha288 rfl rfl rfl) ?_
          intro a289 ha289; clear ha288 a288
          refine wl_val ha289 rfl rfl rfl (op_bneq ha289 rfl Try.underlying4 rfl rfl) ?_
          intro a290 ha290; clear ha289 a289
          refine wl_val ha290 rfl rfl rfl (op_pick_f ha290 rfl rfl rfl) ?_
          intro a291 ha291; clear ha290 a290
          refine wpList_nil ?_
          refine then_n ?_
          rcases Bool.eq_false_or_eq_true ((veB ((q81)) == decide ((cdV ((q81)) 0 0 : Int) = (0 : Int)))) with c292 | c292
          ·
           rw [c292] at ha291
           refine cond_f ha291 rfl ?_
           refine wp_skip ?_
           refine then_n ?_
           refine seq_mid (fun fr wl => Sl 252 fr [(3, u23), (4, .int .i64 (q15 : Int)), (5, St ((q16))), (6, .int .i64 (q17 : Int)), (7, u46), (8, .int .i64 (sdC ((q14)) (q15 : Int) ((q16)) (q17 : Int) : Int)), (11, u86), (13, v103), (14, .int .i64 (cdV ((q81)) (q82 : Int) (q82 : Int) : Int)), (15, v117), (17, v130)] ∧ Ext w0 wl ∧ Own shVerN 56 w4.heap.size w4.heap.size w12.heap.size wl u23 z25 ∧ Nst shLine 83 (fun x : Int × List (Str × Int) => x.2) w4.heap.size w12.heap.size wl z25 ∧ Own shVerN 56 w12.heap.size w12.heap.size w44.heap.size wl u46 z48 ∧ Nst shLine 83 (fun x : Int × List (Str × Int) => x.2) w12.heap.size w44.heap.size wl z48 ∧ Own shVerN 56 w63.heap.size w63.heap.size w79.heap.size wl u86 z88 ∧ Nst shLine 83 (fun x : Int × List (Str × Int) => x.2) w63.heap.size w79.heap.size wl z88 ∧ Own shI64 2 w79.heap.size w79.heap.size w101.heap.size wl v103 ((wfV ((q81)) (q82 : Int))) ∧ Own shI64 2 w101.heap.size w101.heap.size w115.heap.size wl v117 ((wfV ((q81)) (q82 : Int))) ∧ Own shI64 2 w115.heap.size w115.heap.size w128.heap.size wl v130 ((hdL ((q81)))) ∧ w284.heap.size ≤ wl.heap.size) ?_ ?_
           ·
            refine wp_seq ?_
            clear ho66 hN68 ho144 ho204 hN206
            refine wp_region_lit ?_
            refine wl_val ha291 rfl rfl rfl (op_move ha291 rfl rfl) ?_
            intro a304 ha304; clear ha291 a291
            refine wl_val ha304 rfl rfl rfl (op_eql ha304 rfl rfl rfl) ?_
            intro a305 ha305; clear ha304 a304
            refine wl_val ha305 rfl rfl rfl (op_move ha305 rfl rfl) ?_
            intro a306 ha306; clear ha305 a305
            by_cases c307 : (avC ((q156)) (q157 : Int) ((q158)) : Int) = (0 : Int)
            ·
             rw [decide_eq_true c307] at ha306
             obtain ⟨ha1, ha2, ha3⟩ := av_all c307
             refine wl_val ha306 rfl rfl rfl (op_move ha306 rfl rfl) ?_
             intro a308 ha308; clear ha306 a306
             refine wl_callR ha308 rfl rfl rfl (op_call ha308 rfl cb38 rfl) (c_impl_AreVersions _ u185 ((avL ((q156)) (q157 : Int) ((q158)))) ((rds_shVerN (ho186.fin (by omega) (by omega) (by omega)) hN188).cast hE189)) ?_
             rintro v309 w310 he311 rfl a312 ha312; clear ha308 a308
             have hx313 := hx287.trans' he311
             have hzhx313 := he311.size
             replace ho24 := ho24.ext he311
             replace hN26 := hN26.ext he311
             replace ho47 := ho47.ext he311
             replace hN49 := hN49.ext he311
             replace ho87 := ho87.ext he311
             replace hN89 := hN89.ext he311
             replace ho104 := ho104.ext he311
             replace ho118 := ho118.ext he311
             replace ho131 := ho131.ext he311
             replace ho164 := ho164.ext he311
             replace hN166 := hN166.ext he311
             replace ho169 := ho169.ext he311
             replace ho186 := ho186.ext he311
             replace hN188 := hN188.ext he311
             refine wl_val ha312 rfl rfl rfl (op_not ha312 rfl rfl) ?_
             intro a314 ha314; clear ha312 a312
             refine wl_val ha314 rfl rfl rfl (op_move ha314 rfl rfl) ?_
             intro a315 ha315; clear ha314 a314
             rcases Bool.eq_false_or_eq_true (veB ((avL ((q156)) (q157 : Int) ((q158))))) with c316 | c316
             ·
              rw [c316] at ha315
              refine wl_val ha315 rfl rfl rfl (op_move ha315 rfl rfl) ?_
              intro a317 ha317; clear ha315 a315
              refine wl_val ha317 rfl rfl rfl (op_move ha317 rfl rfl) ?_
              intro a318 ha318; clear ha317 a317
              refine wl_val ha318 rfl rfl rfl (op_len_sl ha318 rfl Try.underlying27 rfl (ho164.rds pos_shVerN)) ?_
              intro a319 ha319; clear ha318 a318
              obtain ⟨x320, hx320⟩ := get_ex (xs := z187) (j := z165.length) (by omega)
              obtain ⟨p321, c322, hi323, hc324, hr325, hs326⟩ := Rds.at_ (ho186.rds pos_shVerN) hx320
              obtain ⟨rfl, b327, b328⟩ := inv_shVerN hr325
              have hn329 : Own shLine 83 w154.heap.size w154.heap.size w183.heap.size w310 x320.2 x320.1.2 := hN188.get hx320
              obtain ⟨_, _⟩ : _ ∧ _ := hs326
              have hax := av_el c307 (abs_get hE189 hx320) (by omega)
              refine wl_val ha319 rfl rfl rfl (op_indexAddr ha319 rfl Try.underlying27 ti56 rfl rfl (by omega) hi323) ?_
              intro a330 ha330; clear ha319 a319
              refine wl_val ha330 rfl rfl rfl (op_fieldAddr (sz := 0) ha330 rfl Try.underlying56 rfl rfl ti34 rfl) ?_
              intro a331 ha331; clear ha330 a330
              refine wl_val ha331 rfl rfl rfl (op_loadF (off := 1) ha331 rfl Try.underlying34 rfl rfl hc324 rfl) ?_
              intro a332 ha332; clear ha331 a331
              refine wl_val ha332 rfl rfl rfl (op_move ha332 rfl rfl) ?_
              intro a333 ha333; clear ha332 a332
              refine wl_callR ha333 rfl rfl rfl (op_call ha333 rfl cb39 rfl) (c_laws_likeLines _ x320.2 x320.1.2 u168 ((q158)) (hn329.rds pos_shLine) (ho169.rds pos_shLine)) ?_
              rintro v334 w335 he336 rfl a337 ha337; clear ha333 a333
              have hx338 := hx313.trans' he336
              have hzhx338 := he336.size
              replace ho24 := ho24.ext he336
              replace hN26 := hN26.ext he336
              replace ho47 := ho47.ext he336
              replace hN49 := hN49.ext he336
              replace ho87 := ho87.ext he336
              replace hN89 := hN89.ext he336
              replace ho104 := ho104.ext he336
              replace ho118 := ho118.ext he336
              replace ho131 := ho131.ext he336
              replace ho164 := ho164.ext he336
              replace hN166 := hN166.ext he336
              replace ho169 := ho169.ext he336
              replace ho186 := ho186.ext he336
              replace hN188 := hN188.ext he336
              replace hn329 := hn329.ext he336
              replace hc324 := hc324.ext he336
              refine wl_val ha337 rfl rfl rfl (op_not ha337 rfl rfl) ?_
              intro a339 ha339; clear ha337 a337
              refine wl_val ha339 rfl rfl rfl (op_pick_f ha339 rfl rfl rfl) ?_
              intro a340 ha340; clear ha339 a339
              refine wl_val ha340 rfl rfl rfl (op_pick_t ha340 rfl rfl rfl) ?_
              intro a341 ha341; clear ha340 a340
              refine wpList_nil ?_
              refine then_n ?_
              rcases Bool.eq_false_or_eq_true (eqL x320.1.2 ((q158))) with c342 | c342
              ·
               rw [c342] at ha341
               refine cond_f ha341 rfl ?_
               refine wp_skip ?_
               refine then_n ?_
               refine ⟨(Sl.cons_ ha341 rfl rfl (Sl.cons_ ha341 rfl rfl (Sl.cons_ ha341 rfl rfl (Sl.cons_ ha341 rfl rfl (Sl.cons_ ha341 rfl rfl (Sl.cons_ ha341 rfl rfl (Sl.cons_ ha341 rfl rfl (Sl.cons_ ha341 rfl rfl (Sl.cons_ ha341 rfl rfl (Sl.cons_ ha341 rfl rfl (Sl.cons_ ha341 rfl rfl (Sl.nil_ ha341)))))))))))), hx338, ho24, hN26, ho47, hN49, ho87, hN89, ho104, ho118, ho131, (by omega)⟩
              ·
               rw [c342] at ha341
               refine cond_t ha341 rfl ?_
               refine wp_seq ?_
               clear ho24 hN26 ho47 hN49 ho87 hN89 ho104 ho118 ho131 ho164 hN166 ho169 ho186 hN188 hn329 hc324
               refine wp_region_lit ?_
               refine wl_val ha341 rfl rfl rfl (op_assign ha341 rfl rfl) ?_
               intro a343 ha343; clear ha341 a341
               refine wpList_nil ?_
               refine then_n ?_
               refine wp_ret ?_
               refine ret1 ha343 rfl rfl ?_
               clear ha343 a343
               exact ret_mk hx338 (congrArg Value.bool (by first | rfl | (rw [eqL_self] at c342; cases c342) | (rw [decide_eq_true_eq]; exact hsx) | (rw [ha1] at c342; cases c342) | (rw [hs1] at c342; cases c342) | (exact absurd hs3 c342) | (exact absurd hs4 c342) | (exact absurd hs5 c342) | (exact absurd hsx c342) | (simp [hax, eqL_self] at c342; done) | (rw [ha1] at c8; cases c8) | (rw [hs1] at c8; cases c8) | (exact absurd hs3 c8) | (exact absurd hs4 c8) | (exact absurd hs5 c8) | (exact absurd hsx c8) | (simp at c292; done) | (simp at c8; done) | omega))
             ·
              rw [c316] at ha315
              refine wl_skip ha315 rfl rfl rfl ?_
              intro a344 ha344; clear ha315 a315
              refine wl_skip ha344 rfl rfl rfl ?_
              intro a345 ha345; clear ha344 a344
              refine wl_skip ha345 rfl rfl rfl ?_
              intro a346 ha346; clear ha345 a345
              refine wl_skip ha346 rfl rfl rfl ?_
              intro a347 ha347; clear ha346 a346
              refine wl_skip ha347 rfl rfl rfl ?_
              intro a348 ha348; clear ha347 a347
              refine wl_skip ha348 rfl rfl rfl ?_
              intro a349 ha349; clear ha348 a348
              refine wl_skip ha349 rfl rfl rfl ?_
              intro a350 ha350; clear ha349 a349
              refine wl_skip ha350 rfl rfl rfl ?_
              intro a351 ha351; clear ha350 a350
              refine wl_skip ha351 rfl rfl rfl ?_
              intro a352 ha352; clear ha351 a351
              refine wl_val ha352 rfl rfl rfl (op_pick_t ha352 rfl rfl rfl) ?_
              intro a353 ha353; clear ha352 a352
              refine wl_val ha353 rfl rfl rfl (op_pick_t ha353 rfl rfl rfl) ?_
              intro a354 ha354; clear ha353 a353
              refine wpList_nil ?_
              refine then_n ?_
              refine cond_t ha354 rfl ?_
              refine wp_seq ?_
              clear ho24 hN26 ho47 hN49 ho87 hN89 ho104 ho118 ho131 ho164 hN166 ho169 ho186 hN188
              refine wp_region_lit ?_
              refine wl_val ha354 rfl rfl rfl (op_assign ha354 rfl rfl) ?_
              intro a355 ha355; clear ha354 a354
              refine wpList_nil ?_
              refine then_n ?_
              refine wp_ret ?_
              refine ret1 ha355 rfl rfl ?_
              clear ha355 a355
              exact ret_mk hx313 (congrArg Value.bool (by first | rfl | (rw [decide_eq_true_eq]; exact hsx) | (rw [ha1] at c316; cases c316) | (rw [hs1] at c316; cases c316) | (exact absurd hs3 c316) | (exact absurd hs4 c316) | (exact absurd hs5 c316) | (exact absurd hsx c316) | (rw [ha1] at c8; cases c8) | (rw [hs1] at c8; cases c8) | (exact absurd hs3 c8) | (exact absurd hs4 c8) | (exact absurd hs5 c8) | (exact absurd hsx c8) | (simp at c292; done) | (simp at c8; done) | omega))
            ·
             rw [decide_eq_false c307] at ha306
             refine wl_skip ha306 rfl rfl rfl ?_
             intro a356 ha356; clear ha306 a306
             refine wl_skip ha356 rfl rfl rfl ?_
             intro a357 ha357; clear ha356 a356
             refine wl_skip ha357 rfl rfl rfl ?_
             intro a358 ha358; clear ha357 a357
             refine wl_skip ha358 rfl rfl rfl ?_
             intro a359 ha359; clear ha358 a358
             refine wl_skip ha359 rfl rfl rfl ?_
             intro a360 ha360; clear ha359 a359
             refine wl_skip ha360 rfl rfl rfl ?_
             intro a361 ha361; clear ha360 a360
             refine wl_skip ha361 rfl rfl rfl ?_
             intro a362 ha362; clear ha361 a361
             refine wl_skip ha362 rfl rfl rfl ?_
             intro a363 ha363; clear ha362 a362
             refine wl_skip ha363 rfl rfl rfl ?_
             intro a364 ha364; clear ha363 a363
             refine wl_skip ha364 rfl rfl rfl ?_
             intro a365 ha365; clear ha364 a364
             refine wl_skip ha365 rfl rfl rfl ?_
             intro a366 ha366; clear ha365 a365
             refine wl_skip ha366 rfl rfl rfl ?_
             intro a367 ha367; clear ha366 a366
             refine wl_skip ha367 rfl rfl rfl ?_
             intro a368 ha368; clear ha367 a367
             refine wl_skip ha368 rfl rfl rfl ?_
             intro a369 ha369; clear ha368 a368
             refine wl_val ha369 rfl rfl rfl (op_pick_f ha369 rfl rfl rfl) ?_
             intro a370 ha370; clear ha369 a369
             refine wpList_nil ?_
             refine then_n ?_
             refine cond_f ha370 rfl ?_
             refine wp_skip ?_
             refine then_n ?_
             refine ⟨(Sl.cons_ ha370 rfl rfl (Sl.cons_ ha370 rfl rfl (Sl.cons_ ha370 rfl rfl (Sl.cons_ ha370 rfl rfl (Sl.cons_ ha370 rfl rfl (Sl.cons_ ha370 rfl rfl (Sl.cons_ ha370 rfl rfl (Sl.cons_ ha370 rfl rfl (Sl.cons_ ha370 rfl rfl (Sl.cons_ ha370 rfl rfl (Sl.cons_ ha370 rfl rfl (Sl.nil_ ha370)))))))))))), hx287, ho24, hN26, ho47, hN49, ho87, hN89, ho104, ho118, ho131, (by omega)⟩
           ·
            clear ha291 a291
            rintro a371 w293 ⟨ha371, hx294, hf295, hf296, hf297, hf298, hf299, hf300, hf301, hf302, hf303, hzl372⟩
            have hzhx294 := hx294.size
            refine wp_seq ?_
            refine wp_seq ?_
            refine wp_region_lit ?_
            refine wl_val ha371 rfl rfl rfl (op_assign ha371 rfl rfl) ?_
            intro a373 ha373; clear ha371 a371
            refine wpList_nil ?_
            refine then_n ?_
            refine wp_block ?_
            refine loop_inv (X := Nat) (fun (i : Nat) fr wl => Sl 252 fr [(3, u23), (4, .int .i64 (q15 : Int)), (5, St ((q16))), (6, .int .i64 (q17 : Int)), (7, u46), (8, .int .i64 (sdC ((q14)) (q15 : Int) ((q16)) (q17 : Int) : Int)), (11, u86), (13, v103), (14, .int .i64 (cdV ((q81)) (q82 : Int) (q82 : Int) : Int)), (15, v117), (17, v130), (28, .int .i64 ((i : Nat) : Int))] ∧ Ext w0 wl ∧ Own shVerN 56 w4.heap.size w4.heap.size w12.heap.size wl u23 z25 ∧ Nst shLine 83 (fun x : Int × List (Str × Int) => x.2) w4.heap.size w12.heap.size wl z25 ∧ Own shVerN 56 w12.heap.size w12.heap.size w44.heap.size wl u46 z48 ∧ Nst shLine 83 (fun x : Int × List (Str × Int) => x.2) w12.heap.size w44.heap.size wl z48 ∧ Own shVerN 56 w63.heap.size w63.heap.size w79.heap.size wl u86 z88 ∧ Nst shLine 83 (fun x : Int × List (Str × Int) => x.2) w63.heap.size w79.heap.size wl z88 ∧ Own shI64 2 w79.heap.size w79.heap.size w101.heap.size wl v103 ((wfV ((q81)) (q82 : Int))) ∧ Own shI64 2 w101.heap.size w101.heap.size w115.heap.size wl v117 ((wfV ((q81)) (q82 : Int))) ∧ Own shI64 2 w115.heap.size w115.heap.size w128.heap.size wl v130 ((hdL ((q81)))) ∧ w293.heap.size ≤ wl.heap.size ∧ (1 ≤ i) ∧ (i ≤ (wfV ((q81)) (q82 : Int)).length + 1) ∧ ((wfV ((q81)) (q82 : Int)).length ≤ 20)) (fun (i : Nat) => (wfV ((q81)) (q82 : Int)).length + 1 - i) (1) ?_ ?_
            ·
             exact ⟨(Sl.cons_ ha373 rfl rfl (Sl.cons_ ha373 rfl rfl (Sl.cons_ ha373 rfl rfl (Sl.cons_ ha373 rfl rfl (Sl.cons_ ha373 rfl rfl (Sl.cons_ ha373 rfl rfl (Sl.cons_ ha373 rfl rfl (Sl.cons_ ha373 rfl rfl (Sl.cons_ ha373 rfl rfl (Sl.cons_ ha373 rfl rfl (Sl.cons_ ha373 rfl rfl (Sl.cons_ ha373 rfl (int_eq (by omega)) (Sl.nil_ ha373))))))))))))), hx294, hf295, hf296, hf297, hf298, hf299, hf300, hf301, hf302, hf303, (by omega), (by omega), (by omega), (by exact wf_20 _ _)⟩
            ·
             clear ha373 a373
             rintro i a385 w374 ⟨ha385, hx375, hf376, hf377, hf378, hf379, hf380, hf381, hf382, hf383, hf384, hzl386, hi1, hi, hD⟩
             have hzhx375 := hx375.size
             refine wp_seq ?_
             refine wp_seq ?_
             refine wp_region_lit ?_
             refine wl_val ha385 rfl rfl rfl (op_move ha385 rfl rfl) ?_
             intro a387 ha387; clear ha385 a385
             refine wl_val ha387 rfl rfl rfl (op_eql ha387 rfl rfl rfl) ?_
             intro a388 ha388; clear ha387 a387
             refine wl_val ha388 rfl rfl rfl (op_move ha388 rfl rfl) ?_
             intro a389 ha389; clear ha388 a388
             by_cases c390 : (cdV ((q81)) (q82 : Int) (q82 : Int) : Int) = (0 : Int)
             ·
              rw [decide_eq_true c390] at ha389
              refine wl_val ha389 rfl rfl rfl (op_move ha389 rfl rfl) ?_
              intro a391 ha391; clear ha389 a389
              refine wl_val ha391 rfl rfl rfl (op_move ha391 rfl rfl) ?_
              intro a392 ha392; clear ha391 a391
              refine wl_val ha392 rfl rfl rfl (op_len_sl ha392 rfl Try.underlying46 rfl (hf382.rds pos_shI64)) ?_
              intro a393 ha393; clear ha392 a392
              refine wl_val ha393 rfl rfl rfl (op_lss ha393 rfl rfl rfl) ?_
              intro a394 ha394; clear ha393 a393
              refine wl_val ha394 rfl rfl rfl (op_pick_t ha394 rfl rfl rfl) ?_
              intro a395 ha395; clear ha394 a394
              refine wpList_nil ?_
              refine then_n ?_
              by_cases c396 : ((i : Nat) : Int) < ((((wfV ((q81)) (q82 : Int))).length : Nat) : Int)
              ·
               rw [decide_eq_true c396] at ha395
               refine cond_t ha395 rfl ?_
               refine wp_skip ?_
               refine then_n ?_
               refine wp_seq ?_
               refine wp_block ?_
               refine wp_seq ?_
               refine dr_enter Ext follows_mixed ?_
               intro w397 he398
               have hx399 := hx375.trans' he398
               have hzhx399 := he398.size
               replace hf376 := hf376.ext he398
               replace hf377 := hf377.ext he398
               replace hf378 := hf378.ext he398
               replace hf379 := hf379.ext he398
               replace hf380 := hf380.ext he398
               replace hf381 := hf381.ext he398
               replace hf382 := hf382.ext he398
               replace hf383 := hf383.ext he398
               replace hf384 := hf384.ext he398
               have hs400 : Ext w397 w397 := Ext.rfl' _
               refine dr_val (i := 0) ha395 rfl (by kernel_rfl) (by kernel_rfl) (by kernel_rfl) rfl rfl rfl hs400 (fun w' hw' => op_move ha395 rfl rfl) ?_
               intro a401 ha401; clear ha395 a395
               refine dr_val (i := 1) ha401 rfl (by kernel_rfl) (by kernel_rfl) (by kernel_rfl) rfl rfl rfl hs400 (fun w' hw' => op_move ha401 rfl rfl) ?_
               intro a402 ha402; clear ha401 a401
               refine dr_val (i := 2) ha402 rfl (by kernel_rfl) (by kernel_rfl) (by kernel_rfl) rfl rfl rfl hs400 (fun w' hw' => op_move ha402 rfl rfl) ?_
               intro a403 ha403; clear ha402 a402
               refine dr_val (i := 3) ha403 rfl (by kernel_rfl) (by kernel_rfl) (by kernel_rfl) rfl rfl rfl hs400 (fun w' hw' => (op_sub ha403 rfl rfl rfl).int (IntWalk.i64_in _ (by omega))) ?_
               intro a404 ha404; clear ha403 a403
               obtain ⟨x405, hx405⟩ := get_ex (xs := (wfV ((q81)) (q82 : Int))) (j := (i - 1)) (by omega)
               obtain ⟨p406, c407, hi408, hc409, hr410, hs411⟩ := Rds.at_ (hf383.rds pos_shI64) hx405
               obtain ⟨rfl, b412⟩ := inv_shI64 hr410
               obtain ⟨_, _⟩ : _ ∧ _ := hs411
               have hwbx405 := wf_bd c390 hx405
               refine dr_val (i := 4) ha404 rfl (by kernel_rfl) (by kernel_rfl) (by kernel_rfl) rfl rfl rfl hs400 (fun w' hw' => op_indexAddr ha404 rfl Try.underlying46 ti2 rfl rfl (by omega) hi408) ?_
               intro a413 ha413; clear ha404 a404
               refine dr_val (i := 5) ha413 rfl (by kernel_rfl) (by kernel_rfl) (by kernel_rfl) rfl rfl rfl hs400 (fun w' hw' => op_loadH ha413 rfl Try.underlying2 rfl rfl (hc409.ext hw') rfl) ?_
               intro a414 ha414; clear ha413 a413
               obtain ⟨x415, hx415⟩ := get_ex (xs := z88) (j := x405.toNat) (by omega)
               obtain ⟨p416, c417, hi418, hc419, hr420, hs421⟩ := Rds.at_ (hf380.rds pos_shVerN) hx415
               obtain ⟨rfl, b422, b423⟩ := inv_shVerN hr420
               have hn424 : Own shLine 83 w63.heap.size w63.heap.size w79.heap.size w397 x415.2 x415.1.2 := hf381.get hx415
               obtain ⟨_, _⟩ : _ ∧ _ := hs421
               refine dr_val (i := 6) ha414 rfl (by kernel_rfl) (by kernel_rfl) (by kernel_rfl) rfl rfl rfl hs400 (fun w' hw' => op_indexAddr ha414 rfl Try.underlying27 ti56 rfl rfl (by omega) hi418) ?_
               intro a425 ha425; clear ha414 a414
               refine dr_val (i := 7) ha425 rfl (by kernel_rfl) (by kernel_rfl) (by kernel_rfl) rfl rfl rfl hs400 (fun w' hw' => op_fieldAddr (sz := 0) ha425 rfl Try.underlying56 rfl rfl ti2 rfl) ?_
               intro a426 ha426; clear ha425 a425
               refine dr_val (i := 8) ha426 rfl (by kernel_rfl) (by kernel_rfl) (by kernel_rfl) rfl rfl rfl hs400 (fun w' hw' => op_loadF (off := 0) ha426 rfl Try.underlying2 rfl rfl (hc419.ext hw') rfl) ?_
               intro a427 ha427; clear ha426 a426
               refine dr_val (i := 9) ha427 rfl (by kernel_rfl) (by kernel_rfl) (by kernel_rfl) rfl rfl rfl hs400 (fun w' hw' => op_move ha427 rfl rfl) ?_
               intro a428 ha428; clear ha427 a427
               refine dr_val (i := 10) ha428 rfl (by kernel_rfl) (by kernel_rfl) (by kernel_rfl) rfl rfl rfl hs400 (fun w' hw' => op_move ha428 rfl rfl) ?_
               intro a429 ha429; clear ha428 a428
               obtain ⟨x430, hx430⟩ := get_ex (xs := (wfV ((q81)) (q82 : Int))) (j := i) (by omega)
               obtain ⟨p431, c432, hi433, hc434, hr435, hs436⟩ := Rds.at_ (hf382.rds pos_shI64) hx430
               obtain ⟨rfl, b437⟩ := inv_shI64 hr435
               obtain ⟨_, _⟩ : _ ∧ _ := hs436
               have hwbx430 := wf_bd c390 hx430
               refine dr_val (i := 11) ha429 rfl (by kernel_rfl) (by kernel_rfl) (by kernel_rfl) rfl rfl rfl hs400 (fun w' hw' => op_indexAddr ha429 rfl Try.underlying46 ti2 rfl rfl (by omega) hi433) ?_
               intro a438 ha438; clear ha429 a429
               refine dr_val (i := 12) ha438 rfl (by kernel_rfl) (by kernel_rfl) (by kernel_rfl) rfl rfl rfl hs400 (fun w' hw' => op_loadH ha438 rfl Try.underlying2 rfl rfl (hc434.ext hw') rfl) ?_
               intro a439 ha439; clear ha438 a438
               refine dr_val (i := 13) ha439 rfl (by kernel_rfl) (by kernel_rfl) (by kernel_rfl) rfl rfl rfl hs400 (fun w' hw' => (op_neq ha439 rfl rfl rfl).to (congrArg Value.bool decide_not)) ?_
               intro a440 ha440; clear ha439 a439
               refine dr_val (i := 14) ha440 rfl (by kernel_rfl) (by kernel_rfl) (by kernel_rfl) rfl rfl rfl hs400 (fun w' hw' => op_move ha440 rfl rfl) ?_
               intro a441 ha441; clear ha440 a440
               by_cases c442 : x415.1.1 = x430
               ·
                rw [decide_eq_true c442] at ha441
                refine dr_val (i := 15) ha441 rfl (by kernel_rfl) (by kernel_rfl) (by kernel_rfl) rfl rfl rfl hs400 (fun w' hw' => op_move ha441 rfl rfl) ?_
                intro a443 ha443; clear ha441 a441
                refine dr_val (i := 16) ha443 rfl (by kernel_rfl) (by kernel_rfl) (by kernel_rfl) rfl rfl rfl hs400 (fun w' hw' => op_move ha443 rfl rfl) ?_
                intro a444 ha444; clear ha443 a443
                refine dr_val (i := 17) ha444 rfl (by kernel_rfl) (by kernel_rfl) (by kernel_rfl) rfl rfl rfl hs400 (fun w' hw' => op_move ha444 rfl rfl) ?_
                intro a445 ha445; clear ha444 a444
                refine dr_val (i := 18) ha445 rfl (by kernel_rfl) (by kernel_rfl) (by kernel_rfl) rfl rfl rfl hs400 (fun w' hw' => op_indexAddr ha445 rfl Try.underlying46 ti2 rfl rfl (by omega) hi433) ?_
                intro a446 ha446; clear ha445 a445
                refine dr_val (i := 19) ha446 rfl (by kernel_rfl) (by kernel_rfl) (by kernel_rfl) rfl rfl rfl hs400 (fun w' hw' => op_loadH ha446 rfl Try.underlying2 rfl rfl (hc434.ext hw') rfl) ?_
                intro a447 ha447; clear ha446 a446
                refine dr_one (i := 20) (by kernel_rfl) ?_
                refine po_callR ha447 rfl rfl rfl rfl (op_call ha447 rfl cb40 rfl) (c_laws_hasInt _ v130 ((hdL ((q81)))) x430 ((hf384.rds pos_shI64).ext pos_shI64 hs400)) ?_
                rintro v448 w449 he450 rfl a451 ha451; clear ha447 a447
                have hs452 := hs400.trans' he450
                have hx453 := hx399.trans' he450
                have hzhx453 := he450.size
                refine ⟨hs452, ?_⟩
                refine dr_val (i := 21) ha451 rfl (by kernel_rfl) (by kernel_rfl) (by kernel_rfl) rfl rfl rfl hs452 (fun w' hw' => op_pick_f ha451 rfl rfl rfl) ?_
                intro a454 ha454; clear ha451 a451
                refine dr_end (by kernel_rfl) ?_
                replace hf376 := hf376.ext hs452
                replace hf377 := hf377.ext hs452
                replace hf378 := hf378.ext hs452
                replace hf379 := hf379.ext hs452
                replace hf380 := hf380.ext hs452
                replace hf381 := hf381.ext hs452
                replace hf382 := hf382.ext hs452
                replace hf383 := hf383.ext hs452
                replace hf384 := hf384.ext hs452
                replace hc409 := hc409.ext hs452
                replace hn424 := hn424.ext hs452
                replace hc419 := hc419.ext hs452
                replace hc434 := hc434.ext hs452
                refine then_n ?_
                rcases Bool.eq_false_or_eq_true (decide (x430 ∈ ((hdL ((q81)))))) with c455 | c455
                ·
                 rw [c455] at ha454
                 refine cond_t ha454 rfl ?_
                 refine wp_seq ?_
                 clear hf376 hf377 hf378 hf379 hf380 hf381 hf382 hf383 hf384 hc409 hn424 hc419 hc434
                 refine wp_region_lit ?_
                 refine wl_val ha454 rfl rfl rfl (op_assign ha454 rfl rfl) ?_
                 intro a456 ha456; clear ha454 a454
                 refine wpList_nil ?_
                 refine then_n ?_
                 refine wp_ret ?_
                 refine block_r ?_
                 refine then_r ?_
                 refine then_r ?_
                 refine block_r ?_
                 refine then_r ?_
                 refine ret1 ha456 rfl rfl ?_
                 clear ha456 a456
                 exact ret_mk hx453 (congrArg Value.bool (by first | rfl | (rw [decide_eq_true_eq]; exact hsx) | (exact absurd (of_decide_eq_true c455) (wf_next c390 hi1 hx405 hx430 (abs_get hE90 hx415)).2) | (exact absurd (of_decide_eq_true c442) (wf_next c390 hi1 hx405 hx430 (abs_get hE90 hx415)).2) | (exact absurd (of_decide_eq_true c396) (wf_next c390 hi1 hx405 hx430 (abs_get hE90 hx415)).2) | (exact absurd (of_decide_eq_true c390) (wf_next c390 hi1 hx405 hx430 (abs_get hE90 hx415)).2) | (exact absurd (of_decide_eq_true c292) (wf_next c390 hi1 hx405 hx430 (abs_get hE90 hx415)).2) | (exact absurd (of_decide_eq_true c281) (wf_next c390 hi1 hx405 hx430 (abs_get hE90 hx415)).2) | (exact absurd (of_decide_eq_true c270) (wf_next c390 hi1 hx405 hx430 (abs_get hE90 hx415)).2) | (exact absurd (of_decide_eq_true c264) (wf_next c390 hi1 hx405 hx430 (abs_get hE90 hx415)).2) | (exact absurd (of_decide_eq_true c253) (wf_next c390 hi1 hx405 hx430 (abs_get hE90 hx415)).2) | (exact absurd (of_decide_eq_true c247) (wf_next c390 hi1 hx405 hx430 (abs_get hE90 hx415)).2) | (exact absurd (of_decide_eq_true c236) (wf_next c390 hi1 hx405 hx430 (abs_get hE90 hx415)).2) | (exact absurd (of_decide_eq_true c230) (wf_next c390 hi1 hx405 hx430 (abs_get hE90 hx415)).2) | (exact absurd (of_decide_eq_true c219) (wf_next c390 hi1 hx405 hx430 (abs_get hE90 hx415)).2) | (exact absurd (wf_next c390 hi1 hx405 hx430 (abs_get hE90 hx415)).1 c8) | (rw [ha1] at c8; cases c8) | (rw [hs1] at c8; cases c8) | (exact absurd hs3 c8) | (exact absurd hs4 c8) | (exact absurd hs5 c8) | (exact absurd hsx c8) | (simp at c455; done) | (simp at c292; done) | (simp at c8; done) | omega))
                ·
                 rw [c455] at ha454
                 refine cond_f ha454 rfl ?_
                 refine wp_skip ?_
                 refine block_n ?_
                 refine then_n ?_
                 clear hc409 hn424 hc419 hc434
                 refine wp_region_lit ?_
                 refine wl_val ha454 rfl rfl rfl (op_move ha454 rfl rfl) ?_
                 intro a457 ha457; clear ha454 a454
                 refine wl_val ha457 rfl rfl rfl ((op_add ha457 rfl rfl rfl).int (IntWalk.i64_in _ (by omega))) ?_
                 intro a458 ha458; clear ha457 a457
                 refine wl_val ha458 rfl rfl rfl (op_assign ha458 rfl rfl) ?_
                 intro a459 ha459; clear ha458 a458
                 refine wpList_nil ?_
                 refine round_end (x := i) ((i + 1)) ?_ ?_
                 ·
                  refine ⟨(Sl.cons_ ha459 rfl rfl (Sl.cons_ ha459 rfl rfl (Sl.cons_ ha459 rfl rfl (Sl.cons_ ha459 rfl rfl (Sl.cons_ ha459 rfl rfl (Sl.cons_ ha459 rfl rfl (Sl.cons_ ha459 rfl rfl (Sl.cons_ ha459 rfl rfl (Sl.cons_ ha459 rfl rfl (Sl.cons_ ha459 rfl rfl (Sl.cons_ ha459 rfl rfl (Sl.cons_ ha459 rfl (int_eq (by omega)) (Sl.nil_ ha459))))))))))))), hx453, hf376, hf377, hf378, hf379, hf380, hf381, hf382, hf383, hf384, (by omega), (by omega), (by omega), (by exact hD)⟩
                 ·show ((wfV ((q81)) (q82 : Int)).length + 1 - ((i + 1)) : Nat) < (wfV ((q81)) (q82 : Int)).length + 1 - i; omega
               ·
                rw [decide_eq_false c442] at ha441
                refine dr_skip (i := 15) ha441 rfl (by kernel_rfl) (by kernel_rfl) (by kernel_rfl) rfl rfl rfl hs400 ?_
                intro a460 ha460; clear ha441 a441
                refine dr_skip (i := 16) ha460 rfl (by kernel_rfl) (by kernel_rfl) (by kernel_rfl) rfl rfl rfl hs400 ?_
                intro a461 ha461; clear ha460 a460
                refine dr_skip (i := 17) ha461 rfl (by kernel_rfl) (by kernel_rfl) (by kernel_rfl) rfl rfl rfl hs400 ?_
                intro a462 ha462; clear ha461 a461
                refine dr_skip (i := 18) ha462 rfl (by kernel_rfl) (by kernel_rfl) (by kernel_rfl) rfl rfl rfl hs400 ?_
                intro a463 ha463; clear ha462 a462
                refine dr_skip (i := 19) ha463 rfl (by kernel_rfl) (by kernel_rfl) (by kernel_rfl) rfl rfl rfl hs400 ?_
                intro a464 ha464; clear ha463 a463
                refine dr_skip (i := 20) ha464 rfl (by kernel_rfl) (by kernel_rfl) (by kernel_rfl) rfl rfl rfl hs400 ?_
                intro a465 ha465; clear ha464 a464
                refine dr_val (i := 21) ha465 rfl (by kernel_rfl) (by kernel_rfl) (by kernel_rfl) rfl rfl rfl hs400 (fun w' hw' => op_pick_t ha465 rfl rfl rfl) ?_
                intro a466 ha466; clear ha465 a465
                refine dr_end (by kernel_rfl) ?_
                replace hf376 := hf376.ext hs400
                replace hf377 := hf377.ext hs400
                replace hf378 := hf378.ext hs400
                replace hf379 := hf379.ext hs400
                replace hf380 := hf380.ext hs400
                replace hf381 := hf381.ext hs400
                replace hf382 := hf382.ext hs400
                replace hf383 := hf383.ext hs400
                replace hf384 := hf384.ext hs400
                replace hc409 := hc409.ext hs400
                replace hn424 := hn424.ext hs400
                replace hc419 := hc419.ext hs400
                replace hc434 := hc434.ext hs400
                refine then_n ?_
                refine cond_t ha466 rfl ?_
                refine wp_seq ?_
                clear hf376 hf377 hf378 hf379 hf380 hf381 hf382 hf383 hf384 hc409 hn424 hc419 hc434
                refine wp_region_lit ?_
                refine wl_val ha466 rfl rfl rfl (op_assign ha466 rfl rfl) ?_
                intro a467 ha467; clear ha466 a466
                refine wpList_nil ?_
                refine then_n ?_
                refine wp_ret ?_
                refine block_r ?_
                refine then_r ?_
                refine then_r ?_
                refine block_r ?_
                refine then_r ?_
                refine ret1 ha467 rfl rfl ?_
                clear ha467 a467
                exact ret_mk hx399 (congrArg Value.bool (by first | rfl | (rw [decide_eq_true_eq]; exact hsx) | (exact absurd (wf_next c390 hi1 hx405 hx430 (abs_get hE90 hx415)).1 c442) | (exact absurd (of_decide_eq_true c396) (wf_next c390 hi1 hx405 hx430 (abs_get hE90 hx415)).2) | (exact absurd (of_decide_eq_true c390) (wf_next c390 hi1 hx405 hx430 (abs_get hE90 hx415)).2) | (exact absurd (of_decide_eq_true c292) (wf_next c390 hi1 hx405 hx430 (abs_get hE90 hx415)).2) | (exact absurd (of_decide_eq_true c281) (wf_next c390 hi1 hx405 hx430 (abs_get hE90 hx415)).2) | (exact absurd (of_decide_eq_true c270) (wf_next c390 hi1 hx405 hx430 (abs_get hE90 hx415)).2) | (exact absurd (of_decide_eq_true c264) (wf_next c390 hi1 hx405 hx430 (abs_get hE90 hx415)).2) | (exact absurd (of_decide_eq_true c253) (wf_next c390 hi1 hx405 hx430 (abs_get hE90 hx415)).2) | (exact absurd (of_decide_eq_true c247) (wf_next c390 hi1 hx405 hx430 (abs_get hE90 hx415)).2) | (exact absurd (of_decide_eq_true c236) (wf_next c390 hi1 hx405 hx430 (abs_get hE90 hx415)).2) | (exact absurd (of_decide_eq_true c230) (wf_next c390 hi1 hx405 hx430 (abs_get hE90 hx415)).2) | (exact absurd (of_decide_eq_true c219) (wf_next c390 hi1 hx405 hx430 (abs_get hE90 hx415)).2) | (exact absurd (wf_next c390 hi1 hx405 hx430 (abs_get hE90 hx415)).1 c8) | (rw [ha1] at c442; cases c442) | (rw [hs1] at c442; cases c442) | (exact absurd hs3 c442) | (exact absurd hs4 c442) | (exact absurd hs5 c442) | (exact absurd hsx c442) | (rw [ha1] at c8; cases c8) | (rw [hs1] at c8; cases c8) | (exact absurd hs3 c8) | (exact absurd hs4 c8) | (exact absurd hs5 c8) | (exact absurd hsx c8) | (exact absurd rfl c442) | (simp at c292; done) | (simp at c8; done) | omega))
              ·
               rw [decide_eq_false c396] at ha395
               refine cond_f ha395 rfl ?_
               refine wp_exit ?_
               refine then_e ?_
               refine then_e ?_
               refine block_hit ?_
               refine then_n ?_
               refine wp_seq ?_
               refine wp_seq ?_
               clear hf380 hf381 hf382 hf383 hf384
               refine wp_region_lit ?_
               refine wl_val ha395 rfl rfl rfl (op_move ha395 rfl rfl) ?_
               intro a468 ha468; clear ha395 a395
               refine wl_val ha468 rfl rfl rfl ((op_neq ha468 rfl rfl rfl).to (congrArg Value.bool decide_not)) ?_
               intro a469 ha469; clear ha468 a468
               refine wpList_nil ?_
               refine then_n ?_
               by_cases c470 : (sdC ((q14)) (q15 : Int) ((q16)) (q17 : Int) : Int) = (0 : Int)
               ·
                rw [decide_eq_true c470] at ha469
                have hsv := sv_all c470
                rw [← absLen hE27] at hsv
                obtain ⟨hs1, hs2, hs3, hs4, hs5, hs6, hs7⟩ := hsv
                refine cond_f ha469 rfl ?_
                refine wp_skip ?_
                refine then_n ?_
                refine wp_seq ?_
                refine wp_region_lit ?_
                refine wl_val ha469 rfl rfl rfl (op_move ha469 rfl rfl) ?_
                intro a471 ha471; clear ha469 a469
                refine wl_val ha471 rfl rfl rfl (op_len_sl ha471 rfl Try.underlying27 rfl (hf376.rds pos_shVerN)) ?_
                intro a472 ha472; clear ha471 a471
                refine wl_val ha472 rfl rfl rfl (op_assign ha472 rfl rfl) ?_
                intro a473 ha473; clear ha472 a472
                refine wpList_nil ?_
                refine then_n ?_
                refine wp_seq ?_
                clear hf376 hf377
                refine wp_region_lit ?_
                refine wl_val ha473 rfl rfl rfl (op_move ha473 rfl rfl) ?_
                intro a474 ha474; clear ha473 a473
                refine wl_val ha474 rfl rfl rfl (op_move ha474 rfl rfl) ?_
                intro a475 ha475; clear ha474 a474
                refine wl_val ha475 rfl rfl rfl (op_move ha475 rfl rfl) ?_
                intro a476 ha476; clear ha475 a475
                refine wl_callR ha476 rfl rfl rfl (op_call ha476 rfl cb41 rfl) (c_impl_ValueOf _ u46 ((sdL ((q14)) (q15 : Int) ((q16)) (q17 : Int))) ((z25.length : Nat) : Int) ((q16)) ((rds_shVerN (hf378.fin (by omega) (by omega) (by omega)) hf379).cast hE50) (by first | assumption | omega | (simp; done) | (simp; omega))) ?_
                rintro v477 w478 he479 rfl a480 ha480; clear ha476 a476
                have hx481 := hx375.trans' he479
                have hzhx481 := he479.size
                replace hf378 := hf378.ext he479
                replace hf379 := hf379.ext he479
                refine wl_val ha480 rfl rfl rfl (op_move ha480 rfl rfl) ?_
                intro a482 ha482; clear ha480 a480
                refine wl_val ha482 rfl rfl rfl (op_extract ha482 rfl rfl rfl) ?_
                intro a483 ha483; clear ha482 a482
                refine wl_val ha483 rfl rfl rfl (op_extract ha483 rfl rfl rfl) ?_
                intro a484 ha484; clear ha483 a483
                refine wl_val ha484 rfl rfl rfl (op_assign ha484 rfl rfl) ?_
                intro a485 ha485; clear ha484 a484
                refine wl_val ha485 rfl rfl rfl (op_assign ha485 rfl rfl) ?_
                intro a486 ha486; clear ha485 a485
                refine wpList_nil ?_
                refine then_n ?_
                refine wp_seq ?_
                refine wp_region_lit ?_
                refine wl_val ha486 rfl rfl rfl (op_move ha486 rfl rfl) ?_
                intro a487 ha487; clear ha486 a486
                refine wl_val ha487 rfl rfl rfl (op_move ha487 rfl rfl) ?_
                intro a488 ha488; clear ha487 a487
                refine wl_val ha488 rfl rfl rfl (op_move ha488 rfl rfl) ?_
                intro a489 ha489; clear ha488 a488
                refine wl_callR ha489 rfl rfl rfl (op_call ha489 rfl cb11 rfl) (c_impl_KeysChanged _ u46 ((sdL ((q14)) (q15 : Int) ((q16)) (q17 : Int))) (q15 : Int) ((z25.length : Nat) : Int) ((rds_shVerN (hf378.fin (by omega) (by omega) (by omega)) hf379).cast hE50)) ?_
                rintro v490 w491 he492 ⟨v493, rfl, ho494⟩ a495 ha495; clear ha489 a489
                have hx496 := hx481.trans' he492
                have hzhx496 := he492.size
                replace hf378 := hf378.ext he492
                replace hf379 := hf379.ext he492
                refine wl_val ha495 rfl rfl rfl (op_move ha495 rfl rfl) ?_
                intro a497 ha497; clear ha495 a495
                refine wl_val ha497 rfl rfl rfl (op_extract ha497 rfl rfl rfl) ?_
                intro a498 ha498; clear ha497 a497
                refine wl_val ha498 rfl rfl rfl (op_extract ha498 rfl rfl rfl) ?_
                intro a499 ha499; clear ha498 a498
                refine wl_val ha499 rfl rfl rfl (op_assign ha499 rfl rfl) ?_
                intro a500 ha500; clear ha499 a499
                refine wl_val ha500 rfl rfl rfl (op_assign ha500 rfl rfl) ?_
                intro a501 ha501; clear ha500 a500
                refine wpList_nil ?_
                refine then_n ?_
                refine wp_seq ?_
                refine wp_region_lit ?_
                refine wl_val ha501 rfl rfl rfl (op_move ha501 rfl rfl) ?_
                intro a502 ha502; clear ha501 a501
                refine wl_val ha502 rfl rfl rfl (op_eql ha502 rfl rfl rfl) ?_
                intro a503 ha503; clear ha502 a502
                refine wl_val ha503 rfl rfl rfl (op_move ha503 rfl rfl) ?_
                intro a504 ha504; clear ha503 a503
                by_cases c505 : (cdW ((sdL ((q14)) (q15 : Int) ((q16)) (q17 : Int))) ((z25.length : Nat) : Int) ((q16)) : Int) = (0 : Int)
                ·
                 rw [decide_eq_true c505] at ha504
                 refine wl_val ha504 rfl rfl rfl (op_move ha504 rfl rfl) ?_
                 intro a506 ha506; clear ha504 a504
                 refine wl_val ha506 rfl rfl rfl (op_move ha506 rfl rfl) ?_
                 intro a507 ha507; clear ha506 a506
                 refine wl_val ha507 rfl rfl rfl (op_eql ha507 rfl rfl rfl) ?_
                 intro a508 ha508; clear ha507 a507
                 refine wl_val ha508 rfl rfl rfl (op_pick_t ha508 rfl rfl rfl) ?_
                 intro a509 ha509; clear ha508 a508
                 refine wl_val ha509 rfl rfl rfl (op_move ha509 rfl rfl) ?_
                 intro a510 ha510; clear ha509 a509
                 by_cases c511 : (vaV ((sdL ((q14)) (q15 : Int) ((q16)) (q17 : Int))) ((z25.length : Nat) : Int) ((q16)) : Int) = (q17 : Int)
                 ·
                  rw [decide_eq_true c511] at ha510
                  refine wl_val ha510 rfl rfl rfl (op_move ha510 rfl rfl) ?_
                  intro a512 ha512; clear ha510 a510
                  refine wl_val ha512 rfl rfl rfl (op_eql ha512 rfl rfl rfl) ?_
                  intro a513 ha513; clear ha512 a512
                  refine wl_val ha513 rfl rfl rfl (op_pick_t ha513 rfl rfl rfl) ?_
                  intro a514 ha514; clear ha513 a513
                  refine wl_val ha514 rfl rfl rfl (op_move ha514 rfl rfl) ?_
                  intro a515 ha515; clear ha514 a514
                  by_cases c516 : (cdV ((sdL ((q14)) (q15 : Int) ((q16)) (q17 : Int))) (q15 : Int) ((z25.length : Nat) : Int) : Int) = (0 : Int)
                  ·
                   rw [decide_eq_true c516] at ha515
                   refine wl_val ha515 rfl rfl rfl (op_move ha515 rfl rfl) ?_
                   intro a517 ha517; clear ha515 a515
                   refine wl_val ha517 rfl rfl rfl (op_len_sl ha517 rfl Try.underlying24 rfl (ho494.rds pos_shStr)) ?_
                   intro a518 ha518; clear ha517 a517
                   refine wl_val ha518 rfl rfl rfl (op_leq ha518 rfl rfl rfl) ?_
                   intro a519 ha519; clear ha518 a518
                   refine wl_val ha519 rfl rfl rfl (op_pick_t ha519 rfl rfl rfl) ?_
                   intro a520 ha520; clear ha519 a519
                   refine wl_val ha520 rfl rfl rfl (op_move ha520 rfl rfl) ?_
                   intro a521 ha521; clear ha520 a520
                   by_cases c522 : ((((kcV ((sdL ((q14)) (q15 : Int) ((q16)) (q17 : Int))) (q15 : Int) ((z25.length : Nat) : Int))).length : Nat) : Int) ≤ (1 : Int)
                   ·
                    rw [decide_eq_true c522] at ha521
                    refine wl_val ha521 rfl rfl rfl (op_move ha521 rfl rfl) ?_
                    intro a523 ha523; clear ha521 a521
                    refine wl_callR ha523 rfl rfl rfl (op_call ha523 rfl cb38 rfl) (c_impl_AreVersions _ u46 ((sdL ((q14)) (q15 : Int) ((q16)) (q17 : Int))) ((rds_shVerN (hf378.fin (by omega) (by omega) (by omega)) hf379).cast hE50)) ?_
                    rintro v524 w525 he526 rfl a527 ha527; clear ha523 a523
                    have hx528 := hx496.trans' he526
                    have hzhx528 := he526.size
                    replace hf378 := hf378.ext he526
                    replace hf379 := hf379.ext he526
                    replace ho494 := ho494.ext he526
                    refine wl_val ha527 rfl rfl rfl (op_pick_t ha527 rfl rfl rfl) ?_
                    intro a529 ha529; clear ha527 a527
                    refine wl_val ha529 rfl rfl rfl (op_move ha529 rfl rfl) ?_
                    intro a530 ha530; clear ha529 a529
                    rcases Bool.eq_false_or_eq_true (veB ((sdL ((q14)) (q15 : Int) ((q16)) (q17 : Int)))) with c531 | c531
                    ·
                     rw [c531] at ha530
                     refine wl_val ha530 rfl rfl rfl (op_move ha530 rfl rfl) ?_
                     intro a532 ha532; clear ha530 a530
                     refine wl_val ha532 rfl rfl rfl (op_move ha532 rfl rfl) ?_
                     intro a533 ha533; clear ha532 a532
                     obtain ⟨x534, hx534⟩ := get_ex (xs := z48) (j := z25.length) (by omega)
                     obtain ⟨p535, c536, hi537, hc538, hr539, hs540⟩ := Rds.at_ (hf378.rds pos_shVerN) hx534
                     obtain ⟨rfl, b541, b542⟩ := inv_shVerN hr539
                     have hn543 : Own shLine 83 w12.heap.size w12.heap.size w44.heap.size w525 x534.2 x534.1.2 := hf379.get hx534
                     obtain ⟨_, _⟩ : _ ∧ _ := hs540
                     have hsx := hs7 _ (abs_get hE50 hx534)
                     refine wl_val ha533 rfl rfl rfl (op_indexAddr ha533 rfl Try.underlying27 ti56 rfl rfl (by omega) hi537) ?_
                     intro a544 ha544; clear ha533 a533
                     refine wl_val ha544 rfl rfl rfl (op_fieldAddr (sz := 0) ha544 rfl Try.underlying56 rfl rfl ti2 rfl) ?_
                     intro a545 ha545; clear ha544 a544
                     refine wl_val ha545 rfl rfl rfl (op_loadF (off := 0) ha545 rfl Try.underlying2 rfl rfl hc538 rfl) ?_
                     intro a546 ha546; clear ha545 a545
                     refine wl_val ha546 rfl rfl rfl (op_move ha546 rfl rfl) ?_
                     intro a547 ha547; clear ha546 a546
                     refine wl_val ha547 rfl rfl rfl (op_eql ha547 rfl rfl rfl) ?_
                     intro a548 ha548; clear ha547 a547
                     refine wl_val ha548 rfl rfl rfl (op_pick_t ha548 rfl rfl rfl) ?_
                     intro a549 ha549; clear ha548 a548
                     refine wl_val ha549 rfl rfl rfl (op_assign ha549 rfl rfl) ?_
                     intro a550 ha550; clear ha549 a549
                     refine wpList_nil ?_
                     refine then_n ?_
                     refine wp_ret ?_
                     refine ret1 ha550 rfl rfl ?_
                     clear ha550 a550
                     exact ret_mk hx528 (congrArg Value.bool (by first | rfl | (rw [decide_eq_true_eq]; exact hsx) | (rw [ha1] at c396; cases c396) | (rw [hs1] at c396; cases c396) | (exact absurd hs3 c396) | (exact absurd hs4 c396) | (exact absurd hs5 c396) | (exact absurd hsx c396) | (rw [ha1] at c8; cases c8) | (rw [hs1] at c8; cases c8) | (exact absurd hs3 c8) | (exact absurd hs4 c8) | (exact absurd hs5 c8) | (exact absurd hsx c8) | (simp at c292; done) | (simp at c8; done) | omega))
                    ·
                     rw [c531] at ha530
                     refine wl_skip ha530 rfl rfl rfl ?_
                     intro a551 ha551; clear ha530 a530
                     refine wl_skip ha551 rfl rfl rfl ?_
                     intro a552 ha552; clear ha551 a551
                     refine wl_skip ha552 rfl rfl rfl ?_
                     intro a553 ha553; clear ha552 a552
                     refine wl_skip ha553 rfl rfl rfl ?_
                     intro a554 ha554; clear ha553 a553
                     refine wl_skip ha554 rfl rfl rfl ?_
                     intro a555 ha555; clear ha554 a554
                     refine wl_skip ha555 rfl rfl rfl ?_
                     intro a556 ha556; clear ha555 a555
                     refine wl_skip ha556 rfl rfl rfl ?_
                     intro a557 ha557; clear ha556 a556
                     refine wl_val ha557 rfl rfl rfl (op_pick_f ha557 rfl rfl rfl) ?_
                     intro a558 ha558; clear ha557 a557
                     refine wl_val ha558 rfl rfl rfl (op_assign ha558 rfl rfl) ?_
                     intro a559 ha559; clear ha558 a558
                     refine wpList_nil ?_
                     refine then_n ?_
                     refine wp_ret ?_
                     refine ret1 ha559 rfl rfl ?_
                     clear ha559 a559
                     exact ret_mk hx528 (congrArg Value.bool (by first | rfl | (rw [decide_eq_true_eq]; exact hsx) | (rw [ha1] at c531; cases c531) | (rw [hs1] at c531; cases c531) | (exact absurd hs3 c531) | (exact absurd hs4 c531) | (exact absurd hs5 c531) | (exact absurd hsx c531) | (rw [ha1] at c396; cases c396) | (rw [hs1] at c396; cases c396) | (exact absurd hs3 c396) | (exact absurd hs4 c396) | (exact absurd hs5 c396) | (exact absurd hsx c396) | (rw [ha1] at c8; cases c8) | (rw [hs1] at c8; cases c8) | (exact absurd hs3 c8) | (exact absurd hs4 c8) | (exact absurd hs5 c8) | (exact absurd hsx c8) | (simp at c292; done) | (simp at c8; done) | omega))
                   ·
                    rw [decide_eq_false c522] at ha521
                    refine wl_skip ha521 rfl rfl rfl ?_
                    intro a560 ha560; clear ha521 a521
                    refine wl_skip ha560 rfl rfl rfl ?_
                    intro a561 ha561; clear ha560 a560
                    refine wl_val ha561 rfl rfl rfl (op_pick_f ha561 rfl rfl rfl) ?_
                    intro a562 ha562; clear ha561 a561
                    refine wl_val ha562 rfl rfl rfl (op_move ha562 rfl rfl) ?_
                    intro a563 ha563; clear ha562 a562
                    refine wl_skip ha563 rfl rfl rfl ?_
                    intro a564 ha564; clear ha563 a563
                    refine wl_skip ha564 rfl rfl rfl ?_
                    intro a565 ha565; clear ha564 a564
                    refine wl_skip ha565 rfl rfl rfl ?_
                    intro a566 ha566; clear ha565 a565
                    refine wl_skip ha566 rfl rfl rfl ?_
                    intro a567 ha567; clear ha566 a566
                    refine wl_skip ha567 rfl rfl rfl ?_
                    intro a568 ha568; clear ha567 a567
                    refine wl_skip ha568 rfl rfl rfl ?_
                    intro a569 ha569; clear ha568 a568
                    refine wl_skip ha569 rfl rfl rfl ?_
                    intro a570 ha570; clear ha569 a569
                    refine wl_val ha570 rfl rfl rfl (op_pick_f ha570 rfl rfl rfl) ?_
                    intro a571 ha571; clear ha570 a570
                    refine wl_val ha571 rfl rfl rfl (op_assign ha571 rfl rfl) ?_
                    intro a572 ha572; clear ha571 a571
                    refine wpList_nil ?_
                    refine then_n ?_
                    refine wp_ret ?_
                    refine ret1 ha572 rfl rfl ?_
                    clear ha572 a572
                    exact ret_mk hx496 (congrArg Value.bool (by first | rfl | (rw [decide_eq_true_eq]; exact hsx) | (rw [ha1] at c522; cases c522) | (rw [hs1] at c522; cases c522) | (exact absurd hs3 c522) | (exact absurd hs4 c522) | (exact absurd hs5 c522) | (exact absurd hsx c522) | (rw [ha1] at c396; cases c396) | (rw [hs1] at c396; cases c396) | (exact absurd hs3 c396) | (exact absurd hs4 c396) | (exact absurd hs5 c396) | (exact absurd hsx c396) | (rw [ha1] at c8; cases c8) | (rw [hs1] at c8; cases c8) | (exact absurd hs3 c8) | (exact absurd hs4 c8) | (exact absurd hs5 c8) | (exact absurd hsx c8) | (simp at c292; done) | (simp at c8; done) | omega))
                  ·
                   rw [decide_eq_false c516] at ha515
                   refine wl_skip ha515 rfl rfl rfl ?_
                   intro a573 ha573; clear ha515 a515
                   refine wl_skip ha573 rfl rfl rfl ?_
                   intro a574 ha574; clear ha573 a573
                   refine wl_skip ha574 rfl rfl rfl ?_
                   intro a575 ha575; clear ha574 a574
                   refine wl_val ha575 rfl rfl rfl (op_pick_f ha575 rfl rfl rfl) ?_
                   intro a576 ha576; clear ha575 a575
                   refine wl_val ha576 rfl rfl rfl (op_move ha576 rfl rfl) ?_
                   intro a577 ha577; clear ha576 a576
                   refine wl_skip ha577 rfl rfl rfl ?_
                   intro a578 ha578; clear ha577 a577
                   refine wl_skip ha578 rfl rfl rfl ?_
                   intro a579 ha579; clear ha578 a578
                   refine wl_val ha579 rfl rfl rfl (op_pick_f ha579 rfl rfl rfl) ?_
                   intro a580 ha580; clear ha579 a579
                   refine wl_val ha580 rfl rfl rfl (op_move ha580 rfl rfl) ?_
                   intro a581 ha581; clear ha580 a580
                   refine wl_skip ha581 rfl rfl rfl ?_
                   intro a582 ha582; clear ha581 a581
                   refine wl_skip ha582 rfl rfl rfl ?_
                   intro a583 ha583; clear ha582 a582
                   refine wl_skip ha583 rfl rfl rfl ?_
                   intro a584 ha584; clear ha583 a583
                   refine wl_skip ha584 rfl rfl rfl ?_
                   intro a585 ha585; clear ha584 a584
                   refine wl_skip ha585 rfl rfl rfl ?_
                   intro a586 ha586; clear ha585 a585
                   refine wl_skip ha586 rfl rfl rfl ?_
                   intro a587 ha587; clear ha586 a586
                   refine wl_skip ha587 rfl rfl rfl ?_
                   intro a588 ha588; clear ha587 a587
                   refine wl_val ha588 rfl rfl rfl (op_pick_f ha588 rfl rfl rfl) ?_
                   intro a589 ha589; clear ha588 a588
                   refine wl_val ha589 rfl rfl rfl (op_assign ha589 rfl rfl) ?_
                   intro a590 ha590; clear ha589 a589
                   refine wpList_nil ?_
                   refine then_n ?_
                   refine wp_ret ?_
                   refine ret1 ha590 rfl rfl ?_
                   clear ha590 a590
                   exact ret_mk hx496 (congrArg Value.bool (by first | rfl | (rw [decide_eq_true_eq]; exact hsx) | (rw [ha1] at c516; cases c516) | (rw [hs1] at c516; cases c516) | (exact absurd hs3 c516) | (exact absurd hs4 c516) | (exact absurd hs5 c516) | (exact absurd hsx c516) | (rw [ha1] at c396; cases c396) | (rw [hs1] at c396; cases c396) | (exact absurd hs3 c396) | (exact absurd hs4 c396) | (exact absurd hs5 c396) | (exact absurd hsx c396) | (rw [ha1] at c8; cases c8) | (rw [hs1] at c8; cases c8) | (exact absurd hs3 c8) | (exact absurd hs4 c8) | (exact absurd hs5 c8) | (exact absurd hsx c8) | (exact absurd rfl c516) | (simp at c292; done) | (simp at c8; done) | omega))
                 ·
                  rw [decide_eq_false c511] at ha510
                  refine wl_skip ha510 rfl rfl rfl ?_
                  intro a591 ha591; clear ha510 a510
                  refine wl_skip ha591 rfl rfl rfl ?_
                  intro a592 ha592; clear ha591 a591
                  refine wl_val ha592 rfl rfl rfl (op_pick_f ha592 rfl rfl rfl) ?_
                  intro a593 ha593; clear ha592 a592
                  refine wl_val ha593 rfl rfl rfl (op_move ha593 rfl rfl) ?_
                  intro a594 ha594; clear ha593 a593
                  refine wl_skip ha594 rfl rfl rfl ?_
                  intro a595 ha595; clear ha594 a594
                  refine wl_skip ha595 rfl rfl rfl ?_
                  intro a596 ha596; clear ha595 a595
                  refine wl_skip ha596 rfl rfl rfl ?_
                  intro a597 ha597; clear ha596 a596
                  refine wl_val ha597 rfl rfl rfl (op_pick_f ha597 rfl rfl rfl) ?_
                  intro a598 ha598; clear ha597 a597
                  refine wl_val ha598 rfl rfl rfl (op_move ha598 rfl rfl) ?_
                  intro a599 ha599; clear ha598 a598
                  refine wl_skip ha599 rfl rfl rfl ?_
                  intro a600 ha600; clear ha599 a599
                  refine wl_skip ha600 rfl rfl rfl ?_
                  intro a601 ha601; clear ha600 a600
                  refine wl_val ha601 rfl rfl rfl (op_pick_f ha601 rfl rfl rfl) ?_
                  intro a602 ha602; clear ha601 a601
                  refine wl_val ha602 rfl rfl rfl (op_move ha602 rfl rfl) ?_
                  intro a603 ha603; clear ha602 a602
                  refine wl_skip ha603 rfl rfl rfl ?_
                  intro a604 ha604; clear ha603 a603
                  refine wl_skip ha604 rfl rfl rfl ?_
                  intro a605 ha605; clear ha604 a604
                  refine wl_skip ha605 rfl rfl rfl ?_
                  intro a606 ha606; clear ha605 a605
                  refine wl_skip ha606 rfl rfl rfl ?_
                  intro a607 ha607; clear ha606 a606
                  refine wl_skip ha607 rfl rfl rfl ?_
                  intro a608 ha608; clear ha607 a607
                  refine wl_skip ha608 rfl rfl rfl ?_
                  intro a609 ha609; clear ha608 a608
                  refine wl_skip ha609 rfl rfl rfl ?_
                  intro a610 ha610; clear ha609 a609
                  refine wl_val ha610 rfl rfl rfl (op_pick_f ha610 rfl rfl rfl) ?_
                  intro a611 ha611; clear ha610 a610
                  refine wl_val ha611 rfl rfl rfl (op_assign ha611 rfl rfl) ?_
                  intro a612 ha612; clear ha611 a611
                  refine wpList_nil ?_
                  refine then_n ?_
                  refine wp_ret ?_
                  refine ret1 ha612 rfl rfl ?_
                  clear ha612 a612
                  exact ret_mk hx496 (congrArg Value.bool (by first | rfl | (rw [decide_eq_true_eq]; exact hsx) | (rw [ha1] at c511; cases c511) | (rw [hs1] at c511; cases c511) | (exact absurd hs3 c511) | (exact absurd hs4 c511) | (exact absurd hs5 c511) | (exact absurd hsx c511) | (rw [ha1] at c396; cases c396) | (rw [hs1] at c396; cases c396) | (exact absurd hs3 c396) | (exact absurd hs4 c396) | (exact absurd hs5 c396) | (exact absurd hsx c396) | (rw [ha1] at c8; cases c8) | (rw [hs1] at c8; cases c8) | (exact absurd hs3 c8) | (exact absurd hs4 c8) | (exact absurd hs5 c8) | (exact absurd hsx c8) | (exact absurd rfl c511) | (simp at c292; done) | (simp at c8; done) | omega))
                ·
                 rw [decide_eq_false c505] at ha504
                 refine wl_skip ha504 rfl rfl rfl ?_
                 intro a613 ha613; clear ha504 a504
                 refine wl_skip ha613 rfl rfl rfl ?_
                 intro a614 ha614; clear ha613 a613
                 refine wl_skip ha614 rfl rfl rfl ?_
                 intro a615 ha615; clear ha614 a614
                 refine wl_val ha615 rfl rfl rfl (op_pick_f ha615 rfl rfl rfl) ?_
                 intro a616 ha616; clear ha615 a615
                 refine wl_val ha616 rfl rfl rfl (op_move ha616 rfl rfl) ?_
                 intro a617 ha617; clear ha616 a616
                 refine wl_skip ha617 rfl rfl rfl ?_
                 intro a618 ha618; clear ha617 a617
                 refine wl_skip ha618 rfl rfl rfl ?_
                 intro a619 ha619; clear ha618 a618
                 refine wl_val ha619 rfl rfl rfl (op_pick_f ha619 rfl rfl rfl) ?_
                 intro a620 ha620; clear ha619 a619
                 refine wl_val ha620 rfl rfl rfl (op_move ha620 rfl rfl) ?_
                 intro a621 ha621; clear ha620 a620
                 refine wl_skip ha621 rfl rfl rfl ?_
                 intro a622 ha622; clear ha621 a621
                 refine wl_skip ha622 rfl rfl rfl ?_
                 intro a623 ha623; clear ha622 a622
                 refine wl_skip ha623 rfl rfl rfl ?_
                 intro a624 ha624; clear ha623 a623
                 refine wl_val ha624 rfl rfl rfl (op_pick_f ha624 rfl rfl rfl) ?_
                 intro a625 ha625; clear ha624 a624
                 refine wl_val ha625 rfl rfl rfl (op_move ha625 rfl rfl) ?_
                 intro a626 ha626; clear ha625 a625
                 refine wl_skip ha626 rfl rfl rfl ?_
                 intro a627 ha627; clear ha626 a626
                 refine wl_skip ha627 rfl rfl rfl ?_
                 intro a628 ha628; clear ha627 a627
                 refine wl_val ha628 rfl rfl rfl (op_pick_f ha628 rfl rfl rfl) ?_
                 intro a629 ha629; clear ha628 a628
                 refine wl_val ha629 rfl rfl rfl (op_move ha629 rfl rfl) ?_
                 intro a630 ha630; clear ha629 a629
                 refine wl_skip ha630 rfl rfl rfl ?_
                 intro a631 ha631; clear ha630 a630
                 refine wl_skip ha631 rfl rfl rfl ?_
                 intro a632 ha632; clear ha631 a631
                 refine wl_skip ha632 rfl rfl rfl ?_
                 intro a633 ha633; clear ha632 a632
                 refine wl_skip ha633 rfl rfl rfl ?_
                 intro a634 ha634; clear ha633 a633
                 refine wl_skip ha634 rfl rfl rfl ?_
                 intro a635 ha635; clear ha634 a634
                 refine wl_skip ha635 rfl rfl rfl ?_
                 intro a636 ha636; clear ha635 a635
                 refine wl_skip ha636 rfl rfl rfl ?_
                 intro a637 ha637; clear ha636 a636
                 refine wl_val ha637 rfl rfl rfl (op_pick_f ha637 rfl rfl rfl) ?_
                 intro a638 ha638; clear ha637 a637
                 refine wl_val ha638 rfl rfl rfl (op_assign ha638 rfl rfl) ?_
                 intro a639 ha639; clear ha638 a638
                 refine wpList_nil ?_
                 refine then_n ?_
                 refine wp_ret ?_
                 refine ret1 ha639 rfl rfl ?_
                 clear ha639 a639
                 exact ret_mk hx496 (congrArg Value.bool (by first | rfl | (rw [decide_eq_true_eq]; exact hsx) | (rw [ha1] at c505; cases c505) | (rw [hs1] at c505; cases c505) | (exact absurd hs3 c505) | (exact absurd hs4 c505) | (exact absurd hs5 c505) | (exact absurd hsx c505) | (rw [ha1] at c396; cases c396) | (rw [hs1] at c396; cases c396) | (exact absurd hs3 c396) | (exact absurd hs4 c396) | (exact absurd hs5 c396) | (exact absurd hsx c396) | (rw [ha1] at c8; cases c8) | (rw [hs1] at c8; cases c8) | (exact absurd hs3 c8) | (exact absurd hs4 c8) | (exact absurd hs5 c8) | (exact absurd hsx c8) | (exact absurd rfl c505) | (simp at c292; done) | (simp at c8; done) | omega))
               ·
                rw [decide_eq_false c470] at ha469
                refine cond_t ha469 rfl ?_
                refine wp_seq ?_
                clear hf376 hf377 hf378 hf379
                refine wp_region_lit ?_
                refine wl_val ha469 rfl rfl rfl (op_assign ha469 rfl rfl) ?_
                intro a640 ha640; clear ha469 a469
                refine wpList_nil ?_
                refine then_n ?_
                refine wp_ret ?_
                refine then_r ?_
                refine ret1 ha640 rfl rfl ?_
                clear ha640 a640
                exact ret_mk hx375 (congrArg Value.bool (by first | rfl | (rw [decide_eq_true_eq]; exact hsx) | (rw [ha1] at c470; cases c470) | (rw [hs1] at c470; cases c470) | (exact absurd hs3 c470) | (exact absurd hs4 c470) | (exact absurd hs5 c470) | (exact absurd hsx c470) | (rw [ha1] at c396; cases c396) | (rw [hs1] at c396; cases c396) | (exact absurd hs3 c396) | (exact absurd hs4 c396) | (exact absurd hs5 c396) | (exact absurd hsx c396) | (rw [ha1] at c8; cases c8) | (rw [hs1] at c8; cases c8) | (exact absurd hs3 c8) | (exact absurd hs4 c8) | (exact absurd hs5 c8) | (exact absurd hsx c8) | (exact absurd rfl c470) | (simp at c292; done) | (simp at c8; done) | omega))
             ·
              rw [decide_eq_false c390] at ha389
              refine wl_skip ha389 rfl rfl rfl ?_
              intro a641 ha641; clear ha389 a389
              refine wl_skip ha641 rfl rfl rfl ?_
              intro a642 ha642; clear ha641 a641
              refine wl_skip ha642 rfl rfl rfl ?_
              intro a643 ha643; clear ha642 a642
              refine wl_skip ha643 rfl rfl rfl ?_
              intro a644 ha644; clear ha643 a643
              refine wl_val ha644 rfl rfl rfl (op_pick_f ha644 rfl rfl rfl) ?_
              intro a645 ha645; clear ha644 a644
              refine wpList_nil ?_
              refine then_n ?_
              refine cond_f ha645 rfl ?_
              refine wp_exit ?_
              refine then_e ?_
              refine then_e ?_
              refine block_hit ?_
              refine then_n ?_
              refine wp_seq ?_
              refine wp_seq ?_
              clear hf380 hf381 hf382 hf383 hf384
              refine wp_region_lit ?_
              refine wl_val ha645 rfl rfl rfl (op_move ha645 rfl rfl) ?_
              intro a646 ha646; clear ha645 a645
              refine wl_val ha646 rfl rfl rfl ((op_neq ha646 rfl rfl rfl).to (congrArg Value.bool decide_not)) ?_
              intro a647 ha647; clear ha646 a646
              refine wpList_nil ?_
              refine then_n ?_
              by_cases c648 : (sdC ((q14)) (q15 : Int) ((q16)) (q17 : Int) : Int) = (0 : Int)
              ·
               rw [decide_eq_true c648] at ha647
               have hsv := sv_all c648
               rw [← absLen hE27] at hsv
               obtain ⟨hs1, hs2, hs3, hs4, hs5, hs6, hs7⟩ := hsv
               refine cond_f ha647 rfl ?_
               refine wp_skip ?_
               refine then_n ?_
               refine wp_seq ?_
               refine wp_region_lit ?_
               refine wl_val ha647 rfl rfl rfl (op_move ha647 rfl rfl) ?_
               intro a649 ha649; clear ha647 a647
               refine wl_val ha649 rfl rfl rfl (op_len_sl ha649 rfl Try.underlying27 rfl (hf376.rds pos_shVerN)) ?_
               intro a650 ha650; clear ha649 a649
               refine wl_val ha650 rfl rfl rfl (op_assign ha650 rfl rfl) ?_
               intro a651 ha651; clear ha650 a650
               refine wpList_nil ?_
               refine then_n ?_
               refine wp_seq ?_
               clear hf376 hf377
               refine wp_region_lit ?_
               refine wl_val ha651 rfl rfl rfl (op_move ha651 rfl rfl) ?_
               intro a652 ha652; clear ha651 a651
               refine wl_val ha652 rfl rfl rfl (op_move ha652 rfl rfl) ?_
               intro a653 ha653; clear ha652 a652
               refine wl_val ha653 rfl rfl rfl (op_move ha653 rfl rfl) ?_
               intro a654 ha654; clear ha653 a653
               refine wl_callR ha654 rfl rfl rfl (op_call ha654 rfl cb41 rfl) (c_impl_ValueOf _ u46 ((sdL ((q14)) (q15 : Int) ((q16)) (q17 : Int))) ((z25.length : Nat) : Int) ((q16)) ((rds_shVerN (hf378.fin (by omega) (by omega) (by omega)) hf379).cast hE50) (by first | assumption | omega | (simp; done) | (simp; omega))) ?_
               rintro v655 w656 he657 rfl a658 ha658; clear ha654 a654
               have hx659 := hx375.trans' he657
               have hzhx659 := he657.size
               replace hf378 := hf378.ext he657
               replace hf379 := hf379.ext he657
               refine wl_val ha658 rfl rfl rfl (op_move ha658 rfl rfl) ?_
               intro a660 ha660; clear ha658 a658
               refine wl_val ha660 rfl rfl rfl (op_extract ha660 rfl rfl rfl) ?_
               intro a661 ha661; clear ha660 a660
               refine wl_val ha661 rfl rfl rfl (op_extract ha661 rfl rfl rfl) ?_
               intro a662 ha662; clear ha661 a661
               refine wl_val ha662 rfl rfl rfl (op_assign ha662 rfl rfl) ?_
               intro a663 ha663; clear ha662 a662
               refine wl_val ha663 rfl rfl rfl (op_assign ha663 rfl rfl) ?_
               intro a664 ha664; clear ha663 a663
               refine wpList_nil ?_
               refine then_n ?_
               refine wp_seq ?_
               refine wp_region_lit ?_
               refine wl_val ha664 rfl rfl rfl (op_move ha664 rfl rfl) ?_
               intro a665 ha665; clear ha664 a664
               refine wl_val ha665 rfl rfl rfl (op_move ha665 rfl rfl) ?_
               intro a666 ha666; clear ha665 a665
               refine wl_val ha666 rfl rfl rfl (op_move ha666 rfl rfl) ?_
               intro a667 ha667; clear ha666 a666
               refine wl_callR ha667 rfl rfl rfl (op_call ha667 rfl cb11 rfl) (c_impl_KeysChanged _ u46 ((sdL ((q14)) (q15 : Int) ((q16)) (q17 : Int))) (q15 : Int) ((z25.length : Nat) : Int) ((rds_shVerN (hf378.fin (by omega) (by omega) (by omega)) hf379).cast hE50)) ?_
               rintro v668 w669 he670 ⟨v671, rfl, ho672⟩ a673 ha673; clear ha667 a667
               have hx674 := hx659.trans' he670
               have hzhx674 := he670.size
               replace hf378 := hf378.ext he670
               replace hf379 := hf379.ext he670
               refine wl_val ha673 rfl rfl rfl (op_move ha673 rfl rfl) ?_
               intro a675 ha675; clear ha673 a673
               refine wl_val ha675 rfl rfl rfl (op_extract ha675 rfl rfl rfl) ?_
               intro a676 ha676; clear ha675 a675
               refine wl_val ha676 rfl rfl rfl (op_extract ha676 rfl rfl rfl) ?_
               intro a677 ha677; clear ha676 a676
               refine wl_val ha677 rfl rfl rfl (op_assign ha677 rfl rfl) ?_
               intro a678 ha678; clear ha677 a677
               refine wl_val ha678 rfl rfl rfl (op_assign ha678 rfl rfl) ?_
               intro a679 ha679; clear ha678 a678
               refine wpList_nil ?_
               refine then_n ?_
               refine wp_seq ?_
               refine wp_region_lit ?_
               refine wl_val ha679 rfl rfl rfl (op_move ha679 rfl rfl) ?_
               intro a680 ha680; clear ha679 a679
               refine wl_val ha680 rfl rfl rfl (op_eql ha680 rfl rfl rfl) ?_
               intro a681 ha681; clear ha680 a680
               refine wl_val ha681 rfl rfl rfl (op_move ha681 rfl rfl) ?_
               intro a682 ha682; clear ha681 a681
               by_cases c683 : (cdW ((sdL ((q14)) (q15 : Int) ((q16)) (q17 : Int))) ((z25.length : Nat) : Int) ((q16)) : Int) = (0 : Int)
               ·
                rw [decide_eq_true c683] at ha682
                refine wl_val ha682 rfl rfl rfl (op_move ha682 rfl rfl) ?_
                intro a684 ha684; clear ha682 a682
                refine wl_val ha684 rfl rfl rfl (op_move ha684 rfl rfl) ?_
                intro a685 ha685; clear ha684 a684
                refine wl_val ha685 rfl rfl rfl (op_eql ha685 rfl rfl rfl) ?_
                intro a686 ha686; clear ha685 a685
                refine wl_val ha686 rfl rfl rfl (op_pick_t ha686 rfl rfl rfl) ?_
                intro a687 ha687; clear ha686 a686
                refine wl_val ha687 rfl rfl rfl (op_move ha687 rfl rfl) ?_
                intro a688 ha688; clear ha687 a687
                by_cases c689 : (vaV ((sdL ((q14)) (q15 : Int) ((q16)) (q17 : Int))) ((z25.length : Nat) : Int) ((q16)) : Int) = (q17 : Int)
                ·
                 rw [decide_eq_true c689] at ha688
                 refine wl_val ha688 rfl rfl rfl (op_move ha688 rfl rfl) ?_
                 intro a690 ha690; clear ha688 a688
                 refine wl_val ha690 rfl rfl rfl (op_eql ha690 rfl rfl rfl) ?_
                 intro a691 ha691; clear ha690 a690
                 refine wl_val ha691 rfl rfl rfl (op_pick_t ha691 rfl rfl rfl) ?_
                 intro a692 ha692; clear ha691 a691
                 refine wl_val ha692 rfl rfl rfl (op_move ha692 rfl rfl) ?_
                 intro a693 ha693; clear ha692 a692
                 by_cases c694 : (cdV ((sdL ((q14)) (q15 : Int) ((q16)) (q17 : Int))) (q15 : Int) ((z25.length : Nat) : Int) : Int) = (0 : Int)
                 ·
                  rw [decide_eq_true c694] at ha693
                  refine wl_val ha693 rfl rfl rfl (op_move ha693 rfl rfl) ?_
                  intro a695 ha695; clear ha693 a693
                  refine wl_val ha695 rfl rfl rfl (op_len_sl ha695 rfl Try.underlying24 rfl (ho672.rds pos_shStr)) ?_
                  intro a696 ha696; clear ha695 a695
                  refine wl_val ha696 rfl rfl rfl (op_leq ha696 rfl rfl rfl) ?_
                  intro a697 ha697; clear ha696 a696
                  refine wl_val ha697 rfl rfl rfl (op_pick_t ha697 rfl rfl rfl) ?_
                  intro a698 ha698; clear ha697 a697
                  refine wl_val ha698 rfl rfl rfl (op_move ha698 rfl rfl) ?_
                  intro a699 ha699; clear ha698 a698
                  by_cases c700 : ((((kcV ((sdL ((q14)) (q15 : Int) ((q16)) (q17 : Int))) (q15 : Int) ((z25.length : Nat) : Int))).length : Nat) : Int) ≤ (1 : Int)
                  ·
                   rw [decide_eq_true c700] at ha699
                   refine wl_val ha699 rfl rfl rfl (op_move ha699 rfl rfl) ?_
                   intro a701 ha701; clear ha699 a699
                   refine wl_callR ha701 rfl rfl rfl (op_call ha701 rfl cb38 rfl) (c_impl_AreVersions _ u46 ((sdL ((q14)) (q15 : Int) ((q16)) (q17 : Int))) ((rds_shVerN (hf378.fin (by omega) (by omega) (by omega)) hf379).cast hE50)) ?_
                   rintro v702 w703 he704 rfl a705 ha705; clear ha701 a701
                   have hx706 := hx674.trans' he704
                   have hzhx706 := he704.size
                   replace hf378 := hf378.ext he704
                   replace hf379 := hf379.ext he704
                   replace ho672 := ho672.ext he704
                   refine wl_val ha705 rfl rfl rfl (op_pick_t ha705 rfl rfl rfl) ?_
                   intro a707 ha707; clear ha705 a705
                   refine wl_val ha707 rfl rfl rfl (op_move ha707 rfl rfl) ?_
                   intro a708 ha708; clear ha707 a707
                   rcases Bool.eq_false_or_eq_true (veB ((sdL ((q14)) (q15 : Int) ((q16)) (q17 : Int)))) with c709 | c709
                   ·
                    rw [c709] at ha708
                    refine wl_val ha708 rfl rfl rfl (op_move ha708 rfl rfl) ?_
                    intro a710 ha710; clear ha708 a708
                    refine wl_val ha710 rfl rfl rfl (op_move ha710 rfl rfl) ?_
                    intro a711 ha711; clear ha710 a710
                    obtain ⟨x712, hx712⟩ := get_ex (xs := z48) (j := z25.length) (by omega)
                    obtain ⟨p713, c714, hi715, hc716, hr717, hs718⟩ := Rds.at_ (hf378.rds pos_shVerN) hx712
                    obtain ⟨rfl, b719, b720⟩ := inv_shVerN hr717
                    have hn721 : Own shLine 83 w12.heap.size w12.heap.size w44.heap.size w703 x712.2 x712.1.2 := hf379.get hx712
                    obtain ⟨_, _⟩ : _ ∧ _ := hs718
                    have hsx := hs7 _ (abs_get hE50 hx712)
                    refine wl_val ha711 rfl rfl rfl (op_indexAddr ha711 rfl Try.underlying27 ti56 rfl rfl (by omega) hi715) ?_
                    intro a722 ha722; clear ha711 a711
                    refine wl_val ha722 rfl rfl rfl (op_fieldAddr (sz := 0) ha722 rfl Try.underlying56 rfl rfl ti2 rfl) ?_
                    intro a723 ha723; clear ha722 a722
                    refine wl_val ha723 rfl rfl rfl (op_loadF (off := 0) ha723 rfl Try.underlying2 rfl rfl hc716 rfl) ?_
                    intro a724 ha724; clear ha723 a723
                    refine wl_val ha724 rfl rfl rfl (op_move ha724 rfl rfl) ?_
                    intro a725 ha725; clear ha724 a724
                    refine wl_val ha725 rfl rfl rfl (op_eql ha725 rfl rfl rfl) ?_
                    intro a726 ha726; clear ha725 a725
                    refine wl_val ha726 rfl rfl rfl (op_pick_t ha726 rfl rfl rfl) ?_
                    intro a727 ha727; clear ha726 a726
                    refine wl_val ha727 rfl rfl rfl (op_assign ha727 rfl rfl) ?_
                    intro a728 ha728; clear ha727 a727
                    refine wpList_nil ?_
                    refine then_n ?_
                    refine wp_ret ?_
                    refine ret1 ha728 rfl rfl ?_
                    clear ha728 a728
                    exact ret_mk hx706 (congrArg Value.bool (by first | rfl | (rw [decide_eq_true_eq]; exact hsx) | (rw [ha1] at c390; cases c390) | (rw [hs1] at c390; cases c390) | (exact absurd hs3 c390) | (exact absurd hs4 c390) | (exact absurd hs5 c390) | (exact absurd hsx c390) | (rw [ha1] at c8; cases c8) | (rw [hs1] at c8; cases c8) | (exact absurd hs3 c8) | (exact absurd hs4 c8) | (exact absurd hs5 c8) | (exact absurd hsx c8) | (exact absurd rfl c390) | (simp at c292; done) | (simp at c8; done) | omega))
                   ·
                    rw [c709] at ha708
                    refine wl_skip ha708 rfl rfl rfl ?_
                    intro a729 ha729; clear ha708 a708
                    refine wl_skip ha729 rfl rfl rfl ?_
                    intro a730 ha730; clear ha729 a729
                    refine wl_skip ha730 rfl rfl rfl ?_
                    intro a731 ha731; clear ha730 a730
                    refine wl_skip ha731 rfl rfl rfl ?_
                    intro a732 ha732; clear ha731 a731
                    refine wl_skip ha732 rfl rfl rfl ?_
                    intro a733 ha733; clear ha732 a732
                    refine wl_skip ha733 rfl rfl rfl ?_
                    intro a734 ha734; clear ha733 a733
                    refine wl_skip ha734 rfl rfl rfl ?_
                    intro a735 ha735; clear ha734 a734
                    refine wl_val ha735 rfl rfl rfl (op_pick_f ha735 rfl rfl rfl) ?_
                    intro a736 ha736; clear ha735 a735
                    refine wl_val ha736 rfl rfl rfl (op_assign ha736 rfl rfl) ?_
                    intro a737 ha737; clear ha736 a736
                    refine wpList_nil ?_
                    refine then_n ?_
                    refine wp_ret ?_
                    refine ret1 ha737 rfl rfl ?_
                    clear ha737 a737
                    exact ret_mk hx706 (congrArg Value.bool (by first | rfl | (rw [decide_eq_true_eq]; exact hsx) | (rw [ha1] at c709; cases c709) | (rw [hs1] at c709; cases c709) | (exact absurd hs3 c709) | (exact absurd hs4 c709) | (exact absurd hs5 c709) | (exact absurd hsx c709) | (rw [ha1] at c390; cases c390) | (rw [hs1] at c390; cases c390) | (exact absurd hs3 c390) | (exact absurd hs4 c390) | (exact absurd hs5 c390) | (exact absurd hsx c390) | (rw [ha1] at c8; cases c8) | (rw [hs1] at c8; cases c8) | (exact absurd hs3 c8) | (exact absurd hs4 c8) | (exact absurd hs5 c8) | (exact absurd hsx c8) | (exact absurd rfl c390) | (simp at c292; done) | (simp at c8; done) | omega))
                  ·
                   rw [decide_eq_false c700] at ha699
                   refine wl_skip ha699 rfl rfl rfl ?_
                   intro a738 ha738; clear ha699 a699
                   refine wl_skip ha738 rfl rfl rfl ?_
                   intro a739 ha739; clear ha738 a738
                   refine wl_val ha739 rfl rfl rfl (op_pick_f ha739 rfl rfl rfl) ?_
                   intro a740 ha740; clear ha739 a739
                   refine wl_val ha740 rfl rfl rfl (op_move ha740 rfl rfl) ?_
                   intro a741 ha741; clear ha740 a740
                   refine wl_skip ha741 rfl rfl rfl ?_
                   intro a742 ha742; clear ha741 a741
                   refine wl_skip ha742 rfl rfl rfl ?_
                   intro a743 ha743; clear ha742 a742
                   refine wl_skip ha743 rfl rfl rfl ?_
                   intro a744 ha744; clear ha743 a743
                   refine wl_skip ha744 rfl rfl rfl ?_
                   intro a745 ha745; clear ha744 a744
                   refine wl_skip ha745 rfl rfl rfl ?_
                   intro a746 ha746; clear ha745 a745
                   refine wl_skip ha746 rfl rfl rfl ?_
                   intro a747 ha747; clear ha746 a746
                   refine wl_skip ha747 rfl rfl rfl ?_
                   intro a748 ha748; clear ha747 a747
                   refine wl_val ha748 rfl rfl rfl (op_pick_f ha748 rfl rfl rfl) ?_
                   intro a749 ha749; clear ha748 a748
                   refine wl_val ha749 rfl rfl rfl (op_assign ha749 rfl rfl) ?_
                   intro a750 ha750; clear ha749 a749
                   refine wpList_nil ?_
                   refine then_n ?_
                   refine wp_ret ?_
                   refine ret1 ha750 rfl rfl ?_
                   clear ha750 a750
                   exact ret_mk hx674 (congrArg Value.bool (by first | rfl | (rw [decide_eq_true_eq]; exact hsx) | (rw [ha1] at c700; cases c700) | (rw [hs1] at c700; cases c700) | (exact absurd hs3 c700) | (exact absurd hs4 c700) | (exact absurd hs5 c700) | (exact absurd hsx c700) | (rw [ha1] at c390; cases c390) | (rw [hs1] at c390; cases c390) | (exact absurd hs3 c390) | (exact absurd hs4 c390) | (exact absurd hs5 c390) | (exact absurd hsx c390) | (rw [ha1] at c8; cases c8) | (rw [hs1] at c8; cases c8) | (exact absurd hs3 c8) | (exact absurd hs4 c8) | (exact absurd hs5 c8) | (exact absurd hsx c8) | (exact absurd rfl c390) | (simp at c292; done) | (simp at c8; done) | omega))
                 ·
                  rw [decide_eq_false c694] at ha693
                  refine wl_skip ha693 rfl rfl rfl ?_
                  intro a751 ha751; clear ha693 a693
                  refine wl_skip ha751 rfl rfl rfl ?_
                  intro a752 ha752; clear ha751 a751
                  refine wl_skip ha752 rfl rfl rfl ?_
                  intro a753 ha753; clear ha752 a752
                  refine wl_val ha753 rfl rfl rfl (op_pick_f ha753 rfl rfl rfl) ?_
                  intro a754 ha754; clear ha753 a753
                  refine wl_val ha754 rfl rfl rfl (op_move ha754 rfl rfl) ?_
                  intro a755 ha755; clear ha754 a754
                  refine wl_skip ha755 rfl rfl rfl ?_
                  intro a756 ha756; clear ha755 a755
                  refine wl_skip ha756 rfl rfl rfl ?_
                  intro a757 ha757; clear ha756 a756
                  refine wl_val ha757 rfl rfl rfl (op_pick_f ha757 rfl rfl rfl) ?_
                  intro a758 ha758; clear ha757 a757
                  refine wl_val ha758 rfl rfl rfl (op_move ha758 rfl rfl) ?_
                  intro a759 ha759; clear ha758 a758
                  refine wl_skip ha759 rfl rfl rfl ?_
                  intro a760 ha760; clear ha759 a759
                  refine wl_skip ha760 rfl rfl rfl ?_
                  intro a761 ha761; clear ha760 a760
                  refine wl_skip ha761 rfl rfl rfl ?_
                  intro a762 ha762; clear ha761 a761
                  refine wl_skip ha762 rfl rfl rfl ?_
                  intro a763 ha763; clear ha762 a762
                  refine wl_skip ha763 rfl rfl rfl ?_
                  intro a764 ha764; clear ha763 a763
                  refine wl_skip ha764 rfl rfl rfl ?_
                  intro a765 ha765; clear ha764 a764
                  refine wl_skip ha765 rfl rfl rfl ?_
                  intro a766 ha766; clear ha765 a765
                  refine wl_val ha766 rfl rfl rfl (op_pick_f ha766 rfl rfl rfl) ?_
                  intro a767 ha767; clear ha766 a766
                  refine wl_val ha767 rfl rfl rfl (op_assign ha767 rfl rfl) ?_
                  intro a768 ha768; clear ha767 a767
                  refine wpList_nil ?_
                  refine then_n ?_
                  refine wp_ret ?_
                  refine ret1 ha768 rfl rfl ?_
                  clear ha768 a768
                  exact ret_mk hx674 (congrArg Value.bool (by first | rfl | (rw [decide_eq_true_eq]; exact hsx) | (rw [ha1] at c694; cases c694) | (rw [hs1] at c694; cases c694) | (exact absurd hs3 c694) | (exact absurd hs4 c694) | (exact absurd hs5 c694) | (exact absurd hsx c694) | (rw [ha1] at c390; cases c390) | (rw [hs1] at c390; cases c390) | (exact absurd hs3 c390) | (exact absurd hs4 c390) | (exact absurd hs5 c390) | (exact absurd hsx c390) | (rw [ha1] at c8; cases c8) | (rw [hs1] at c8; cases c8) | (exact absurd hs3 c8) | (exact absurd hs4 c8) | (exact absurd hs5 c8) | (exact absurd hsx c8) | (exact absurd rfl c694) | (exact absurd rfl c390) | (simp at c292; done) | (simp at c8; done) | omega))
                ·
                 rw [decide_eq_false c689] at ha688
                 refine wl_skip ha688 rfl rfl rfl ?_
                 intro a769 ha769; clear ha688 a688
                 refine wl_skip ha769 rfl rfl rfl ?_
                 intro a770 ha770; clear ha769 a769
                 refine wl_val ha770 rfl rfl rfl (op_pick_f ha770 rfl rfl rfl) ?_
                 intro a771 ha771; clear ha770 a770
                 refine wl_val ha771 rfl rfl rfl (op_move ha771 rfl rfl) ?_
                 intro a772 ha772; clear ha771 a771
                 refine wl_skip ha772 rfl rfl rfl ?_
                 intro a773 ha773; clear ha772 a772
                 refine wl_skip ha773 rfl rfl rfl ?_
                 intro a774 ha774; clear ha773 a773
                 refine wl_skip ha774 rfl rfl rfl ?_
                 intro a775 ha775; clear ha774 a774
                 refine wl_val ha775 rfl rfl rfl (op_pick_f ha775 rfl rfl rfl) ?_
                 intro a776 ha776; clear ha775 a775
                 refine wl_val ha776 rfl rfl rfl (op_move ha776 rfl rfl) ?_
                 intro a777 ha777; clear ha776 a776
                 refine wl_skip ha777 rfl rfl rfl ?_
                 intro a778 ha778; clear ha777 a777
                 refine wl_skip ha778 rfl rfl rfl ?_
                 intro a779 ha779; clear ha778 a778
                 refine wl_val ha779 rfl rfl rfl (op_pick_f ha779 rfl rfl rfl) ?_
                 intro a780 ha780; clear ha779 a779
                 refine wl_val ha780 rfl rfl rfl (op_move ha780 rfl rfl) ?_
                 intro a781 ha781; clear ha780 a780
                 refine wl_skip ha781 rfl rfl rfl ?_
                 intro a782 ha782; clear ha781 a781
                 refine wl_skip ha782 rfl rfl rfl ?_
                 intro a783 ha783; clear ha782 a782
                 refine wl_skip ha783 rfl rfl rfl ?_
                 intro a784 ha784; clear ha783 a783
                 refine wl_skip ha784 rfl rfl rfl ?_
                 intro a785 ha785; clear ha784 a784
                 refine wl_skip ha785 rfl rfl rfl ?_
                 intro a786 ha786; clear ha785 a785
                 refine wl_skip ha786 rfl rfl rfl ?_
                 intro a787 ha787; clear ha786 a786
                 refine wl_skip ha787 rfl rfl rfl ?_
                 intro a788 ha788; clear ha787 a787
                 refine wl_val ha788 rfl rfl rfl (op_pick_f ha788 rfl rfl rfl) ?_
                 intro a789 ha789; clear ha788 a788
                 refine wl_val ha789 rfl rfl rfl (op_assign ha789 rfl rfl) ?_
                 intro a790 ha790; clear ha789 a789
                 refine wpList_nil ?_
                 refine then_n ?_
                 refine wp_ret ?_
                 refine ret1 ha790 rfl rfl ?_
                 clear ha790 a790
                 exact ret_mk hx674 (congrArg Value.bool (by first | rfl | (rw [decide_eq_true_eq]; exact hsx) | (rw [ha1] at c689; cases c689) | (rw [hs1] at c689; cases c689) | (exact absurd hs3 c689) | (exact absurd hs4 c689) | (exact absurd hs5 c689) | (exact absurd hsx c689) | (rw [ha1] at c390; cases c390) | (rw [hs1] at c390; cases c390) | (exact absurd hs3 c390) | (exact absurd hs4 c390) | (exact absurd hs5 c390) | (exact absurd hsx c390) | (rw [ha1] at c8; cases c8) | (rw [hs1] at c8; cases c8) | (exact absurd hs3 c8) | (exact absurd hs4 c8) | (exact absurd hs5 c8) | (exact absurd hsx c8) | (exact absurd rfl c689) | (exact absurd rfl c390) | (simp at c292; done) | (simp at c8; done) | omega))
               ·
                rw [decide_eq_false c683] at ha682
                refine wl_skip ha682 rfl rfl rfl ?_
                intro a791 ha791; clear ha682 a682
                refine wl_skip ha791 rfl rfl rfl ?_
                intro a792 ha792; clear ha791 a791
                refine wl_skip ha792 rfl rfl rfl ?_
                intro a793 ha793; clear ha792 a792
                refine wl_val ha793 rfl rfl rfl (op_pick_f ha793 rfl rfl rfl) ?_
                intro a794 ha794; clear ha793 a793
                refine wl_val ha794 rfl rfl rfl (op_move ha794 rfl rfl) ?_
                intro a795 ha795; clear ha794 a794
                refine wl_skip ha795 rfl rfl rfl ?_
                intro a796 ha796; clear ha795 a795
                refine wl_skip ha796 rfl rfl rfl ?_
                intro a797 ha797; clear ha796 a796
                refine wl_val ha797 rfl rfl rfl (op_pick_f ha797 rfl rfl rfl) ?_
                intro a798 ha798; clear ha797 a797
                refine wl_val ha798 rfl rfl rfl (op_move ha798 rfl rfl) ?_
                intro a799 ha799; clear ha798 a798
                refine wl_skip ha799 rfl rfl rfl ?_
                intro a800 ha800; clear ha799 a799
                refine wl_skip ha800 rfl rfl rfl ?_
                intro a801 ha801; clear ha800 a800
                refine wl_skip ha801 rfl rfl rfl ?_
                intro a802 ha802; clear ha801 a801
                refine wl_val ha802 rfl rfl rfl (op_pick_f ha802 rfl rfl rfl) ?_
                intro a803 ha803; clear ha802 a802
                refine wl_val ha803 rfl rfl rfl (op_move ha803 rfl rfl) ?_
                intro a804 ha804; clear ha803 a803
                refine wl_skip ha804 rfl rfl rfl ?_
                intro a805 ha805; clear ha804 a804
                refine wl_skip ha805 rfl rfl rfl ?_
                intro a806 ha806; clear ha805 a805
                refine wl_val ha806 rfl rfl rfl (op_pick_f ha806 rfl rfl rfl) ?_
                intro a807 ha807; clear ha806 a806
                refine wl_val ha807 rfl rfl rfl (op_move ha807 rfl rfl) ?_
                intro a808 ha808; clear ha807 a807
                refine wl_skip ha808 rfl rfl rfl ?_
                intro a809 ha809; clear ha808 a808
                refine wl_skip ha809 rfl rfl rfl ?_
                intro a810 ha810; clear ha809 a809
                refine wl_skip ha810 rfl rfl rfl ?_
                intro a811 ha811; clear ha810 a810
                refine wl_skip ha811 rfl rfl rfl ?_
                intro a812 ha812; clear ha811 a811
                refine wl_skip ha812 rfl rfl rfl ?_
                intro a813 ha813; clear ha812 a812
                refine wl_skip ha813 rfl rfl rfl ?_
                intro a814 ha814; clear ha813 a813
                refine wl_skip ha814 rfl rfl rfl ?_
                intro a815 ha815; clear ha814 a814
                refine wl_val ha815 rfl rfl rfl (op_pick_f ha815 rfl rfl rfl) ?_
                intro a816 ha816; clear ha815 a815
                refine wl_val ha816 rfl rfl rfl (op_assign ha816 rfl rfl) ?_
                intro a817 ha817; clear ha816 a816
                refine wpList_nil ?_
                refine then_n ?_
                refine wp_ret ?_
                refine ret1 ha817 rfl rfl ?_
                clear ha817 a817
                exact ret_mk hx674 (congrArg Value.bool (by first | rfl | (rw [decide_eq_true_eq]; exact hsx) | (rw [ha1] at c683; cases c683) | (rw [hs1] at c683; cases c683) | (exact absurd hs3 c683) | (exact absurd hs4 c683) | (exact absurd hs5 c683) | (exact absurd hsx c683) | (rw [ha1] at c390; cases c390) | (rw [hs1] at c390; cases c390) | (exact absurd hs3 c390) | (exact absurd hs4 c390) | (exact absurd hs5 c390) | (exact absurd hsx c390) | (rw [ha1] at c8; cases c8) | (rw [hs1] at c8; cases c8) | (exact absurd hs3 c8) | (exact absurd hs4 c8) | (exact absurd hs5 c8) | (exact absurd hsx c8) | (exact absurd rfl c683) | (exact absurd rfl c390) | (simp at c292; done) | (simp at c8; done) | omega))
              ·
               rw [decide_eq_false c648] at ha647
               refine cond_t ha647 rfl ?_
               refine wp_seq ?_
               clear hf376 hf377 hf378 hf379
               refine wp_region_lit ?_
               refine wl_val ha647 rfl rfl rfl (op_assign ha647 rfl rfl) ?_
               intro a818 ha818; clear ha647 a647
               refine wpList_nil ?_
               refine then_n ?_
               refine wp_ret ?_
               refine then_r ?_
               refine ret1 ha818 rfl rfl ?_
               clear ha818 a818
               exact ret_mk hx375 (congrArg Value.bool (by first | rfl | (rw [decide_eq_true_eq]; exact hsx) | (rw [ha1] at c648; cases c648) | (rw [hs1] at c648; cases c648) | (exact absurd hs3 c648) | (exact absurd hs4 c648) | (exact absurd hs5 c648) | (exact absurd hsx c648) | (rw [ha1] at c390; cases c390) | (rw [hs1] at c390; cases c390) | (exact absurd hs3 c390) | (exact absurd hs4 c390) | (exact absurd hs5 c390) | (exact absurd hsx c390) | (rw [ha1] at c8; cases c8) | (rw [hs1] at c8; cases c8) | (exact absurd hs3 c8) | (exact absurd hs4 c8) | (exact absurd hs5 c8) | (exact absurd hsx c8) | (exact absurd rfl c648) | (exact absurd rfl c390) | (simp at c292; done) | (simp at c8; done) | omega))
          ·
           rw [c292] at ha291
           refine cond_t ha291 rfl ?_
           refine wp_seq ?_
           clear ho24 hN26 ho47 hN49 ho66 hN68 ho87 hN89 ho104 ho118 ho131 ho144 ho164 hN166 ho169 ho186 hN188 ho204 hN206
           refine wp_region_lit ?_
           refine wl_val ha291 rfl rfl rfl (op_assign ha291 rfl rfl) ?_
           intro a819 ha819; clear ha291 a291
           refine wpList_nil ?_
           refine then_n ?_
           refine wp_ret ?_
           refine then_r ?_
           refine ret1 ha819 rfl rfl ?_
           clear ha819 a819
           exact ret_mk hx287 (congrArg Value.bool (by first | rfl | (rw [decide_eq_true_eq]; exact hsx) | (rw [ha1] at c292; cases c292) | (rw [hs1] at c292; cases c292) | (exact absurd hs3 c292) | (exact absurd hs4 c292) | (exact absurd hs5 c292) | (exact absurd hsx c292) | (rw [ve_cd] at c292; cases c292) | (rw [ha1] at c8; cases c8) | (rw [hs1] at c8; cases c8) | (exact absurd hs3 c8) | (exact absurd hs4 c8) | (exact absurd hs5 c8) | (exact absurd hsx c8) | (exact absurd rfl c292) | (simp at c292; done) | (simp at c8; done) | omega))
         ·
          rw [c281] at ha280
          refine wl_skip ha280 rfl rfl rfl ?_
          intro a820 ha820; clear ha280 a280
          refine wl_skip ha820 rfl rfl rfl ?_
          intro a821 ha821; clear ha820 a820
          refine wl_skip ha821 rfl rfl rfl ?_
          intro a822 ha822; clear ha821 a821
          refine wl_skip ha822 rfl rfl rfl ?_
          intro a823 ha823; clear ha822 a822
          refine wl_skip ha823 rfl rfl rfl ?_
          intro a824 ha824; clear ha823 a823
          refine wl_val ha824 rfl rfl rfl (op_pick_t ha824 rfl rfl rfl) ?_
          intro a825 ha825; clear ha824 a824
          refine wpList_nil ?_
          refine then_n ?_
          refine cond_t ha825 rfl ?_
          refine wp_seq ?_
          clear ho24 hN26 ho47 hN49 ho66 hN68 ho87 hN89 ho104 ho118 ho131 ho144 ho164 hN166 ho169 ho186 hN188 ho204 hN206
          refine wp_region_lit ?_
          refine wl_val ha825 rfl rfl rfl (op_assign ha825 rfl rfl) ?_
          intro a826 ha826; clear ha825 a825
          refine wpList_nil ?_
          refine then_n ?_
          refine wp_ret ?_
          refine then_r ?_
          refine ret1 ha826 rfl rfl ?_
          clear ha826 a826
          exact ret_mk hx277 (congrArg Value.bool (by first | rfl | (rw [eqL_self] at c281; cases c281) | (rw [decide_eq_true_eq]; exact hsx) | (rw [ha1] at c281; cases c281) | (rw [hs1] at c281; cases c281) | (exact absurd hs3 c281) | (exact absurd hs4 c281) | (exact absurd hs5 c281) | (exact absurd hsx c281) | (simp [hax, eqL_self] at c281; done) | (rw [ha1] at c8; cases c8) | (rw [hs1] at c8; cases c8) | (exact absurd hs3 c8) | (exact absurd hs4 c8) | (exact absurd hs5 c8) | (exact absurd hsx c8) | (simp at c8; done) | omega))
        ·
         rw [decide_eq_false c270] at ha269
         refine wl_skip ha269 rfl rfl rfl ?_
         intro a827 ha827; clear ha269 a269
         refine wl_skip ha827 rfl rfl rfl ?_
         intro a828 ha828; clear ha827 a827
         refine wl_skip ha828 rfl rfl rfl ?_
         intro a829 ha829; clear ha828 a828
         refine wl_skip ha829 rfl rfl rfl ?_
         intro a830 ha830; clear ha829 a829
         refine wl_val ha830 rfl rfl rfl (op_pick_t ha830 rfl rfl rfl) ?_
         intro a831 ha831; clear ha830 a830
         refine wl_val ha831 rfl rfl rfl (op_move ha831 rfl rfl) ?_
         intro a832 ha832; clear ha831 a831
         refine wl_skip ha832 rfl rfl rfl ?_
         intro a833 ha833; clear ha832 a832
         refine wl_skip ha833 rfl rfl rfl ?_
         intro a834 ha834; clear ha833 a833
         refine wl_skip ha834 rfl rfl rfl ?_
         intro a835 ha835; clear ha834 a834
         refine wl_skip ha835 rfl rfl rfl ?_
         intro a836 ha836; clear ha835 a835
         refine wl_skip ha836 rfl rfl rfl ?_
         intro a837 ha837; clear ha836 a836
         refine wl_val ha837 rfl rfl rfl (op_pick_t ha837 rfl rfl rfl) ?_
         intro a838 ha838; clear ha837 a837
         refine wpList_nil ?_
         refine then_n ?_
         refine cond_t ha838 rfl ?_
         refine wp_seq ?_
         clear ho24 hN26 ho47 hN49 ho66 hN68 ho87 hN89 ho104 ho118 ho131 ho144 ho164 hN166 ho169 ho186 hN188 ho204 hN206
         refine wp_region_lit ?_
         refine wl_val ha838 rfl rfl rfl (op_assign ha838 rfl rfl) ?_
         intro a839 ha839; clear ha838 a838
         refine wpList_nil ?_
         refine then_n ?_
         refine wp_ret ?_
         refine then_r ?_
         refine ret1 ha839 rfl rfl ?_
         clear ha839 a839
         exact ret_mk hx260 (congrArg Value.bool (by first | rfl | (exact absurd rfl c270) | (rw [decide_eq_true_eq]; exact hsx) | (rw [ha1] at c270; cases c270) | (rw [hs1] at c270; cases c270) | (exact absurd hs3 c270) | (exact absurd hs4 c270) | (exact absurd hs5 c270) | (exact absurd hsx c270) | (rw [ha1] at c8; cases c8) | (rw [hs1] at c8; cases c8) | (exact absurd hs3 c8) | (exact absurd hs4 c8) | (exact absurd hs5 c8) | (exact absurd hsx c8) | (simp at c8; done) | omega))
       ·
        rw [c264] at ha263
        refine wl_skip ha263 rfl rfl rfl ?_
        intro a840 ha840; clear ha263 a263
        refine wl_skip ha840 rfl rfl rfl ?_
        intro a841 ha841; clear ha840 a840
        refine wl_skip ha841 rfl rfl rfl ?_
        intro a842 ha842; clear ha841 a841
        refine wl_val ha842 rfl rfl rfl (op_pick_t ha842 rfl rfl rfl) ?_
        intro a843 ha843; clear ha842 a842
        refine wl_val ha843 rfl rfl rfl (op_move ha843 rfl rfl) ?_
        intro a844 ha844; clear ha843 a843
        refine wl_skip ha844 rfl rfl rfl ?_
        intro a845 ha845; clear ha844 a844
        refine wl_skip ha845 rfl rfl rfl ?_
        intro a846 ha846; clear ha845 a845
        refine wl_skip ha846 rfl rfl rfl ?_
        intro a847 ha847; clear ha846 a846
        refine wl_skip ha847 rfl rfl rfl ?_
        intro a848 ha848; clear ha847 a847
        refine wl_val ha848 rfl rfl rfl (op_pick_t ha848 rfl rfl rfl) ?_
        intro a849 ha849; clear ha848 a848
        refine wl_val ha849 rfl rfl rfl (op_move ha849 rfl rfl) ?_
        intro a850 ha850; clear ha849 a849
        refine wl_skip ha850 rfl rfl rfl ?_
        intro a851 ha851; clear ha850 a850
        refine wl_skip ha851 rfl rfl rfl ?_
        intro a852 ha852; clear ha851 a851
        refine wl_skip ha852 rfl rfl rfl ?_
        intro a853 ha853; clear ha852 a852
        refine wl_skip ha853 rfl rfl rfl ?_
        intro a854 ha854; clear ha853 a853
        refine wl_skip ha854 rfl rfl rfl ?_
        intro a855 ha855; clear ha854 a854
        refine wl_val ha855 rfl rfl rfl (op_pick_t ha855 rfl rfl rfl) ?_
        intro a856 ha856; clear ha855 a855
        refine wpList_nil ?_
        refine then_n ?_
        refine cond_t ha856 rfl ?_
        refine wp_seq ?_
        clear ho24 hN26 ho47 hN49 ho66 hN68 ho87 hN89 ho104 ho118 ho131 ho144 ho164 hN166 ho169 ho186 hN188 ho204 hN206
        refine wp_region_lit ?_
        refine wl_val ha856 rfl rfl rfl (op_assign ha856 rfl rfl) ?_
        intro a857 ha857; clear ha856 a856
        refine wpList_nil ?_
        refine then_n ?_
        refine wp_ret ?_
        refine then_r ?_
        refine ret1 ha857 rfl rfl ?_
        clear ha857 a857
        exact ret_mk hx260 (congrArg Value.bool (by first | rfl | (rw [eqL_self] at c264; cases c264) | (rw [decide_eq_true_eq]; exact hsx) | (rw [ha1] at c264; cases c264) | (rw [hs1] at c264; cases c264) | (exact absurd hs3 c264) | (exact absurd hs4 c264) | (exact absurd hs5 c264) | (exact absurd hsx c264) | (simp [hax, eqL_self] at c264; done) | (rw [ha1] at c8; cases c8) | (rw [hs1] at c8; cases c8) | (exact absurd hs3 c8) | (exact absurd hs4 c8) | (exact absurd hs5 c8) | (exact absurd hsx c8) | (simp at c8; done) | omega))
      ·
       rw [decide_eq_false c253] at ha252
       refine wl_skip ha252 rfl rfl rfl ?_
       intro a858 ha858; clear ha252 a252
       refine wl_skip ha858 rfl rfl rfl ?_
       intro a859 ha859; clear ha858 a858
       refine wl_skip ha859 rfl rfl rfl ?_
       intro a860 ha860; clear ha859 a859
       refine wl_skip ha860 rfl rfl rfl ?_
       intro a861 ha861; clear ha860 a860
       refine wl_val ha861 rfl rfl rfl (op_pick_t ha861 rfl rfl rfl) ?_
       intro a862 ha862; clear ha861 a861
       refine wl_val ha862 rfl rfl rfl (op_move ha862 rfl rfl) ?_
       intro a863 ha863; clear ha862 a862
       refine wl_skip ha863 rfl rfl rfl ?_
       intro a864 ha864; clear ha863 a863
       refine wl_skip ha864 rfl rfl rfl ?_
       intro a865 ha865; clear ha864 a864
       refine wl_skip ha865 rfl rfl rfl ?_
       intro a866 ha866; clear ha865 a865
       refine wl_val ha866 rfl rfl rfl (op_pick_t ha866 rfl rfl rfl) ?_
       intro a867 ha867; clear ha866 a866
       refine wl_val ha867 rfl rfl rfl (op_move ha867 rfl rfl) ?_
       intro a868 ha868; clear ha867 a867
       refine wl_skip ha868 rfl rfl rfl ?_
       intro a869 ha869; clear ha868 a868
       refine wl_skip ha869 rfl rfl rfl ?_
       intro a870 ha870; clear ha869 a869
       refine wl_skip ha870 rfl rfl rfl ?_
       intro a871 ha871; clear ha870 a870
       refine wl_skip ha871 rfl rfl rfl ?_
       intro a872 ha872; clear ha871 a871
       refine wl_val ha872 rfl rfl rfl (op_pick_t ha872 rfl rfl rfl) ?_
       intro a873 ha873; clear ha872 a872
       refine wl_val ha873 rfl rfl rfl (op_move ha873 rfl rfl) ?_
       intro a874 ha874; clear ha873 a873
       refine wl_skip ha874 rfl rfl rfl ?_
       intro a875 ha875; clear ha874 a874
       refine wl_skip ha875 rfl rfl rfl ?_
       intro a876 ha876; clear ha875 a875
       refine wl_skip ha876 rfl rfl rfl ?_
       intro a877 ha877; clear ha876 a876
       refine wl_skip ha877 rfl rfl rfl ?_
       intro a878 ha878; clear ha877 a877
       refine wl_skip ha878 rfl rfl rfl ?_
       intro a879 ha879; clear ha878 a878
       refine wl_val ha879 rfl rfl rfl (op_pick_t ha879 rfl rfl rfl) ?_
       intro a880 ha880; clear ha879 a879
       refine wpList_nil ?_
       refine then_n ?_
       refine cond_t ha880 rfl ?_
       refine wp_seq ?_
       clear ho24 hN26 ho47 hN49 ho66 hN68 ho87 hN89 ho104 ho118 ho131 ho144 ho164 hN166 ho169 ho186 hN188 ho204 hN206
       refine wp_region_lit ?_
       refine wl_val ha880 rfl rfl rfl (op_assign ha880 rfl rfl) ?_
       intro a881 ha881; clear ha880 a880
       refine wpList_nil ?_
       refine then_n ?_
       refine wp_ret ?_
       refine then_r ?_
       refine ret1 ha881 rfl rfl ?_
       clear ha881 a881
       exact ret_mk hx243 (congrArg Value.bool (by first | rfl | (exact absurd rfl c253) | (rw [decide_eq_true_eq]; exact hsx) | (rw [ha1] at c253; cases c253) | (rw [hs1] at c253; cases c253) | (exact absurd hs3 c253) | (exact absurd hs4 c253) | (exact absurd hs5 c253) | (exact absurd hsx c253) | (rw [ha1] at c8; cases c8) | (rw [hs1] at c8; cases c8) | (exact absurd hs3 c8) | (exact absurd hs4 c8) | (exact absurd hs5 c8) | (exact absurd hsx c8) | (simp at c8; done) | omega))
     ·
      rw [c247] at ha246
      refine wl_skip ha246 rfl rfl rfl ?_
      intro a882 ha882; clear ha246 a246
      refine wl_skip ha882 rfl rfl rfl ?_
      intro a883 ha883; clear ha882 a882
      refine wl_skip ha883 rfl rfl rfl ?_
      intro a884 ha884; clear ha883 a883
      refine wl_val ha884 rfl rfl rfl (op_pick_t ha884 rfl rfl rfl) ?_
      intro a885 ha885; clear ha884 a884
      refine wl_val ha885 rfl rfl rfl (op_move ha885 rfl rfl) ?_
      intro a886 ha886; clear ha885 a885
      refine wl_skip ha886 rfl rfl rfl ?_
      intro a887 ha887; clear ha886 a886
      refine wl_skip ha887 rfl rfl rfl ?_
      intro a888 ha888; clear ha887 a887
      refine wl_skip ha888 rfl rfl rfl ?_
      intro a889 ha889; clear ha888 a888
      refine wl_skip ha889 rfl rfl rfl ?_
      intro a890 ha890; clear ha889 a889
      refine wl_val ha890 rfl rfl rfl (op_pick_t ha890 rfl rfl rfl) ?_
      intro a891 ha891; clear ha890 a890
      refine wl_val ha891 rfl rfl rfl (op_move ha891 rfl rfl) ?_
      intro a892 ha892; clear ha891 a891
      refine wl_skip ha892 rfl rfl rfl ?_
      intro a893 ha893; clear ha892 a892
      refine wl_skip ha893 rfl rfl rfl ?_
      intro a894 ha894; clear ha893 a893
      refine wl_skip ha894 rfl rfl rfl ?_
      intro a895 ha895; clear ha894 a894
      refine wl_val ha895 rfl rfl rfl (op_pick_t ha895 rfl rfl rfl) ?_
      intro a896 ha896; clear ha895 a895
      refine wl_val ha896 rfl rfl rfl (op_move ha896 rfl rfl) ?_
      intro a897 ha897; clear ha896 a896
      refine wl_skip ha897 rfl rfl rfl ?_
      intro a898 ha898; clear ha897 a897
      refine wl_skip ha898 rfl rfl rfl ?_
      intro a899 ha899; clear ha898 a898
      refine wl_skip ha899 rfl rfl rfl ?_
      intro a900 ha900; clear ha899 a899
      refine wl_skip ha900 rfl rfl rfl ?_
      intro a901 ha901; clear ha900 a900
      refine wl_val ha901 rfl rfl rfl (op_pick_t ha901 rfl rfl rfl) ?_
      intro a902 ha902; clear ha901 a901
      refine wl_val ha902 rfl rfl rfl (op_move ha902 rfl rfl) ?_
      intro a903 ha903; clear ha902 a902
      refine wl_skip ha903 rfl rfl rfl ?_
      intro a904 ha904; clear ha903 a903
      refine wl_skip ha904 rfl rfl rfl ?_
      intro a905 ha905; clear ha904 a904
      refine wl_skip ha905 rfl rfl rfl ?_
      intro a906 ha906; clear ha905 a905
      refine wl_skip ha906 rfl rfl rfl ?_
      intro a907 ha907; clear ha906 a906
      refine wl_skip ha907 rfl rfl rfl ?_
      intro a908 ha908; clear ha907 a907
      refine wl_val ha908 rfl rfl rfl (op_pick_t ha908 rfl rfl rfl) ?_
      intro a909 ha909; clear ha908 a908
      refine wpList_nil ?_
      refine then_n ?_
      refine cond_t ha909 rfl ?_
      refine wp_seq ?_
      clear ho24 hN26 ho47 hN49 ho66 hN68 ho87 hN89 ho104 ho118 ho131 ho144 ho164 hN166 ho169 ho186 hN188 ho204 hN206
      refine wp_region_lit ?_
      refine wl_val ha909 rfl rfl rfl (op_assign ha909 rfl rfl) ?_
      intro a910 ha910; clear ha909 a909
      refine wpList_nil ?_
      refine then_n ?_
      refine wp_ret ?_
      refine then_r ?_
      refine ret1 ha910 rfl rfl ?_
      clear ha910 a910
      exact ret_mk hx243 (congrArg Value.bool (by first | rfl | (rw [eqL_self] at c247; cases c247) | (rw [decide_eq_true_eq]; exact hsx) | (rw [ha1] at c247; cases c247) | (rw [hs1] at c247; cases c247) | (exact absurd hs3 c247) | (exact absurd hs4 c247) | (exact absurd hs5 c247) | (exact absurd hsx c247) | (simp [hax, eqL_self] at c247; done) | (rw [ha1] at c8; cases c8) | (rw [hs1] at c8; cases c8) | (exact absurd hs3 c8) | (exact absurd hs4 c8) | (exact absurd hs5 c8) | (exact absurd hsx c8) | (simp at c8; done) | omega))
    ·
     rw [decide_eq_false c236] at ha235
     refine wl_skip ha235 rfl rfl rfl ?_
     intro a911 ha911; clear ha235 a235
     refine wl_skip ha911 rfl rfl rfl ?_
     intro a912 ha912; clear ha911 a911
     refine wl_skip ha912 rfl rfl rfl ?_
     intro a913 ha913; clear ha912 a912
     refine wl_skip ha913 rfl rfl rfl ?_
     intro a914 ha914; clear ha913 a913
     refine wl_val ha914 rfl rfl rfl (op_pick_t ha914 rfl rfl rfl) ?_
     intro a915 ha915; clear ha914 a914
     refine wl_val ha915 rfl rfl rfl (op_move ha915 rfl rfl) ?_
     intro a916 ha916; clear ha915 a915
     refine wl_skip ha916 rfl rfl rfl ?_
     intro a917 ha917; clear ha916 a916
     refine wl_skip ha917 rfl rfl rfl ?_
     intro a918 ha918; clear ha917 a917
     refine wl_skip ha918 rfl rfl rfl ?_
     intro a919 ha919; clear ha918 a918
     refine wl_val ha919 rfl rfl rfl (op_pick_t ha919 rfl rfl rfl) ?_
     intro a920 ha920; clear ha919 a919
     refine wl_val ha920 rfl rfl rfl (op_move ha920 rfl rfl) ?_
     intro a921 ha921; clear ha920 a920
     refine wl_skip ha921 rfl rfl rfl ?_
     intro a922 ha922; clear ha921 a921
     refine wl_skip ha922 rfl rfl rfl ?_
     intro a923 ha923; clear ha922 a922
     refine wl_skip ha923 rfl rfl rfl ?_
     intro a924 ha924; clear ha923 a923
     refine wl_skip ha924 rfl rfl rfl ?_
     intro a925 ha925; clear ha924 a924
     refine wl_val ha925 rfl rfl rfl (op_pick_t ha925 rfl rfl rfl) ?_
     intro a926 ha926; clear ha925 a925
     refine wl_val ha926 rfl rfl rfl (op_move ha926 rfl rfl) ?_
     intro a927 ha927; clear ha926 a926
     refine wl_skip ha927 rfl rfl rfl ?_
     intro a928 ha928; clear ha927 a927
     refine wl_skip ha928 rfl rfl rfl ?_
     intro a929 ha929; clear ha928 a928
     refine wl_skip ha929 rfl rfl rfl ?_
     intro a930 ha930; clear ha929 a929
     refine wl_val ha930 rfl rfl rfl (op_pick_t ha930 rfl rfl rfl) ?_
     intro a931 ha931; clear ha930 a930
     refine wl_val ha931 rfl rfl rfl (op_move ha931 rfl rfl) ?_
     intro a932 ha932; clear ha931 a931
     refine wl_skip ha932 rfl rfl rfl ?_
     intro a933 ha933; clear ha932 a932
     refine wl_skip ha933 rfl rfl rfl ?_
     intro a934 ha934; clear ha933 a933
     refine wl_skip ha934 rfl rfl rfl ?_
     intro a935 ha935; clear ha934 a934
     refine wl_skip ha935 rfl rfl rfl ?_
     intro a936 ha936; clear ha935 a935
     refine wl_val ha936 rfl rfl rfl (op_pick_t ha936 rfl rfl rfl) ?_
     intro a937 ha937; clear ha936 a936
     refine wl_val ha937 rfl rfl rfl (op_move ha937 rfl rfl) ?_
     intro a938 ha938; clear ha937 a937
     refine wl_skip ha938 rfl rfl rfl ?_
     intro a939 ha939; clear ha938 a938
     refine wl_skip ha939 rfl rfl rfl ?_
     intro a940 ha940; clear ha939 a939
     refine wl_skip ha940 rfl rfl rfl ?_
     intro a941 ha941; clear ha940 a940
     refine wl_skip ha941 rfl rfl rfl ?_
     intro a942 ha942; clear ha941 a941
     refine wl_skip ha942 rfl rfl rfl ?_
     intro a943 ha943; clear ha942 a942
     refine wl_val ha943 rfl rfl rfl (op_pick_t ha943 rfl rfl rfl) ?_
     intro a944 ha944; clear ha943 a943
     refine wpList_nil ?_
     refine then_n ?_
     refine cond_t ha944 rfl ?_
     refine wp_seq ?_
     clear ho24 hN26 ho47 hN49 ho66 hN68 ho87 hN89 ho104 ho118 ho131 ho144 ho164 hN166 ho169 ho186 hN188 ho204 hN206
     refine wp_region_lit ?_
     refine wl_val ha944 rfl rfl rfl (op_assign ha944 rfl rfl) ?_
     intro a945 ha945; clear ha944 a944
     refine wpList_nil ?_
     refine then_n ?_
     refine wp_ret ?_
     refine then_r ?_
     refine ret1 ha945 rfl rfl ?_
     clear ha945 a945
     exact ret_mk hx226 (congrArg Value.bool (by first | rfl | (exact absurd rfl c236) | (rw [decide_eq_true_eq]; exact hsx) | (rw [ha1] at c236; cases c236) | (rw [hs1] at c236; cases c236) | (exact absurd hs3 c236) | (exact absurd hs4 c236) | (exact absurd hs5 c236) | (exact absurd hsx c236) | (rw [ha1] at c8; cases c8) | (rw [hs1] at c8; cases c8) | (exact absurd hs3 c8) | (exact absurd hs4 c8) | (exact absurd hs5 c8) | (exact absurd hsx c8) | (simp at c8; done) | omega))
   ·
    rw [c230] at ha229
    refine wl_skip ha229 rfl rfl rfl ?_
    intro a946 ha946; clear ha229 a229
    refine wl_skip ha946 rfl rfl rfl ?_
    intro a947 ha947; clear ha946 a946
    refine wl_skip ha947 rfl rfl rfl ?_
    intro a948 ha948; clear ha947 a947
    refine wl_val ha948 rfl rfl rfl (op_pick_t ha948 rfl rfl rfl) ?_
    intro a949 ha949; clear ha948 a948
    refine wl_val ha949 rfl rfl rfl (op_move ha949 rfl rfl) ?_
    intro a950 ha950; clear ha949 a949
    refine wl_skip ha950 rfl rfl rfl ?_
    intro a951 ha951; clear ha950 a950
    refine wl_skip ha951 rfl rfl rfl ?_
    intro a952 ha952; clear ha951 a951
    refine wl_skip ha952 rfl rfl rfl ?_
    intro a953 ha953; clear ha952 a952
    refine wl_skip ha953 rfl rfl rfl ?_
    intro a954 ha954; clear ha953 a953
    refine wl_val ha954 rfl rfl rfl (op_pick_t ha954 rfl rfl rfl) ?_
    intro a955 ha955; clear ha954 a954
    refine wl_val ha955 rfl rfl rfl (op_move ha955 rfl rfl) ?_
    intro a956 ha956; clear ha955 a955
    refine wl_skip ha956 rfl rfl rfl ?_
    intro a957 ha957; clear ha956 a956
    refine wl_skip ha957 rfl rfl rfl ?_
    intro a958 ha958; clear ha957 a957
    refine wl_skip ha958 rfl rfl rfl ?_
    intro a959 ha959; clear ha958 a958
    refine wl_val ha959 rfl rfl rfl (op_pick_t ha959 rfl rfl rfl) ?_
    intro a960 ha960; clear ha959 a959
    refine wl_val ha960 rfl rfl rfl (op_move ha960 rfl rfl) ?_
    intro a961 ha961; clear ha960 a960
    refine wl_skip ha961 rfl rfl rfl ?_
    intro a962 ha962; clear ha961 a961
    refine wl_skip ha962 rfl rfl rfl ?_
    intro a963 ha963; clear ha962 a962
    refine wl_skip ha963 rfl rfl rfl ?_
    intro a964 ha964; clear ha963 a963
    refine wl_skip ha964 rfl rfl rfl ?_
    intro a965 ha965; clear ha964 a964
    refine wl_val ha965 rfl rfl rfl (op_pick_t ha965 rfl rfl rfl) ?_
    intro a966 ha966; clear ha965 a965
    refine wl_val ha966 rfl rfl rfl (op_move ha966 rfl rfl) ?_
    intro a967 ha967; clear ha966 a966
    refine wl_skip ha967 rfl rfl rfl ?_
    intro a968 ha968; clear ha967 a967
    refine wl_skip ha968 rfl rfl rfl ?_
    intro a969 ha969; clear ha968 a968
    refine wl_skip ha969 rfl rfl rfl ?_
    intro a970 ha970; clear ha969 a969
    refine wl_val ha970 rfl rfl rfl (op_pick_t ha970 rfl rfl rfl) ?_
    intro a971 ha971; clear ha970 a970
    refine wl_val ha971 rfl rfl rfl (op_move ha971 rfl rfl) ?_
    intro a972 ha972; clear ha971 a971
    refine wl_skip ha972 rfl rfl rfl ?_
    intro a973 ha973; clear ha972 a972
    refine wl_skip ha973 rfl rfl rfl ?_
    intro a974 ha974; clear ha973 a973
    refine wl_skip ha974 rfl rfl rfl ?_
    intro a975 ha975; clear ha974 a974
    refine wl_skip ha975 rfl rfl rfl ?_
    intro a976 ha976; clear ha975 a975
    refine wl_val ha976 rfl rfl rfl (op_pick_t ha976 rfl rfl rfl) ?_
    intro a977 ha977; clear ha976 a976
    refine wl_val ha977 rfl rfl rfl (op_move ha977 rfl rfl) ?_
    intro a978 ha978; clear ha977 a977
    refine wl_skip ha978 rfl rfl rfl ?_
    intro a979 ha979; clear ha978 a978
    refine wl_skip ha979 rfl rfl rfl ?_
    intro a980 ha980; clear ha979 a979
    refine wl_skip ha980 rfl rfl rfl ?_
    intro a981 ha981; clear ha980 a980
    refine wl_skip ha981 rfl rfl rfl ?_
    intro a982 ha982; clear ha981 a981
    refine wl_skip ha982 rfl rfl rfl ?_
    intro a983 ha983; clear ha982 a982
    refine wl_val ha983 rfl rfl rfl (op_pick_t ha983 rfl rfl rfl) ?_
    intro a984 ha984; clear ha983 a983
    refine wpList_nil ?_
    refine then_n ?_
    refine cond_t ha984 rfl ?_
    refine wp_seq ?_
    clear ho24 hN26 ho47 hN49 ho66 hN68 ho87 hN89 ho104 ho118 ho131 ho144 ho164 hN166 ho169 ho186 hN188 ho204 hN206
    refine wp_region_lit ?_
    refine wl_val ha984 rfl rfl rfl (op_assign ha984 rfl rfl) ?_
    intro a985 ha985; clear ha984 a984
    refine wpList_nil ?_
    refine then_n ?_
    refine wp_ret ?_
    refine then_r ?_
    refine ret1 ha985 rfl rfl ?_
    clear ha985 a985
    exact ret_mk hx226 (congrArg Value.bool (by first | rfl | (rw [eqL_self] at c230; cases c230) | (rw [decide_eq_true_eq]; exact hsx) | (rw [ha1] at c230; cases c230) | (rw [hs1] at c230; cases c230) | (exact absurd hs3 c230) | (exact absurd hs4 c230) | (exact absurd hs5 c230) | (exact absurd hsx c230) | (simp [hax, eqL_self] at c230; done) | (rw [ha1] at c8; cases c8) | (rw [hs1] at c8; cases c8) | (exact absurd hs3 c8) | (exact absurd hs4 c8) | (exact absurd hs5 c8) | (exact absurd hsx c8) | (simp at c8; done) | omega))
  ·
   rw [decide_eq_false c219] at ha218
   refine wl_skip ha218 rfl rfl rfl ?_
   intro a986 ha986; clear ha218 a218
   refine wl_skip ha986 rfl rfl rfl ?_
   intro a987 ha987; clear ha986 a986
   refine wl_skip ha987 rfl rfl rfl ?_
   intro a988 ha988; clear ha987 a987
   refine wl_skip ha988 rfl rfl rfl ?_
   intro a989 ha989; clear ha988 a988
   refine wl_val ha989 rfl rfl rfl (op_pick_t ha989 rfl rfl rfl) ?_
   intro a990 ha990; clear ha989 a989
   refine wl_val ha990 rfl rfl rfl (op_move ha990 rfl rfl) ?_
   intro a991 ha991; clear ha990 a990
   refine wl_skip ha991 rfl rfl rfl ?_
   intro a992 ha992; clear ha991 a991
   refine wl_skip ha992 rfl rfl rfl ?_
   intro a993 ha993; clear ha992 a992
   refine wl_skip ha993 rfl rfl rfl ?_
   intro a994 ha994; clear ha993 a993
   refine wl_val ha994 rfl rfl rfl (op_pick_t ha994 rfl rfl rfl) ?_
   intro a995 ha995; clear ha994 a994
   refine wl_val ha995 rfl rfl rfl (op_move ha995 rfl rfl) ?_
   intro a996 ha996; clear ha995 a995
   refine wl_skip ha996 rfl rfl rfl ?_
   intro a997 ha997; clear ha996 a996
   refine wl_skip ha997 rfl rfl rfl ?_
   intro a998 ha998; clear ha997 a997
   refine wl_skip ha998 rfl rfl rfl ?_
   intro a999 ha999; clear ha998 a998
   refine wl_skip ha999 rfl rfl rfl ?_
   intro a1000 ha1000; clear ha999 a999
   refine wl_val ha1000 rfl rfl rfl (op_pick_t ha1000 rfl rfl rfl) ?_
   intro a1001 ha1001; clear ha1000 a1000
   refine wl_val ha1001 rfl rfl rfl (op_move ha1001 rfl rfl) ?_
   intro a1002 ha1002; clear ha1001 a1001
   refine wl_skip ha1002 rfl rfl rfl ?_
   intro a1003 ha1003; clear ha1002 a1002
   refine wl_skip ha1003 rfl rfl rfl ?_
   intro a1004 ha1004; clear ha1003 a1003
   refine wl_skip ha1004 rfl rfl rfl ?_
   intro a1005 ha1005; clear ha1004 a1004
   refine wl_val ha1005 rfl rfl rfl (op_pick_t ha1005 rfl rfl rfl) ?_
   intro a1006 ha1006; clear ha1005 a1005
   refine wl_val ha1006 rfl rfl rfl (op_move ha1006 rfl rfl) ?_
   intro a1007 ha1007; clear ha1006 a1006
   refine wl_skip ha1007 rfl rfl rfl ?_
   intro a1008 ha1008; clear ha1007 a1007
   refine wl_skip ha1008 rfl rfl rfl ?_
   intro a1009 ha1009; clear ha1008 a1008
   refine wl_skip ha1009 rfl rfl rfl ?_
   intro a1010 ha1010; clear ha1009 a1009
   refine wl_skip ha1010 rfl rfl rfl ?_
   intro a1011 ha1011; clear ha1010 a1010
   refine wl_val ha1011 rfl rfl rfl (op_pick_t ha1011 rfl rfl rfl) ?_
   intro a1012 ha1012; clear ha1011 a1011
   refine wl_val ha1012 rfl rfl rfl (op_move ha1012 rfl rfl) ?_
   intro a1013 ha1013; clear ha1012 a1012
   refine wl_skip ha1013 rfl rfl rfl ?_
   intro a1014 ha1014; clear ha1013 a1013
   refine wl_skip ha1014 rfl rfl rfl ?_
   intro a1015 ha1015; clear ha1014 a1014
   refine wl_skip ha1015 rfl rfl rfl ?_
   intro a1016 ha1016; clear ha1015 a1015
   refine wl_val ha1016 rfl rfl rfl (op_pick_t ha1016 rfl rfl rfl) ?_
   intro a1017 ha1017; clear ha1016 a1016
   refine wl_val ha1017 rfl rfl rfl (op_move ha1017 rfl rfl) ?_
   intro a1018 ha1018; clear ha1017 a1017
   refine wl_skip ha1018 rfl rfl rfl ?_
   intro a1019 ha1019; clear ha1018 a1018
   refine wl_skip ha1019 rfl rfl rfl ?_
   intro a1020 ha1020; clear ha1019 a1019
   refine wl_skip ha1020 rfl rfl rfl ?_
   intro a1021 ha1021; clear ha1020 a1020
   refine wl_skip ha1021 rfl rfl rfl ?_
   intro a1022 ha1022; clear ha1021 a1021
   refine wl_val ha1022 rfl rfl rfl (op_pick_t ha1022 rfl rfl rfl) ?_
   intro a1023 ha1023; clear ha1022 a1022
   refine wl_val ha1023 rfl rfl rfl (op_move ha1023 rfl rfl) ?_
   intro a1024 ha1024; clear ha1023 a1023
   refine wl_skip ha1024 rfl rfl rfl ?_
   intro a1025 ha1025; clear ha1024 a1024
   refine wl_skip ha1025 rfl rfl rfl ?_
   intro a1026 ha1026; clear ha1025 a1025
   refine wl_skip ha1026 rfl rfl rfl ?_
   intro a1027 ha1027; clear ha1026 a1026
   refine wl_skip ha1027 rfl rfl rfl ?_
   intro a1028 ha1028; clear ha1027 a1027
   refine wl_skip ha1028 rfl rfl rfl ?_
   intro a1029 ha1029; clear ha1028 a1028
   refine wl_val ha1029 rfl rfl rfl (op_pick_t ha1029 rfl rfl rfl) ?_
   intro a1030 ha1030; clear ha1029 a1029
   refine wpList_nil ?_
   refine then_n ?_
   refine cond_t ha1030 rfl ?_
   refine wp_seq ?_
   clear ho24 hN26 ho47 hN49 ho66 hN68 ho87 hN89 ho104 ho118 ho131 ho144 ho164 hN166 ho169 ho186 hN188 ho204 hN206
   refine wp_region_lit ?_
   refine wl_val ha1030 rfl rfl rfl (op_assign ha1030 rfl rfl) ?_
   intro a1031 ha1031; clear ha1030 a1030
   refine wpList_nil ?_
   refine then_n ?_
   refine wp_ret ?_
   refine then_r ?_
   refine ret1 ha1031 rfl rfl ?_
   clear ha1031 a1031
   exact ret_mk hx209 (congrArg Value.bool (by first | rfl | (exact absurd rfl c219) | (rw [decide_eq_true_eq]; exact hsx) | (rw [ha1] at c219; cases c219) | (rw [hs1] at c219; cases c219) | (exact absurd hs3 c219) | (exact absurd hs4 c219) | (exact absurd hs5 c219) | (exact absurd hsx c219) | (rw [ha1] at c8; cases c8) | (rw [hs1] at c8; cases c8) | (exact absurd hs3 c8) | (exact absurd hs4 c8) | (exact absurd hs5 c8) | (exact absurd hsx c8) | (simp at c8; done) | omega))


end Go.Proofs.Ytllpdkidaldkiaa
