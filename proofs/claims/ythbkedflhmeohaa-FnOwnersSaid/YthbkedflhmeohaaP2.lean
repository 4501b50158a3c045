/- The law FnOwners, walked. -/
import Derived.Test.YthbkedflhmeohaaR4
import Derived.Test.YthbkedflhmeohaaP0
import Derived.Test.YthbkedflhmeohaaW3
import Derived.Test.YthbkedflhmeohaaW5
import Derived.Test.YthbkedflhmeohaaW9
namespace Go.Proofs.Ythbkedflhmeohaa
open Go Go.RowKit

theorem if01 {b : Bool} (h : (if b = true then 0 else 1 : Int) = 0) : b = true := by cases b <;> simp_all

theorem cu_of {xs : List Cust} (hl : xs.length ≤ 20) (h1 : ∀ c ∈ xs, CuOk c) (h2 : xs.Pairwise fun c d => c.1 < d.1) (h3 : xs.Pairwise fun c d => ∀ b ∈ c.2.2, b ∉ d.2.2) : cuB xs = true := by
  have hu : upB (cuAt xs) xs.length = true := by
    rw [upB_iff]
    intro i hi
    have hc : xs[i]? = some xs[i] := List.getElem?_eq_getElem hi
    have ok := h1 _ (List.mem_of_getElem? hc)
    refine cuAt_ok hc ok.word ok.date ok.bikes ?_ fun b hb => fdF_neg.2 fun y hy => ?_
    · by_cases e : i = 0
      · exact .inl e
      · exact .inr ⟨_, List.getElem?_eq_getElem (show i - 1 < xs.length by omega), List.pairwise_iff_getElem.1 h2 (i - 1) i (by omega) hi (by omega)⟩
    · obtain ⟨j, hj⟩ := List.getElem?_of_mem hy
      rw [List.getElem?_take] at hj
      split at hj
      · obtain ⟨hj2, rfl⟩ := List.getElem?_eq_some_iff.1 hj
        have := List.pairwise_iff_getElem.1 h3 j i hj2 hi (by assumption)
        simp only [hasB, decide_eq_false_iff_not]
        exact fun q => this b q hb
      · cases hj
  unfold cuB; rw [hu, decide_eq_true hl]; rfl
theorem cu_pn {xs : List Cust} (h : cuB xs = true) : xs.Pairwise fun c d => c.1 < d.1 := List.pairwise_iff_getElem.2 fun i j hi hj hij => cu_names h hij (List.getElem?_eq_getElem hi) (List.getElem?_eq_getElem hj)
theorem cu_pd {xs : List Cust} (h : cuB xs = true) : xs.Pairwise fun c d => ∀ b ∈ c.2.2, b ∉ d.2.2 := List.pairwise_iff_getElem.2 fun i j hi hj hij b hb hb2 => by
  have := cu_only h (List.getElem?_eq_getElem hi) (List.getElem?_eq_getElem hj) hb hb2; omega

theorem icL_pw {R : Cust → Cust → Prop} {c : Cust} : ∀ {xs : List Cust}, (xs.Pairwise fun c d => c.1 < d.1) → xs.Pairwise R → (∀ y ∈ xs, y.1 ≠ c.1) → (∀ y ∈ xs, y.1 < c.1 → R y c) → (∀ y ∈ xs, c.1 < y.1 → R c y) → (icL c xs).Pairwise R
  | [], _, _, _, _, _ => by simp [icL]
  | y :: ys, h, hR, hn, h1, h2 => by
    have h' := List.pairwise_cons.1 h; have hR' := List.pairwise_cons.1 hR
    rw [icL]; split
    · refine List.Pairwise.cons (fun z hz => ?_) (icL_pw h'.2 hR'.2 (fun z hz => hn z (by simp [hz])) (fun z hz => h1 z (by simp [hz])) fun z hz => h2 z (by simp [hz]))
      rcases icL_mem hz with e | e
      · subst e; exact h1 y (by simp) (by assumption)
      · exact hR'.1 z e
    · have hcy := (str_le ‹¬ y.1 < c.1›).resolve_right fun e => hn y (by simp) e.symm
      refine List.Pairwise.cons (fun z hz => ?_) hR
      rcases List.mem_cons.1 hz with e | e
      · subst e; exact h2 z (by simp) hcy
      · exact h2 z (by simp [e]) (str_tr hcy (h'.1 z e))
theorem icL_has (c : Cust) : ∀ (xs : List Cust), c ∈ icL c xs
  | [] => by simp [icL]
  | y :: ys => by
    rw [icL]; split
    · exact List.mem_cons_of_mem _ (icL_has c ys)
    · simp
theorem pfL_mem {p : Str} : ∀ {xs : List Cust} {c : Cust}, c ∈ xs → pfB p c = true → c.1 ∈ pfL p xs
  | y :: ys, c, h, hp => by
    rw [pfL]
    rcases List.mem_cons.1 h with e | e
    · subst e; rw [if_pos hp]; simp
    · have := pfL_mem e hp
      split
      · exact List.mem_cons_of_mem _ this
      · exact this
theorem pfL_nil : ∀ (xs : List Cust), (pfL [] xs).length = xs.length
  | [] => rfl
  | y :: ys => by
    have := pfL_nil ys
    rw [pfL, if_pos (by simp [pfB])]; simp only [List.length_cons]; omega
/-- What is known of customers behind one more. -/
theorem ad_all {xs : List Cust} {n : Str} {d : Int} (h : addcC xs n d = 0) : cuB (addcL xs n d) = true ∧ (addcL xs n d).length = xs.length + 1 ∧ 1 ≤ n.length ∧ n ∈ pfL (n.take 1) (addcL xs n d) := by
  have h0 : (cuB xs && wordB n) = true := by
    unfold addcC at h; split at h
    · assumption
    · cases h
  have h0' := h0
  simp only [Bool.and_eq_true] at h0'
  have h1 : dateB d = true := by
    unfold addcC at h; rw [if_pos h0] at h; split at h
    · assumption
    · cases h
  have h2 : ¬ 0 ≤ fnI xs n := fun q => by unfold addcC at h; rw [if_pos h0, if_pos h1, if_pos q] at h; cases h
  have h3 : ¬ xs.length = 20 := fun q => by unfold addcC at h; rw [if_pos h0, if_pos h1, if_neg h2, if_pos q] at h; cases h
  have hE : addcL xs n d = icL (n, d, []) xs := by unfold addcL; rw [if_pos h0, if_pos h1, if_neg h2, if_neg h3]
  have hl := cuB_len h0'.1
  have hne : ∀ y ∈ xs, y.1 ≠ (n, d, ([] : List Str)).1 := fun y hy => by
    have := fdF_neg.1 (show fdF (namB n) xs < 0 by have : fnI xs n = fdF (namB n) xs := rfl; omega) y hy; simpa [namB] using this
  rw [hE]
  refine ⟨cu_of (by rw [icL_len]; omega) (fun c hc => ?_) (icL_pw (cu_pn h0'.1) (cu_pn h0'.1) hne (fun _ _ h => h) fun _ _ h => h) (icL_pw (cu_pn h0'.1) (cu_pd h0'.1) hne (fun y _ _ b _ => List.not_mem_nil) fun y _ _ b hb => absurd hb List.not_mem_nil), icL_len _ _, (wordB_len h0'.2).1, pfL_mem (c := (n, d, [])) (icL_has _ _) ?_⟩
  · rcases icL_mem hc with e | e
    · subst e; exact ⟨h0'.2, h1, rfl⟩
    · exact cuB_el h0'.1 c e
  · unfold pfB; simp [List.length_take]; omega
theorem ordGo_mem {z : Cust} : ∀ (xs acc : List Cust), z ∈ ordGo xs acc ↔ z ∈ xs ∨ z ∈ acc
  | [], acc => by simp [ordGo]
  | x :: xs, acc => by
    rw [ordGo, ordGo_mem xs, insK_mem, List.mem_cons]
    constructor
    · rintro (e | e | e) <;> simp [e]
    · rintro ((e | e) | e) <;> simp [e]
theorem ordGo_up : ∀ (xs acc : List Cust), UpK sinK acc → UpK sinK (ordGo xs acc)
  | [], acc, h => h
  | x :: xs, acc, h => by rw [ordGo]; exact ordGo_up xs _ (insK_up h)
theorem cu_inj {xs : List Cust} (h : cuB xs = true) {c d : Cust} (hc : c ∈ xs) (hd : d ∈ xs) (e : c.1 = d.1) : c = d := by
  obtain ⟨i, hi⟩ := List.getElem?_of_mem hc
  obtain ⟨j, hj⟩ := List.getElem?_of_mem hd
  rcases Nat.lt_trichotomy i j with q | q | q
  · have := cu_names h q hi hj; rw [e] at this; exact absurd this (str_irr _)
  · subst q; rw [hi] at hj; cases hj; rfl
  · have := cu_names h q hj hi; rw [e] at this; exact absurd this (str_irr _)
theorem ls_get {xs : List Cust} {m : Int} {i : Nat} {x : Str} (hx : (if codeL xs m = 0 then lsL xs m else [])[i]? = some x) : ∃ c, (ordS xs)[i]? = some c ∧ c.1 = x := by
  split at hx
  · unfold lsL at hx
    rw [List.getElem?_take] at hx
    split at hx
    · rw [List.getElem?_map] at hx
      cases e : (ordS xs)[i]? with
      | none => rw [e] at hx; cases hx
      | some c => rw [e] at hx; cases hx; exact ⟨c, rfl, rfl⟩
    · cases hx
  · cases hx
/-- A day that is at most those of all who come from place i on. -/
def lastOk (xs : List Cust) (i : Nat) (d : Int) : Prop := -1 ≤ d ∧ d ≤ 100000 ∧ ∀ (j : Nat) c, i ≤ j → (ordS xs)[j]? = some c → d ≤ c.2.1
theorem last_0 {xs : List Cust} (h : cuB xs = true) : lastOk xs 0 (-1) := ⟨by omega, by omega, fun j c _ hc => by
  have hm : c ∈ xs := by have := List.mem_of_getElem? hc; unfold ordS at this; rw [ordGo_mem] at this; exact this.resolve_right List.not_mem_nil
  have := cuOk_bd (cuB_el h c hm); omega⟩
theorem last_s {xs : List Cust} {i : Nat} {d : Int} (h : lastOk xs i d) : lastOk xs (i + 1) d := ⟨h.1, h.2.1, fun j c hj hc => h.2.2 j c (by omega) hc⟩
theorem last_n {xs : List Cust} (h : cuB xs = true) {i k : Nat} {d : Int} {c : Cust} {x : Str} (hd : lastOk xs i d) (hx : ∃ c, (ordS xs)[i]? = some c ∧ c.1 = x) (hc : xs[k]? = some c) (e : c.1 = x) : d ≤ c.2.1 ∧ lastOk xs i c.2.1 := by
  obtain ⟨z, hz, hzx⟩ := hx
  have hm : z ∈ xs := by have := List.mem_of_getElem? hz; unfold ordS at this; rw [ordGo_mem] at this; exact this.resolve_right List.not_mem_nil
  have : z = c := cu_inj h hm (List.mem_of_getElem? hc) (by rw [hzx, e])
  subst this
  have hb := cuOk_bd (cuB_el h z hm)
  refine ⟨hd.2.2 i z (Nat.le_refl _) hz, by omega, by omega, fun j y hj hy => ?_⟩
  exact upK_at (key := sinK) (ordGo_up xs [] List.Pairwise.nil : UpK sinK (ordS xs)) hj hz hy
theorem codeL_cu {xs : List Cust} {m : Int} (h : codeL xs m = 0) : cuB xs = true ∧ 0 ≤ m ∧ m ≤ 20 := by
  unfold codeL at h
  split at h
  · split at h
    · rename_i h2; simp at h2; exact ⟨‹_›, h2⟩
    · cases h
  · cases h
theorem ls_len {xs : List Cust} {m : Int} (h : codeL xs m = 0) : (((if codeL xs m = 0 then lsL xs m else []).length : Nat) : Int) = min m (xs.length : Nat) := by
  have h1 := codeL_cu h
  rw [if_pos h]; unfold lsL
  rw [List.length_take, List.length_map, ordS_len]; omega

set_option maxHeartbeats 8000000 in
set_option maxRecDepth 16000 in
theorem c_laws_FnOwners (w0 : World) (v_code : Value) (code : List UInt8) {S_code : Nat → Prop} (h_code : Rds shU8 S_code w0 v_code code) :
  Calls Try.prog 12 #[v_code] w0 (Ret w0 (fun v _ => v = .bool (true))) := by
 refine enter (N := 249) Try.func12 rfl rfl rfl ?_
 intro a0 ha0
 have hx0 := Ext.rfl' w0
 have hl_code := h_code.length_le
 refine wp_seq ?_
 refine wp_region_lit ?_
 refine wl_val ha0 rfl rfl rfl (op_assign ha0 rfl rfl) ?_
 intro a1 ha1; clear ha0 a0
 refine wpList_nil ?_
 refine then_n ?_
 refine wp_seq ?_
 refine wp_seq ?_
 refine wp_region_lit ?_
 refine wl_val ha1 rfl rfl rfl (op_move ha1 rfl rfl) ?_
 intro a2 ha2; clear ha1 a1
 refine wl_callR ha2 rfl rfl rfl (op_call ha2 rfl cb40 rfl) (c_laws_big _ v_code code (h_code.ext pos_shU8 hx0)) ?_
 rintro v3 w4 he5 rfl a6 ha6; clear ha2 a2
 have hx7 := hx0.trans' he5
 have hzhx7 := he5.size
 refine wpList_nil ?_
 refine then_n ?_
 rcases Bool.eq_false_or_eq_true (decide (4096 < code.length)) with c8 | c8
 ·
  rw [c8] at ha6
  refine cond_t ha6 rfl ?_
  refine wp_seq ?_
  refine wp_region_lit ?_
  refine wl_val ha6 rfl rfl rfl (op_assign ha6 rfl rfl) ?_
  intro a9 ha9; clear ha6 a6
  refine wpList_nil ?_
  refine then_n ?_
  refine wp_ret ?_
  refine then_r ?_
  refine ret1 ha9 rfl rfl ?_
  clear ha9 a9
  exact ret_mk hx7 (congrArg Value.bool (by first | rfl | (simp at c8; done) | (rw [decide_eq_true_eq]; omega) | omega))
 ·
  rw [c8] at ha6
  refine cond_f ha6 rfl ?_
  refine wp_skip ?_
  refine then_n ?_
  refine wp_seq ?_
  refine wp_region_lit ?_
  refine wl_val ha6 rfl rfl rfl (op_move ha6 rfl rfl) ?_
  intro a10 ha10; clear ha6 a6
  refine wl_callR ha10 rfl rfl rfl (op_call ha10 rfl cb41 rfl) (c_spec_DrawAddCustomer _ v_code code (h_code.ext pos_shU8 hx7)) ?_
  rintro v11 w12 he13 ⟨q14, q15, q16, hq17, hq18, hq19, hq20, ⟨u21, z23, rfl, ho22, hN24, hE25⟩⟩ a26 ha26; clear ha10 a10
  have hx27 := hx7.trans' he13
  have hzhx27 := he13.size
  have hlhE25 := absLen hE25
  refine wl_val ha26 rfl rfl rfl (op_move ha26 rfl rfl) ?_
  intro a28 ha28; clear ha26 a26
  refine wl_val ha28 rfl rfl rfl (op_extract ha28 rfl rfl rfl) ?_
  intro a29 ha29; clear ha28 a28
  refine wl_val ha29 rfl rfl rfl (op_extract ha29 rfl rfl rfl) ?_
  intro a30 ha30; clear ha29 a29
  refine wl_val ha30 rfl rfl rfl (op_extract ha30 rfl rfl rfl) ?_
  intro a31 ha31; clear ha30 a30
  refine wl_val ha31 rfl rfl rfl (op_assign ha31 rfl rfl) ?_
  intro a32 ha32; clear ha31 a31
  refine wl_val ha32 rfl rfl rfl (op_assign ha32 rfl rfl) ?_
  intro a33 ha33; clear ha32 a32
  refine wl_val ha33 rfl rfl rfl (op_assign ha33 rfl rfl) ?_
  intro a34 ha34; clear ha33 a33
  refine wpList_nil ?_
  refine then_n ?_
  refine wp_seq ?_
  refine wp_region_lit ?_
  refine wl_val ha34 rfl rfl rfl (op_move ha34 rfl rfl) ?_
  intro a35 ha35; clear ha34 a34
  refine wl_val ha35 rfl rfl rfl (op_move ha35 rfl rfl) ?_
  intro a36 ha36; clear ha35 a35
  refine wl_val ha36 rfl rfl rfl (op_move ha36 rfl rfl) ?_
  intro a37 ha37; clear ha36 a36
  refine wl_callR ha37 rfl rfl rfl (op_call ha37 rfl cb32 rfl) (c_impl_AddCustomer _ u21 ((q14)) ((q15)) (q16 : Int) ((rds_shCustN (ho22.fin (by omega) (by omega) (by omega)) hN24).cast hE25) (by first | assumption | omega | (simp; done) | (simp; omega)) (by first | assumption | omega | (simp; done) | (simp; omega)) (by first | assumption | omega | (simp; done) | (simp; omega))) ?_
  rintro v38 w39 he40 ⟨u41, z43, rfl, ho42, hN44, hE45⟩ a46 ha46; clear ha37 a37
  have hx47 := hx27.trans' he40
  have hzhx47 := he40.size
  replace ho22 := ho22.ext he40
  replace hN24 := hN24.ext he40
  have hlhE45 := absLen hE45
  refine wl_val ha46 rfl rfl rfl (op_move ha46 rfl rfl) ?_
  intro a48 ha48; clear ha46 a46
  refine wl_val ha48 rfl rfl rfl (op_extract ha48 rfl rfl rfl) ?_
  intro a49 ha49; clear ha48 a48
  refine wl_val ha49 rfl rfl rfl (op_extract ha49 rfl rfl rfl) ?_
  intro a50 ha50; clear ha49 a49
  refine wl_val ha50 rfl rfl rfl (op_assign ha50 rfl rfl) ?_
  intro a51 ha51; clear ha50 a50
  refine wl_val ha51 rfl rfl rfl (op_assign ha51 rfl rfl) ?_
  intro a52 ha52; clear ha51 a51
  refine wpList_nil ?_
  refine then_n ?_
  refine wp_seq ?_
  refine wp_region_lit ?_
  refine wl_val ha52 rfl rfl rfl (op_move ha52 rfl rfl) ?_
  intro a53 ha53; clear ha52 a52
  refine wl_val ha53 rfl rfl rfl (op_move ha53 rfl rfl) ?_
  intro a54 ha54; clear ha53 a53
  refine wl_val ha54 rfl rfl rfl (op_move ha54 rfl rfl) ?_
  intro a55 ha55; clear ha54 a54
  refine wl_callR ha55 rfl rfl rfl (op_call ha55 rfl cb31 rfl) (c_spec_AddCustomer _ u21 ((q14)) ((q15)) (q16 : Int) ((rds_shCustN (ho22.fin (by omega) (by omega) (by omega)) hN24).cast hE25) (by first | assumption | omega | (simp; done) | (simp; omega)) (by first | assumption | omega | (simp; done) | (simp; omega)) (by first | assumption | omega | (simp; done) | (simp; omega))) ?_
  rintro v56 w57 he58 ⟨u59, z61, rfl, ho60, hN62, hE63⟩ a64 ha64; clear ha55 a55
  have hx65 := hx47.trans' he58
  have hzhx65 := he58.size
  replace ho22 := ho22.ext he58
  replace hN24 := hN24.ext he58
  replace ho42 := ho42.ext he58
  replace hN44 := hN44.ext he58
  have hlhE63 := absLen hE63
  refine wl_val ha64 rfl rfl rfl (op_move ha64 rfl rfl) ?_
  intro a66 ha66; clear ha64 a64
  refine wl_val ha66 rfl rfl rfl (op_extract ha66 rfl rfl rfl) ?_
  intro a67 ha67; clear ha66 a66
  refine wl_val ha67 rfl rfl rfl (op_extract ha67 rfl rfl rfl) ?_
  intro a68 ha68; clear ha67 a67
  refine wl_val ha68 rfl rfl rfl (op_assign ha68 rfl rfl) ?_
  intro a69 ha69; clear ha68 a68
  refine wl_val ha69 rfl rfl rfl (op_assign ha69 rfl rfl) ?_
  intro a70 ha70; clear ha69 a69
  refine wpList_nil ?_
  refine then_n ?_
  refine wp_seq ?_
  refine wp_region_lit ?_
  refine wl_val ha70 rfl rfl rfl (op_move ha70 rfl rfl) ?_
  intro a71 ha71; clear ha70 a70
  refine wl_callR ha71 rfl rfl rfl (op_call ha71 rfl cb42 rfl) (c_spec_DrawWithPrefix _ v_code code (h_code.ext pos_shU8 hx65)) ?_
  rintro v72 w73 he74 ⟨q75, q76, hq77, hq78, hq79, ⟨u80, z82, rfl, ho81, hN83, hE84⟩⟩ a85 ha85; clear ha71 a71
  have hx86 := hx65.trans' he74
  have hzhx86 := he74.size
  replace ho22 := ho22.ext he74
  replace hN24 := hN24.ext he74
  replace ho42 := ho42.ext he74
  replace hN44 := hN44.ext he74
  replace ho60 := ho60.ext he74
  replace hN62 := hN62.ext he74
  have hlhE84 := absLen hE84
  refine wl_val ha85 rfl rfl rfl (op_move ha85 rfl rfl) ?_
  intro a87 ha87; clear ha85 a85
  refine wl_val ha87 rfl rfl rfl (op_extract ha87 rfl rfl rfl) ?_
  intro a88 ha88; clear ha87 a87
  refine wl_val ha88 rfl rfl rfl (op_extract ha88 rfl rfl rfl) ?_
  intro a89 ha89; clear ha88 a88
  refine wl_val ha89 rfl rfl rfl (op_assign ha89 rfl rfl) ?_
  intro a90 ha90; clear ha89 a89
  refine wl_val ha90 rfl rfl rfl (op_assign ha90 rfl rfl) ?_
  intro a91 ha91; clear ha90 a90
  refine wpList_nil ?_
  refine then_n ?_
  refine wp_seq ?_
  refine wp_region_lit ?_
  refine wl_val ha91 rfl rfl rfl (op_move ha91 rfl rfl) ?_
  intro a92 ha92; clear ha91 a91
  refine wl_val ha92 rfl rfl rfl (op_move ha92 rfl rfl) ?_
  intro a93 ha93; clear ha92 a92
  refine wl_callR ha93 rfl rfl rfl (op_call ha93 rfl cb24 rfl) (c_impl_WithPrefix _ u80 ((q75)) ((q76)) ((rds_shCustN (ho81.fin (by omega) (by omega) (by omega)) hN83).cast hE84) (by first | assumption | omega | (simp; done) | (simp; omega)) (by first | assumption | omega | (simp; done) | (simp; omega))) ?_
  rintro v94 w95 he96 ⟨v97, rfl, ho98⟩ a99 ha99; clear ha93 a93
  have hx100 := hx86.trans' he96
  have hzhx100 := he96.size
  replace ho22 := ho22.ext he96
  replace hN24 := hN24.ext he96
  replace ho42 := ho42.ext he96
  replace hN44 := hN44.ext he96
  replace ho60 := ho60.ext he96
  replace hN62 := hN62.ext he96
  replace ho81 := ho81.ext he96
  replace hN83 := hN83.ext he96
  refine wl_val ha99 rfl rfl rfl (op_move ha99 rfl rfl) ?_
  intro a101 ha101; clear ha99 a99
  refine wl_val ha101 rfl rfl rfl (op_extract ha101 rfl rfl rfl) ?_
  intro a102 ha102; clear ha101 a101
  refine wl_val ha102 rfl rfl rfl (op_extract ha102 rfl rfl rfl) ?_
  intro a103 ha103; clear ha102 a102
  refine wl_val ha103 rfl rfl rfl (op_assign ha103 rfl rfl) ?_
  intro a104 ha104; clear ha103 a103
  refine wl_val ha104 rfl rfl rfl (op_assign ha104 rfl rfl) ?_
  intro a105 ha105; clear ha104 a104
  refine wpList_nil ?_
  refine then_n ?_
  refine wp_seq ?_
  refine wp_region_lit ?_
  refine wl_val ha105 rfl rfl rfl (op_move ha105 rfl rfl) ?_
  intro a106 ha106; clear ha105 a105
  refine wl_val ha106 rfl rfl rfl (op_move ha106 rfl rfl) ?_
  intro a107 ha107; clear ha106 a106
  refine wl_callR ha107 rfl rfl rfl (op_call ha107 rfl cb23 rfl) (c_spec_WithPrefix _ u80 ((q75)) ((q76)) ((rds_shCustN (ho81.fin (by omega) (by omega) (by omega)) hN83).cast hE84) (by first | assumption | omega | (simp; done) | (simp; omega)) (by first | assumption | omega | (simp; done) | (simp; omega))) ?_
  rintro v108 w109 he110 ⟨v111, rfl, ho112⟩ a113 ha113; clear ha107 a107
  have hx114 := hx100.trans' he110
  have hzhx114 := he110.size
  replace ho22 := ho22.ext he110
  replace hN24 := hN24.ext he110
  replace ho42 := ho42.ext he110
  replace hN44 := hN44.ext he110
  replace ho60 := ho60.ext he110
  replace hN62 := hN62.ext he110
  replace ho81 := ho81.ext he110
  replace hN83 := hN83.ext he110
  replace ho98 := ho98.ext he110
  refine wl_val ha113 rfl rfl rfl (op_move ha113 rfl rfl) ?_
  intro a115 ha115; clear ha113 a113
  refine wl_val ha115 rfl rfl rfl (op_extract ha115 rfl rfl rfl) ?_
  intro a116 ha116; clear ha115 a115
  refine wl_val ha116 rfl rfl rfl (op_extract ha116 rfl rfl rfl) ?_
  intro a117 ha117; clear ha116 a116
  refine wl_val ha117 rfl rfl rfl (op_assign ha117 rfl rfl) ?_
  intro a118 ha118; clear ha117 a117
  refine wl_val ha118 rfl rfl rfl (op_assign ha118 rfl rfl) ?_
  intro a119 ha119; clear ha118 a118
  refine wpList_nil ?_
  refine then_n ?_
  refine wp_seq ?_
  refine wp_region_lit ?_
  refine wl_val ha119 rfl rfl rfl (op_move ha119 rfl rfl) ?_
  intro a120 ha120; clear ha119 a119
  refine wl_callR ha120 rfl rfl rfl (op_call ha120 rfl cb43 rfl) (c_spec_DrawLongestSince _ v_code code (h_code.ext pos_shU8 hx114)) ?_
  rintro v121 w122 he123 ⟨q124, q125, hq126, hq127, hq128, ⟨u129, z131, rfl, ho130, hN132, hE133⟩⟩ a134 ha134; clear ha120 a120
  have hx135 := hx114.trans' he123
  have hzhx135 := he123.size
  replace ho22 := ho22.ext he123
  replace hN24 := hN24.ext he123
  replace ho42 := ho42.ext he123
  replace hN44 := hN44.ext he123
  replace ho60 := ho60.ext he123
  replace hN62 := hN62.ext he123
  replace ho81 := ho81.ext he123
  replace hN83 := hN83.ext he123
  replace ho98 := ho98.ext he123
  replace ho112 := ho112.ext he123
  have hlhE133 := absLen hE133
  refine wl_val ha134 rfl rfl rfl (op_move ha134 rfl rfl) ?_
  intro a136 ha136; clear ha134 a134
  refine wl_val ha136 rfl rfl rfl (op_extract ha136 rfl rfl rfl) ?_
  intro a137 ha137; clear ha136 a136
  refine wl_val ha137 rfl rfl rfl (op_extract ha137 rfl rfl rfl) ?_
  intro a138 ha138; clear ha137 a137
  refine wl_val ha138 rfl rfl rfl (op_assign ha138 rfl rfl) ?_
  intro a139 ha139; clear ha138 a138
  refine wl_val ha139 rfl rfl rfl (op_assign ha139 rfl rfl) ?_
  intro a140 ha140; clear ha139 a139
  refine wpList_nil ?_
  refine then_n ?_
  refine wp_seq ?_
  refine wp_region_lit ?_
  refine wl_val ha140 rfl rfl rfl (op_move ha140 rfl rfl) ?_
  intro a141 ha141; clear ha140 a140
  refine wl_val ha141 rfl rfl rfl (op_move ha141 rfl rfl) ?_
  intro a142 ha142; clear ha141 a141
  refine wl_callR ha142 rfl rfl rfl (op_call ha142 rfl cb30 rfl) (c_impl_LongestSince _ u129 ((q124)) (q125 : Int) ((rds_shCustN (ho130.fin (by omega) (by omega) (by omega)) hN132).cast hE133) (by first | assumption | omega | (simp; done) | (simp; omega)) (by first | assumption | omega | (simp; done) | (simp; omega))) ?_
  rintro v143 w144 he145 ⟨v146, rfl, ho147⟩ a148 ha148; clear ha142 a142
  have hx149 := hx135.trans' he145
  have hzhx149 := he145.size
  replace ho22 := ho22.ext he145
  replace hN24 := hN24.ext he145
  replace ho42 := ho42.ext he145
  replace hN44 := hN44.ext he145
  replace ho60 := ho60.ext he145
  replace hN62 := hN62.ext he145
  replace ho81 := ho81.ext he145
  replace hN83 := hN83.ext he145
  replace ho98 := ho98.ext he145
  replace ho112 := ho112.ext he145
  replace ho130 := ho130.ext he145
  replace hN132 := hN132.ext he145
  refine wl_val ha148 rfl rfl rfl (op_move ha148 rfl rfl) ?_
  intro a150 ha150; clear ha148 a148
  refine wl_val ha150 rfl rfl rfl (op_extract ha150 rfl rfl rfl) ?_
  intro a151 ha151; clear ha150 a150
  refine wl_val ha151 rfl rfl rfl (op_extract ha151 rfl rfl rfl) ?_
  intro a152 ha152; clear ha151 a151
  refine wl_val ha152 rfl rfl rfl (op_assign ha152 rfl rfl) ?_
  intro a153 ha153; clear ha152 a152
  refine wl_val ha153 rfl rfl rfl (op_assign ha153 rfl rfl) ?_
  intro a154 ha154; clear ha153 a153
  refine wpList_nil ?_
  refine then_n ?_
  refine wp_seq ?_
  refine wp_region_lit ?_
  refine wl_val ha154 rfl rfl rfl (op_move ha154 rfl rfl) ?_
  intro a155 ha155; clear ha154 a154
  refine wl_val ha155 rfl rfl rfl (op_move ha155 rfl rfl) ?_
  intro a156 ha156; clear ha155 a155
  refine wl_callR ha156 rfl rfl rfl (op_call ha156 rfl cb29 rfl) (c_spec_LongestSince _ u129 ((q124)) (q125 : Int) ((rds_shCustN (ho130.fin (by omega) (by omega) (by omega)) hN132).cast hE133) (by first | assumption | omega | (simp; done) | (simp; omega)) (by first | assumption | omega | (simp; done) | (simp; omega))) ?_
  rintro v157 w158 he159 ⟨v160, rfl, ho161⟩ a162 ha162; clear ha156 a156
  have hx163 := hx149.trans' he159
  have hzhx163 := he159.size
  replace ho22 := ho22.ext he159
  replace hN24 := hN24.ext he159
  replace ho42 := ho42.ext he159
  replace hN44 := hN44.ext he159
  replace ho60 := ho60.ext he159
  replace hN62 := hN62.ext he159
  replace ho81 := ho81.ext he159
  replace hN83 := hN83.ext he159
  replace ho98 := ho98.ext he159
  replace ho112 := ho112.ext he159
  replace ho130 := ho130.ext he159
  replace hN132 := hN132.ext he159
  replace ho147 := ho147.ext he159
  refine wl_val ha162 rfl rfl rfl (op_move ha162 rfl rfl) ?_
  intro a164 ha164; clear ha162 a162
  refine wl_val ha164 rfl rfl rfl (op_extract ha164 rfl rfl rfl) ?_
  intro a165 ha165; clear ha164 a164
  refine wl_val ha165 rfl rfl rfl (op_extract ha165 rfl rfl rfl) ?_
  intro a166 ha166; clear ha165 a165
  refine wl_val ha166 rfl rfl rfl (op_assign ha166 rfl rfl) ?_
  intro a167 ha167; clear ha166 a166
  refine wl_val ha167 rfl rfl rfl (op_assign ha167 rfl rfl) ?_
  intro a168 ha168; clear ha167 a167
  refine wpList_nil ?_
  refine then_n ?_
  refine wp_seq ?_
  refine wp_region_lit ?_
  refine wl_val ha168 rfl rfl rfl (op_move ha168 rfl rfl) ?_
  intro a169 ha169; clear ha168 a168
  refine wl_callR ha169 rfl rfl rfl (op_call ha169 rfl cb44 rfl) (c_spec_DrawOwnerOf _ v_code code (h_code.ext pos_shU8 hx163)) ?_
  rintro v170 w171 he172 ⟨q173, q174, hq175, hq176, hq177, ⟨u178, z180, rfl, ho179, hN181, hE182⟩⟩ a183 ha183; clear ha169 a169
  have hx184 := hx163.trans' he172
  have hzhx184 := he172.size
  replace ho22 := ho22.ext he172
  replace hN24 := hN24.ext he172
  replace ho42 := ho42.ext he172
  replace hN44 := hN44.ext he172
  replace ho60 := ho60.ext he172
  replace hN62 := hN62.ext he172
  replace ho81 := ho81.ext he172
  replace hN83 := hN83.ext he172
  replace ho98 := ho98.ext he172
  replace ho112 := ho112.ext he172
  replace ho130 := ho130.ext he172
  replace hN132 := hN132.ext he172
  replace ho147 := ho147.ext he172
  replace ho161 := ho161.ext he172
  have hlhE182 := absLen hE182
  refine wl_val ha183 rfl rfl rfl (op_move ha183 rfl rfl) ?_
  intro a185 ha185; clear ha183 a183
  refine wl_val ha185 rfl rfl rfl (op_extract ha185 rfl rfl rfl) ?_
  intro a186 ha186; clear ha185 a185
  refine wl_val ha186 rfl rfl rfl (op_extract ha186 rfl rfl rfl) ?_
  intro a187 ha187; clear ha186 a186
  refine wl_val ha187 rfl rfl rfl (op_assign ha187 rfl rfl) ?_
  intro a188 ha188; clear ha187 a187
  refine wl_val ha188 rfl rfl rfl (op_assign ha188 rfl rfl) ?_
  intro a189 ha189; clear ha188 a188
  refine wpList_nil ?_
  refine then_n ?_
  refine wp_seq ?_
  refine wp_region_lit ?_
  refine wl_val ha189 rfl rfl rfl (op_move ha189 rfl rfl) ?_
  intro a190 ha190; clear ha189 a189
  refine wl_val ha190 rfl rfl rfl (op_move ha190 rfl rfl) ?_
  intro a191 ha191; clear ha190 a190
  refine wl_callR ha191 rfl rfl rfl (op_call ha191 rfl cb22 rfl) (c_impl_OwnerOf _ u178 ((q173)) ((q174)) ((rds_shCustN (ho179.fin (by omega) (by omega) (by omega)) hN181).cast hE182) (by first | assumption | omega | (simp; done) | (simp; omega)) (by first | assumption | omega | (simp; done) | (simp; omega))) ?_
  rintro v192 w193 he194 rfl a195 ha195; clear ha191 a191
  have hx196 := hx184.trans' he194
  have hzhx196 := he194.size
  replace ho22 := ho22.ext he194
  replace hN24 := hN24.ext he194
  replace ho42 := ho42.ext he194
  replace hN44 := hN44.ext he194
  replace ho60 := ho60.ext he194
  replace hN62 := hN62.ext he194
  replace ho81 := ho81.ext he194
  replace hN83 := hN83.ext he194
  replace ho98 := ho98.ext he194
  replace ho112 := ho112.ext he194
  replace ho130 := ho130.ext he194
  replace hN132 := hN132.ext he194
  replace ho147 := ho147.ext he194
  replace ho161 := ho161.ext he194
  replace ho179 := ho179.ext he194
  replace hN181 := hN181.ext he194
  refine wl_val ha195 rfl rfl rfl (op_move ha195 rfl rfl) ?_
  intro a197 ha197; clear ha195 a195
  refine wl_val ha197 rfl rfl rfl (op_extract ha197 rfl rfl rfl) ?_
  intro a198 ha198; clear ha197 a197
  refine wl_val ha198 rfl rfl rfl (op_extract ha198 rfl rfl rfl) ?_
  intro a199 ha199; clear ha198 a198
  refine wl_val ha199 rfl rfl rfl (op_assign ha199 rfl rfl) ?_
  intro a200 ha200; clear ha199 a199
  refine wl_val ha200 rfl rfl rfl (op_assign ha200 rfl rfl) ?_
  intro a201 ha201; clear ha200 a200
  refine wpList_nil ?_
  refine then_n ?_
  refine wp_seq ?_
  refine wp_region_lit ?_
  refine wl_val ha201 rfl rfl rfl (op_move ha201 rfl rfl) ?_
  intro a202 ha202; clear ha201 a201
  refine wl_val ha202 rfl rfl rfl (op_move ha202 rfl rfl) ?_
  intro a203 ha203; clear ha202 a202
  refine wl_callR ha203 rfl rfl rfl (op_call ha203 rfl cb21 rfl) (c_spec_OwnerOf _ u178 ((q173)) ((q174)) ((rds_shCustN (ho179.fin (by omega) (by omega) (by omega)) hN181).cast hE182) (by first | assumption | omega | (simp; done) | (simp; omega)) (by first | assumption | omega | (simp; done) | (simp; omega))) ?_
  rintro v204 w205 he206 rfl a207 ha207; clear ha203 a203
  have hx208 := hx196.trans' he206
  have hzhx208 := he206.size
  replace ho22 := ho22.ext he206
  replace hN24 := hN24.ext he206
  replace ho42 := ho42.ext he206
  replace hN44 := hN44.ext he206
  replace ho60 := ho60.ext he206
  replace hN62 := hN62.ext he206
  replace ho81 := ho81.ext he206
  replace hN83 := hN83.ext he206
  replace ho98 := ho98.ext he206
  replace ho112 := ho112.ext he206
  replace ho130 := ho130.ext he206
  replace hN132 := hN132.ext he206
  replace ho147 := ho147.ext he206
  replace ho161 := ho161.ext he206
  replace ho179 := ho179.ext he206
  replace hN181 := hN181.ext he206
  refine wl_val ha207 rfl rfl rfl (op_move ha207 rfl rfl) ?_
  intro a209 ha209; clear ha207 a207
  refine wl_val ha209 rfl rfl rfl (op_extract ha209 rfl rfl rfl) ?_
  intro a210 ha210; clear ha209 a209
  refine wl_val ha210 rfl rfl rfl (op_extract ha210 rfl rfl rfl) ?_
  intro a211 ha211; clear ha210 a210
  refine wl_val ha211 rfl rfl rfl (op_assign ha211 rfl rfl) ?_
  intro a212 ha212; clear ha211 a211
  refine wl_val ha212 rfl rfl rfl (op_assign ha212 rfl rfl) ?_
  intro a213 ha213; clear ha212 a212
  refine wpList_nil ?_
  refine then_n ?_
  refine wp_seq ?_
  refine wp_seq ?_
  clear ho179 hN181
  refine wp_region_lit ?_
  refine wl_val ha213 rfl rfl rfl (op_move ha213 rfl rfl) ?_
  intro a214 ha214; clear ha213 a213
  refine wl_val ha214 rfl rfl rfl (op_move ha214 rfl rfl) ?_
  intro a215 ha215; clear ha214 a214
  refine wl_val ha215 rfl rfl rfl ((op_neq ha215 rfl rfl rfl).to (congrArg Value.bool decide_not)) ?_
  intro a216 ha216; clear ha215 a215
  refine wl_val ha216 rfl rfl rfl (op_move ha216 rfl rfl) ?_
  intro a217 ha217; clear ha216 a216
  by_cases c218 : (addcC ((q14)) ((q15)) (q16 : Int) : Int) = (addcC ((q14)) ((q15)) (q16 : Int) : Int)
  ·
   rw [decide_eq_true c218] at ha217
   refine wl_val ha217 rfl rfl rfl (op_move ha217 rfl rfl) ?_
   intro a219 ha219; clear ha217 a217
   refine wl_val ha219 rfl rfl rfl (op_move ha219 rfl rfl) ?_
   intro a220 ha220; clear ha219 a219
   refine wl_callR ha220 rfl rfl rfl (op_call ha220 rfl cb45 rfl) (c_laws_likeCustomers _ u41 ((addcL ((q14)) ((q15)) (q16 : Int))) u59 ((addcL ((q14)) ((q15)) (q16 : Int))) ((rds_shCustN (ho42.fin (by omega) (by omega) (by omega)) hN44).cast hE45) ((rds_shCustN (ho60.fin (by omega) (by omega) (by omega)) hN62).cast hE63)) ?_
   rintro v221 w222 he223 rfl a224 ha224; clear ha220 a220
   have hx225 := hx208.trans' he223
   have hzhx225 := he223.size
   replace ho22 := ho22.ext he223
   replace hN24 := hN24.ext he223
   replace ho42 := ho42.ext he223
   replace hN44 := hN44.ext he223
   replace ho60 := ho60.ext he223
   replace hN62 := hN62.ext he223
   replace ho81 := ho81.ext he223
   replace hN83 := hN83.ext he223
   replace ho98 := ho98.ext he223
   replace ho112 := ho112.ext he223
   replace ho130 := ho130.ext he223
   replace hN132 := hN132.ext he223
   replace ho147 := ho147.ext he223
   replace ho161 := ho161.ext he223
   refine wl_val ha224 rfl rfl rfl (op_not ha224 rfl rfl) ?_
   intro a226 ha226; clear ha224 a224
   refine wl_val ha226 rfl rfl rfl (op_pick_f ha226 rfl rfl rfl) ?_
   intro a227 ha227; clear ha226 a226
   refine wl_val ha227 rfl rfl rfl (op_move ha227 rfl rfl) ?_
   intro a228 ha228; clear ha227 a227
   rcases Bool.eq_false_or_eq_true (eqL ((addcL ((q14)) ((q15)) (q16 : Int))) ((addcL ((q14)) ((q15)) (q16 : Int)))) with c229 | c229
   ·
    rw [c229] at ha228
    refine wl_val ha228 rfl rfl rfl (op_move ha228 rfl rfl) ?_
    intro a230 ha230; clear ha228 a228
    refine wl_val ha230 rfl rfl rfl (op_move ha230 rfl rfl) ?_
    intro a231 ha231; clear ha230 a230
    refine wl_val ha231 rfl rfl rfl ((op_neq ha231 rfl rfl rfl).to (congrArg Value.bool decide_not)) ?_
    intro a232 ha232; clear ha231 a231
    refine wl_val ha232 rfl rfl rfl (op_pick_f ha232 rfl rfl rfl) ?_
    intro a233 ha233; clear ha232 a232
    refine wl_val ha233 rfl rfl rfl (op_move ha233 rfl rfl) ?_
    intro a234 ha234; clear ha233 a233
    by_cases c235 : (if cuB ((q75)) then 0 else 1 : Int) = (if cuB ((q75)) then 0 else 1 : Int)
    ·
     rw [decide_eq_true c235] at ha234
     refine wl_val ha234 rfl rfl rfl (op_move ha234 rfl rfl) ?_
     intro a236 ha236; clear ha234 a234
     refine wl_val ha236 rfl rfl rfl (op_move ha236 rfl rfl) ?_
     intro a237 ha237; clear ha236 a236
     refine wl_callR ha237 rfl rfl rfl (op_call ha237 rfl cb46 rfl) (c_laws_likeTexts _ v97 ((if cuB ((q75)) then pfL ((q76)) ((q75)) else [])) v111 ((if cuB ((q75)) then pfL ((q76)) ((q75)) else [])) (ho98.rds pos_shStr) (ho112.rds pos_shStr)) ?_
     rintro v238 w239 he240 rfl a241 ha241; clear ha237 a237
     have hx242 := hx225.trans' he240
     have hzhx242 := he240.size
     replace ho22 := ho22.ext he240
     replace hN24 := hN24.ext he240
     replace ho42 := ho42.ext he240
     replace hN44 := hN44.ext he240
     replace ho60 := ho60.ext he240
     replace hN62 := hN62.ext he240
     replace ho81 := ho81.ext he240
     replace hN83 := hN83.ext he240
     replace ho98 := ho98.ext he240
     replace ho112 := ho112.ext he240
     replace ho130 := ho130.ext he240
     replace hN132 := hN132.ext he240
     replace ho147 := ho147.ext he240
     replace ho161 := ho161.ext he240
     refine wl_val ha241 rfl rfl rfl (op_not ha241 rfl rfl) ?_
     intro a243 ha243; clear ha241 a241
     refine wl_val ha243 rfl rfl rfl (op_pick_f ha243 rfl rfl rfl) ?_
     intro a244 ha244; clear ha243 a243
     refine wl_val ha244 rfl rfl rfl (op_move ha244 rfl rfl) ?_
     intro a245 ha245; clear ha244 a244
     rcases Bool.eq_false_or_eq_true (eqL ((if cuB ((q75)) then pfL ((q76)) ((q75)) else [])) ((if cuB ((q75)) then pfL ((q76)) ((q75)) else []))) with c246 | c246
     ·
      rw [c246] at ha245
      refine wl_val ha245 rfl rfl rfl (op_move ha245 rfl rfl) ?_
      intro a247 ha247; clear ha245 a245
      refine wl_val ha247 rfl rfl rfl (op_move ha247 rfl rfl) ?_
      intro a248 ha248; clear ha247 a247
      refine wl_val ha248 rfl rfl rfl ((op_neq ha248 rfl rfl rfl).to (congrArg Value.bool decide_not)) ?_
      intro a249 ha249; clear ha248 a248
      refine wl_val ha249 rfl rfl rfl (op_pick_f ha249 rfl rfl rfl) ?_
      intro a250 ha250; clear ha249 a249
      refine wl_val ha250 rfl rfl rfl (op_move ha250 rfl rfl) ?_
      intro a251 ha251; clear ha250 a250
      by_cases c252 : (codeL ((q124)) (q125 : Int) : Int) = (codeL ((q124)) (q125 : Int) : Int)
      ·
       rw [decide_eq_true c252] at ha251
       refine wl_val ha251 rfl rfl rfl (op_move ha251 rfl rfl) ?_
       intro a253 ha253; clear ha251 a251
       refine wl_val ha253 rfl rfl rfl (op_move ha253 rfl rfl) ?_
       intro a254 ha254; clear ha253 a253
       refine wl_callR ha254 rfl rfl rfl (op_call ha254 rfl cb46 rfl) (c_laws_likeTexts _ v146 ((if codeL ((q124)) (q125 : Int) = 0 then lsL ((q124)) (q125 : Int) else [])) v160 ((if codeL ((q124)) (q125 : Int) = 0 then lsL ((q124)) (q125 : Int) else [])) (ho147.rds pos_shStr) (ho161.rds pos_shStr)) ?_
       rintro v255 w256 he257 rfl a258 ha258; clear ha254 a254
       have hx259 := hx242.trans' he257
       have hzhx259 := he257.size
       replace ho22 := ho22.ext he257
       replace hN24 := hN24.ext he257
       replace ho42 := ho42.ext he257
       replace hN44 := hN44.ext he257
       replace ho60 := ho60.ext he257
       replace hN62 := hN62.ext he257
       replace ho81 := ho81.ext he257
       replace hN83 := hN83.ext he257
       replace ho98 := ho98.ext he257
       replace ho112 := ho112.ext he257
       replace ho130 := ho130.ext he257
       replace hN132 := hN132.ext he257
       replace ho147 := ho147.ext he257
       replace ho161 := ho161.ext he257
       refine wl_val ha258 rfl rfl rfl (op_not ha258 rfl rfl) ?_
       intro a260 ha260; clear ha258 a258
       refine wl_val ha260 rfl rfl rfl (op_pick_f ha260 rfl rfl rfl) ?_
       intro a261 ha261; clear ha260 a260
       refine wl_val ha261 rfl rfl rfl (op_move ha261 rfl rfl) ?_
       intro a262 ha262; clear ha261 a261
       rcases Bool.eq_false_or_eq_true (eqL ((if codeL ((q124)) (q125 : Int) = 0 then lsL ((q124)) (q125 : Int) else [])) ((if codeL ((q124)) (q125 : Int) = 0 then lsL ((q124)) (q125 : Int) else []))) with c263 | c263
       ·
        rw [c263] at ha262
        refine wl_val ha262 rfl rfl rfl (op_move ha262 rfl rfl) ?_
        intro a264 ha264; clear ha262 a262
        refine wl_val ha264 rfl rfl rfl (op_move ha264 rfl rfl) ?_
        intro a265 ha265; clear ha264 a264
        refine wl_val ha265 rfl rfl rfl ((op_neq ha265 rfl rfl rfl).to (congrArg Value.bool decide_not)) ?_
        intro a266 ha266; clear ha265 a265
        refine wl_val ha266 rfl rfl rfl (op_pick_f ha266 rfl rfl rfl) ?_
        intro a267 ha267; clear ha266 a266
        refine wl_val ha267 rfl rfl rfl (op_move ha267 rfl rfl) ?_
        intro a268 ha268; clear ha267 a267
        by_cases c269 : (ownC ((q173)) ((q174)) : Int) = (ownC ((q173)) ((q174)) : Int)
        ·
         rw [decide_eq_true c269] at ha268
         refine wl_val ha268 rfl rfl rfl (op_move ha268 rfl rfl) ?_
         intro a270 ha270; clear ha268 a268
         refine wl_val ha270 rfl rfl rfl (op_move ha270 rfl rfl) ?_
         intro a271 ha271; clear ha270 a270
         refine wl_val ha271 rfl rfl rfl ((op_sneq ha271 rfl rfl rfl).to (congrArg Value.bool decide_not)) ?_
         intro a272 ha272; clear ha271 a271
         refine wl_val ha272 rfl rfl rfl (op_pick_f ha272 rfl rfl rfl) ?_
         intro a273 ha273; clear ha272 a272
         refine wpList_nil ?_
         refine then_n ?_
         by_cases c274 : (ownN ((q173)) ((q174))) = (ownN ((q173)) ((q174)))
         ·
          rw [decide_eq_true c274] at ha273
          refine cond_f ha273 rfl ?_
          refine wp_skip ?_
          refine then_n ?_
          refine seq_mid (fun fr wl => Sl 249 fr [(3, u21), (4, St ((q15))), (6, u41), (7, .int .i64 (addcC ((q14)) ((q15)) (q16 : Int) : Int)), (10, u80), (12, v97), (13, .int .i64 (if cuB ((q75)) then 0 else 1 : Int)), (16, u129), (18, v146), (19, .int .i64 (codeL ((q124)) (q125 : Int) : Int))] ∧ Ext w0 wl ∧ Own shCustN 55 w4.heap.size w4.heap.size w12.heap.size wl u21 z23 ∧ Nst shStr 9 (fun x : Str × Int × List Str => x.2.2) w4.heap.size w12.heap.size wl z23 ∧ Own shCustN 55 w12.heap.size w12.heap.size w39.heap.size wl u41 z43 ∧ Nst shStr 9 (fun x : Str × Int × List Str => x.2.2) w12.heap.size w39.heap.size wl z43 ∧ Own shCustN 55 w57.heap.size w57.heap.size w73.heap.size wl u80 z82 ∧ Nst shStr 9 (fun x : Str × Int × List Str => x.2.2) w57.heap.size w73.heap.size wl z82 ∧ Own shStr 9 w73.heap.size w73.heap.size w95.heap.size wl v97 ((if cuB ((q75)) then pfL ((q76)) ((q75)) else [])) ∧ Own shCustN 55 w109.heap.size w109.heap.size w122.heap.size wl u129 z131 ∧ Nst shStr 9 (fun x : Str × Int × List Str => x.2.2) w109.heap.size w122.heap.size wl z131 ∧ Own shStr 9 w122.heap.size w122.heap.size w144.heap.size wl v146 ((if codeL ((q124)) (q125 : Int) = 0 then lsL ((q124)) (q125 : Int) else [])) ∧ w256.heap.size ≤ wl.heap.size) ?_ ?_
          ·
           refine wp_seq ?_
           clear ho60 hN62 ho112 ho161
           refine wp_region_lit ?_
           refine wl_val ha273 rfl rfl rfl (op_move ha273 rfl rfl) ?_
           intro a287 ha287; clear ha273 a273
           refine wl_val ha287 rfl rfl rfl (op_eql ha287 rfl rfl rfl) ?_
           intro a288 ha288; clear ha287 a287
           refine wl_val ha288 rfl rfl rfl (op_move ha288 rfl rfl) ?_
           intro a289 ha289; clear ha288 a288
           by_cases c290 : (codeL ((q124)) (q125 : Int) : Int) = (0 : Int)
           ·
            rw [decide_eq_true c290] at ha289
            obtain ⟨hk1, hk2, hk3⟩ := codeL_cu c290
            have hll := ls_len c290
            refine wl_val ha289 rfl rfl rfl (op_move ha289 rfl rfl) ?_
            intro a291 ha291; clear ha289 a289
            refine wl_val ha291 rfl rfl rfl (op_len_sl ha291 rfl Try.underlying34 rfl (ho147.rds pos_shStr)) ?_
            intro a292 ha292; clear ha291 a291
            refine wl_val ha292 rfl rfl rfl (op_move ha292 rfl rfl) ?_
            intro a293 ha293; clear ha292 a292
            refine wl_val ha293 rfl rfl rfl (op_move ha293 rfl rfl) ?_
            intro a294 ha294; clear ha293 a293
            refine wl_val ha294 rfl rfl rfl (op_len_sl ha294 rfl Try.underlying25 rfl (ho130.rds pos_shCustN)) ?_
            intro a295 ha295; clear ha294 a294
            refine wl_val ha295 rfl rfl rfl (op_min ha295 rfl rfl rfl) ?_
            intro a296 ha296; clear ha295 a295
            refine wl_val ha296 rfl rfl rfl ((op_neq ha296 rfl rfl rfl).to (congrArg Value.bool decide_not)) ?_
            intro a297 ha297; clear ha296 a296
            refine wl_val ha297 rfl rfl rfl (op_pick_t ha297 rfl rfl rfl) ?_
            intro a298 ha298; clear ha297 a297
            refine wpList_nil ?_
            refine then_n ?_
            by_cases c299 : ((((if codeL ((q124)) (q125 : Int) = 0 then lsL ((q124)) (q125 : Int) else [])).length : Nat) : Int) = (min (q125 : Int) ((z131.length : Nat) : Int))
            ·
             rw [decide_eq_true c299] at ha298
             refine cond_f ha298 rfl ?_
             refine wp_skip ?_
             refine then_n ?_
             refine ⟨(Sl.cons_ ha298 rfl rfl (Sl.cons_ ha298 rfl rfl (Sl.cons_ ha298 rfl rfl (Sl.cons_ ha298 rfl rfl (Sl.cons_ ha298 rfl rfl (Sl.cons_ ha298 rfl rfl (Sl.cons_ ha298 rfl rfl (Sl.cons_ ha298 rfl rfl (Sl.cons_ ha298 rfl rfl (Sl.cons_ ha298 rfl rfl (Sl.nil_ ha298))))))))))), hx259, ho22, hN24, ho42, hN44, ho81, hN83, ho98, ho130, hN132, ho147, (by omega)⟩
            ·
             rw [decide_eq_false c299] at ha298
             refine cond_t ha298 rfl ?_
             refine wp_seq ?_
             clear ho22 hN24 ho42 hN44 ho81 hN83 ho98 ho130 hN132 ho147
             refine wp_region_lit ?_
             refine wl_val ha298 rfl rfl rfl (op_assign ha298 rfl rfl) ?_
             intro a300 ha300; clear ha298 a298
             refine wpList_nil ?_
             refine then_n ?_
             refine wp_ret ?_
             refine ret1 ha300 rfl rfl ?_
             clear ha300 a300
             exact ret_mk hx259 (congrArg Value.bool (by first | rfl | (exact absurd rfl c299) | (simp at c8; done) | (rw [decide_eq_true_eq]; omega) | (exact absurd (if_pos ha1) c299) | (rw [ha1] at c299; cases c299) | (rw [if_pos ha1] at c299; simp [ha4] at c299; done) | (exact absurd (if_pos ha1) c8) | (rw [ha1] at c8; cases c8) | (rw [if_pos ha1] at c8; simp [ha4] at c8; done) | omega))
           ·
            rw [decide_eq_false c290] at ha289
            refine wl_skip ha289 rfl rfl rfl ?_
            intro a301 ha301; clear ha289 a289
            refine wl_skip ha301 rfl rfl rfl ?_
            intro a302 ha302; clear ha301 a301
            refine wl_skip ha302 rfl rfl rfl ?_
            intro a303 ha303; clear ha302 a302
            refine wl_skip ha303 rfl rfl rfl ?_
            intro a304 ha304; clear ha303 a303
            refine wl_skip ha304 rfl rfl rfl ?_
            intro a305 ha305; clear ha304 a304
            refine wl_skip ha305 rfl rfl rfl ?_
            intro a306 ha306; clear ha305 a305
            refine wl_skip ha306 rfl rfl rfl ?_
            intro a307 ha307; clear ha306 a306
            refine wl_val ha307 rfl rfl rfl (op_pick_f ha307 rfl rfl rfl) ?_
            intro a308 ha308; clear ha307 a307
            refine wpList_nil ?_
            refine then_n ?_
            refine cond_f ha308 rfl ?_
            refine wp_skip ?_
            refine then_n ?_
            refine ⟨(Sl.cons_ ha308 rfl rfl (Sl.cons_ ha308 rfl rfl (Sl.cons_ ha308 rfl rfl (Sl.cons_ ha308 rfl rfl (Sl.cons_ ha308 rfl rfl (Sl.cons_ ha308 rfl rfl (Sl.cons_ ha308 rfl rfl (Sl.cons_ ha308 rfl rfl (Sl.cons_ ha308 rfl rfl (Sl.cons_ ha308 rfl rfl (Sl.nil_ ha308))))))))))), hx259, ho22, hN24, ho42, hN44, ho81, hN83, ho98, ho130, hN132, ho147, (by omega)⟩
          ·
           clear ha273 a273
           rintro a309 w275 ⟨ha309, hx276, hf277, hf278, hf279, hf280, hf281, hf282, hf283, hf284, hf285, hf286, hzl310⟩
           have hzhx276 := hx276.size
           refine wp_seq ?_
           refine wp_region_lit ?_
           refine wl_val ha309 rfl rfl rfl (op_assign ha309 rfl rfl) ?_
           intro a311 ha311; clear ha309 a309
           refine wpList_nil ?_
           refine then_n ?_
           refine wp_seq ?_
           refine wp_seq ?_
           refine wp_region_lit ?_
           refine wl_val ha311 rfl rfl rfl (op_assign ha311 rfl rfl) ?_
           intro a312 ha312; clear ha311 a311
           refine wpList_nil ?_
           refine then_n ?_
           refine wp_block ?_
           refine loop_inv (X := Nat × Int) (fun (⟨i, d⟩ : Nat × Int) fr wl => Sl 249 fr [(3, u21), (4, St ((q15))), (6, u41), (7, .int .i64 (addcC ((q14)) ((q15)) (q16 : Int) : Int)), (10, u80), (12, v97), (13, .int .i64 (if cuB ((q75)) then 0 else 1 : Int)), (16, u129), (18, v146), (19, .int .i64 (codeL ((q124)) (q125 : Int) : Int)), (28, .int .i64 d), (29, .int .i64 ((i : Nat) : Int))] ∧ Ext w0 wl ∧ Own shCustN 55 w4.heap.size w4.heap.size w12.heap.size wl u21 z23 ∧ Nst shStr 9 (fun x : Str × Int × List Str => x.2.2) w4.heap.size w12.heap.size wl z23 ∧ Own shCustN 55 w12.heap.size w12.heap.size w39.heap.size wl u41 z43 ∧ Nst shStr 9 (fun x : Str × Int × List Str => x.2.2) w12.heap.size w39.heap.size wl z43 ∧ Own shCustN 55 w57.heap.size w57.heap.size w73.heap.size wl u80 z82 ∧ Nst shStr 9 (fun x : Str × Int × List Str => x.2.2) w57.heap.size w73.heap.size wl z82 ∧ Own shStr 9 w73.heap.size w73.heap.size w95.heap.size wl v97 ((if cuB ((q75)) then pfL ((q76)) ((q75)) else [])) ∧ Own shCustN 55 w109.heap.size w109.heap.size w122.heap.size wl u129 z131 ∧ Nst shStr 9 (fun x : Str × Int × List Str => x.2.2) w109.heap.size w122.heap.size wl z131 ∧ Own shStr 9 w122.heap.size w122.heap.size w144.heap.size wl v146 ((if codeL ((q124)) (q125 : Int) = 0 then lsL ((q124)) (q125 : Int) else [])) ∧ w275.heap.size ≤ wl.heap.size ∧ (codeL q124 (q125 : Int) = 0 → lastOk q124 i d)) (fun (⟨i, d⟩ : Nat × Int) => (if codeL ((q124)) (q125 : Int) = 0 then lsL ((q124)) (q125 : Int) else []).length - i) (0, (-1 : Int)) ?_ ?_
           ·
            exact ⟨(Sl.cons_ ha312 rfl rfl (Sl.cons_ ha312 rfl rfl (Sl.cons_ ha312 rfl rfl (Sl.cons_ ha312 rfl rfl (Sl.cons_ ha312 rfl rfl (Sl.cons_ ha312 rfl rfl (Sl.cons_ ha312 rfl rfl (Sl.cons_ ha312 rfl rfl (Sl.cons_ ha312 rfl rfl (Sl.cons_ ha312 rfl rfl (Sl.cons_ ha312 rfl (int_eq (by omega)) (Sl.cons_ ha312 rfl (int_eq (by omega)) (Sl.nil_ ha312))))))))))))), hx276, hf277, hf278, hf279, hf280, hf281, hf282, hf283, hf284, hf285, hf286, (by omega), (by exact fun h => last_0 (codeL_cu h).1)⟩
           ·
            clear ha312 a312
            rintro ⟨i, d⟩ a325 w313 ⟨ha325, hx314, hf315, hf316, hf317, hf318, hf319, hf320, hf321, hf322, hf323, hf324, hzl326, hLo⟩
            have hzhx314 := hx314.size
            refine wp_seq ?_
            refine wp_seq ?_
            refine wp_region_lit ?_
            refine wl_val ha325 rfl rfl rfl (op_move ha325 rfl rfl) ?_
            intro a327 ha327; clear ha325 a325
            refine wl_val ha327 rfl rfl rfl (op_eql ha327 rfl rfl rfl) ?_
            intro a328 ha328; clear ha327 a327
            refine wl_val ha328 rfl rfl rfl (op_move ha328 rfl rfl) ?_
            intro a329 ha329; clear ha328 a328
            by_cases c330 : (codeL ((q124)) (q125 : Int) : Int) = (0 : Int)
            ·
             rw [decide_eq_true c330] at ha329
             obtain ⟨hk1, hk2, hk3⟩ := codeL_cu c330
             have hll := ls_len c330
             refine wl_val ha329 rfl rfl rfl (op_move ha329 rfl rfl) ?_
             intro a331 ha331; clear ha329 a329
             refine wl_val ha331 rfl rfl rfl (op_move ha331 rfl rfl) ?_
             intro a332 ha332; clear ha331 a331
             refine wl_val ha332 rfl rfl rfl (op_len_sl ha332 rfl Try.underlying34 rfl (hf324.rds pos_shStr)) ?_
             intro a333 ha333; clear ha332 a332
             refine wl_val ha333 rfl rfl rfl (op_lss ha333 rfl rfl rfl) ?_
             intro a334 ha334; clear ha333 a333
             refine wl_val ha334 rfl rfl rfl (op_pick_t ha334 rfl rfl rfl) ?_
             intro a335 ha335; clear ha334 a334
             refine wpList_nil ?_
             refine then_n ?_
             by_cases c336 : ((i : Nat) : Int) < ((((if codeL ((q124)) (q125 : Int) = 0 then lsL ((q124)) (q125 : Int) else [])).length : Nat) : Int)
             ·
              rw [decide_eq_true c336] at ha335
              refine cond_t ha335 rfl ?_
              refine wp_skip ?_
              refine then_n ?_
              refine wp_seq ?_
              refine wp_block ?_
              refine wp_seq ?_
              refine wp_region_lit ?_
              refine wl_val ha335 rfl rfl rfl (op_assign ha335 rfl rfl) ?_
              intro a337 ha337; clear ha335 a335
              refine wpList_nil ?_
              refine then_n ?_
              refine wp_block ?_
              refine loop_inv (X := Nat × Int) (fun (⟨k, d2⟩ : Nat × Int) fr wl => Sl 249 fr [(3, u21), (4, St ((q15))), (6, u41), (7, .int .i64 (addcC ((q14)) ((q15)) (q16 : Int) : Int)), (10, u80), (12, v97), (13, .int .i64 (if cuB ((q75)) then 0 else 1 : Int)), (16, u129), (18, v146), (19, .int .i64 (codeL ((q124)) (q125 : Int) : Int)), (28, .int .i64 d2), (29, .int .i64 ((i : Nat) : Int)), (30, .int .i64 ((k : Nat) : Int))] ∧ Ext w0 wl ∧ Own shCustN 55 w4.heap.size w4.heap.size w12.heap.size wl u21 z23 ∧ Nst shStr 9 (fun x : Str × Int × List Str => x.2.2) w4.heap.size w12.heap.size wl z23 ∧ Own shCustN 55 w12.heap.size w12.heap.size w39.heap.size wl u41 z43 ∧ Nst shStr 9 (fun x : Str × Int × List Str => x.2.2) w12.heap.size w39.heap.size wl z43 ∧ Own shCustN 55 w57.heap.size w57.heap.size w73.heap.size wl u80 z82 ∧ Nst shStr 9 (fun x : Str × Int × List Str => x.2.2) w57.heap.size w73.heap.size wl z82 ∧ Own shStr 9 w73.heap.size w73.heap.size w95.heap.size wl v97 ((if cuB ((q75)) then pfL ((q76)) ((q75)) else [])) ∧ Own shCustN 55 w109.heap.size w109.heap.size w122.heap.size wl u129 z131 ∧ Nst shStr 9 (fun x : Str × Int × List Str => x.2.2) w109.heap.size w122.heap.size wl z131 ∧ Own shStr 9 w122.heap.size w122.heap.size w144.heap.size wl v146 ((if codeL ((q124)) (q125 : Int) = 0 then lsL ((q124)) (q125 : Int) else [])) ∧ w313.heap.size ≤ wl.heap.size ∧ (k ≤ z131.length) ∧ (lastOk q124 i d2)) (fun (⟨k, d2⟩ : Nat × Int) => z131.length - k) (0, d) ?_ ?_
              ·
               exact ⟨(Sl.cons_ ha337 rfl rfl (Sl.cons_ ha337 rfl rfl (Sl.cons_ ha337 rfl rfl (Sl.cons_ ha337 rfl rfl (Sl.cons_ ha337 rfl rfl (Sl.cons_ ha337 rfl rfl (Sl.cons_ ha337 rfl rfl (Sl.cons_ ha337 rfl rfl (Sl.cons_ ha337 rfl rfl (Sl.cons_ ha337 rfl rfl (Sl.cons_ ha337 rfl (int_eq (by omega)) (Sl.cons_ ha337 rfl rfl (Sl.cons_ ha337 rfl (int_eq (by omega)) (Sl.nil_ ha337)))))))))))))), hx314, hf315, hf316, hf317, hf318, hf319, hf320, hf321, hf322, hf323, hf324, (by omega), (by omega), (by exact hLo c330)⟩
              ·
               clear ha337 a337
               rintro ⟨k, d2⟩ a350 w338 ⟨ha350, hx339, hf340, hf341, hf342, hf343, hf344, hf345, hf346, hf347, hf348, hf349, hzl351, hk, hLk⟩
               have hzhx339 := hx339.size
               refine wp_seq ?_
               refine wp_seq ?_
               refine wp_region_lit ?_
               refine wl_val ha350 rfl rfl rfl (op_move ha350 rfl rfl) ?_
               intro a352 ha352; clear ha350 a350
               refine wl_val ha352 rfl rfl rfl (op_move ha352 rfl rfl) ?_
               intro a353 ha353; clear ha352 a352
               refine wl_val ha353 rfl rfl rfl (op_len_sl ha353 rfl Try.underlying25 rfl (hf347.rds pos_shCustN)) ?_
               intro a354 ha354; clear ha353 a353
               refine wl_val ha354 rfl rfl rfl (op_lss ha354 rfl rfl rfl) ?_
               intro a355 ha355; clear ha354 a354
               refine wpList_nil ?_
               refine then_n ?_
               by_cases c356 : ((k : Nat) : Int) < ((z131.length : Nat) : Int)
               ·
                rw [decide_eq_true c356] at ha355
                refine cond_t ha355 rfl ?_
                refine wp_skip ?_
                refine then_n ?_
                refine wp_seq ?_
                refine wp_block ?_
                refine wp_seq ?_
                refine dr_enter Ext follows_mixed ?_
                intro w357 he358
                have hx359 := hx339.trans' he358
                have hzhx359 := he358.size
                replace hf340 := hf340.ext he358
                replace hf341 := hf341.ext he358
                replace hf342 := hf342.ext he358
                replace hf343 := hf343.ext he358
                replace hf344 := hf344.ext he358
                replace hf345 := hf345.ext he358
                replace hf346 := hf346.ext he358
                replace hf347 := hf347.ext he358
                replace hf348 := hf348.ext he358
                replace hf349 := hf349.ext he358
                have hs360 : Ext w357 w357 := Ext.rfl' _
                refine dr_val (i := 0) ha355 rfl (by kernel_rfl) (by kernel_rfl) (by kernel_rfl) rfl rfl rfl hs360 (fun w' hw' => op_move ha355 rfl rfl) ?_
                intro a361 ha361; clear ha355 a355
                refine dr_val (i := 1) ha361 rfl (by kernel_rfl) (by kernel_rfl) (by kernel_rfl) rfl rfl rfl hs360 (fun w' hw' => op_move ha361 rfl rfl) ?_
                intro a362 ha362; clear ha361 a361
                obtain ⟨x363, hx363⟩ := get_ex (xs := z131) (j := k) (by omega)
                obtain ⟨p364, c365, hi366, hc367, hr368, hs369⟩ := Rds.at_ (hf347.rds pos_shCustN) hx363
                obtain ⟨rfl, b370, b371, b372⟩ := inv_shCustN hr368
                have hn373 : Own shStr 9 w109.heap.size w109.heap.size w122.heap.size w357 x363.2 x363.1.2.2 := hf348.get hx363
                obtain ⟨_, _⟩ : _ ∧ _ := hs369
                refine dr_val (i := 2) ha362 rfl (by kernel_rfl) (by kernel_rfl) (by kernel_rfl) rfl rfl rfl hs360 (fun w' hw' => op_indexAddr ha362 rfl Try.underlying25 ti55 rfl rfl (by omega) hi366) ?_
                intro a374 ha374; clear ha362 a362
                refine dr_val (i := 3) ha374 rfl (by kernel_rfl) (by kernel_rfl) (by kernel_rfl) rfl rfl rfl hs360 (fun w' hw' => op_fieldAddr (sz := 0) ha374 rfl Try.underlying55 rfl rfl ti9 rfl) ?_
                intro a375 ha375; clear ha374 a374
                refine dr_val (i := 4) ha375 rfl (by kernel_rfl) (by kernel_rfl) (by kernel_rfl) rfl rfl rfl hs360 (fun w' hw' => op_loadF (off := 0) ha375 rfl Try.underlying9 rfl rfl (hc367.ext hw') rfl) ?_
                intro a376 ha376; clear ha375 a375
                refine dr_val (i := 5) ha376 rfl (by kernel_rfl) (by kernel_rfl) (by kernel_rfl) rfl rfl rfl hs360 (fun w' hw' => op_move ha376 rfl rfl) ?_
                intro a377 ha377; clear ha376 a376
                refine dr_val (i := 6) ha377 rfl (by kernel_rfl) (by kernel_rfl) (by kernel_rfl) rfl rfl rfl hs360 (fun w' hw' => op_move ha377 rfl rfl) ?_
                intro a378 ha378; clear ha377 a377
                obtain ⟨x379, hx379⟩ := get_ex (xs := (if codeL ((q124)) (q125 : Int) = 0 then lsL ((q124)) (q125 : Int) else [])) (j := i) (by omega)
                obtain ⟨p380, c381, hi382, hc383, hr384, hs385⟩ := Rds.at_ (hf349.rds pos_shStr) hx379
                obtain ⟨rfl, b386⟩ := inv_shStr hr384
                obtain ⟨_, _⟩ : _ ∧ _ := hs385
                refine dr_val (i := 7) ha378 rfl (by kernel_rfl) (by kernel_rfl) (by kernel_rfl) rfl rfl rfl hs360 (fun w' hw' => op_indexAddr ha378 rfl Try.underlying34 ti9 rfl rfl (by omega) hi382) ?_
                intro a387 ha387; clear ha378 a378
                refine dr_val (i := 8) ha387 rfl (by kernel_rfl) (by kernel_rfl) (by kernel_rfl) rfl rfl rfl hs360 (fun w' hw' => op_loadH ha387 rfl Try.underlying9 rfl rfl (hc383.ext hw') rfl) ?_
                intro a388 ha388; clear ha387 a387
                refine dr_val (i := 9) ha388 rfl (by kernel_rfl) (by kernel_rfl) (by kernel_rfl) rfl rfl rfl hs360 (fun w' hw' => op_seql ha388 rfl rfl rfl) ?_
                intro a389 ha389; clear ha388 a388
                refine dr_end (by kernel_rfl) ?_
                replace hf340 := hf340.ext hs360
                replace hf341 := hf341.ext hs360
                replace hf342 := hf342.ext hs360
                replace hf343 := hf343.ext hs360
                replace hf344 := hf344.ext hs360
                replace hf345 := hf345.ext hs360
                replace hf346 := hf346.ext hs360
                replace hf347 := hf347.ext hs360
                replace hf348 := hf348.ext hs360
                replace hf349 := hf349.ext hs360
                replace hn373 := hn373.ext hs360
                replace hc367 := hc367.ext hs360
                replace hc383 := hc383.ext hs360
                refine then_n ?_
                by_cases c390 : x363.1.1 = x379
                ·
                 rw [decide_eq_true c390] at ha389
                 refine cond_t ha389 rfl ?_
                 refine wp_seq ?_
                 refine wp_seq ?_
                 clear hn373 hc367 hc383
                 refine wp_region_lit ?_
                 refine wl_val ha389 rfl rfl rfl (op_move ha389 rfl rfl) ?_
                 intro a391 ha391; clear ha389 a389
                 refine wl_val ha391 rfl rfl rfl (op_move ha391 rfl rfl) ?_
                 intro a392 ha392; clear ha391 a391
                 obtain ⟨p393, c394, hi395, hc396, hr397, hs398⟩ := Rds.at_ (hf347.rds pos_shCustN) hx363
                 obtain ⟨rfl, b399, b400, b401⟩ := inv_shCustN hr397
                 have hn402 : Own shStr 9 w109.heap.size w109.heap.size w122.heap.size w357 x363.2 x363.1.2.2 := hf348.get hx363
                 obtain ⟨_, _⟩ : _ ∧ _ := hs398
                 refine wl_val ha392 rfl rfl rfl (op_indexAddr ha392 rfl Try.underlying25 ti55 rfl rfl (by omega) hi395) ?_
                 intro a403 ha403; clear ha392 a392
                 refine wl_val ha403 rfl rfl rfl (op_fieldAddr (sz := 0) ha403 rfl Try.underlying55 rfl rfl ti2 rfl) ?_
                 intro a404 ha404; clear ha403 a403
                 refine wl_val ha404 rfl rfl rfl (op_loadF (off := 1) ha404 rfl Try.underlying2 rfl rfl hc396 rfl) ?_
                 intro a405 ha405; clear ha404 a404
                 refine wl_val ha405 rfl rfl rfl (op_move ha405 rfl rfl) ?_
                 intro a406 ha406; clear ha405 a405
                 refine wl_val ha406 rfl rfl rfl (op_lss ha406 rfl rfl rfl) ?_
                 intro a407 ha407; clear ha406 a406
                 refine wpList_nil ?_
                 refine then_n ?_
                 by_cases c408 : x363.1.2.1 < d2
                 ·
                  rw [decide_eq_true c408] at ha407
                  refine cond_t ha407 rfl ?_
                  refine wp_seq ?_
                  clear hf340 hf341 hf342 hf343 hf344 hf345 hf346 hf347 hf348 hf349 hn402 hc396
                  refine wp_region_lit ?_
                  refine wl_val ha407 rfl rfl rfl (op_assign ha407 rfl rfl) ?_
                  intro a409 ha409; clear ha407 a407
                  refine wpList_nil ?_
                  refine then_n ?_
                  refine wp_ret ?_
                  refine then_r ?_
                  refine block_r ?_
                  refine then_r ?_
                  refine then_r ?_
                  refine block_r ?_
                  refine block_r ?_
                  refine then_r ?_
                  refine then_r ?_
                  refine block_r ?_
                  refine then_r ?_
                  refine ret1 ha409 rfl rfl ?_
                  clear ha409 a409
                  exact ret_mk hx359 (congrArg Value.bool (by first | rfl | (simp at c8; done) | (rw [decide_eq_true_eq]; omega) | (exfalso; have h8 := last_n hk1 hLk (ls_get hx379) (abs_get hE133 hx363) c390; omega) | (exact absurd (if_pos ha1) c8) | (rw [ha1] at c8; cases c8) | (rw [if_pos ha1] at c8; simp [ha4] at c8; done) | omega))
                 ·
                  rw [decide_eq_false c408] at ha407
                  refine cond_f ha407 rfl ?_
                  refine wp_skip ?_
                  refine then_n ?_
                  clear hn402 hc396
                  refine wp_region_lit ?_
                  refine wl_val ha407 rfl rfl rfl (op_move ha407 rfl rfl) ?_
                  intro a410 ha410; clear ha407 a407
                  refine wl_val ha410 rfl rfl rfl (op_move ha410 rfl rfl) ?_
                  intro a411 ha411; clear ha410 a410
                  obtain ⟨p412, c413, hi414, hc415, hr416, hs417⟩ := Rds.at_ (hf347.rds pos_shCustN) hx363
                  obtain ⟨rfl, b418, b419, b420⟩ := inv_shCustN hr416
                  have hn421 : Own shStr 9 w109.heap.size w109.heap.size w122.heap.size w357 x363.2 x363.1.2.2 := hf348.get hx363
                  obtain ⟨_, _⟩ : _ ∧ _ := hs417
                  refine wl_val ha411 rfl rfl rfl (op_indexAddr ha411 rfl Try.underlying25 ti55 rfl rfl (by omega) hi414) ?_
                  intro a422 ha422; clear ha411 a411
                  refine wl_val ha422 rfl rfl rfl (op_fieldAddr (sz := 0) ha422 rfl Try.underlying55 rfl rfl ti2 rfl) ?_
                  intro a423 ha423; clear ha422 a422
                  refine wl_val ha423 rfl rfl rfl (op_loadF (off := 1) ha423 rfl Try.underlying2 rfl rfl hc415 rfl) ?_
                  intro a424 ha424; clear ha423 a423
                  refine wl_val ha424 rfl rfl rfl (op_assign ha424 rfl rfl) ?_
                  intro a425 ha425; clear ha424 a424
                  refine wpList_nil ?_
                  refine block_n ?_
                  refine then_n ?_
                  clear hn421 hc415
                  refine wp_region_lit ?_
                  refine wl_val ha425 rfl rfl rfl (op_move ha425 rfl rfl) ?_
                  intro a426 ha426; clear ha425 a425
                  refine wl_val ha426 rfl rfl rfl ((op_add ha426 rfl rfl rfl).int (IntWalk.i64_in _ (by omega))) ?_
                  intro a427 ha427; clear ha426 a426
                  refine wl_val ha427 rfl rfl rfl (op_assign ha427 rfl rfl) ?_
                  intro a428 ha428; clear ha427 a427
                  refine wpList_nil ?_
                  refine round_end (x := (k, d2)) ((k + 1), x363.1.2.1) ?_ ?_
                  ·
                   refine ⟨(Sl.cons_ ha428 rfl rfl (Sl.cons_ ha428 rfl rfl (Sl.cons_ ha428 rfl rfl (Sl.cons_ ha428 rfl rfl (Sl.cons_ ha428 rfl rfl (Sl.cons_ ha428 rfl rfl (Sl.cons_ ha428 rfl rfl (Sl.cons_ ha428 rfl rfl (Sl.cons_ ha428 rfl rfl (Sl.cons_ ha428 rfl rfl (Sl.cons_ ha428 rfl (int_eq (by omega)) (Sl.cons_ ha428 rfl rfl (Sl.cons_ ha428 rfl (int_eq (by omega)) (Sl.nil_ ha428)))))))))))))), hx359, hf340, hf341, hf342, hf343, hf344, hf345, hf346, hf347, hf348, hf349, (by omega), (by omega), (by exact (last_n hk1 hLk (ls_get hx379) (abs_get hE133 hx363) c390).2)⟩
                  ·show (z131.length - ((k + 1)) : Nat) < z131.length - k; omega
                ·
                 rw [decide_eq_false c390] at ha389
                 refine cond_f ha389 rfl ?_
                 refine wp_skip ?_
                 refine block_n ?_
                 refine then_n ?_
                 clear hn373 hc367 hc383
                 refine wp_region_lit ?_
                 refine wl_val ha389 rfl rfl rfl (op_move ha389 rfl rfl) ?_
                 intro a429 ha429; clear ha389 a389
                 refine wl_val ha429 rfl rfl rfl ((op_add ha429 rfl rfl rfl).int (IntWalk.i64_in _ (by omega))) ?_
                 intro a430 ha430; clear ha429 a429
                 refine wl_val ha430 rfl rfl rfl (op_assign ha430 rfl rfl) ?_
                 intro a431 ha431; clear ha430 a430
                 refine wpList_nil ?_
                 refine round_end (x := (k, d2)) ((k + 1), d2) ?_ ?_
                 ·
                  refine ⟨(Sl.cons_ ha431 rfl rfl (Sl.cons_ ha431 rfl rfl (Sl.cons_ ha431 rfl rfl (Sl.cons_ ha431 rfl rfl (Sl.cons_ ha431 rfl rfl (Sl.cons_ ha431 rfl rfl (Sl.cons_ ha431 rfl rfl (Sl.cons_ ha431 rfl rfl (Sl.cons_ ha431 rfl rfl (Sl.cons_ ha431 rfl rfl (Sl.cons_ ha431 rfl (int_eq (by omega)) (Sl.cons_ ha431 rfl rfl (Sl.cons_ ha431 rfl (int_eq (by omega)) (Sl.nil_ ha431)))))))))))))), hx359, hf340, hf341, hf342, hf343, hf344, hf345, hf346, hf347, hf348, hf349, (by omega), (by omega), (by exact hLk)⟩
                 ·show (z131.length - ((k + 1)) : Nat) < z131.length - k; omega
               ·
                rw [decide_eq_false c356] at ha355
                refine cond_f ha355 rfl ?_
                refine wp_exit ?_
                refine then_e ?_
                refine then_e ?_
                refine block_hit ?_
                refine block_n ?_
                refine then_n ?_
                refine wp_region_lit ?_
                refine wl_val ha355 rfl rfl rfl (op_move ha355 rfl rfl) ?_
                intro a432 ha432; clear ha355 a355
                refine wl_val ha432 rfl rfl rfl ((op_add ha432 rfl rfl rfl).int (IntWalk.i64_in _ (by omega))) ?_
                intro a433 ha433; clear ha432 a432
                refine wl_val ha433 rfl rfl rfl (op_assign ha433 rfl rfl) ?_
                intro a434 ha434; clear ha433 a433
                refine wpList_nil ?_
                refine round_end (x := (i, d)) ((i + 1), d2) ?_ ?_
                ·
                 refine ⟨(Sl.cons_ ha434 rfl rfl (Sl.cons_ ha434 rfl rfl (Sl.cons_ ha434 rfl rfl (Sl.cons_ ha434 rfl rfl (Sl.cons_ ha434 rfl rfl (Sl.cons_ ha434 rfl rfl (Sl.cons_ ha434 rfl rfl (Sl.cons_ ha434 rfl rfl (Sl.cons_ ha434 rfl rfl (Sl.cons_ ha434 rfl rfl (Sl.cons_ ha434 rfl (int_eq (by omega)) (Sl.cons_ ha434 rfl (int_eq (by omega)) (Sl.nil_ ha434))))))))))))), hx339, hf340, hf341, hf342, hf343, hf344, hf345, hf346, hf347, hf348, hf349, (by omega), (by exact fun _ => last_s hLk)⟩
                ·show ((if codeL ((q124)) (q125 : Int) = 0 then lsL ((q124)) (q125 : Int) else []).length - ((i + 1)) : Nat) < (if codeL ((q124)) (q125 : Int) = 0 then lsL ((q124)) (q125 : Int) else []).length - i; omega
             ·
              rw [decide_eq_false c336] at ha335
              refine cond_f ha335 rfl ?_
              refine wp_exit ?_
              refine then_e ?_
              refine then_e ?_
              refine block_hit ?_
              refine then_n ?_
              refine seq_mid (fun fr wl => Sl 249 fr [(3, u21), (4, St ((q15))), (6, u41), (7, .int .i64 (addcC ((q14)) ((q15)) (q16 : Int) : Int))] ∧ Ext w0 wl ∧ Own shCustN 55 w4.heap.size w4.heap.size w12.heap.size wl u21 z23 ∧ Nst shStr 9 (fun x : Str × Int × List Str => x.2.2) w4.heap.size w12.heap.size wl z23 ∧ Own shCustN 55 w12.heap.size w12.heap.size w39.heap.size wl u41 z43 ∧ Nst shStr 9 (fun x : Str × Int × List Str => x.2.2) w12.heap.size w39.heap.size wl z43 ∧ w313.heap.size ≤ wl.heap.size) ?_ ?_
              ·
               refine wp_seq ?_
               clear hf322 hf323 hf324
               refine wp_region_lit ?_
               refine wl_val ha335 rfl rfl rfl (op_move ha335 rfl rfl) ?_
               intro a441 ha441; clear ha335 a335
               refine wl_val ha441 rfl rfl rfl (op_eql ha441 rfl rfl rfl) ?_
               intro a442 ha442; clear ha441 a441
               refine wpList_nil ?_
               refine then_n ?_
               by_cases c443 : (if cuB ((q75)) then 0 else 1 : Int) = (0 : Int)
               ·
                rw [decide_eq_true c443] at ha442
                have hw := if01 c443
                have hpa : (if cuB q75 then pfL [] q75 else []).length = q75.length := by rw [if_pos hw]; exact pfL_nil _
                have hpb : (if cuB q75 then pfL q76 q75 else []).length ≤ q75.length := by rw [if_pos hw]; exact pfL_len _ _
                refine cond_t ha442 rfl ?_
                refine wp_seq ?_
                refine wp_region_lit ?_
                refine wl_val ha442 rfl rfl rfl (op_move ha442 rfl rfl) ?_
                intro a444 ha444; clear ha442 a442
                refine wl_callR ha444 rfl rfl rfl (op_call ha444 rfl cb24 rfl) (c_impl_WithPrefix _ u80 ((q75)) (([] : Str)) ((rds_shCustN (hf319.fin (by omega) (by omega) (by omega)) hf320).cast hE84) (by first | assumption | omega | (simp; done) | (simp; omega)) (by first | assumption | omega | (simp; done) | (simp; omega))) ?_
                rintro v445 w446 he447 ⟨v448, rfl, ho449⟩ a450 ha450; clear ha444 a444
                have hx451 := hx314.trans' he447
                have hzhx451 := he447.size
                replace hf315 := hf315.ext he447
                replace hf316 := hf316.ext he447
                replace hf317 := hf317.ext he447
                replace hf318 := hf318.ext he447
                replace hf319 := hf319.ext he447
                replace hf320 := hf320.ext he447
                replace hf321 := hf321.ext he447
                refine wl_val ha450 rfl rfl rfl (op_move ha450 rfl rfl) ?_
                intro a452 ha452; clear ha450 a450
                refine wl_val ha452 rfl rfl rfl (op_extract ha452 rfl rfl rfl) ?_
                intro a453 ha453; clear ha452 a452
                refine wl_val ha453 rfl rfl rfl (op_extract ha453 rfl rfl rfl) ?_
                intro a454 ha454; clear ha453 a453
                refine wl_val ha454 rfl rfl rfl (op_assign ha454 rfl rfl) ?_
                intro a455 ha455; clear ha454 a454
                refine wl_val ha455 rfl rfl rfl (op_assign ha455 rfl rfl) ?_
                intro a456 ha456; clear ha455 a455
                refine wpList_nil ?_
                refine then_n ?_
                refine wp_seq ?_
                refine wp_region_lit ?_
                refine wl_val ha456 rfl rfl rfl (op_move ha456 rfl rfl) ?_
                intro a457 ha457; clear ha456 a456
                refine wl_val ha457 rfl rfl rfl ((op_neq ha457 rfl rfl rfl).to (congrArg Value.bool decide_not)) ?_
                intro a458 ha458; clear ha457 a457
                refine wl_val ha458 rfl rfl rfl (op_move ha458 rfl rfl) ?_
                intro a459 ha459; clear ha458 a458
                rw [decide_eq_true c443] at ha459
                refine wl_val ha459 rfl rfl rfl (op_move ha459 rfl rfl) ?_
                intro a460 ha460; clear ha459 a459
                refine wl_val ha460 rfl rfl rfl (op_len_sl ha460 rfl Try.underlying34 rfl (ho449.rds pos_shStr)) ?_
                intro a461 ha461; clear ha460 a460
                refine wl_val ha461 rfl rfl rfl (op_move ha461 rfl rfl) ?_
                intro a462 ha462; clear ha461 a461
                refine wl_val ha462 rfl rfl rfl (op_len_sl ha462 rfl Try.underlying25 rfl (hf319.rds pos_shCustN)) ?_
                intro a463 ha463; clear ha462 a462
                refine wl_val ha463 rfl rfl rfl ((op_neq ha463 rfl rfl rfl).to (congrArg Value.bool decide_not)) ?_
                intro a464 ha464; clear ha463 a463
                refine wl_val ha464 rfl rfl rfl (op_pick_f ha464 rfl rfl rfl) ?_
                intro a465 ha465; clear ha464 a464
                refine wl_val ha465 rfl rfl rfl (op_move ha465 rfl rfl) ?_
                intro a466 ha466; clear ha465 a465
                by_cases c467 : ((((if cuB ((q75)) then pfL (([] : Str)) ((q75)) else [])).length : Nat) : Int) = ((z82.length : Nat) : Int)
                ·
                 rw [decide_eq_true c467] at ha466
                 refine wl_val ha466 rfl rfl rfl (op_move ha466 rfl rfl) ?_
                 intro a468 ha468; clear ha466 a466
                 refine wl_val ha468 rfl rfl rfl (op_len_sl ha468 rfl Try.underlying34 rfl (hf321.rds pos_shStr)) ?_
                 intro a469 ha469; clear ha468 a468
                 refine wl_val ha469 rfl rfl rfl (op_move ha469 rfl rfl) ?_
                 intro a470 ha470; clear ha469 a469
                 refine wl_val ha470 rfl rfl rfl (op_len_sl ha470 rfl Try.underlying34 rfl (ho449.rds pos_shStr)) ?_
                 intro a471 ha471; clear ha470 a470
                 refine wl_val ha471 rfl rfl rfl (op_gtr ha471 rfl rfl rfl) ?_
                 intro a472 ha472; clear ha471 a471
                 refine wl_val ha472 rfl rfl rfl (op_pick_f ha472 rfl rfl rfl) ?_
                 intro a473 ha473; clear ha472 a472
                 refine wpList_nil ?_
                 refine then_n ?_
                 by_cases c474 : ((((if cuB ((q75)) then pfL (([] : Str)) ((q75)) else [])).length : Nat) : Int) < ((((if cuB ((q75)) then pfL ((q76)) ((q75)) else [])).length : Nat) : Int)
                 ·
                  rw [decide_eq_true c474] at ha473
                  refine cond_t ha473 rfl ?_
                  refine wp_seq ?_
                  clear hf315 hf316 hf317 hf318 hf319 hf320 hf321 ho449
                  refine wp_region_lit ?_
                  refine wl_val ha473 rfl rfl rfl (op_assign ha473 rfl rfl) ?_
                  intro a475 ha475; clear ha473 a473
                  refine wpList_nil ?_
                  refine then_n ?_
                  refine wp_ret ?_
                  refine ret1 ha475 rfl rfl ?_
                  clear ha475 a475
                  exact ret_mk hx451 (congrArg Value.bool (by first | rfl | (exact absurd rfl c336) | (simp at c8; done) | (rw [decide_eq_true_eq]; omega) | (exact absurd (if_pos ha1) c336) | (rw [ha1] at c336; cases c336) | (rw [if_pos ha1] at c336; simp [ha4] at c336; done) | (exact absurd (if_pos ha1) c8) | (rw [ha1] at c8; cases c8) | (rw [if_pos ha1] at c8; simp [ha4] at c8; done) | omega))
                 ·
                  rw [decide_eq_false c474] at ha473
                  refine cond_f ha473 rfl ?_
                  refine wp_skip ?_
                  refine then_n ?_
                  refine ⟨(Sl.cons_ ha473 rfl rfl (Sl.cons_ ha473 rfl rfl (Sl.cons_ ha473 rfl rfl (Sl.cons_ ha473 rfl rfl (Sl.nil_ ha473))))), hx451, hf315, hf316, hf317, hf318, (by omega)⟩
                ·
                 rw [decide_eq_false c467] at ha466
                 refine wl_skip ha466 rfl rfl rfl ?_
                 intro a476 ha476; clear ha466 a466
                 refine wl_skip ha476 rfl rfl rfl ?_
                 intro a477 ha477; clear ha476 a476
                 refine wl_skip ha477 rfl rfl rfl ?_
                 intro a478 ha478; clear ha477 a477
                 refine wl_skip ha478 rfl rfl rfl ?_
                 intro a479 ha479; clear ha478 a478
                 refine wl_skip ha479 rfl rfl rfl ?_
                 intro a480 ha480; clear ha479 a479
                 refine wl_val ha480 rfl rfl rfl (op_pick_t ha480 rfl rfl rfl) ?_
                 intro a481 ha481; clear ha480 a480
                 refine wpList_nil ?_
                 refine then_n ?_
                 refine cond_t ha481 rfl ?_
                 refine wp_seq ?_
                 clear hf315 hf316 hf317 hf318 hf319 hf320 hf321 ho449
                 refine wp_region_lit ?_
                 refine wl_val ha481 rfl rfl rfl (op_assign ha481 rfl rfl) ?_
                 intro a482 ha482; clear ha481 a481
                 refine wpList_nil ?_
                 refine then_n ?_
                 refine wp_ret ?_
                 refine ret1 ha482 rfl rfl ?_
                 clear ha482 a482
                 exact ret_mk hx451 (congrArg Value.bool (by first | rfl | (exact absurd rfl c467) | (exact absurd rfl c336) | (simp at c8; done) | (rw [decide_eq_true_eq]; omega) | (exact absurd (if_pos ha1) c467) | (rw [ha1] at c467; cases c467) | (rw [if_pos ha1] at c467; simp [ha4] at c467; done) | (exact absurd (if_pos ha1) c336) | (rw [ha1] at c336; cases c336) | (rw [if_pos ha1] at c336; simp [ha4] at c336; done) | (exact absurd (if_pos ha1) c8) | (rw [ha1] at c8; cases c8) | (rw [if_pos ha1] at c8; simp [ha4] at c8; done) | omega))
               ·
                rw [decide_eq_false c443] at ha442
                refine cond_f ha442 rfl ?_
                refine wp_skip ?_
                refine then_n ?_
                refine ⟨(Sl.cons_ ha442 rfl rfl (Sl.cons_ ha442 rfl rfl (Sl.cons_ ha442 rfl rfl (Sl.cons_ ha442 rfl rfl (Sl.nil_ ha442))))), hx314, hf315, hf316, hf317, hf318, (by omega)⟩
              ·
               clear ha335 a335
               rintro a483 w435 ⟨ha483, hx436, hf437, hf438, hf439, hf440, hzl484⟩
               have hzhx436 := hx436.size
               refine wp_seq ?_
               refine wp_seq ?_
               refine wp_region_lit ?_
               refine wl_val ha483 rfl rfl rfl (op_move ha483 rfl rfl) ?_
               intro a485 ha485; clear ha483 a483
               refine wl_val ha485 rfl rfl rfl ((op_neq ha485 rfl rfl rfl).to (congrArg Value.bool decide_not)) ?_
               intro a486 ha486; clear ha485 a485
               refine wpList_nil ?_
               refine then_n ?_
               by_cases c487 : (addcC ((q14)) ((q15)) (q16 : Int) : Int) = (0 : Int)
               ·
                rw [decide_eq_true c487] at ha486
                obtain ⟨ha1, ha2, ha3, ha4⟩ := ad_all c487
                refine cond_f ha486 rfl ?_
                refine wp_skip ?_
                refine then_n ?_
                refine wp_seq ?_
                refine wp_region_lit ?_
                refine wl_val ha486 rfl rfl rfl (op_move ha486 rfl rfl) ?_
                intro a488 ha488; clear ha486 a486
                refine wl_val ha488 rfl rfl rfl (op_move ha488 rfl rfl) ?_
                intro a489 ha489; clear ha488 a488
                refine wl_val ha489 rfl rfl rfl (op_slice_str_t (j := 1) (by omega) ha489 rfl Try.underlying9 rfl rfl (by omega)) ?_
                intro a490 ha490; clear ha489 a489
                refine wl_callR ha490 rfl rfl rfl (op_call ha490 rfl cb24 rfl) (c_impl_WithPrefix _ u41 ((addcL ((q14)) ((q15)) (q16 : Int))) (((q15)).take 1) ((rds_shCustN (hf439.fin (by omega) (by omega) (by omega)) hf440).cast hE45) (by first | assumption | omega | (simp; done) | (simp; omega)) (by first | assumption | omega | (simp; done) | (simp; omega))) ?_
                rintro v491 w492 he493 ⟨v494, rfl, ho495⟩ a496 ha496; clear ha490 a490
                have hx497 := hx436.trans' he493
                have hzhx497 := he493.size
                replace hf437 := hf437.ext he493
                replace hf438 := hf438.ext he493
                replace hf439 := hf439.ext he493
                replace hf440 := hf440.ext he493
                refine wl_val ha496 rfl rfl rfl (op_move ha496 rfl rfl) ?_
                intro a498 ha498; clear ha496 a496
                refine wl_val ha498 rfl rfl rfl (op_extract ha498 rfl rfl rfl) ?_
                intro a499 ha499; clear ha498 a498
                refine wl_val ha499 rfl rfl rfl (op_extract ha499 rfl rfl rfl) ?_
                intro a500 ha500; clear ha499 a499
                refine wl_val ha500 rfl rfl rfl (op_assign ha500 rfl rfl) ?_
                intro a501 ha501; clear ha500 a500
                refine wl_val ha501 rfl rfl rfl (op_assign ha501 rfl rfl) ?_
                intro a502 ha502; clear ha501 a501
                refine wpList_nil ?_
                refine then_n ?_
                refine wp_seq ?_
                refine wp_region_lit ?_
                refine wl_val ha502 rfl rfl rfl (op_move ha502 rfl rfl) ?_
                intro a503 ha503; clear ha502 a502
                refine wl_val ha503 rfl rfl rfl (op_eql ha503 rfl rfl rfl) ?_
                intro a504 ha504; clear ha503 a503
                refine wl_val ha504 rfl rfl rfl (op_move ha504 rfl rfl) ?_
                intro a505 ha505; clear ha504 a504
                by_cases c506 : (if cuB ((addcL ((q14)) ((q15)) (q16 : Int))) then 0 else 1 : Int) = (0 : Int)
                ·
                 rw [decide_eq_true c506] at ha505
                 refine wl_val ha505 rfl rfl rfl (op_move ha505 rfl rfl) ?_
                 intro a507 ha507; clear ha505 a505
                 refine wl_val ha507 rfl rfl rfl (op_move ha507 rfl rfl) ?_
                 intro a508 ha508; clear ha507 a507
                 refine wl_callR ha508 rfl rfl rfl (op_call ha508 rfl cb47 rfl) (c_laws_hasText _ v494 ((if cuB ((addcL ((q14)) ((q15)) (q16 : Int))) then pfL (((q15)).take 1) ((addcL ((q14)) ((q15)) (q16 : Int))) else [])) ((q15)) (ho495.rds pos_shStr)) ?_
                 rintro v509 w510 he511 rfl a512 ha512; clear ha508 a508
                 have hx513 := hx497.trans' he511
                 have hzhx513 := he511.size
                 replace hf437 := hf437.ext he511
                 replace hf438 := hf438.ext he511
                 replace hf439 := hf439.ext he511
                 replace hf440 := hf440.ext he511
                 replace ho495 := ho495.ext he511
                 refine wl_val ha512 rfl rfl rfl (op_pick_t ha512 rfl rfl rfl) ?_
                 intro a514 ha514; clear ha512 a512
                 refine wl_val ha514 rfl rfl rfl (op_move ha514 rfl rfl) ?_
                 intro a515 ha515; clear ha514 a514
                 rcases Bool.eq_false_or_eq_true (decide (((q15)) ∈ ((if cuB ((addcL ((q14)) ((q15)) (q16 : Int))) then pfL (((q15)).take 1) ((addcL ((q14)) ((q15)) (q16 : Int))) else [])))) with c516 | c516
                 ·
                  rw [c516] at ha515
                  refine wl_val ha515 rfl rfl rfl (op_move ha515 rfl rfl) ?_
                  intro a517 ha517; clear ha515 a515
                  refine wl_callR ha517 rfl rfl rfl (op_call ha517 rfl cb17 rfl) (c_impl_AreCustomers _ u41 ((addcL ((q14)) ((q15)) (q16 : Int))) ((rds_shCustN (hf439.fin (by omega) (by omega) (by omega)) hf440).cast hE45) (by first | assumption | omega | (simp; done) | (simp; omega))) ?_
                  rintro v518 w519 he520 rfl a521 ha521; clear ha517 a517
                  have hx522 := hx513.trans' he520
                  have hzhx522 := he520.size
                  replace hf437 := hf437.ext he520
                  replace hf438 := hf438.ext he520
                  replace hf439 := hf439.ext he520
                  replace hf440 := hf440.ext he520
                  replace ho495 := ho495.ext he520
                  refine wl_val ha521 rfl rfl rfl (op_pick_t ha521 rfl rfl rfl) ?_
                  intro a523 ha523; clear ha521 a521
                  refine wl_val ha523 rfl rfl rfl (op_move ha523 rfl rfl) ?_
                  intro a524 ha524; clear ha523 a523
                  rcases Bool.eq_false_or_eq_true (cuB ((addcL ((q14)) ((q15)) (q16 : Int)))) with c525 | c525
                  ·
                   rw [c525] at ha524
                   refine wl_val ha524 rfl rfl rfl (op_move ha524 rfl rfl) ?_
                   intro a526 ha526; clear ha524 a524
                   refine wl_val ha526 rfl rfl rfl (op_len_sl ha526 rfl Try.underlying25 rfl (hf439.rds pos_shCustN)) ?_
                   intro a527 ha527; clear ha526 a526
                   refine wl_val ha527 rfl rfl rfl (op_move ha527 rfl rfl) ?_
                   intro a528 ha528; clear ha527 a527
                   refine wl_val ha528 rfl rfl rfl (op_len_sl ha528 rfl Try.underlying25 rfl (hf437.rds pos_shCustN)) ?_
                   intro a529 ha529; clear ha528 a528
                   refine wl_val ha529 rfl rfl rfl ((op_add ha529 rfl rfl rfl).int (IntWalk.i64_in _ (by omega))) ?_
                   intro a530 ha530; clear ha529 a529
                   refine wl_val ha530 rfl rfl rfl (op_eql ha530 rfl rfl rfl) ?_
                   intro a531 ha531; clear ha530 a530
                   refine wl_val ha531 rfl rfl rfl (op_pick_t ha531 rfl rfl rfl) ?_
                   intro a532 ha532; clear ha531 a531
                   refine wl_val ha532 rfl rfl rfl (op_assign ha532 rfl rfl) ?_
                   intro a533 ha533; clear ha532 a532
                   refine wpList_nil ?_
                   refine then_n ?_
                   refine wp_ret ?_
                   refine ret1 ha533 rfl rfl ?_
                   clear ha533 a533
                   exact ret_mk hx522 (congrArg Value.bool (by first | rfl | (simp at c516; done) | (exact absurd rfl c336) | (simp at c8; done) | (rw [decide_eq_true_eq]; omega) | (exact absurd (if_pos ha1) c336) | (rw [ha1] at c336; cases c336) | (rw [if_pos ha1] at c336; simp [ha4] at c336; done) | (exact absurd (if_pos ha1) c8) | (rw [ha1] at c8; cases c8) | (rw [if_pos ha1] at c8; simp [ha4] at c8; done) | omega))
                  ·
                   rw [c525] at ha524
                   refine wl_skip ha524 rfl rfl rfl ?_
                   intro a534 ha534; clear ha524 a524
                   refine wl_skip ha534 rfl rfl rfl ?_
                   intro a535 ha535; clear ha534 a534
                   refine wl_skip ha535 rfl rfl rfl ?_
                   intro a536 ha536; clear ha535 a535
                   refine wl_skip ha536 rfl rfl rfl ?_
                   intro a537 ha537; clear ha536 a536
                   refine wl_skip ha537 rfl rfl rfl ?_
                   intro a538 ha538; clear ha537 a537
                   refine wl_skip ha538 rfl rfl rfl ?_
                   intro a539 ha539; clear ha538 a538
                   refine wl_val ha539 rfl rfl rfl (op_pick_f ha539 rfl rfl rfl) ?_
                   intro a540 ha540; clear ha539 a539
                   refine wl_val ha540 rfl rfl rfl (op_assign ha540 rfl rfl) ?_
                   intro a541 ha541; clear ha540 a540
                   refine wpList_nil ?_
                   refine then_n ?_
                   refine wp_ret ?_
                   refine ret1 ha541 rfl rfl ?_
                   clear ha541 a541
                   exact ret_mk hx522 (congrArg Value.bool (by first | rfl | (simp at c516; done) | (exact absurd rfl c336) | (simp at c8; done) | (rw [decide_eq_true_eq]; omega) | (exact absurd (if_pos ha1) c525) | (rw [ha1] at c525; cases c525) | (rw [if_pos ha1] at c525; simp [ha4] at c525; done) | (exact absurd (if_pos ha1) c336) | (rw [ha1] at c336; cases c336) | (rw [if_pos ha1] at c336; simp [ha4] at c336; done) | (exact absurd (if_pos ha1) c8) | (rw [ha1] at c8; cases c8) | (rw [if_pos ha1] at c8; simp [ha4] at c8; done) | omega))
                 ·
                  rw [c516] at ha515
                  refine wl_skip ha515 rfl rfl rfl ?_
                  intro a542 ha542; clear ha515 a515
                  refine wl_skip ha542 rfl rfl rfl ?_
                  intro a543 ha543; clear ha542 a542
                  refine wl_val ha543 rfl rfl rfl (op_pick_f ha543 rfl rfl rfl) ?_
                  intro a544 ha544; clear ha543 a543
                  refine wl_val ha544 rfl rfl rfl (op_move ha544 rfl rfl) ?_
                  intro a545 ha545; clear ha544 a544
                  refine wl_skip ha545 rfl rfl rfl ?_
                  intro a546 ha546; clear ha545 a545
                  refine wl_skip ha546 rfl rfl rfl ?_
                  intro a547 ha547; clear ha546 a546
                  refine wl_skip ha547 rfl rfl rfl ?_
                  intro a548 ha548; clear ha547 a547
                  refine wl_skip ha548 rfl rfl rfl ?_
                  intro a549 ha549; clear ha548 a548
                  refine wl_skip ha549 rfl rfl rfl ?_
                  intro a550 ha550; clear ha549 a549
                  refine wl_skip ha550 rfl rfl rfl ?_
                  intro a551 ha551; clear ha550 a550
                  refine wl_val ha551 rfl rfl rfl (op_pick_f ha551 rfl rfl rfl) ?_
                  intro a552 ha552; clear ha551 a551
                  refine wl_val ha552 rfl rfl rfl (op_assign ha552 rfl rfl) ?_
                  intro a553 ha553; clear ha552 a552
                  refine wpList_nil ?_
                  refine then_n ?_
                  refine wp_ret ?_
                  refine ret1 ha553 rfl rfl ?_
                  clear ha553 a553
                  exact ret_mk hx513 (congrArg Value.bool (by first | rfl | (simp at c516; done) | (exact absurd rfl c336) | (simp at c8; done) | (rw [decide_eq_true_eq]; omega) | (exact absurd (if_pos ha1) c516) | (rw [ha1] at c516; cases c516) | (rw [if_pos ha1] at c516; simp [ha4] at c516; done) | (exact absurd (if_pos ha1) c336) | (rw [ha1] at c336; cases c336) | (rw [if_pos ha1] at c336; simp [ha4] at c336; done) | (exact absurd (if_pos ha1) c8) | (rw [ha1] at c8; cases c8) | (rw [if_pos ha1] at c8; simp [ha4] at c8; done) | omega))
                ·
                 rw [decide_eq_false c506] at ha505
                 refine wl_skip ha505 rfl rfl rfl ?_
                 intro a554 ha554; clear ha505 a505
                 refine wl_skip ha554 rfl rfl rfl ?_
                 intro a555 ha555; clear ha554 a554
                 refine wl_skip ha555 rfl rfl rfl ?_
                 intro a556 ha556; clear ha555 a555
                 refine wl_val ha556 rfl rfl rfl (op_pick_f ha556 rfl rfl rfl) ?_
                 intro a557 ha557; clear ha556 a556
                 refine wl_val ha557 rfl rfl rfl (op_move ha557 rfl rfl) ?_
                 intro a558 ha558; clear ha557 a557
                 refine wl_skip ha558 rfl rfl rfl ?_
                 intro a559 ha559; clear ha558 a558
                 refine wl_skip ha559 rfl rfl rfl ?_
                 intro a560 ha560; clear ha559 a559
                 refine wl_val ha560 rfl rfl rfl (op_pick_f ha560 rfl rfl rfl) ?_
                 intro a561 ha561; clear ha560 a560
                 refine wl_val ha561 rfl rfl rfl (op_move ha561 rfl rfl) ?_
                 intro a562 ha562; clear ha561 a561
                 refine wl_skip ha562 rfl rfl rfl ?_
                 intro a563 ha563; clear ha562 a562
                 refine wl_skip ha563 rfl rfl rfl ?_
                 intro a564 ha564; clear ha563 a563
                 refine wl_skip ha564 rfl rfl rfl ?_
                 intro a565 ha565; clear ha564 a564
                 refine wl_skip ha565 rfl rfl rfl ?_
                 intro a566 ha566; clear ha565 a565
                 refine wl_skip ha566 rfl rfl rfl ?_
                 intro a567 ha567; clear ha566 a566
                 refine wl_skip ha567 rfl rfl rfl ?_
                 intro a568 ha568; clear ha567 a567
                 refine wl_val ha568 rfl rfl rfl (op_pick_f ha568 rfl rfl rfl) ?_
                 intro a569 ha569; clear ha568 a568
                 refine wl_val ha569 rfl rfl rfl (op_assign ha569 rfl rfl) ?_
                 intro a570 ha570; clear ha569 a569
                 refine wpList_nil ?_
                 refine then_n ?_
                 refine wp_ret ?_
                 refine ret1 ha570 rfl rfl ?_
                 clear ha570 a570
                 exact ret_mk hx497 (congrArg Value.bool (by first | rfl | (exact absurd rfl c506) | (exact absurd rfl c336) | (simp at c8; done) | (rw [decide_eq_true_eq]; omega) | (exact absurd (if_pos ha1) c506) | (rw [ha1] at c506; cases c506) | (rw [if_pos ha1] at c506; simp [ha4] at c506; done) | (exact absurd (if_pos ha1) c336) | (rw [ha1] at c336; cases c336) | (rw [if_pos ha1] at c336; simp [ha4] at c336; done) | (exact absurd (if_pos ha1) c8) | (rw [ha1] at c8; cases c8) | (rw [if_pos ha1] at c8; simp [ha4] at c8; done) | omega))
               ·
                rw [decide_eq_false c487] at ha486
                refine cond_t ha486 rfl ?_
                refine wp_seq ?_
                clear hf437 hf438 hf439 hf440
                refine wp_region_lit ?_
                refine wl_val ha486 rfl rfl rfl (op_assign ha486 rfl rfl) ?_
                intro a571 ha571; clear ha486 a486
                refine wpList_nil ?_
                refine then_n ?_
                refine wp_ret ?_
                refine then_r ?_
                refine ret1 ha571 rfl rfl ?_
                clear ha571 a571
                exact ret_mk hx436 (congrArg Value.bool (by first | rfl | (exact absurd rfl c487) | (exact absurd rfl c336) | (simp at c8; done) | (rw [decide_eq_true_eq]; omega) | (exact absurd (if_pos ha1) c487) | (rw [ha1] at c487; cases c487) | (rw [if_pos ha1] at c487; simp [ha4] at c487; done) | (exact absurd (if_pos ha1) c336) | (rw [ha1] at c336; cases c336) | (rw [if_pos ha1] at c336; simp [ha4] at c336; done) | (exact absurd (if_pos ha1) c8) | (rw [ha1] at c8; cases c8) | (rw [if_pos ha1] at c8; simp [ha4] at c8; done) | omega))
            ·
             rw [decide_eq_false c330] at ha329
             refine wl_skip ha329 rfl rfl rfl ?_
             intro a572 ha572; clear ha329 a329
             refine wl_skip ha572 rfl rfl rfl ?_
             intro a573 ha573; clear ha572 a572
             refine wl_skip ha573 rfl rfl rfl ?_
             intro a574 ha574; clear ha573 a573
             refine wl_skip ha574 rfl rfl rfl ?_
             intro a575 ha575; clear ha574 a574
             refine wl_val ha575 rfl rfl rfl (op_pick_f ha575 rfl rfl rfl) ?_
             intro a576 ha576; clear ha575 a575
             refine wpList_nil ?_
             refine then_n ?_
             refine cond_f ha576 rfl ?_
             refine wp_exit ?_
             refine then_e ?_
             refine then_e ?_
             refine block_hit ?_
             refine then_n ?_
             refine seq_mid (fun fr wl => Sl 249 fr [(3, u21), (4, St ((q15))), (6, u41), (7, .int .i64 (addcC ((q14)) ((q15)) (q16 : Int) : Int))] ∧ Ext w0 wl ∧ Own shCustN 55 w4.heap.size w4.heap.size w12.heap.size wl u21 z23 ∧ Nst shStr 9 (fun x : Str × Int × List Str => x.2.2) w4.heap.size w12.heap.size wl z23 ∧ Own shCustN 55 w12.heap.size w12.heap.size w39.heap.size wl u41 z43 ∧ Nst shStr 9 (fun x : Str × Int × List Str => x.2.2) w12.heap.size w39.heap.size wl z43 ∧ w313.heap.size ≤ wl.heap.size) ?_ ?_
             ·
              refine wp_seq ?_
              clear hf322 hf323 hf324
              refine wp_region_lit ?_
              refine wl_val ha576 rfl rfl rfl (op_move ha576 rfl rfl) ?_
              intro a583 ha583; clear ha576 a576
              refine wl_val ha583 rfl rfl rfl (op_eql ha583 rfl rfl rfl) ?_
              intro a584 ha584; clear ha583 a583
              refine wpList_nil ?_
              refine then_n ?_
              by_cases c585 : (if cuB ((q75)) then 0 else 1 : Int) = (0 : Int)
              ·
               rw [decide_eq_true c585] at ha584
               have hw := if01 c585
               have hpa : (if cuB q75 then pfL [] q75 else []).length = q75.length := by rw [if_pos hw]; exact pfL_nil _
               have hpb : (if cuB q75 then pfL q76 q75 else []).length ≤ q75.length := by rw [if_pos hw]; exact pfL_len _ _
               refine cond_t ha584 rfl ?_
               refine wp_seq ?_
               refine wp_region_lit ?_
               refine wl_val ha584 rfl rfl rfl (op_move ha584 rfl rfl) ?_
               intro a586 ha586; clear ha584 a584
               refine wl_callR ha586 rfl rfl rfl (op_call ha586 rfl cb24 rfl) (c_impl_WithPrefix _ u80 ((q75)) (([] : Str)) ((rds_shCustN (hf319.fin (by omega) (by omega) (by omega)) hf320).cast hE84) (by first | assumption | omega | (simp; done) | (simp; omega)) (by first | assumption | omega | (simp; done) | (simp; omega))) ?_
               rintro v587 w588 he589 ⟨v590, rfl, ho591⟩ a592 ha592; clear ha586 a586
               have hx593 := hx314.trans' he589
               have hzhx593 := he589.size
               replace hf315 := hf315.ext he589
               replace hf316 := hf316.ext he589
               replace hf317 := hf317.ext he589
               replace hf318 := hf318.ext he589
               replace hf319 := hf319.ext he589
               replace hf320 := hf320.ext he589
               replace hf321 := hf321.ext he589
               refine wl_val ha592 rfl rfl rfl (op_move ha592 rfl rfl) ?_
               intro a594 ha594; clear ha592 a592
               refine wl_val ha594 rfl rfl rfl (op_extract ha594 rfl rfl rfl) ?_
               intro a595 ha595; clear ha594 a594
               refine wl_val ha595 rfl rfl rfl (op_extract ha595 rfl rfl rfl) ?_
               intro a596 ha596; clear ha595 a595
               refine wl_val ha596 rfl rfl rfl (op_assign ha596 rfl rfl) ?_
               intro a597 ha597; clear ha596 a596
               refine wl_val ha597 rfl rfl rfl (op_assign ha597 rfl rfl) ?_
               intro a598 ha598; clear ha597 a597
               refine wpList_nil ?_
               refine then_n ?_
               refine wp_seq ?_
               refine wp_region_lit ?_
               refine wl_val ha598 rfl rfl rfl (op_move ha598 rfl rfl) ?_
               intro a599 ha599; clear ha598 a598
               refine wl_val ha599 rfl rfl rfl ((op_neq ha599 rfl rfl rfl).to (congrArg Value.bool decide_not)) ?_
               intro a600 ha600; clear ha599 a599
               refine wl_val ha600 rfl rfl rfl (op_move ha600 rfl rfl) ?_
               intro a601 ha601; clear ha600 a600
               rw [decide_eq_true c585] at ha601
               refine wl_val ha601 rfl rfl rfl (op_move ha601 rfl rfl) ?_
               intro a602 ha602; clear ha601 a601
               refine wl_val ha602 rfl rfl rfl (op_len_sl ha602 rfl Try.underlying34 rfl (ho591.rds pos_shStr)) ?_
               intro a603 ha603; clear ha602 a602
               refine wl_val ha603 rfl rfl rfl (op_move ha603 rfl rfl) ?_
               intro a604 ha604; clear ha603 a603
               refine wl_val ha604 rfl rfl rfl (op_len_sl ha604 rfl Try.underlying25 rfl (hf319.rds pos_shCustN)) ?_
               intro a605 ha605; clear ha604 a604
               refine wl_val ha605 rfl rfl rfl ((op_neq ha605 rfl rfl rfl).to (congrArg Value.bool decide_not)) ?_
               intro a606 ha606; clear ha605 a605
               refine wl_val ha606 rfl rfl rfl (op_pick_f ha606 rfl rfl rfl) ?_
               intro a607 ha607; clear ha606 a606
               refine wl_val ha607 rfl rfl rfl (op_move ha607 rfl rfl) ?_
               intro a608 ha608; clear ha607 a607
               by_cases c609 : ((((if cuB ((q75)) then pfL (([] : Str)) ((q75)) else [])).length : Nat) : Int) = ((z82.length : Nat) : Int)
               ·
                rw [decide_eq_true c609] at ha608
                refine wl_val ha608 rfl rfl rfl (op_move ha608 rfl rfl) ?_
                intro a610 ha610; clear ha608 a608
                refine wl_val ha610 rfl rfl rfl (op_len_sl ha610 rfl Try.underlying34 rfl (hf321.rds pos_shStr)) ?_
                intro a611 ha611; clear ha610 a610
                refine wl_val ha611 rfl rfl rfl (op_move ha611 rfl rfl) ?_
                intro a612 ha612; clear ha611 a611
                refine wl_val ha612 rfl rfl rfl (op_len_sl ha612 rfl Try.underlying34 rfl (ho591.rds pos_shStr)) ?_
                intro a613 ha613; clear ha612 a612
                refine wl_val ha613 rfl rfl rfl (op_gtr ha613 rfl rfl rfl) ?_
                intro a614 ha614; clear ha613 a613
                refine wl_val ha614 rfl rfl rfl (op_pick_f ha614 rfl rfl rfl) ?_
                intro a615 ha615; clear ha614 a614
                refine wpList_nil ?_
                refine then_n ?_
                by_cases c616 : ((((if cuB ((q75)) then pfL (([] : Str)) ((q75)) else [])).length : Nat) : Int) < ((((if cuB ((q75)) then pfL ((q76)) ((q75)) else [])).length : Nat) : Int)
                ·
                 rw [decide_eq_true c616] at ha615
                 refine cond_t ha615 rfl ?_
                 refine wp_seq ?_
                 clear hf315 hf316 hf317 hf318 hf319 hf320 hf321 ho591
                 refine wp_region_lit ?_
                 refine wl_val ha615 rfl rfl rfl (op_assign ha615 rfl rfl) ?_
                 intro a617 ha617; clear ha615 a615
                 refine wpList_nil ?_
                 refine then_n ?_
                 refine wp_ret ?_
                 refine ret1 ha617 rfl rfl ?_
                 clear ha617 a617
                 exact ret_mk hx593 (congrArg Value.bool (by first | rfl | (exact absurd rfl c330) | (simp at c8; done) | (rw [decide_eq_true_eq]; omega) | (exact absurd (if_pos ha1) c330) | (rw [ha1] at c330; cases c330) | (rw [if_pos ha1] at c330; simp [ha4] at c330; done) | (exact absurd (if_pos ha1) c8) | (rw [ha1] at c8; cases c8) | (rw [if_pos ha1] at c8; simp [ha4] at c8; done) | omega))
                ·
                 rw [decide_eq_false c616] at ha615
                 refine cond_f ha615 rfl ?_
                 refine wp_skip ?_
                 refine then_n ?_
                 refine ⟨(Sl.cons_ ha615 rfl rfl (Sl.cons_ ha615 rfl rfl (Sl.cons_ ha615 rfl rfl (Sl.cons_ ha615 rfl rfl (Sl.nil_ ha615))))), hx593, hf315, hf316, hf317, hf318, (by omega)⟩
               ·
                rw [decide_eq_false c609] at ha608
                refine wl_skip ha608 rfl rfl rfl ?_
                intro a618 ha618; clear ha608 a608
                refine wl_skip ha618 rfl rfl rfl ?_
                intro a619 ha619; clear ha618 a618
                refine wl_skip ha619 rfl rfl rfl ?_
                intro a620 ha620; clear ha619 a619
                refine wl_skip ha620 rfl rfl rfl ?_
                intro a621 ha621; clear ha620 a620
                refine wl_skip ha621 rfl rfl rfl ?_
                intro a622 ha622; clear ha621 a621
                refine wl_val ha622 rfl rfl rfl (op_pick_t ha622 rfl rfl rfl) ?_
                intro a623 ha623; clear ha622 a622
                refine wpList_nil ?_
                refine then_n ?_
                refine cond_t ha623 rfl ?_
                refine wp_seq ?_
                clear hf315 hf316 hf317 hf318 hf319 hf320 hf321 ho591
                refine wp_region_lit ?_
                refine wl_val ha623 rfl rfl rfl (op_assign ha623 rfl rfl) ?_
                intro a624 ha624; clear ha623 a623
                refine wpList_nil ?_
                refine then_n ?_
                refine wp_ret ?_
                refine ret1 ha624 rfl rfl ?_
                clear ha624 a624
                exact ret_mk hx593 (congrArg Value.bool (by first | rfl | (exact absurd rfl c609) | (exact absurd rfl c330) | (simp at c8; done) | (rw [decide_eq_true_eq]; omega) | (exact absurd (if_pos ha1) c609) | (rw [ha1] at c609; cases c609) | (rw [if_pos ha1] at c609; simp [ha4] at c609; done) | (exact absurd (if_pos ha1) c330) | (rw [ha1] at c330; cases c330) | (rw [if_pos ha1] at c330; simp [ha4] at c330; done) | (exact absurd (if_pos ha1) c8) | (rw [ha1] at c8; cases c8) | (rw [if_pos ha1] at c8; simp [ha4] at c8; done) | omega))
              ·
               rw [decide_eq_false c585] at ha584
               refine cond_f ha584 rfl ?_
               refine wp_skip ?_
               refine then_n ?_
               refine ⟨(Sl.cons_ ha584 rfl rfl (Sl.cons_ ha584 rfl rfl (Sl.cons_ ha584 rfl rfl (Sl.cons_ ha584 rfl rfl (Sl.nil_ ha584))))), hx314, hf315, hf316, hf317, hf318, (by omega)⟩
             ·
              clear ha576 a576
              rintro a625 w577 ⟨ha625, hx578, hf579, hf580, hf581, hf582, hzl626⟩
              have hzhx578 := hx578.size
              refine wp_seq ?_
              refine wp_seq ?_
              refine wp_region_lit ?_
              refine wl_val ha625 rfl rfl rfl (op_move ha625 rfl rfl) ?_
              intro a627 ha627; clear ha625 a625
              refine wl_val ha627 rfl rfl rfl ((op_neq ha627 rfl rfl rfl).to (congrArg Value.bool decide_not)) ?_
              intro a628 ha628; clear ha627 a627
              refine wpList_nil ?_
              refine then_n ?_
              by_cases c629 : (addcC ((q14)) ((q15)) (q16 : Int) : Int) = (0 : Int)
              ·
               rw [decide_eq_true c629] at ha628
               obtain ⟨ha1, ha2, ha3, ha4⟩ := ad_all c629
               refine cond_f ha628 rfl ?_
               refine wp_skip ?_
               refine then_n ?_
               refine wp_seq ?_
               refine wp_region_lit ?_
               refine wl_val ha628 rfl rfl rfl (op_move ha628 rfl rfl) ?_
               intro a630 ha630; clear ha628 a628
               refine wl_val ha630 rfl rfl rfl (op_move ha630 rfl rfl) ?_
               intro a631 ha631; clear ha630 a630
               refine wl_val ha631 rfl rfl rfl (op_slice_str_t (j := 1) (by omega) ha631 rfl Try.underlying9 rfl rfl (by omega)) ?_
               intro a632 ha632; clear ha631 a631
               refine wl_callR ha632 rfl rfl rfl (op_call ha632 rfl cb24 rfl) (c_impl_WithPrefix _ u41 ((addcL ((q14)) ((q15)) (q16 : Int))) (((q15)).take 1) ((rds_shCustN (hf581.fin (by omega) (by omega) (by omega)) hf582).cast hE45) (by first | assumption | omega | (simp; done) | (simp; omega)) (by first | assumption | omega | (simp; done) | (simp; omega))) ?_
               rintro v633 w634 he635 ⟨v636, rfl, ho637⟩ a638 ha638; clear ha632 a632
               have hx639 := hx578.trans' he635
               have hzhx639 := he635.size
               replace hf579 := hf579.ext he635
               replace hf580 := hf580.ext he635
               replace hf581 := hf581.ext he635
               replace hf582 := hf582.ext he635
               refine wl_val ha638 rfl rfl rfl (op_move ha638 rfl rfl) ?_
               intro a640 ha640; clear ha638 a638
               refine wl_val ha640 rfl rfl rfl (op_extract ha640 rfl rfl rfl) ?_
               intro a641 ha641; clear ha640 a640
               refine wl_val ha641 rfl rfl rfl (op_extract ha641 rfl rfl rfl) ?_
               intro a642 ha642; clear ha641 a641
               refine wl_val ha642 rfl rfl rfl (op_assign ha642 rfl rfl) ?_
               intro a643 ha643; clear ha642 a642
               refine wl_val ha643 rfl rfl rfl (op_assign ha643 rfl rfl) ?_
               intro a644 ha644; clear ha643 a643
               refine wpList_nil ?_
               refine then_n ?_
               refine wp_seq ?_
               refine wp_region_lit ?_
               refine wl_val ha644 rfl rfl rfl (op_move ha644 rfl rfl) ?_
               intro a645 ha645; clear ha644 a644
               refine wl_val ha645 rfl rfl rfl (op_eql ha645 rfl rfl rfl) ?_
               intro a646 ha646; clear ha645 a645
               refine wl_val ha646 rfl rfl rfl (op_move ha646 rfl rfl) ?_
               intro a647 ha647; clear ha646 a646
               by_cases c648 : (if cuB ((addcL ((q14)) ((q15)) (q16 : Int))) then 0 else 1 : Int) = (0 : Int)
               ·
                rw [decide_eq_true c648] at ha647
                refine wl_val ha647 rfl rfl rfl (op_move ha647 rfl rfl) ?_
                intro a649 ha649; clear ha647 a647
                refine wl_val ha649 rfl rfl rfl (op_move ha649 rfl rfl) ?_
                intro a650 ha650; clear ha649 a649
                refine wl_callR ha650 rfl rfl rfl (op_call ha650 rfl cb47 rfl) (c_laws_hasText _ v636 ((if cuB ((addcL ((q14)) ((q15)) (q16 : Int))) then pfL (((q15)).take 1) ((addcL ((q14)) ((q15)) (q16 : Int))) else [])) ((q15)) (ho637.rds pos_shStr)) ?_
                rintro v651 w652 he653 rfl a654 ha654; clear ha650 a650
                have hx655 := hx639.trans' he653
                have hzhx655 := he653.size
                replace hf579 := hf579.ext he653
                replace hf580 := hf580.ext he653
                replace hf581 := hf581.ext he653
                replace hf582 := hf582.ext he653
                replace ho637 := ho637.ext he653
                refine wl_val ha654 rfl rfl rfl (op_pick_t ha654 rfl rfl rfl) ?_
                intro a656 ha656; clear ha654 a654
                refine wl_val ha656 rfl rfl rfl (op_move ha656 rfl rfl) ?_
                intro a657 ha657; clear ha656 a656
                rcases Bool.eq_false_or_eq_true (decide (((q15)) ∈ ((if cuB ((addcL ((q14)) ((q15)) (q16 : Int))) then pfL (((q15)).take 1) ((addcL ((q14)) ((q15)) (q16 : Int))) else [])))) with c658 | c658
                ·
                 rw [c658] at ha657
                 refine wl_val ha657 rfl rfl rfl (op_move ha657 rfl rfl) ?_
                 intro a659 ha659; clear ha657 a657
                 refine wl_callR ha659 rfl rfl rfl (op_call ha659 rfl cb17 rfl) (c_impl_AreCustomers _ u41 ((addcL ((q14)) ((q15)) (q16 : Int))) ((rds_shCustN (hf581.fin (by omega) (by omega) (by omega)) hf582).cast hE45) (by first | assumption | omega | (simp; done) | (simp; omega))) ?_
                 rintro v660 w661 he662 rfl a663 ha663; clear ha659 a659
                 have hx664 := hx655.trans' he662
                 have hzhx664 := he662.size
                 replace hf579 := hf579.ext he662
                 replace hf580 := hf580.ext he662
                 replace hf581 := hf581.ext he662
                 replace hf582 := hf582.ext he662
                 replace ho637 := ho637.ext he662
                 refine wl_val ha663 rfl rfl rfl (op_pick_t ha663 rfl rfl rfl) ?_
                 intro a665 ha665; clear ha663 a663
                 refine wl_val ha665 rfl rfl rfl (op_move ha665 rfl rfl) ?_
                 intro a666 ha666; clear ha665 a665
                 rcases Bool.eq_false_or_eq_true (cuB ((addcL ((q14)) ((q15)) (q16 : Int)))) with c667 | c667
                 ·
                  rw [c667] at ha666
                  refine wl_val ha666 rfl rfl rfl (op_move ha666 rfl rfl) ?_
                  intro a668 ha668; clear ha666 a666
                  refine wl_val ha668 rfl rfl rfl (op_len_sl ha668 rfl Try.underlying25 rfl (hf581.rds pos_shCustN)) ?_
                  intro a669 ha669; clear ha668 a668
                  refine wl_val ha669 rfl rfl rfl (op_move ha669 rfl rfl) ?_
                  intro a670 ha670; clear ha669 a669
                  refine wl_val ha670 rfl rfl rfl (op_len_sl ha670 rfl Try.underlying25 rfl (hf579.rds pos_shCustN)) ?_
                  intro a671 ha671; clear ha670 a670
                  refine wl_val ha671 rfl rfl rfl ((op_add ha671 rfl rfl rfl).int (IntWalk.i64_in _ (by omega))) ?_
                  intro a672 ha672; clear ha671 a671
                  refine wl_val ha672 rfl rfl rfl (op_eql ha672 rfl rfl rfl) ?_
                  intro a673 ha673; clear ha672 a672
                  refine wl_val ha673 rfl rfl rfl (op_pick_t ha673 rfl rfl rfl) ?_
                  intro a674 ha674; clear ha673 a673
                  refine wl_val ha674 rfl rfl rfl (op_assign ha674 rfl rfl) ?_
                  intro a675 ha675; clear ha674 a674
                  refine wpList_nil ?_
                  refine then_n ?_
                  refine wp_ret ?_
                  refine ret1 ha675 rfl rfl ?_
                  clear ha675 a675
                  exact ret_mk hx664 (congrArg Value.bool (by first | rfl | (simp at c658; done) | (exact absurd rfl c330) | (simp at c8; done) | (rw [decide_eq_true_eq]; omega) | (exact absurd (if_pos ha1) c330) | (rw [ha1] at c330; cases c330) | (rw [if_pos ha1] at c330; simp [ha4] at c330; done) | (exact absurd (if_pos ha1) c8) | (rw [ha1] at c8; cases c8) | (rw [if_pos ha1] at c8; simp [ha4] at c8; done) | omega))
                 ·
                  rw [c667] at ha666
                  refine wl_skip ha666 rfl rfl rfl ?_
                  intro a676 ha676; clear ha666 a666
                  refine wl_skip ha676 rfl rfl rfl ?_
                  intro a677 ha677; clear ha676 a676
                  refine wl_skip ha677 rfl rfl rfl ?_
                  intro a678 ha678; clear ha677 a677
                  refine wl_skip ha678 rfl rfl rfl ?_
                  intro a679 ha679; clear ha678 a678
                  refine wl_skip ha679 rfl rfl rfl ?_
                  intro a680 ha680; clear ha679 a679
                  refine wl_skip ha680 rfl rfl rfl ?_
                  intro a681 ha681; clear ha680 a680
                  refine wl_val ha681 rfl rfl rfl (op_pick_f ha681 rfl rfl rfl) ?_
                  intro a682 ha682; clear ha681 a681
                  refine wl_val ha682 rfl rfl rfl (op_assign ha682 rfl rfl) ?_
                  intro a683 ha683; clear ha682 a682
                  refine wpList_nil ?_
                  refine then_n ?_
                  refine wp_ret ?_
                  refine ret1 ha683 rfl rfl ?_
                  clear ha683 a683
                  exact ret_mk hx664 (congrArg Value.bool (by first | rfl | (simp at c658; done) | (exact absurd rfl c330) | (simp at c8; done) | (rw [decide_eq_true_eq]; omega) | (exact absurd (if_pos ha1) c667) | (rw [ha1] at c667; cases c667) | (rw [if_pos ha1] at c667; simp [ha4] at c667; done) | (exact absurd (if_pos ha1) c330) | (rw [ha1] at c330; cases c330) | (rw [if_pos ha1] at c330; simp [ha4] at c330; done) | (exact absurd (if_pos ha1) c8) | (rw [ha1] at c8; cases c8) | (rw [if_pos ha1] at c8; simp [ha4] at c8; done) | omega))
                ·
                 rw [c658] at ha657
                 refine wl_skip ha657 rfl rfl rfl ?_
                 intro a684 ha684; clear ha657 a657
                 refine wl_skip ha684 rfl rfl rfl ?_
                 intro a685 ha685; clear ha684 a684
                 refine wl_val ha685 rfl rfl rfl (op_pick_f ha685 rfl rfl rfl) ?_
                 intro a686 ha686; clear ha685 a685
                 refine wl_val ha686 rfl rfl rfl (op_move ha686 rfl rfl) ?_
                 intro a687 ha687; clear ha686 a686
                 refine wl_skip ha687 rfl rfl rfl ?_
                 intro a688 ha688; clear ha687 a687
                 refine wl_skip ha688 rfl rfl rfl ?_
                 intro a689 ha689; clear ha688 a688
                 refine wl_skip ha689 rfl rfl rfl ?_
                 intro a690 ha690; clear ha689 a689
                 refine wl_skip ha690 rfl rfl rfl ?_
                 intro a691 ha691; clear ha690 a690
                 refine wl_skip ha691 rfl rfl rfl ?_
                 intro a692 ha692; clear ha691 a691
                 refine wl_skip ha692 rfl rfl rfl ?_
                 intro a693 ha693; clear ha692 a692
                 refine wl_val ha693 rfl rfl rfl (op_pick_f ha693 rfl rfl rfl) ?_
                 intro a694 ha694; clear ha693 a693
                 refine wl_val ha694 rfl rfl rfl (op_assign ha694 rfl rfl) ?_
                 intro a695 ha695; clear ha694 a694
                 refine wpList_nil ?_
                 refine then_n ?_
                 refine wp_ret ?_
                 refine ret1 ha695 rfl rfl ?_
                 clear ha695 a695
                 exact ret_mk hx655 (congrArg Value.bool (by first | rfl | (simp at c658; done) | (exact absurd rfl c330) | (simp at c8; done) | (rw [decide_eq_true_eq]; omega) | (exact absurd (if_pos ha1) c658) | (rw [ha1] at c658; cases c658) | (rw [if_pos ha1] at c658; simp [ha4] at c658; done) | (exact absurd (if_pos ha1) c330) | (rw [ha1] at c330; cases c330) | (rw [if_pos ha1] at c330; simp [ha4] at c330; done) | (exact absurd (if_pos ha1) c8) | (rw [ha1] at c8; cases c8) | (rw [if_pos ha1] at c8; simp [ha4] at c8; done) | omega))
               ·
                rw [decide_eq_false c648] at ha647
                refine wl_skip ha647 rfl rfl rfl ?_
                intro a696 ha696; clear ha647 a647
                refine wl_skip ha696 rfl rfl rfl ?_
                intro a697 ha697; clear ha696 a696
                refine wl_skip ha697 rfl rfl rfl ?_
                intro a698 ha698; clear ha697 a697
                refine wl_val ha698 rfl rfl rfl (op_pick_f ha698 rfl rfl rfl) ?_
                intro a699 ha699; clear ha698 a698
                refine wl_val ha699 rfl rfl rfl (op_move ha699 rfl rfl) ?_
                intro a700 ha700; clear ha699 a699
                refine wl_skip ha700 rfl rfl rfl ?_
                intro a701 ha701; clear ha700 a700
                refine wl_skip ha701 rfl rfl rfl ?_
                intro a702 ha702; clear ha701 a701
                refine wl_val ha702 rfl rfl rfl (op_pick_f ha702 rfl rfl rfl) ?_
                intro a703 ha703; clear ha702 a702
                refine wl_val ha703 rfl rfl rfl (op_move ha703 rfl rfl) ?_
                intro a704 ha704; clear ha703 a703
                refine wl_skip ha704 rfl rfl rfl ?_
                intro a705 ha705; clear ha704 a704
                refine wl_skip ha705 rfl rfl rfl ?_
                intro a706 ha706; clear ha705 a705
                refine wl_skip ha706 rfl rfl rfl ?_
                intro a707 ha707; clear ha706 a706
                refine wl_skip ha707 rfl rfl rfl ?_
                intro a708 ha708; clear ha707 a707
                refine wl_skip ha708 rfl rfl rfl ?_
                intro a709 ha709; clear ha708 a708
                refine wl_skip ha709 rfl rfl rfl ?_
                intro a710 ha710; clear ha709 a709
                refine wl_val ha710 rfl rfl rfl (op_pick_f ha710 rfl rfl rfl) ?_
                intro a711 ha711; clear ha710 a710
                refine wl_val ha711 rfl rfl rfl (op_assign ha711 rfl rfl) ?_
                intro a712 ha712; clear ha711 a711
                refine wpList_nil ?_
                refine then_n ?_
                refine wp_ret ?_
                refine ret1 ha712 rfl rfl ?_
                clear ha712 a712
                exact ret_mk hx639 (congrArg Value.bool (by first | rfl | (exact absurd rfl c648) | (exact absurd rfl c330) | (simp at c8; done) | (rw [decide_eq_true_eq]; omega) | (exact absurd (if_pos ha1) c648) | (rw [ha1] at c648; cases c648) | (rw [if_pos ha1] at c648; simp [ha4] at c648; done) | (exact absurd (if_pos ha1) c330) | (rw [ha1] at c330; cases c330) | (rw [if_pos ha1] at c330; simp [ha4] at c330; done) | (exact absurd (if_pos ha1) c8) | (rw [ha1] at c8; cases c8) | (rw [if_pos ha1] at c8; simp [ha4] at c8; done) | omega))
              ·
               rw [decide_eq_false c629] at ha628
               refine cond_t ha628 rfl ?_
               refine wp_seq ?_
               clear hf579 hf580 hf581 hf582
               refine wp_region_lit ?_
               refine wl_val ha628 rfl rfl rfl (op_assign ha628 rfl rfl) ?_
               intro a713 ha713; clear ha628 a628
               refine wpList_nil ?_
               refine then_n ?_
               refine wp_ret ?_
               refine then_r ?_
               refine ret1 ha713 rfl rfl ?_
               clear ha713 a713
               exact ret_mk hx578 (congrArg Value.bool (by first | rfl | (exact absurd rfl c629) | (exact absurd rfl c330) | (simp at c8; done) | (rw [decide_eq_true_eq]; omega) | (exact absurd (if_pos ha1) c629) | (rw [ha1] at c629; cases c629) | (rw [if_pos ha1] at c629; simp [ha4] at c629; done) | (exact absurd (if_pos ha1) c330) | (rw [ha1] at c330; cases c330) | (rw [if_pos ha1] at c330; simp [ha4] at c330; done) | (exact absurd (if_pos ha1) c8) | (rw [ha1] at c8; cases c8) | (rw [if_pos ha1] at c8; simp [ha4] at c8; done) | omega))
         ·
          rw [decide_eq_false c274] at ha273
          refine cond_t ha273 rfl ?_
          refine wp_seq ?_
          clear ho22 hN24 ho42 hN44 ho60 hN62 ho81 hN83 ho98 ho112 ho130 hN132 ho147 ho161
          refine wp_region_lit ?_
          refine wl_val ha273 rfl rfl rfl (op_assign ha273 rfl rfl) ?_
          intro a714 ha714; clear ha273 a273
          refine wpList_nil ?_
          refine then_n ?_
          refine wp_ret ?_
          refine then_r ?_
          refine ret1 ha714 rfl rfl ?_
          clear ha714 a714
          exact ret_mk hx259 (congrArg Value.bool (by first | rfl | (exact absurd rfl c274) | (simp at c8; done) | (rw [decide_eq_true_eq]; omega) | (exact absurd (if_pos ha1) c274) | (rw [ha1] at c274; cases c274) | (rw [if_pos ha1] at c274; simp [ha4] at c274; done) | (exact absurd (if_pos ha1) c8) | (rw [ha1] at c8; cases c8) | (rw [if_pos ha1] at c8; simp [ha4] at c8; done) | omega))
        ·
         rw [decide_eq_false c269] at ha268
         refine wl_skip ha268 rfl rfl rfl ?_
         intro a715 ha715; clear ha268 a268
         refine wl_skip ha715 rfl rfl rfl ?_
         intro a716 ha716; clear ha715 a715
         refine wl_skip ha716 rfl rfl rfl ?_
         intro a717 ha717; clear ha716 a716
         refine wl_val ha717 rfl rfl rfl (op_pick_t ha717 rfl rfl rfl) ?_
         intro a718 ha718; clear ha717 a717
         refine wpList_nil ?_
         refine then_n ?_
         refine cond_t ha718 rfl ?_
         refine wp_seq ?_
         clear ho22 hN24 ho42 hN44 ho60 hN62 ho81 hN83 ho98 ho112 ho130 hN132 ho147 ho161
         refine wp_region_lit ?_
         refine wl_val ha718 rfl rfl rfl (op_assign ha718 rfl rfl) ?_
         intro a719 ha719; clear ha718 a718
         refine wpList_nil ?_
         refine then_n ?_
         refine wp_ret ?_
         refine then_r ?_
         refine ret1 ha719 rfl rfl ?_
         clear ha719 a719
         exact ret_mk hx259 (congrArg Value.bool (by first | rfl | (exact absurd rfl c269) | (simp at c8; done) | (rw [decide_eq_true_eq]; omega) | (exact absurd (if_pos ha1) c269) | (rw [ha1] at c269; cases c269) | (rw [if_pos ha1] at c269; simp [ha4] at c269; done) | (exact absurd (if_pos ha1) c8) | (rw [ha1] at c8; cases c8) | (rw [if_pos ha1] at c8; simp [ha4] at c8; done) | omega))
       ·
        rw [c263] at ha262
        refine wl_skip ha262 rfl rfl rfl ?_
        intro a720 ha720; clear ha262 a262
        refine wl_skip ha720 rfl rfl rfl ?_
        intro a721 ha721; clear ha720 a720
        refine wl_skip ha721 rfl rfl rfl ?_
        intro a722 ha722; clear ha721 a721
        refine wl_val ha722 rfl rfl rfl (op_pick_t ha722 rfl rfl rfl) ?_
        intro a723 ha723; clear ha722 a722
        refine wl_val ha723 rfl rfl rfl (op_move ha723 rfl rfl) ?_
        intro a724 ha724; clear ha723 a723
        refine wl_skip ha724 rfl rfl rfl ?_
        intro a725 ha725; clear ha724 a724
        refine wl_skip ha725 rfl rfl rfl ?_
        intro a726 ha726; clear ha725 a725
        refine wl_skip ha726 rfl rfl rfl ?_
        intro a727 ha727; clear ha726 a726
        refine wl_val ha727 rfl rfl rfl (op_pick_t ha727 rfl rfl rfl) ?_
        intro a728 ha728; clear ha727 a727
        refine wpList_nil ?_
        refine then_n ?_
        refine cond_t ha728 rfl ?_
        refine wp_seq ?_
        clear ho22 hN24 ho42 hN44 ho60 hN62 ho81 hN83 ho98 ho112 ho130 hN132 ho147 ho161
        refine wp_region_lit ?_
        refine wl_val ha728 rfl rfl rfl (op_assign ha728 rfl rfl) ?_
        intro a729 ha729; clear ha728 a728
        refine wpList_nil ?_
        refine then_n ?_
        refine wp_ret ?_
        refine then_r ?_
        refine ret1 ha729 rfl rfl ?_
        clear ha729 a729
        exact ret_mk hx259 (congrArg Value.bool (by first | rfl | (exact absurd rfl c263) | (rw [eqL_self] at c263; cases c263) | (simp at c8; done) | (rw [decide_eq_true_eq]; omega) | (exact absurd (if_pos ha1) c263) | (rw [ha1] at c263; cases c263) | (rw [if_pos ha1] at c263; simp [ha4] at c263; done) | (exact absurd (if_pos ha1) c8) | (rw [ha1] at c8; cases c8) | (rw [if_pos ha1] at c8; simp [ha4] at c8; done) | omega))
      ·
       rw [decide_eq_false c252] at ha251
       refine wl_skip ha251 rfl rfl rfl ?_
       intro a730 ha730; clear ha251 a251
       refine wl_skip ha730 rfl rfl rfl ?_
       intro a731 ha731; clear ha730 a730
       refine wl_skip ha731 rfl rfl rfl ?_
       intro a732 ha732; clear ha731 a731
       refine wl_skip ha732 rfl rfl rfl ?_
       intro a733 ha733; clear ha732 a732
       refine wl_val ha733 rfl rfl rfl (op_pick_t ha733 rfl rfl rfl) ?_
       intro a734 ha734; clear ha733 a733
       refine wl_val ha734 rfl rfl rfl (op_move ha734 rfl rfl) ?_
       intro a735 ha735; clear ha734 a734
       refine wl_skip ha735 rfl rfl rfl ?_
       intro a736 ha736; clear ha735 a735
       refine wl_skip ha736 rfl rfl rfl ?_
       intro a737 ha737; clear ha736 a736
       refine wl_skip ha737 rfl rfl rfl ?_
       intro a738 ha738; clear ha737 a737
       refine wl_val ha738 rfl rfl rfl (op_pick_t ha738 rfl rfl rfl) ?_
       intro a739 ha739; clear ha738 a738
       refine wl_val ha739 rfl rfl rfl (op_move ha739 rfl rfl) ?_
       intro a740 ha740; clear ha739 a739
       refine wl_skip ha740 rfl rfl rfl ?_
       intro a741 ha741; clear ha740 a740
       refine wl_skip ha741 rfl rfl rfl ?_
       intro a742 ha742; clear ha741 a741
       refine wl_skip ha742 rfl rfl rfl ?_
       intro a743 ha743; clear ha742 a742
       refine wl_val ha743 rfl rfl rfl (op_pick_t ha743 rfl rfl rfl) ?_
       intro a744 ha744; clear ha743 a743
       refine wpList_nil ?_
       refine then_n ?_
       refine cond_t ha744 rfl ?_
       refine wp_seq ?_
       clear ho22 hN24 ho42 hN44 ho60 hN62 ho81 hN83 ho98 ho112 ho130 hN132 ho147 ho161
       refine wp_region_lit ?_
       refine wl_val ha744 rfl rfl rfl (op_assign ha744 rfl rfl) ?_
       intro a745 ha745; clear ha744 a744
       refine wpList_nil ?_
       refine then_n ?_
       refine wp_ret ?_
       refine then_r ?_
       refine ret1 ha745 rfl rfl ?_
       clear ha745 a745
       exact ret_mk hx242 (congrArg Value.bool (by first | rfl | (exact absurd rfl c252) | (simp at c8; done) | (rw [decide_eq_true_eq]; omega) | (exact absurd (if_pos ha1) c252) | (rw [ha1] at c252; cases c252) | (rw [if_pos ha1] at c252; simp [ha4] at c252; done) | (exact absurd (if_pos ha1) c8) | (rw [ha1] at c8; cases c8) | (rw [if_pos ha1] at c8; simp [ha4] at c8; done) | omega))
     ·
      rw [c246] at ha245
      refine wl_skip ha245 rfl rfl rfl ?_
      intro a746 ha746; clear ha245 a245
      refine wl_skip ha746 rfl rfl rfl ?_
      intro a747 ha747; clear ha746 a746
      refine wl_skip ha747 rfl rfl rfl ?_
      intro a748 ha748; clear ha747 a747
      refine wl_val ha748 rfl rfl rfl (op_pick_t ha748 rfl rfl rfl) ?_
      intro a749 ha749; clear ha748 a748
      refine wl_val ha749 rfl rfl rfl (op_move ha749 rfl rfl) ?_
      intro a750 ha750; clear ha749 a749
      refine wl_skip ha750 rfl rfl rfl ?_
      intro a751 ha751; clear ha750 a750
      refine wl_skip ha751 rfl rfl rfl ?_
      intro a752 ha752; clear ha751 a751
      refine wl_skip ha752 rfl rfl rfl ?_
      intro a753 ha753; clear ha752 a752
      refine wl_skip ha753 rfl rfl rfl ?_
      intro a754 ha754; clear ha753 a753
      refine wl_val ha754 rfl rfl rfl (op_pick_t ha754 rfl rfl rfl) ?_
      intro a755 ha755; clear ha754 a754
      refine wl_val ha755 rfl rfl rfl (op_move ha755 rfl rfl) ?_
      intro a756 ha756; clear ha755 a755
      refine wl_skip ha756 rfl rfl rfl ?_
      intro a757 ha757; clear ha756 a756
      refine wl_skip ha757 rfl rfl rfl ?_
      intro a758 ha758; clear ha757 a757
      refine wl_skip ha758 rfl rfl rfl ?_
      intro a759 ha759; clear ha758 a758
      refine wl_val ha759 rfl rfl rfl (op_pick_t ha759 rfl rfl rfl) ?_
      intro a760 ha760; clear ha759 a759
      refine wl_val ha760 rfl rfl rfl (op_move ha760 rfl rfl) ?_
      intro a761 ha761; clear ha760 a760
      refine wl_skip ha761 rfl rfl rfl ?_
      intro a762 ha762; clear ha761 a761
      refine wl_skip ha762 rfl rfl rfl ?_
      intro a763 ha763; clear ha762 a762
      refine wl_skip ha763 rfl rfl rfl ?_
      intro a764 ha764; clear ha763 a763
      refine wl_val ha764 rfl rfl rfl (op_pick_t ha764 rfl rfl rfl) ?_
      intro a765 ha765; clear ha764 a764
      refine wpList_nil ?_
      refine then_n ?_
      refine cond_t ha765 rfl ?_
      refine wp_seq ?_
      clear ho22 hN24 ho42 hN44 ho60 hN62 ho81 hN83 ho98 ho112 ho130 hN132 ho147 ho161
      refine wp_region_lit ?_
      refine wl_val ha765 rfl rfl rfl (op_assign ha765 rfl rfl) ?_
      intro a766 ha766; clear ha765 a765
      refine wpList_nil ?_
      refine then_n ?_
      refine wp_ret ?_
      refine then_r ?_
      refine ret1 ha766 rfl rfl ?_
      clear ha766 a766
      exact ret_mk hx242 (congrArg Value.bool (by first | rfl | (rw [eqL_self] at c246; cases c246) | (simp at c8; done) | (rw [decide_eq_true_eq]; omega) | (exact absurd (if_pos ha1) c246) | (rw [ha1] at c246; cases c246) | (rw [if_pos ha1] at c246; simp [ha4] at c246; done) | (exact absurd (if_pos ha1) c8) | (rw [ha1] at c8; cases c8) | (rw [if_pos ha1] at c8; simp [ha4] at c8; done) | omega))
    ·
     rw [decide_eq_false c235] at ha234
     refine wl_skip ha234 rfl rfl rfl ?_
     intro a767 ha767; clear ha234 a234
     refine wl_skip ha767 rfl rfl rfl ?_
     intro a768 ha768; clear ha767 a767
     refine wl_skip ha768 rfl rfl rfl ?_
     intro a769 ha769; clear ha768 a768
     refine wl_skip ha769 rfl rfl rfl ?_
     intro a770 ha770; clear ha769 a769
     refine wl_val ha770 rfl rfl rfl (op_pick_t ha770 rfl rfl rfl) ?_
     intro a771 ha771; clear ha770 a770
     refine wl_val ha771 rfl rfl rfl (op_move ha771 rfl rfl) ?_
     intro a772 ha772; clear ha771 a771
     refine wl_skip ha772 rfl rfl rfl ?_
     intro a773 ha773; clear ha772 a772
     refine wl_skip ha773 rfl rfl rfl ?_
     intro a774 ha774; clear ha773 a773
     refine wl_skip ha774 rfl rfl rfl ?_
     intro a775 ha775; clear ha774 a774
     refine wl_val ha775 rfl rfl rfl (op_pick_t ha775 rfl rfl rfl) ?_
     intro a776 ha776; clear ha775 a775
     refine wl_val ha776 rfl rfl rfl (op_move ha776 rfl rfl) ?_
     intro a777 ha777; clear ha776 a776
     refine wl_skip ha777 rfl rfl rfl ?_
     intro a778 ha778; clear ha777 a777
     refine wl_skip ha778 rfl rfl rfl ?_
     intro a779 ha779; clear ha778 a778
     refine wl_skip ha779 rfl rfl rfl ?_
     intro a780 ha780; clear ha779 a779
     refine wl_skip ha780 rfl rfl rfl ?_
     intro a781 ha781; clear ha780 a780
     refine wl_val ha781 rfl rfl rfl (op_pick_t ha781 rfl rfl rfl) ?_
     intro a782 ha782; clear ha781 a781
     refine wl_val ha782 rfl rfl rfl (op_move ha782 rfl rfl) ?_
     intro a783 ha783; clear ha782 a782
     refine wl_skip ha783 rfl rfl rfl ?_
     intro a784 ha784; clear ha783 a783
     refine wl_skip ha784 rfl rfl rfl ?_
     intro a785 ha785; clear ha784 a784
     refine wl_skip ha785 rfl rfl rfl ?_
     intro a786 ha786; clear ha785 a785
     refine wl_val ha786 rfl rfl rfl (op_pick_t ha786 rfl rfl rfl) ?_
     intro a787 ha787; clear ha786 a786
     refine wl_val ha787 rfl rfl rfl (op_move ha787 rfl rfl) ?_
     intro a788 ha788; clear ha787 a787
     refine wl_skip ha788 rfl rfl rfl ?_
     intro a789 ha789; clear ha788 a788
     refine wl_skip ha789 rfl rfl rfl ?_
     intro a790 ha790; clear ha789 a789
     refine wl_skip ha790 rfl rfl rfl ?_
     intro a791 ha791; clear ha790 a790
     refine wl_val ha791 rfl rfl rfl (op_pick_t ha791 rfl rfl rfl) ?_
     intro a792 ha792; clear ha791 a791
     refine wpList_nil ?_
     refine then_n ?_
     refine cond_t ha792 rfl ?_
     refine wp_seq ?_
     clear ho22 hN24 ho42 hN44 ho60 hN62 ho81 hN83 ho98 ho112 ho130 hN132 ho147 ho161
     refine wp_region_lit ?_
     refine wl_val ha792 rfl rfl rfl (op_assign ha792 rfl rfl) ?_
     intro a793 ha793; clear ha792 a792
     refine wpList_nil ?_
     refine then_n ?_
     refine wp_ret ?_
     refine then_r ?_
     refine ret1 ha793 rfl rfl ?_
     clear ha793 a793
     exact ret_mk hx225 (congrArg Value.bool (by first | rfl | (exact absurd rfl c235) | (simp at c8; done) | (rw [decide_eq_true_eq]; omega) | (exact absurd (if_pos ha1) c235) | (rw [ha1] at c235; cases c235) | (rw [if_pos ha1] at c235; simp [ha4] at c235; done) | (exact absurd (if_pos ha1) c8) | (rw [ha1] at c8; cases c8) | (rw [if_pos ha1] at c8; simp [ha4] at c8; done) | omega))
   ·
    rw [c229] at ha228
    refine wl_skip ha228 rfl rfl rfl ?_
    intro a794 ha794; clear ha228 a228
    refine wl_skip ha794 rfl rfl rfl ?_
    intro a795 ha795; clear ha794 a794
    refine wl_skip ha795 rfl rfl rfl ?_
    intro a796 ha796; clear ha795 a795
    refine wl_val ha796 rfl rfl rfl (op_pick_t ha796 rfl rfl rfl) ?_
    intro a797 ha797; clear ha796 a796
    refine wl_val ha797 rfl rfl rfl (op_move ha797 rfl rfl) ?_
    intro a798 ha798; clear ha797 a797
    refine wl_skip ha798 rfl rfl rfl ?_
    intro a799 ha799; clear ha798 a798
    refine wl_skip ha799 rfl rfl rfl ?_
    intro a800 ha800; clear ha799 a799
    refine wl_skip ha800 rfl rfl rfl ?_
    intro a801 ha801; clear ha800 a800
    refine wl_skip ha801 rfl rfl rfl ?_
    intro a802 ha802; clear ha801 a801
    refine wl_val ha802 rfl rfl rfl (op_pick_t ha802 rfl rfl rfl) ?_
    intro a803 ha803; clear ha802 a802
    refine wl_val ha803 rfl rfl rfl (op_move ha803 rfl rfl) ?_
    intro a804 ha804; clear ha803 a803
    refine wl_skip ha804 rfl rfl rfl ?_
    intro a805 ha805; clear ha804 a804
    refine wl_skip ha805 rfl rfl rfl ?_
    intro a806 ha806; clear ha805 a805
    refine wl_skip ha806 rfl rfl rfl ?_
    intro a807 ha807; clear ha806 a806
    refine wl_val ha807 rfl rfl rfl (op_pick_t ha807 rfl rfl rfl) ?_
    intro a808 ha808; clear ha807 a807
    refine wl_val ha808 rfl rfl rfl (op_move ha808 rfl rfl) ?_
    intro a809 ha809; clear ha808 a808
    refine wl_skip ha809 rfl rfl rfl ?_
    intro a810 ha810; clear ha809 a809
    refine wl_skip ha810 rfl rfl rfl ?_
    intro a811 ha811; clear ha810 a810
    refine wl_skip ha811 rfl rfl rfl ?_
    intro a812 ha812; clear ha811 a811
    refine wl_skip ha812 rfl rfl rfl ?_
    intro a813 ha813; clear ha812 a812
    refine wl_val ha813 rfl rfl rfl (op_pick_t ha813 rfl rfl rfl) ?_
    intro a814 ha814; clear ha813 a813
    refine wl_val ha814 rfl rfl rfl (op_move ha814 rfl rfl) ?_
    intro a815 ha815; clear ha814 a814
    refine wl_skip ha815 rfl rfl rfl ?_
    intro a816 ha816; clear ha815 a815
    refine wl_skip ha816 rfl rfl rfl ?_
    intro a817 ha817; clear ha816 a816
    refine wl_skip ha817 rfl rfl rfl ?_
    intro a818 ha818; clear ha817 a817
    refine wl_val ha818 rfl rfl rfl (op_pick_t ha818 rfl rfl rfl) ?_
    intro a819 ha819; clear ha818 a818
    refine wl_val ha819 rfl rfl rfl (op_move ha819 rfl rfl) ?_
    intro a820 ha820; clear ha819 a819
    refine wl_skip ha820 rfl rfl rfl ?_
    intro a821 ha821; clear ha820 a820
    refine wl_skip ha821 rfl rfl rfl ?_
    intro a822 ha822; clear ha821 a821
    refine wl_skip ha822 rfl rfl rfl ?_
    intro a823 ha823; clear ha822 a822
    refine wl_val ha823 rfl rfl rfl (op_pick_t ha823 rfl rfl rfl) ?_
    intro a824 ha824; clear ha823 a823
    refine wpList_nil ?_
    refine then_n ?_
    refine cond_t ha824 rfl ?_
    refine wp_seq ?_
    clear ho22 hN24 ho42 hN44 ho60 hN62 ho81 hN83 ho98 ho112 ho130 hN132 ho147 ho161
    refine wp_region_lit ?_
    refine wl_val ha824 rfl rfl rfl (op_assign ha824 rfl rfl) ?_
    intro a825 ha825; clear ha824 a824
    refine wpList_nil ?_
    refine then_n ?_
    refine wp_ret ?_
    refine then_r ?_
    refine ret1 ha825 rfl rfl ?_
    clear ha825 a825
    exact ret_mk hx225 (congrArg Value.bool (by first | rfl | (rw [eqL_self] at c229; cases c229) | (simp at c8; done) | (rw [decide_eq_true_eq]; omega) | (exact absurd (if_pos ha1) c229) | (rw [ha1] at c229; cases c229) | (rw [if_pos ha1] at c229; simp [ha4] at c229; done) | (exact absurd (if_pos ha1) c8) | (rw [ha1] at c8; cases c8) | (rw [if_pos ha1] at c8; simp [ha4] at c8; done) | omega))
  ·
   rw [decide_eq_false c218] at ha217
   refine wl_skip ha217 rfl rfl rfl ?_
   intro a826 ha826; clear ha217 a217
   refine wl_skip ha826 rfl rfl rfl ?_
   intro a827 ha827; clear ha826 a826
   refine wl_skip ha827 rfl rfl rfl ?_
   intro a828 ha828; clear ha827 a827
   refine wl_skip ha828 rfl rfl rfl ?_
   intro a829 ha829; clear ha828 a828
   refine wl_val ha829 rfl rfl rfl (op_pick_t ha829 rfl rfl rfl) ?_
   intro a830 ha830; clear ha829 a829
   refine wl_val ha830 rfl rfl rfl (op_move ha830 rfl rfl) ?_
   intro a831 ha831; clear ha830 a830
   refine wl_skip ha831 rfl rfl rfl ?_
   intro a832 ha832; clear ha831 a831
   refine wl_skip ha832 rfl rfl rfl ?_
   intro a833 ha833; clear ha832 a832
   refine wl_skip ha833 rfl rfl rfl ?_
   intro a834 ha834; clear ha833 a833
   refine wl_val ha834 rfl rfl rfl (op_pick_t ha834 rfl rfl rfl) ?_
   intro a835 ha835; clear ha834 a834
   refine wl_val ha835 rfl rfl rfl (op_move ha835 rfl rfl) ?_
   intro a836 ha836; clear ha835 a835
   refine wl_skip ha836 rfl rfl rfl ?_
   intro a837 ha837; clear ha836 a836
   refine wl_skip ha837 rfl rfl rfl ?_
   intro a838 ha838; clear ha837 a837
   refine wl_skip ha838 rfl rfl rfl ?_
   intro a839 ha839; clear ha838 a838
   refine wl_skip ha839 rfl rfl rfl ?_
   intro a840 ha840; clear ha839 a839
   refine wl_val ha840 rfl rfl rfl (op_pick_t ha840 rfl rfl rfl) ?_
   intro a841 ha841; clear ha840 a840
   refine wl_val ha841 rfl rfl rfl (op_move ha841 rfl rfl) ?_
   intro a842 ha842; clear ha841 a841
   refine wl_skip ha842 rfl rfl rfl ?_
   intro a843 ha843; clear ha842 a842
   refine wl_skip ha843 rfl rfl rfl ?_
   intro a844 ha844; clear ha843 a843
   refine wl_skip ha844 rfl rfl rfl ?_
   intro a845 ha845; clear ha844 a844
   refine wl_val ha845 rfl rfl rfl (op_pick_t ha845 rfl rfl rfl) ?_
   intro a846 ha846; clear ha845 a845
   refine wl_val ha846 rfl rfl rfl (op_move ha846 rfl rfl) ?_
   intro a847 ha847; clear ha846 a846
   refine wl_skip ha847 rfl rfl rfl ?_
   intro a848 ha848; clear ha847 a847
   refine wl_skip ha848 rfl rfl rfl ?_
   intro a849 ha849; clear ha848 a848
   refine wl_skip ha849 rfl rfl rfl ?_
   intro a850 ha850; clear ha849 a849
   refine wl_skip ha850 rfl rfl rfl ?_
   intro a851 ha851; clear ha850 a850
   refine wl_val ha851 rfl rfl rfl (op_pick_t ha851 rfl rfl rfl) ?_
   intro a852 ha852; clear ha851 a851
   refine wl_val ha852 rfl rfl rfl (op_move ha852 rfl rfl) ?_
   intro a853 ha853; clear ha852 a852
   refine wl_skip ha853 rfl rfl rfl ?_
   intro a854 ha854; clear ha853 a853
   refine wl_skip ha854 rfl rfl rfl ?_
   intro a855 ha855; clear ha854 a854
   refine wl_skip ha855 rfl rfl rfl ?_
   intro a856 ha856; clear ha855 a855
   refine wl_val ha856 rfl rfl rfl (op_pick_t ha856 rfl rfl rfl) ?_
   intro a857 ha857; clear ha856 a856
   refine wl_val ha857 rfl rfl rfl (op_move ha857 rfl rfl) ?_
   intro a858 ha858; clear ha857 a857
   refine wl_skip ha858 rfl rfl rfl ?_
   intro a859 ha859; clear ha858 a858
   refine wl_skip ha859 rfl rfl rfl ?_
   intro a860 ha860; clear ha859 a859
   refine wl_skip ha860 rfl rfl rfl ?_
   intro a861 ha861; clear ha860 a860
   refine wl_val ha861 rfl rfl rfl (op_pick_t ha861 rfl rfl rfl) ?_
   intro a862 ha862; clear ha861 a861
   refine wpList_nil ?_
   refine then_n ?_
   refine cond_t ha862 rfl ?_
   refine wp_seq ?_
   clear ho22 hN24 ho42 hN44 ho60 hN62 ho81 hN83 ho98 ho112 ho130 hN132 ho147 ho161
   refine wp_region_lit ?_
   refine wl_val ha862 rfl rfl rfl (op_assign ha862 rfl rfl) ?_
   intro a863 ha863; clear ha862 a862
   refine wpList_nil ?_
   refine then_n ?_
   refine wp_ret ?_
   refine then_r ?_
   refine ret1 ha863 rfl rfl ?_
   clear ha863 a863
   exact ret_mk hx208 (congrArg Value.bool (by first | rfl | (exact absurd rfl c218) | (simp at c8; done) | (rw [decide_eq_true_eq]; omega) | (exact absurd (if_pos ha1) c218) | (rw [ha1] at c218; cases c218) | (rw [if_pos ha1] at c218; simp [ha4] at c218; done) | (exact absurd (if_pos ha1) c8) | (rw [ha1] at c8; cases c8) | (rw [if_pos ha1] at c8; simp [ha4] at c8; done) | omega))


end Go.Proofs.Ythbkedflhmeohaa
