/- The law FnCustomers, walked. -/
import Derived.Test.YthbkedflhmeohaaR4
import Derived.Test.YthbkedflhmeohaaP0
import Derived.Test.YthbkedflhmeohaaW3
import Derived.Test.YthbkedflhmeohaaW5
import Derived.Test.YthbkedflhmeohaaW8
namespace Go.Proofs.Ythbkedflhmeohaa
open Go Go.RowKit

theorem if01 {b : Bool} (h : (if b = true then 0 else 1 : Int) = 0) : b = true := by cases b <;> simp_all

theorem cu_of {xs : List Cust} (hl : xs.length ≤ 20) (h1 : ∀ c ∈ xs, CuOk c) (h2 : xs.Pairwise fun c d => c.1 < d.1) (h3 : xs.Pairwise fun c d => ∀ b ∈ c.2.2, b ∉ d.2.2) : cuB xs = true := by
  have hu : upB (cuAt xs) xs.length = true := by
    rw [upB_iff]
    intro i hi
    have hc : xs[i]? = some xs[i] := List.getElem?_eq_getElem hi
    have ok := h1 _ (List.mem_of_getElem? hc)
    refine cuAt_ok hc ok.word ok.date ok.bikes ?_ fun b hb => fdF_neg.2 fun y hy => ?_
    · by_cases e : i = 0
      · exact .inl e
      · exact .inr ⟨_, List.getElem?_eq_getElem (show i - 1 < xs.length by omega), List.pairwise_iff_getElem.1 h2 (i - 1) i (by omega) hi (by omega)⟩
    · obtain ⟨j, hj⟩ := List.getElem?_of_mem hy
      rw [List.getElem?_take] at hj
      split at hj
      · obtain ⟨hj2, rfl⟩ := List.getElem?_eq_some_iff.1 hj
        have := List.pairwise_iff_getElem.1 h3 j i hj2 hi (by assumption)
        simp only [hasB, decide_eq_false_iff_not]
        exact fun q => this b q hb
      · cases hj
  unfold cuB; rw [hu, decide_eq_true hl]; rfl
theorem cu_pn {xs : List Cust} (h : cuB xs = true) : xs.Pairwise fun c d => c.1 < d.1 := List.pairwise_iff_getElem.2 fun i j hi hj hij => cu_names h hij (List.getElem?_eq_getElem hi) (List.getElem?_eq_getElem hj)
theorem cu_pd {xs : List Cust} (h : cuB xs = true) : xs.Pairwise fun c d => ∀ b ∈ c.2.2, b ∉ d.2.2 := List.pairwise_iff_getElem.2 fun i j hi hj hij b hb hb2 => by
  have := cu_only h (List.getElem?_eq_getElem hi) (List.getElem?_eq_getElem hj) hb hb2; omega
theorem pw_set {α : Type} {R : α → α → Prop} {xs : List α} {i : Nat} {x y : α} (h : xs.Pairwise R) (hx : xs[i]? = some x) (h1 : ∀ (j : Nat) z, j < i → xs[j]? = some z → R z x → R z y) (h2 : ∀ (j : Nat) z, i < j → xs[j]? = some z → R x z → R y z) : (xs.set i y).Pairwise R := by
  rw [List.pairwise_iff_getElem] at h ⊢
  intro a b ha hb hab
  rw [List.length_set] at ha hb
  obtain ⟨hi, rfl⟩ := List.getElem?_eq_some_iff.1 hx
  rw [List.getElem_set, List.getElem_set]
  split
  · rename_i e1
    subst e1
    rw [if_neg (by omega)]
    exact h2 b _ hab (List.getElem?_eq_getElem hb) (h i b hi hb hab)
  · split
    · rename_i e2
      subst e2
      exact h1 a _ hab (List.getElem?_eq_getElem ha) (h a i ha hi hab)
    · exact h a b ha hb hab
theorem bk_of {bs : List Str} (hl : bs.length ≤ 5) (h1 : ∀ b ∈ bs, wordB b = true) (h2 : UpS bs) : bkB bs = true := by
  refine bkB_ok hl ?_
  rw [upB_iff]
  intro i hi
  have hb : bs[i]? = some bs[i] := List.getElem?_eq_getElem hi
  refine bkAt_ok hb (h1 _ (List.mem_of_getElem? hb)) ?_
  by_cases e : i = 0
  · exact .inl e
  · exact .inr ⟨_, List.getElem?_eq_getElem (show i - 1 < bs.length by omega), List.pairwise_iff_getElem.1 h2 (i - 1) i (by omega) hi (by omega)⟩
theorem liL_up {x : Str} : ∀ {xs : List Str}, UpS xs → x ∉ xs → UpS (liL x xs)
  | [], _, _ => by simp [liL, UpS]
  | y :: ys, h, hn => by
    have h' := List.pairwise_cons.1 h
    have hy : y ≠ x := fun e => hn (by simp [e])
    rw [liL]; split
    · refine List.Pairwise.cons (fun z hz => ?_) (liL_up h'.2 fun q => hn (by simp [q]))
      rcases liL_mem.1 hz with e | e
      · subst e; assumption
      · exact h'.1 z e
    · have hxy := (str_le ‹¬ y < x›).resolve_right fun e => hy e.symm
      refine List.Pairwise.cons (fun z hz => ?_) h
      rcases List.mem_cons.1 hz with e | e
      · subst e; exact hxy
      · exact str_tr hxy (h'.1 z e)
theorem li_bk {x : Str} {bs : List Str} (h : bkB bs = true) (hx : wordB x = true) (hn : x ∉ bs) (hl : ¬ bs.length = 5) : bkB (liL x bs) = true := by
  have h5 := bkB_len h
  refine bk_of (by rw [liL_len]; omega) (fun b hb => ?_) (liL_up (bkB_ups h) hn)
  rcases liL_mem.1 hb with e | e
  · subst e; exact hx
  · exact bkB_word h b e
theorem wo_bk {x : Str} {bs : List Str} (h : bkB bs = true) : bkB (woL x bs) = true :=
  bk_of (Nat.le_trans (wo_len x bs) (bkB_len h)) (fun b hb => bkB_word h b (List.mem_filter.1 hb).1) (List.Pairwise.filter _ (bkB_ups h))
theorem wo_mem {x b : Str} {bs : List Str} (h : b ∈ woL x bs) : b ∈ bs ∧ b ≠ x := by
  have := List.mem_filter.1 h; simpa using this
theorem wo_len1 {x : Str} : ∀ {bs : List Str}, UpS bs → x ∈ bs → (woL x bs).length + 1 = bs.length
  | y :: ys, h, hm => by
    have h' := List.pairwise_cons.1 h
    rw [wo_step]
    by_cases e : y = x
    · subst e
      rw [if_pos rfl]
      have : woL y ys = ys := by
        unfold woL; rw [List.filter_eq_self]
        intro b hb; have := h'.1 b hb
        simp only [Bool.not_eq_true', decide_eq_false_iff_not]
        exact fun q => str_irr y (by rw [q] at this; exact this)
      rw [this]; rfl
    · rw [if_neg e]
      have := wo_len1 h'.2 ((List.mem_cons.1 hm).resolve_left fun q => e q.symm)
      simp only [List.length_cons]; omega
theorem sum_set {α : Type} {f : α → Int} : ∀ {xs : List α} {i : Nat} {x y : α}, xs[i]? = some x → sumI f (xs.set i y) = sumI f xs - f x + f y
  | [], _, _, _, h => by simp at h
  | z :: zs, 0, x, y, h => by simp at h; subst h; simp only [List.set_cons_zero, sumI]; omega
  | z :: zs, i + 1, x, y, h => by
    have := sum_set (f := f) (xs := zs) (i := i) (x := x) (y := y) (by simpa using h)
    simp only [List.set_cons_succ, sumI]; omega
theorem sum_del {α : Type} {f : α → Int} : ∀ {xs : List α} {i : Nat} {x : α}, xs[i]? = some x → sumI f (xs.take i ++ xs.drop (i + 1)) = sumI f xs - f x
  | [], _, _, h => by simp at h
  | z :: zs, 0, x, h => by simp at h; subst h; simp [sumI]; omega
  | z :: zs, i + 1, x, h => by
    have := sum_del (f := f) (xs := zs) (i := i) (x := x) (by simpa using h)
    simp only [List.take_succ_cons, List.drop_succ_cons, List.cons_append, sumI]; omega
theorem fn_at {xs : List Cust} {n : Str} (h : ¬ fnI xs n < 0) : ∃ c, xs[(fnI xs n).toNat]? = some c ∧ c.1 = n := by
  obtain ⟨⟨c, hc, hp⟩, _⟩ := fdF_at h
  exact ⟨c, hc, by simpa [namB] using hp⟩
/-- One customer gets other bikes, of which nobody else has any. -/
theorem cu_put {xs : List Cust} (h : cuB xs = true) {i : Nat} {c : Cust} {s : Int} {bs : List Str} (hc : xs[i]? = some c) (hs : dateB s = true) (hb : bkB bs = true) (hn : ∀ b ∈ bs, ∀ (j : Nat) d, j ≠ i → xs[j]? = some d → b ∉ d.2.2) : cuB (xs.set i (c.1, s, bs)) = true := by
  have ok := cuB_el h c (List.mem_of_getElem? hc)
  refine cu_of (by rw [List.length_set]; exact cuB_len h) (fun d hd => ?_) (pw_set (cu_pn h) hc (fun j z hj hz hr => hr) fun j z hj hz hr => hr) (pw_set (cu_pd h) hc (fun j z hj hz hr b hb1 hb2 => hn b hb2 j z (by omega) hz hb1) fun j z hj hz hr b hb1 hb2 => hn b hb1 j z (by omega) hz hb2)
  rcases List.mem_or_eq_of_mem_set hd with e | e
  · exact cuB_el h d e
  · subst e; exact ⟨ok.word, hs, hb⟩
theorem ow_is {xs : List Cust} (h : cuB xs = true) {i : Nat} {c : Cust} {b : Str} (hc : xs[i]? = some c) (hb : b ∈ c.2.2) (hw : wordB b = true) : ownN xs b = c.1 ∧ ownC xs b = 0 := by
  have e : owI xs b = (i : Int) := (owI_here hc hb).2 ((cuB_at h hc).2.2 b hb)
  unfold ownN ownC
  rw [h, hw, e, Int.toNat_natCast, hc]
  simp only [Bool.and_true, if_true]
  rw [if_neg (by omega), if_neg (by omega)]; exact ⟨rfl, rfl⟩
theorem nb_len (c : Cust) : nbC c = (c.2.2.length : Nat) := rfl
theorem nb_bd {xs : List Cust} (h : cuB xs = true) : 0 ≤ sumI nbC xs ∧ sumI nbC xs ≤ 100 := by
  have := sumI_bd (f := nbC) (A := 0) (B := 5) (xs := xs) fun c hc => by have := (cuOk_bd (cuB_el h c hc)).2.2.2.2; have := nb_len c; omega
  have := cuB_len h; omega
/-- What is known of customers of whom one has been given a bike. -/
theorem gv_all {xs : List Cust} {n b : Str} (h : gvC xs n b = 0) : cuB (gvL xs n b) = true ∧ ownN (gvL xs n b) b = n ∧ ownC (gvL xs n b) b = 0 := by
  have h0 : cd3 xs n b = 0 := by
    by_cases e : cd3 xs n b = 0
    · exact e
    · rw [gvC_c rfl e] at h; exact absurd h e
  obtain ⟨k1, k2, k3, k4⟩ := cd3_ok h0
  obtain ⟨c, hc, hcn⟩ := fn_at k4
  have h1 : ¬ 0 ≤ owI xs b := fun q => by rw [gvC_5 h0 q] at h; cases h
  have h2 : ¬ c.2.2.length = 5 := fun q => by rw [gvC_3 h0 h1 hc q] at h; cases h
  have ok := cuB_el k1 c (List.mem_of_getElem? hc)
  have hno : ∀ (j : Nat) d, xs[j]? = some d → b ∉ d.2.2 := fun j d hd => owI_none (by omega) hd
  rw [(gvC_0 h0 h1 hc h2).2]
  have hcu : cuB (xs.set (fnI xs n).toNat (c.1, c.2.1, liL b c.2.2)) = true := by
    refine cu_put k1 hc ok.date (li_bk ok.bikes k3 (hno _ _ hc) h2) fun z hz j d hj hd => ?_
    rcases liL_mem.1 hz with e | e
    · subst e; exact hno j d hd
    · intro q; exact hj (cu_only k1 hd hc q e)
  have hi := (List.getElem?_eq_some_iff.1 hc).1
  have hnew : (xs.set (fnI xs n).toNat (c.1, c.2.1, liL b c.2.2))[(fnI xs n).toNat]? = some (c.1, c.2.1, liL b c.2.2) := List.getElem?_set_self hi
  have := ow_is hcu hnew (liL_mem.2 (.inl rfl)) k3
  exact ⟨hcu, by rw [this.1]; exact hcn, this.2⟩
/-- What is known of customers of whom one has sold a bike. -/
theorem se_all {xs : List Cust} {n b : Str} (h : seC xs b n = 0) : cuB xs = true ∧ cuB (seL xs b n) = true ∧ ownN (seL xs b n) b = n ∧ ownC (seL xs b n) b = 0 ∧ sumI nbC (seL xs b n) = sumI nbC xs := by
  have h0 : cd3 xs n b = 0 := by
    by_cases e : cd3 xs n b = 0
    · exact e
    · rw [seC_c rfl e] at h; exact absurd h e
  obtain ⟨k1, k2, k3, k4⟩ := cd3_ok h0
  obtain ⟨c, hc, hcn⟩ := fn_at k4
  have h1 : ¬ owI xs b < 0 := fun q => by rw [seC_4 k1 k2 k3 (.inl q)] at h; cases h
  have h2 : ¬ owI xs b = fnI xs n := fun q => by rw [seC_5 h0 h1 q] at h; cases h
  have h3 : ¬ c.2.2.length = 5 := fun q => by rw [seC_3 h0 h1 h2 hc q] at h; cases h
  obtain ⟨d, hd, hbd⟩ := owI_some h1
  obtain ⟨e1, e2, e3⟩ := seC_0 h0 h1 h2 hc h3 hd
  have okc := cuB_el k1 c (List.mem_of_getElem? hc)
  have okd := cuB_el k1 d (List.mem_of_getElem? hd)
  have hne : (owI xs b).toNat ≠ (fnI xs n).toNat := by omega
  rw [e2]
  have hcu1 : cuB (xs.set (owI xs b).toNat (d.1, d.2.1, woL b d.2.2)) = true := by
    refine cu_put k1 hd okd.date (wo_bk okd.bikes) fun z hz j x hj hx q => ?_
    exact hj (cu_only k1 hx hd q (wo_mem hz).1)
  have hc1 : (xs.set (owI xs b).toNat (d.1, d.2.1, woL b d.2.2))[(fnI xs n).toNat]? = some c := by rw [List.getElem?_set_ne hne]; exact hc
  have hno : ∀ (j : Nat) x, (xs.set (owI xs b).toNat (d.1, d.2.1, woL b d.2.2))[j]? = some x → b ∉ x.2.2 := fun j x hx q => by
    by_cases e : (owI xs b).toNat = j
    · subst e
      rw [List.getElem?_set_self (List.getElem?_eq_some_iff.1 hd).1] at hx
      cases hx
      exact (wo_mem q).2 rfl
    · rw [List.getElem?_set_ne e] at hx
      exact e (cu_only k1 hd hx hbd q)
  have hcu : cuB ((xs.set (owI xs b).toNat (d.1, d.2.1, woL b d.2.2)).set (fnI xs n).toNat (c.1, c.2.1, liL b c.2.2)) = true := by
    refine cu_put hcu1 hc1 okc.date (li_bk okc.bikes k3 (hno _ _ hc1) h3) fun z hz j x hj hx => ?_
    rcases liL_mem.1 hz with e | e
    · subst e; exact hno j x hx
    · intro q; exact hj (cu_only hcu1 hx hc1 q e)
  have hi := (List.getElem?_eq_some_iff.1 hc1).1
  have := ow_is hcu (List.getElem?_set_self hi) (liL_mem.2 (.inl rfl)) k3
  refine ⟨k1, hcu, by rw [this.1]; exact hcn, this.2, ?_⟩
  rw [sum_set hc1, sum_set hd]
  have g1 := wo_len1 (bkB_ups okd.bikes) hbd
  have g2 := liL_len b c.2.2
  show sumI nbC xs - ((d.2.2.length : Nat) : Int) + (((woL b d.2.2).length : Nat) : Int) - ((c.2.2.length : Nat) : Int) + (((liL b c.2.2).length : Nat) : Int) = _
  omega
theorem insL_up : ∀ {bs acc : List Str}, UpS acc → UpS bs → (∀ b ∈ bs, b ∉ acc) → UpS (insL bs acc)
  | [], acc, h, _, _ => h
  | b :: bs, acc, h, hb, hn => by
    have h' := List.pairwise_cons.1 hb
    show UpS (insL bs (liL b acc))
    refine insL_up (liL_up h (hn b (by simp))) h'.2 fun z hz q => ?_
    rcases liL_mem.1 q with e | e
    · subst e; exact str_irr z (h'.1 z hz)
    · exact hn z (by simp [hz]) e
theorem date_min {a b : Int} (h : dateB a = true) (k : dateB b = true) : dateB (min a b) = true := by
  unfold dateB at *; simp only [Bool.and_eq_true, decide_eq_true_eq] at *; omega
theorem del_pw {α : Type} {R : α → α → Prop} {xs : List α} (h : xs.Pairwise R) (k : Nat) : (xs.take k ++ xs.drop (k + 1)).Pairwise R := by
  have : (xs.take k ++ xs.drop (k + 1)).Sublist xs := by
    have h2 : (xs.take k ++ xs.drop (k + 1)).Sublist (xs.take k ++ xs.drop k) := (List.Sublist.refl _).append (by rw [← List.drop_drop]; exact List.drop_sublist _ _)
    rwa [List.take_append_drop] at h2
  exact h.sublist this
theorem mc_all {xs : List Cust} {p q : Str} (h : mcC xs p q = 0) : cuB xs = true ∧ cuB (mcL xs p q) = true ∧ sumI nbC (mcL xs p q) = sumI nbC xs ∧ (mcL xs p q).length + 1 = xs.length := by
  have h0 : ((cuB xs && wordB p) && wordB q) = true := by
    unfold mcC at h; split at h
    · assumption
    · cases h
  have h0' := h0
  simp only [Bool.and_eq_true] at h0'
  obtain ⟨⟨k1, k2⟩, k3⟩ := h0'
  have h1 : ¬ (fnI xs p < 0 ∨ fnI xs q < 0) := fun e => by unfold mcC at h; rw [if_pos h0, if_pos e] at h; cases h
  rw [not_or] at h1
  obtain ⟨c, hc, hcn⟩ := fn_at h1.1
  obtain ⟨d, hd, hdn⟩ := fn_at h1.2
  have h2 : ¬ fnI xs p = fnI xs q := fun e => by unfold mcC at h; rw [if_pos h0, if_neg (by omega), if_pos e] at h; cases h
  have h3 : ¬ 5 < c.2.2.length + d.2.2.length := fun e => by unfold mcC at h; rw [if_pos h0, if_neg (by omega), if_neg h2, bikesAt_eq hc, bikesAt_eq hd, if_pos e] at h; cases h
  have okc := cuB_el k1 c (List.mem_of_getElem? hc)
  have okd := cuB_el k1 d (List.mem_of_getElem? hd)
  have hne : (fnI xs p).toNat ≠ (fnI xs q).toNat := by omega
  have hE : mcL xs p q = mcO xs (fnI xs p).toNat (fnI xs q).toNat c d := by unfold mcL; rw [if_pos h, hc, hd]
  have hdis : ∀ b ∈ d.2.2, b ∉ c.2.2 := fun b hb hb2 => hne (cu_only k1 hc hd hb2 hb)
  have hbk : bkB (insL d.2.2 c.2.2) = true := by
    refine bk_of (by rw [insL_len]; omega) (fun b hb => ?_) (insL_up (bkB_ups okc.bikes) (bkB_ups okd.bikes) hdis)
    rcases insL_mem.1 hb with e | e
    · exact bkB_word okc.bikes b e
    · exact bkB_word okd.bikes b e
  have hi := (List.getElem?_eq_some_iff.1 hc).1
  have hk := (List.getElem?_eq_some_iff.1 hd).1
  have hd1 : (xs.set (fnI xs p).toNat (c.1, min c.2.1 d.2.1, insL d.2.2 c.2.2))[(fnI xs q).toNat]? = some d := by rw [List.getElem?_set_ne hne]; exact hd
  have hpd : (mcO xs (fnI xs p).toNat (fnI xs q).toNat c d).Pairwise fun c d => ∀ b ∈ c.2.2, b ∉ d.2.2 := by
    unfold mcO
    rw [List.pairwise_iff_getElem]
    intro a e ha he hae b hb1 hb2
    generalize hM : xs.set (fnI xs p).toNat (c.1, min c.2.1 d.2.1, insL d.2.2 c.2.2) = M at *
    have hML : M.length = xs.length := by rw [← hM, List.length_set]
    have key : ∀ (j : Nat) (x : Cust), (M.take (fnI xs q).toNat ++ M.drop ((fnI xs q).toNat + 1))[j]? = some x → ∃ i, i ≠ (fnI xs q).toNat ∧ M[i]? = some x ∧ i = (if j < (fnI xs q).toNat then j else j + 1) := by
      intro j x hx
      by_cases c1 : j < (fnI xs q).toNat
      · rw [List.getElem?_append_left (by rw [List.length_take]; omega), List.getElem?_take, if_pos c1] at hx
        exact ⟨j, by omega, hx, by rw [if_pos c1]⟩
      · rw [List.getElem?_append_right (by rw [List.length_take]; omega), List.length_take, Nat.min_eq_left (by omega), List.getElem?_drop] at hx
        exact ⟨j + 1, by omega, by rw [← hx]; congr 1; omega, by rw [if_neg c1]⟩
    obtain ⟨a', ha1, ha2, ha3⟩ := key a _ (List.getElem?_eq_getElem ha)
    obtain ⟨e', he1, he2, he3⟩ := key e _ (List.getElem?_eq_getElem he)
    have hae' : a' ≠ e' := by rw [ha3, he3]; split <;> split <;> omega
    have from_ : ∀ (j : Nat) (x : Cust), j ≠ (fnI xs q).toNat → M[j]? = some x → b ∈ x.2.2 → (j = (fnI xs p).toNat ∧ (b ∈ c.2.2 ∨ b ∈ d.2.2)) ∨ (j ≠ (fnI xs p).toNat ∧ xs[j]? = some x) := by
      intro j x hj hx hbx
      by_cases e1 : (fnI xs p).toNat = j
      · subst e1; rw [← hM, List.getElem?_set_self hi] at hx; cases hx
        exact .inl ⟨rfl, insL_mem.1 hbx⟩
      · rw [← hM, List.getElem?_set_ne e1] at hx; exact .inr ⟨fun q => e1 q.symm, hx⟩
    rcases from_ a' _ ha1 ha2 hb1 with ⟨r1, r2⟩ | ⟨r1, r2⟩
    · rcases from_ e' _ he1 he2 hb2 with ⟨s1, s2⟩ | ⟨s1, s2⟩
      · omega
      · rcases r2 with r2 | r2
        · exact s1 (cu_only k1 s2 hc hb2 r2)
        · exact he1 (cu_only k1 s2 hd hb2 r2)
    · rcases from_ e' _ he1 he2 hb2 with ⟨s1, s2⟩ | ⟨s1, s2⟩
      · rcases s2 with s2 | s2
        · exact r1 (cu_only k1 r2 hc hb1 s2)
        · exact ha1 (cu_only k1 r2 hd hb1 s2)
      · exact hae' (cu_only k1 r2 s2 hb1 hb2)
  have hpn : (mcO xs (fnI xs p).toNat (fnI xs q).toNat c d).Pairwise fun c d => c.1 < d.1 := by
    unfold mcO
    exact del_pw (pw_set (y := (c.1, min c.2.1 d.2.1, insL d.2.2 c.2.2)) (cu_pn k1) hc (fun j z hj hz hr => hr) fun j z hj hz hr => hr) _
  have hlen : (mcO xs (fnI xs p).toNat (fnI xs q).toNat c d).length + 1 = xs.length := by
    unfold mcO; rw [List.length_append, List.length_take, List.length_drop, List.length_set]; omega
  have hl20 := cuB_len k1
  rw [hE]
  refine ⟨k1, cu_of (by omega) (fun x hx => ?_) hpn hpd, ?_, hlen⟩
  · unfold mcO at hx
    have hx2 : x ∈ xs.set (fnI xs p).toNat (c.1, min c.2.1 d.2.1, insL d.2.2 c.2.2) := by
      rcases List.mem_append.1 hx with e | e
      · exact List.mem_of_mem_take e
      · exact List.mem_of_mem_drop e
    rcases List.mem_or_eq_of_mem_set hx2 with e | e
    · exact cuB_el k1 x e
    · subst e; exact ⟨okc.word, date_min okc.date okd.date, hbk⟩
  · unfold mcO
    rw [sum_del hd1, sum_set hc]
    have g := insL_len d.2.2 c.2.2
    show sumI nbC xs - ((c.2.2.length : Nat) : Int) + (((insL d.2.2 c.2.2).length : Nat) : Int) - ((d.2.2.length : Nat) : Int) = _
    omega

set_option maxHeartbeats 8000000 in
set_option maxRecDepth 16000 in
theorem c_laws_FnCustomers (w0 : World) (v_code : Value) (code : List UInt8) {S_code : Nat → Prop} (h_code : Rds shU8 S_code w0 v_code code) :
  Calls Try.prog 13 #[v_code] w0 (Ret w0 (fun v _ => v = .bool (true))) := by
 refine enter (N := 247) Try.func13 rfl rfl rfl ?_
 intro a0 ha0
 have hx0 := Ext.rfl' w0
 have hl_code := h_code.length_le
 refine wp_seq ?_
 refine wp_region_lit ?_
 refine wl_val ha0 rfl rfl rfl (op_assign ha0 rfl rfl) ?_
 intro a1 ha1; clear ha0 a0
 refine wpList_nil ?_
 refine then_n ?_
 refine wp_seq ?_
 refine wp_seq ?_
 refine wp_region_lit ?_
 refine wl_val ha1 rfl rfl rfl (op_move ha1 rfl rfl) ?_
 intro a2 ha2; clear ha1 a1
 refine wl_callR ha2 rfl rfl rfl (op_call ha2 rfl cb40 rfl) (c_laws_big _ v_code code (h_code.ext pos_shU8 hx0)) ?_
 rintro v3 w4 he5 rfl a6 ha6; clear ha2 a2
 have hx7 := hx0.trans' he5
 have hzhx7 := he5.size
 refine wpList_nil ?_
 refine then_n ?_
 rcases Bool.eq_false_or_eq_true (decide (4096 < code.length)) with c8 | c8
 ·
  rw [c8] at ha6
  refine cond_t ha6 rfl ?_
  refine wp_seq ?_
  refine wp_region_lit ?_
  refine wl_val ha6 rfl rfl rfl (op_assign ha6 rfl rfl) ?_
  intro a9 ha9; clear ha6 a6
  refine wpList_nil ?_
  refine then_n ?_
  refine wp_ret ?_
  refine then_r ?_
  refine ret1 ha9 rfl rfl ?_
  clear ha9 a9
  exact ret_mk hx7 (congrArg Value.bool (by first | rfl | (simp at c8; done) | (exact hs2) | omega))
 ·
  rw [c8] at ha6
  refine cond_f ha6 rfl ?_
  refine wp_skip ?_
  refine then_n ?_
  refine wp_seq ?_
  refine wp_region_lit ?_
  refine wl_val ha6 rfl rfl rfl (op_move ha6 rfl rfl) ?_
  intro a10 ha10; clear ha6 a6
  refine wl_callR ha10 rfl rfl rfl (op_call ha10 rfl cb48 rfl) (c_spec_DrawSellBike _ v_code code (h_code.ext pos_shU8 hx7)) ?_
  rintro v11 w12 he13 ⟨q14, q15, q16, hq17, hq18, hq19, hq20, ⟨u21, z23, rfl, ho22, hN24, hE25⟩⟩ a26 ha26; clear ha10 a10
  have hx27 := hx7.trans' he13
  have hzhx27 := he13.size
  have hlhE25 := absLen hE25
  refine wl_val ha26 rfl rfl rfl (op_move ha26 rfl rfl) ?_
  intro a28 ha28; clear ha26 a26
  refine wl_val ha28 rfl rfl rfl (op_extract ha28 rfl rfl rfl) ?_
  intro a29 ha29; clear ha28 a28
  refine wl_val ha29 rfl rfl rfl (op_extract ha29 rfl rfl rfl) ?_
  intro a30 ha30; clear ha29 a29
  refine wl_val ha30 rfl rfl rfl (op_extract ha30 rfl rfl rfl) ?_
  intro a31 ha31; clear ha30 a30
  refine wl_val ha31 rfl rfl rfl (op_assign ha31 rfl rfl) ?_
  intro a32 ha32; clear ha31 a31
  refine wl_val ha32 rfl rfl rfl (op_assign ha32 rfl rfl) ?_
  intro a33 ha33; clear ha32 a32
  refine wl_val ha33 rfl rfl rfl (op_assign ha33 rfl rfl) ?_
  intro a34 ha34; clear ha33 a33
  refine wpList_nil ?_
  refine then_n ?_
  refine wp_seq ?_
  refine wp_region_lit ?_
  refine wl_val ha34 rfl rfl rfl (op_move ha34 rfl rfl) ?_
  intro a35 ha35; clear ha34 a34
  refine wl_val ha35 rfl rfl rfl (op_move ha35 rfl rfl) ?_
  intro a36 ha36; clear ha35 a35
  refine wl_val ha36 rfl rfl rfl (op_move ha36 rfl rfl) ?_
  intro a37 ha37; clear ha36 a36
  refine wl_callR ha37 rfl rfl rfl (op_call ha37 rfl cb39 rfl) (c_impl_SellBike _ u21 ((q14)) ((q15)) ((q16)) ((rds_shCustN (ho22.fin (by omega) (by omega) (by omega)) hN24).cast hE25) (by first | assumption | omega | (simp; done) | (simp; omega)) (by first | assumption | omega | (simp; done) | (simp; omega)) (by first | assumption | omega | (simp; done) | (simp; omega))) ?_
  rintro v38 w39 he40 ⟨u41, z43, rfl, ho42, hN44, hE45⟩ a46 ha46; clear ha37 a37
  have hx47 := hx27.trans' he40
  have hzhx47 := he40.size
  replace ho22 := ho22.ext he40
  replace hN24 := hN24.ext he40
  have hlhE45 := absLen hE45
  refine wl_val ha46 rfl rfl rfl (op_move ha46 rfl rfl) ?_
  intro a48 ha48; clear ha46 a46
  refine wl_val ha48 rfl rfl rfl (op_extract ha48 rfl rfl rfl) ?_
  intro a49 ha49; clear ha48 a48
  refine wl_val ha49 rfl rfl rfl (op_extract ha49 rfl rfl rfl) ?_
  intro a50 ha50; clear ha49 a49
  refine wl_val ha50 rfl rfl rfl (op_assign ha50 rfl rfl) ?_
  intro a51 ha51; clear ha50 a50
  refine wl_val ha51 rfl rfl rfl (op_assign ha51 rfl rfl) ?_
  intro a52 ha52; clear ha51 a51
  refine wpList_nil ?_
  refine then_n ?_
  refine wp_seq ?_
  refine wp_region_lit ?_
  refine wl_val ha52 rfl rfl rfl (op_move ha52 rfl rfl) ?_
  intro a53 ha53; clear ha52 a52
  refine wl_val ha53 rfl rfl rfl (op_move ha53 rfl rfl) ?_
  intro a54 ha54; clear ha53 a53
  refine wl_val ha54 rfl rfl rfl (op_move ha54 rfl rfl) ?_
  intro a55 ha55; clear ha54 a54
  refine wl_callR ha55 rfl rfl rfl (op_call ha55 rfl cb38 rfl) (c_spec_SellBike _ u21 ((q14)) ((q15)) ((q16)) ((rds_shCustN (ho22.fin (by omega) (by omega) (by omega)) hN24).cast hE25) (by first | assumption | omega | (simp; done) | (simp; omega)) (by first | assumption | omega | (simp; done) | (simp; omega)) (by first | assumption | omega | (simp; done) | (simp; omega))) ?_
  rintro v56 w57 he58 ⟨u59, z61, rfl, ho60, hN62, hE63⟩ a64 ha64; clear ha55 a55
  have hx65 := hx47.trans' he58
  have hzhx65 := he58.size
  replace ho22 := ho22.ext he58
  replace hN24 := hN24.ext he58
  replace ho42 := ho42.ext he58
  replace hN44 := hN44.ext he58
  have hlhE63 := absLen hE63
  refine wl_val ha64 rfl rfl rfl (op_move ha64 rfl rfl) ?_
  intro a66 ha66; clear ha64 a64
  refine wl_val ha66 rfl rfl rfl (op_extract ha66 rfl rfl rfl) ?_
  intro a67 ha67; clear ha66 a66
  refine wl_val ha67 rfl rfl rfl (op_extract ha67 rfl rfl rfl) ?_
  intro a68 ha68; clear ha67 a67
  refine wl_val ha68 rfl rfl rfl (op_assign ha68 rfl rfl) ?_
  intro a69 ha69; clear ha68 a68
  refine wl_val ha69 rfl rfl rfl (op_assign ha69 rfl rfl) ?_
  intro a70 ha70; clear ha69 a69
  refine wpList_nil ?_
  refine then_n ?_
  refine wp_seq ?_
  refine wp_region_lit ?_
  refine wl_val ha70 rfl rfl rfl (op_move ha70 rfl rfl) ?_
  intro a71 ha71; clear ha70 a70
  refine wl_callR ha71 rfl rfl rfl (op_call ha71 rfl cb20 rfl) (c_impl_CountBikes _ u21 ((q14)) ((rds_shCustN (ho22.fin (by omega) (by omega) (by omega)) hN24).cast hE25) (by first | assumption | omega | (simp; done) | (simp; omega))) ?_
  rintro v72 w73 he74 rfl a75 ha75; clear ha71 a71
  have hx76 := hx65.trans' he74
  have hzhx76 := he74.size
  replace ho22 := ho22.ext he74
  replace hN24 := hN24.ext he74
  replace ho42 := ho42.ext he74
  replace hN44 := hN44.ext he74
  replace ho60 := ho60.ext he74
  replace hN62 := hN62.ext he74
  refine wl_val ha75 rfl rfl rfl (op_move ha75 rfl rfl) ?_
  intro a77 ha77; clear ha75 a75
  refine wl_val ha77 rfl rfl rfl (op_extract ha77 rfl rfl rfl) ?_
  intro a78 ha78; clear ha77 a77
  refine wl_val ha78 rfl rfl rfl (op_extract ha78 rfl rfl rfl) ?_
  intro a79 ha79; clear ha78 a78
  refine wl_val ha79 rfl rfl rfl (op_assign ha79 rfl rfl) ?_
  intro a80 ha80; clear ha79 a79
  refine wl_val ha80 rfl rfl rfl (op_assign ha80 rfl rfl) ?_
  intro a81 ha81; clear ha80 a80
  refine wpList_nil ?_
  refine then_n ?_
  refine wp_seq ?_
  refine wp_region_lit ?_
  refine wl_val ha81 rfl rfl rfl (op_move ha81 rfl rfl) ?_
  intro a82 ha82; clear ha81 a81
  refine wl_callR ha82 rfl rfl rfl (op_call ha82 rfl cb19 rfl) (c_spec_CountBikes _ u21 ((q14)) ((rds_shCustN (ho22.fin (by omega) (by omega) (by omega)) hN24).cast hE25) (by first | assumption | omega | (simp; done) | (simp; omega))) ?_
  rintro v83 w84 he85 rfl a86 ha86; clear ha82 a82
  have hx87 := hx76.trans' he85
  have hzhx87 := he85.size
  replace ho22 := ho22.ext he85
  replace hN24 := hN24.ext he85
  replace ho42 := ho42.ext he85
  replace hN44 := hN44.ext he85
  replace ho60 := ho60.ext he85
  replace hN62 := hN62.ext he85
  refine wl_val ha86 rfl rfl rfl (op_move ha86 rfl rfl) ?_
  intro a88 ha88; clear ha86 a86
  refine wl_val ha88 rfl rfl rfl (op_extract ha88 rfl rfl rfl) ?_
  intro a89 ha89; clear ha88 a88
  refine wl_val ha89 rfl rfl rfl (op_extract ha89 rfl rfl rfl) ?_
  intro a90 ha90; clear ha89 a89
  refine wl_val ha90 rfl rfl rfl (op_assign ha90 rfl rfl) ?_
  intro a91 ha91; clear ha90 a90
  refine wl_val ha91 rfl rfl rfl (op_assign ha91 rfl rfl) ?_
  intro a92 ha92; clear ha91 a91
  refine wpList_nil ?_
  refine then_n ?_
  refine wp_seq ?_
  refine wp_region_lit ?_
  refine wl_val ha92 rfl rfl rfl (op_move ha92 rfl rfl) ?_
  intro a93 ha93; clear ha92 a92
  refine wl_callR ha93 rfl rfl rfl (op_call ha93 rfl cb49 rfl) (c_spec_DrawMergeCustomers _ v_code code (h_code.ext pos_shU8 hx87)) ?_
  rintro v94 w95 he96 ⟨q97, q98, q99, hq100, hq101, hq102, hq103, ⟨u104, z106, rfl, ho105, hN107, hE108⟩⟩ a109 ha109; clear ha93 a93
  have hx110 := hx87.trans' he96
  have hzhx110 := he96.size
  replace ho22 := ho22.ext he96
  replace hN24 := hN24.ext he96
  replace ho42 := ho42.ext he96
  replace hN44 := hN44.ext he96
  replace ho60 := ho60.ext he96
  replace hN62 := hN62.ext he96
  have hlhE108 := absLen hE108
  refine wl_val ha109 rfl rfl rfl (op_move ha109 rfl rfl) ?_
  intro a111 ha111; clear ha109 a109
  refine wl_val ha111 rfl rfl rfl (op_extract ha111 rfl rfl rfl) ?_
  intro a112 ha112; clear ha111 a111
  refine wl_val ha112 rfl rfl rfl (op_extract ha112 rfl rfl rfl) ?_
  intro a113 ha113; clear ha112 a112
  refine wl_val ha113 rfl rfl rfl (op_extract ha113 rfl rfl rfl) ?_
  intro a114 ha114; clear ha113 a113
  refine wl_val ha114 rfl rfl rfl (op_assign ha114 rfl rfl) ?_
  intro a115 ha115; clear ha114 a114
  refine wl_val ha115 rfl rfl rfl (op_assign ha115 rfl rfl) ?_
  intro a116 ha116; clear ha115 a115
  refine wl_val ha116 rfl rfl rfl (op_assign ha116 rfl rfl) ?_
  intro a117 ha117; clear ha116 a116
  refine wpList_nil ?_
  refine then_n ?_
  refine wp_seq ?_
  refine wp_region_lit ?_
  refine wl_val ha117 rfl rfl rfl (op_move ha117 rfl rfl) ?_
  intro a118 ha118; clear ha117 a117
  refine wl_val ha118 rfl rfl rfl (op_move ha118 rfl rfl) ?_
  intro a119 ha119; clear ha118 a118
  refine wl_val ha119 rfl rfl rfl (op_move ha119 rfl rfl) ?_
  intro a120 ha120; clear ha119 a119
  refine wl_callR ha120 rfl rfl rfl (op_call ha120 rfl cb35 rfl) (c_impl_MergeCustomers _ u104 ((q97)) ((q98)) ((q99)) ((rds_shCustN (ho105.fin (by omega) (by omega) (by omega)) hN107).cast hE108) (by first | assumption | omega | (simp; done) | (simp; omega)) (by first | assumption | omega | (simp; done) | (simp; omega)) (by first | assumption | omega | (simp; done) | (simp; omega))) ?_
  rintro v121 w122 he123 ⟨u124, z126, rfl, ho125, hN127, hE128⟩ a129 ha129; clear ha120 a120
  have hx130 := hx110.trans' he123
  have hzhx130 := he123.size
  replace ho22 := ho22.ext he123
  replace hN24 := hN24.ext he123
  replace ho42 := ho42.ext he123
  replace hN44 := hN44.ext he123
  replace ho60 := ho60.ext he123
  replace hN62 := hN62.ext he123
  replace ho105 := ho105.ext he123
  replace hN107 := hN107.ext he123
  have hlhE128 := absLen hE128
  refine wl_val ha129 rfl rfl rfl (op_move ha129 rfl rfl) ?_
  intro a131 ha131; clear ha129 a129
  refine wl_val ha131 rfl rfl rfl (op_extract ha131 rfl rfl rfl) ?_
  intro a132 ha132; clear ha131 a131
  refine wl_val ha132 rfl rfl rfl (op_extract ha132 rfl rfl rfl) ?_
  intro a133 ha133; clear ha132 a132
  refine wl_val ha133 rfl rfl rfl (op_assign ha133 rfl rfl) ?_
  intro a134 ha134; clear ha133 a133
  refine wl_val ha134 rfl rfl rfl (op_assign ha134 rfl rfl) ?_
  intro a135 ha135; clear ha134 a134
  refine wpList_nil ?_
  refine then_n ?_
  refine wp_seq ?_
  refine wp_region_lit ?_
  refine wl_val ha135 rfl rfl rfl (op_move ha135 rfl rfl) ?_
  intro a136 ha136; clear ha135 a135
  refine wl_val ha136 rfl rfl rfl (op_move ha136 rfl rfl) ?_
  intro a137 ha137; clear ha136 a136
  refine wl_val ha137 rfl rfl rfl (op_move ha137 rfl rfl) ?_
  intro a138 ha138; clear ha137 a137
  refine wl_callR ha138 rfl rfl rfl (op_call ha138 rfl cb34 rfl) (c_spec_MergeCustomers _ u104 ((q97)) ((q98)) ((q99)) ((rds_shCustN (ho105.fin (by omega) (by omega) (by omega)) hN107).cast hE108) (by first | assumption | omega | (simp; done) | (simp; omega)) (by first | assumption | omega | (simp; done) | (simp; omega)) (by first | assumption | omega | (simp; done) | (simp; omega))) ?_
  rintro v139 w140 he141 ⟨u142, z144, rfl, ho143, hN145, hE146⟩ a147 ha147; clear ha138 a138
  have hx148 := hx130.trans' he141
  have hzhx148 := he141.size
  replace ho22 := ho22.ext he141
  replace hN24 := hN24.ext he141
  replace ho42 := ho42.ext he141
  replace hN44 := hN44.ext he141
  replace ho60 := ho60.ext he141
  replace hN62 := hN62.ext he141
  replace ho105 := ho105.ext he141
  replace hN107 := hN107.ext he141
  replace ho125 := ho125.ext he141
  replace hN127 := hN127.ext he141
  have hlhE146 := absLen hE146
  refine wl_val ha147 rfl rfl rfl (op_move ha147 rfl rfl) ?_
  intro a149 ha149; clear ha147 a147
  refine wl_val ha149 rfl rfl rfl (op_extract ha149 rfl rfl rfl) ?_
  intro a150 ha150; clear ha149 a149
  refine wl_val ha150 rfl rfl rfl (op_extract ha150 rfl rfl rfl) ?_
  intro a151 ha151; clear ha150 a150
  refine wl_val ha151 rfl rfl rfl (op_assign ha151 rfl rfl) ?_
  intro a152 ha152; clear ha151 a151
  refine wl_val ha152 rfl rfl rfl (op_assign ha152 rfl rfl) ?_
  intro a153 ha153; clear ha152 a152
  refine wpList_nil ?_
  refine then_n ?_
  refine wp_seq ?_
  refine wp_region_lit ?_
  refine wl_val ha153 rfl rfl rfl (op_move ha153 rfl rfl) ?_
  intro a154 ha154; clear ha153 a153
  refine wl_callR ha154 rfl rfl rfl (op_call ha154 rfl cb50 rfl) (c_spec_DrawGiveBike _ v_code code (h_code.ext pos_shU8 hx148)) ?_
  rintro v155 w156 he157 ⟨q158, q159, q160, hq161, hq162, hq163, hq164, ⟨u165, z167, rfl, ho166, hN168, hE169⟩⟩ a170 ha170; clear ha154 a154
  have hx171 := hx148.trans' he157
  have hzhx171 := he157.size
  replace ho22 := ho22.ext he157
  replace hN24 := hN24.ext he157
  replace ho42 := ho42.ext he157
  replace hN44 := hN44.ext he157
  replace ho60 := ho60.ext he157
  replace hN62 := hN62.ext he157
  replace ho105 := ho105.ext he157
  replace hN107 := hN107.ext he157
  replace ho125 := ho125.ext he157
  replace hN127 := hN127.ext he157
  replace ho143 := ho143.ext he157
  replace hN145 := hN145.ext he157
  have hlhE169 := absLen hE169
  refine wl_val ha170 rfl rfl rfl (op_move ha170 rfl rfl) ?_
  intro a172 ha172; clear ha170 a170
  refine wl_val ha172 rfl rfl rfl (op_extract ha172 rfl rfl rfl) ?_
  intro a173 ha173; clear ha172 a172
  refine wl_val ha173 rfl rfl rfl (op_extract ha173 rfl rfl rfl) ?_
  intro a174 ha174; clear ha173 a173
  refine wl_val ha174 rfl rfl rfl (op_extract ha174 rfl rfl rfl) ?_
  intro a175 ha175; clear ha174 a174
  refine wl_val ha175 rfl rfl rfl (op_assign ha175 rfl rfl) ?_
  intro a176 ha176; clear ha175 a175
  refine wl_val ha176 rfl rfl rfl (op_assign ha176 rfl rfl) ?_
  intro a177 ha177; clear ha176 a176
  refine wl_val ha177 rfl rfl rfl (op_assign ha177 rfl rfl) ?_
  intro a178 ha178; clear ha177 a177
  refine wpList_nil ?_
  refine then_n ?_
  refine wp_seq ?_
  refine wp_region_lit ?_
  refine wl_val ha178 rfl rfl rfl (op_move ha178 rfl rfl) ?_
  intro a179 ha179; clear ha178 a178
  refine wl_val ha179 rfl rfl rfl (op_move ha179 rfl rfl) ?_
  intro a180 ha180; clear ha179 a179
  refine wl_val ha180 rfl rfl rfl (op_move ha180 rfl rfl) ?_
  intro a181 ha181; clear ha180 a180
  refine wl_callR ha181 rfl rfl rfl (op_call ha181 rfl cb37 rfl) (c_impl_GiveBike _ u165 ((q158)) ((q159)) ((q160)) ((rds_shCustN (ho166.fin (by omega) (by omega) (by omega)) hN168).cast hE169) (by first | assumption | omega | (simp; done) | (simp; omega)) (by first | assumption | omega | (simp; done) | (simp; omega)) (by first | assumption | omega | (simp; done) | (simp; omega))) ?_
  rintro v182 w183 he184 ⟨u185, z187, rfl, ho186, hN188, hE189⟩ a190 ha190; clear ha181 a181
  have hx191 := hx171.trans' he184
  have hzhx191 := he184.size
  replace ho22 := ho22.ext he184
  replace hN24 := hN24.ext he184
  replace ho42 := ho42.ext he184
  replace hN44 := hN44.ext he184
  replace ho60 := ho60.ext he184
  replace hN62 := hN62.ext he184
  replace ho105 := ho105.ext he184
  replace hN107 := hN107.ext he184
  replace ho125 := ho125.ext he184
  replace hN127 := hN127.ext he184
  replace ho143 := ho143.ext he184
  replace hN145 := hN145.ext he184
  replace ho166 := ho166.ext he184
  replace hN168 := hN168.ext he184
  have hlhE189 := absLen hE189
  refine wl_val ha190 rfl rfl rfl (op_move ha190 rfl rfl) ?_
  intro a192 ha192; clear ha190 a190
  refine wl_val ha192 rfl rfl rfl (op_extract ha192 rfl rfl rfl) ?_
  intro a193 ha193; clear ha192 a192
  refine wl_val ha193 rfl rfl rfl (op_extract ha193 rfl rfl rfl) ?_
  intro a194 ha194; clear ha193 a193
  refine wl_val ha194 rfl rfl rfl (op_assign ha194 rfl rfl) ?_
  intro a195 ha195; clear ha194 a194
  refine wl_val ha195 rfl rfl rfl (op_assign ha195 rfl rfl) ?_
  intro a196 ha196; clear ha195 a195
  refine wpList_nil ?_
  refine then_n ?_
  refine wp_seq ?_
  refine wp_region_lit ?_
  refine wl_val ha196 rfl rfl rfl (op_move ha196 rfl rfl) ?_
  intro a197 ha197; clear ha196 a196
  refine wl_val ha197 rfl rfl rfl (op_move ha197 rfl rfl) ?_
  intro a198 ha198; clear ha197 a197
  refine wl_val ha198 rfl rfl rfl (op_move ha198 rfl rfl) ?_
  intro a199 ha199; clear ha198 a198
  refine wl_callR ha199 rfl rfl rfl (op_call ha199 rfl cb36 rfl) (c_spec_GiveBike _ u165 ((q158)) ((q159)) ((q160)) ((rds_shCustN (ho166.fin (by omega) (by omega) (by omega)) hN168).cast hE169) (by first | assumption | omega | (simp; done) | (simp; omega)) (by first | assumption | omega | (simp; done) | (simp; omega)) (by first | assumption | omega | (simp; done) | (simp; omega))) ?_
  rintro v200 w201 he202 ⟨u203, z205, rfl, ho204, hN206, hE207⟩ a208 ha208; clear ha199 a199
  have hx209 := hx191.trans' he202
  have hzhx209 := he202.size
  replace ho22 := ho22.ext he202
  replace hN24 := hN24.ext he202
  replace ho42 := ho42.ext he202
  replace hN44 := hN44.ext he202
  replace ho60 := ho60.ext he202
  replace hN62 := hN62.ext he202
  replace ho105 := ho105.ext he202
  replace hN107 := hN107.ext he202
  replace ho125 := ho125.ext he202
  replace hN127 := hN127.ext he202
  replace ho143 := ho143.ext he202
  replace hN145 := hN145.ext he202
  replace ho166 := ho166.ext he202
  replace hN168 := hN168.ext he202
  replace ho186 := ho186.ext he202
  replace hN188 := hN188.ext he202
  have hlhE207 := absLen hE207
  refine wl_val ha208 rfl rfl rfl (op_move ha208 rfl rfl) ?_
  intro a210 ha210; clear ha208 a208
  refine wl_val ha210 rfl rfl rfl (op_extract ha210 rfl rfl rfl) ?_
  intro a211 ha211; clear ha210 a210
  refine wl_val ha211 rfl rfl rfl (op_extract ha211 rfl rfl rfl) ?_
  intro a212 ha212; clear ha211 a211
  refine wl_val ha212 rfl rfl rfl (op_assign ha212 rfl rfl) ?_
  intro a213 ha213; clear ha212 a212
  refine wl_val ha213 rfl rfl rfl (op_assign ha213 rfl rfl) ?_
  intro a214 ha214; clear ha213 a213
  refine wpList_nil ?_
  refine then_n ?_
  refine wp_seq ?_
  refine wp_seq ?_
  clear ho166 hN168
  refine wp_region_lit ?_
  refine wl_val ha214 rfl rfl rfl (op_move ha214 rfl rfl) ?_
  intro a215 ha215; clear ha214 a214
  refine wl_val ha215 rfl rfl rfl (op_move ha215 rfl rfl) ?_
  intro a216 ha216; clear ha215 a215
  refine wl_val ha216 rfl rfl rfl ((op_neq ha216 rfl rfl rfl).to (congrArg Value.bool decide_not)) ?_
  intro a217 ha217; clear ha216 a216
  refine wl_val ha217 rfl rfl rfl (op_move ha217 rfl rfl) ?_
  intro a218 ha218; clear ha217 a217
  by_cases c219 : (seC ((q14)) ((q15)) ((q16)) : Int) = (seC ((q14)) ((q15)) ((q16)) : Int)
  ·
   rw [decide_eq_true c219] at ha218
   refine wl_val ha218 rfl rfl rfl (op_move ha218 rfl rfl) ?_
   intro a220 ha220; clear ha218 a218
   refine wl_val ha220 rfl rfl rfl (op_move ha220 rfl rfl) ?_
   intro a221 ha221; clear ha220 a220
   refine wl_callR ha221 rfl rfl rfl (op_call ha221 rfl cb45 rfl) (c_laws_likeCustomers _ u41 ((seL ((q14)) ((q15)) ((q16)))) u59 ((seL ((q14)) ((q15)) ((q16)))) ((rds_shCustN (ho42.fin (by omega) (by omega) (by omega)) hN44).cast hE45) ((rds_shCustN (ho60.fin (by omega) (by omega) (by omega)) hN62).cast hE63)) ?_
   rintro v222 w223 he224 rfl a225 ha225; clear ha221 a221
   have hx226 := hx209.trans' he224
   have hzhx226 := he224.size
   replace ho22 := ho22.ext he224
   replace hN24 := hN24.ext he224
   replace ho42 := ho42.ext he224
   replace hN44 := hN44.ext he224
   replace ho60 := ho60.ext he224
   replace hN62 := hN62.ext he224
   replace ho105 := ho105.ext he224
   replace hN107 := hN107.ext he224
   replace ho125 := ho125.ext he224
   replace hN127 := hN127.ext he224
   replace ho143 := ho143.ext he224
   replace hN145 := hN145.ext he224
   replace ho186 := ho186.ext he224
   replace hN188 := hN188.ext he224
   replace ho204 := ho204.ext he224
   replace hN206 := hN206.ext he224
   refine wl_val ha225 rfl rfl rfl (op_not ha225 rfl rfl) ?_
   intro a227 ha227; clear ha225 a225
   refine wl_val ha227 rfl rfl rfl (op_pick_f ha227 rfl rfl rfl) ?_
   intro a228 ha228; clear ha227 a227
   refine wl_val ha228 rfl rfl rfl (op_move ha228 rfl rfl) ?_
   intro a229 ha229; clear ha228 a228
   rcases Bool.eq_false_or_eq_true (eqL ((seL ((q14)) ((q15)) ((q16)))) ((seL ((q14)) ((q15)) ((q16))))) with c230 | c230
   ·
    rw [c230] at ha229
    refine wl_val ha229 rfl rfl rfl (op_move ha229 rfl rfl) ?_
    intro a231 ha231; clear ha229 a229
    refine wl_val ha231 rfl rfl rfl (op_move ha231 rfl rfl) ?_
    intro a232 ha232; clear ha231 a231
    refine wl_val ha232 rfl rfl rfl ((op_neq ha232 rfl rfl rfl).to (congrArg Value.bool decide_not)) ?_
    intro a233 ha233; clear ha232 a232
    refine wl_val ha233 rfl rfl rfl (op_pick_f ha233 rfl rfl rfl) ?_
    intro a234 ha234; clear ha233 a233
    refine wl_val ha234 rfl rfl rfl (op_move ha234 rfl rfl) ?_
    intro a235 ha235; clear ha234 a234
    by_cases c236 : (if cuB ((q14)) then 0 else 1 : Int) = (if cuB ((q14)) then 0 else 1 : Int)
    ·
     rw [decide_eq_true c236] at ha235
     refine wl_val ha235 rfl rfl rfl (op_move ha235 rfl rfl) ?_
     intro a237 ha237; clear ha235 a235
     refine wl_val ha237 rfl rfl rfl (op_move ha237 rfl rfl) ?_
     intro a238 ha238; clear ha237 a237
     refine wl_val ha238 rfl rfl rfl ((op_neq ha238 rfl rfl rfl).to (congrArg Value.bool decide_not)) ?_
     intro a239 ha239; clear ha238 a238
     refine wl_val ha239 rfl rfl rfl (op_pick_f ha239 rfl rfl rfl) ?_
     intro a240 ha240; clear ha239 a239
     refine wl_val ha240 rfl rfl rfl (op_move ha240 rfl rfl) ?_
     intro a241 ha241; clear ha240 a240
     by_cases c242 : (if cuB ((q14)) then sumI nbC ((q14)) else 0 : Int) = (if cuB ((q14)) then sumI nbC ((q14)) else 0 : Int)
     ·
      rw [decide_eq_true c242] at ha241
      refine wl_val ha241 rfl rfl rfl (op_move ha241 rfl rfl) ?_
      intro a243 ha243; clear ha241 a241
      refine wl_val ha243 rfl rfl rfl (op_move ha243 rfl rfl) ?_
      intro a244 ha244; clear ha243 a243
      refine wl_val ha244 rfl rfl rfl ((op_neq ha244 rfl rfl rfl).to (congrArg Value.bool decide_not)) ?_
      intro a245 ha245; clear ha244 a244
      refine wl_val ha245 rfl rfl rfl (op_pick_f ha245 rfl rfl rfl) ?_
      intro a246 ha246; clear ha245 a245
      refine wl_val ha246 rfl rfl rfl (op_move ha246 rfl rfl) ?_
      intro a247 ha247; clear ha246 a246
      by_cases c248 : (mcC ((q97)) ((q98)) ((q99)) : Int) = (mcC ((q97)) ((q98)) ((q99)) : Int)
      ·
       rw [decide_eq_true c248] at ha247
       refine wl_val ha247 rfl rfl rfl (op_move ha247 rfl rfl) ?_
       intro a249 ha249; clear ha247 a247
       refine wl_val ha249 rfl rfl rfl (op_move ha249 rfl rfl) ?_
       intro a250 ha250; clear ha249 a249
       refine wl_callR ha250 rfl rfl rfl (op_call ha250 rfl cb45 rfl) (c_laws_likeCustomers _ u124 ((mcL ((q97)) ((q98)) ((q99)))) u142 ((mcL ((q97)) ((q98)) ((q99)))) ((rds_shCustN (ho125.fin (by omega) (by omega) (by omega)) hN127).cast hE128) ((rds_shCustN (ho143.fin (by omega) (by omega) (by omega)) hN145).cast hE146)) ?_
       rintro v251 w252 he253 rfl a254 ha254; clear ha250 a250
       have hx255 := hx226.trans' he253
       have hzhx255 := he253.size
       replace ho22 := ho22.ext he253
       replace hN24 := hN24.ext he253
       replace ho42 := ho42.ext he253
       replace hN44 := hN44.ext he253
       replace ho60 := ho60.ext he253
       replace hN62 := hN62.ext he253
       replace ho105 := ho105.ext he253
       replace hN107 := hN107.ext he253
       replace ho125 := ho125.ext he253
       replace hN127 := hN127.ext he253
       replace ho143 := ho143.ext he253
       replace hN145 := hN145.ext he253
       replace ho186 := ho186.ext he253
       replace hN188 := hN188.ext he253
       replace ho204 := ho204.ext he253
       replace hN206 := hN206.ext he253
       refine wl_val ha254 rfl rfl rfl (op_not ha254 rfl rfl) ?_
       intro a256 ha256; clear ha254 a254
       refine wl_val ha256 rfl rfl rfl (op_pick_f ha256 rfl rfl rfl) ?_
       intro a257 ha257; clear ha256 a256
       refine wl_val ha257 rfl rfl rfl (op_move ha257 rfl rfl) ?_
       intro a258 ha258; clear ha257 a257
       rcases Bool.eq_false_or_eq_true (eqL ((mcL ((q97)) ((q98)) ((q99)))) ((mcL ((q97)) ((q98)) ((q99))))) with c259 | c259
       ·
        rw [c259] at ha258
        refine wl_val ha258 rfl rfl rfl (op_move ha258 rfl rfl) ?_
        intro a260 ha260; clear ha258 a258
        refine wl_val ha260 rfl rfl rfl (op_move ha260 rfl rfl) ?_
        intro a261 ha261; clear ha260 a260
        refine wl_val ha261 rfl rfl rfl ((op_neq ha261 rfl rfl rfl).to (congrArg Value.bool decide_not)) ?_
        intro a262 ha262; clear ha261 a261
        refine wl_val ha262 rfl rfl rfl (op_pick_f ha262 rfl rfl rfl) ?_
        intro a263 ha263; clear ha262 a262
        refine wl_val ha263 rfl rfl rfl (op_move ha263 rfl rfl) ?_
        intro a264 ha264; clear ha263 a263
        by_cases c265 : (gvC ((q158)) ((q159)) ((q160)) : Int) = (gvC ((q158)) ((q159)) ((q160)) : Int)
        ·
         rw [decide_eq_true c265] at ha264
         refine wl_val ha264 rfl rfl rfl (op_move ha264 rfl rfl) ?_
         intro a266 ha266; clear ha264 a264
         refine wl_val ha266 rfl rfl rfl (op_move ha266 rfl rfl) ?_
         intro a267 ha267; clear ha266 a266
         refine wl_callR ha267 rfl rfl rfl (op_call ha267 rfl cb45 rfl) (c_laws_likeCustomers _ u185 ((gvL ((q158)) ((q159)) ((q160)))) u203 ((gvL ((q158)) ((q159)) ((q160)))) ((rds_shCustN (ho186.fin (by omega) (by omega) (by omega)) hN188).cast hE189) ((rds_shCustN (ho204.fin (by omega) (by omega) (by omega)) hN206).cast hE207)) ?_
         rintro v268 w269 he270 rfl a271 ha271; clear ha267 a267
         have hx272 := hx255.trans' he270
         have hzhx272 := he270.size
         replace ho22 := ho22.ext he270
         replace hN24 := hN24.ext he270
         replace ho42 := ho42.ext he270
         replace hN44 := hN44.ext he270
         replace ho60 := ho60.ext he270
         replace hN62 := hN62.ext he270
         replace ho105 := ho105.ext he270
         replace hN107 := hN107.ext he270
         replace ho125 := ho125.ext he270
         replace hN127 := hN127.ext he270
         replace ho143 := ho143.ext he270
         replace hN145 := hN145.ext he270
         replace ho186 := ho186.ext he270
         replace hN188 := hN188.ext he270
         replace ho204 := ho204.ext he270
         replace hN206 := hN206.ext he270
         refine wl_val ha271 rfl rfl rfl (op_not ha271 rfl rfl) ?_
         intro a273 ha273; clear ha271 a271
         refine wl_val ha273 rfl rfl rfl (op_pick_f ha273 rfl rfl rfl) ?_
         intro a274 ha274; clear ha273 a273
         refine wl_val ha274 rfl rfl rfl (op_move ha274 rfl rfl) ?_
         intro a275 ha275; clear ha274 a274
         rcases Bool.eq_false_or_eq_true (eqL ((gvL ((q158)) ((q159)) ((q160)))) ((gvL ((q158)) ((q159)) ((q160))))) with c276 | c276
         ·
          rw [c276] at ha275
          refine wl_val ha275 rfl rfl rfl (op_move ha275 rfl rfl) ?_
          intro a277 ha277; clear ha275 a275
          refine wl_callR ha277 rfl rfl rfl (op_call ha277 rfl cb17 rfl) (c_impl_AreCustomers _ u21 ((q14)) ((rds_shCustN (ho22.fin (by omega) (by omega) (by omega)) hN24).cast hE25) (by first | assumption | omega | (simp; done) | (simp; omega))) ?_
          rintro v278 w279 he280 rfl a281 ha281; clear ha277 a277
          have hx282 := hx272.trans' he280
          have hzhx282 := he280.size
          replace ho22 := ho22.ext he280
          replace hN24 := hN24.ext he280
          replace ho42 := ho42.ext he280
          replace hN44 := hN44.ext he280
          replace ho60 := ho60.ext he280
          replace hN62 := hN62.ext he280
          replace ho105 := ho105.ext he280
          replace hN107 := hN107.ext he280
          replace ho125 := ho125.ext he280
          replace hN127 := hN127.ext he280
          replace ho143 := ho143.ext he280
          replace hN145 := hN145.ext he280
          replace ho186 := ho186.ext he280
          replace hN188 := hN188.ext he280
          replace ho204 := ho204.ext he280
          replace hN206 := hN206.ext he280
          refine wl_val ha281 rfl rfl rfl (op_move ha281 rfl rfl) ?_
          intro a283 ha283; clear ha281 a281
          refine wl_val ha283 rfl rfl rfl (op_eql ha283 rfl rfl rfl) ?_
          intro a284 ha284; clear ha283 a283
          refine wl_val ha284 rfl rfl rfl (op_bneq ha284 rfl Try.underlying4 rfl rfl) ?_
          intro a285 ha285; clear ha284 a284
          refine wl_val ha285 rfl rfl rfl (op_pick_f ha285 rfl rfl rfl) ?_
          intro a286 ha286; clear ha285 a285
          refine wpList_nil ?_
          refine then_n ?_
          rcases Bool.eq_false_or_eq_true ((cuB ((q14)) == decide ((if cuB ((q14)) then 0 else 1 : Int) = (0 : Int)))) with c287 | c287
          ·
           rw [c287] at ha286
           refine cond_f ha286 rfl ?_
           refine wp_skip ?_
           refine then_n ?_
           refine seq_mid (fun fr wl => Sl 247 fr [(4, St ((q15))), (5, St ((q16))), (6, u41), (7, .int .i64 (seC ((q14)) ((q15)) ((q16)) : Int)), (10, .int .i64 (if cuB ((q14)) then sumI nbC ((q14)) else 0 : Int)), (14, u104), (17, u124), (18, .int .i64 (mcC ((q97)) ((q98)) ((q99)) : Int))] ∧ Ext w0 wl ∧ Own shCustN 55 w12.heap.size w12.heap.size w39.heap.size wl u41 z43 ∧ Nst shStr 9 (fun x : Str × Int × List Str => x.2.2) w12.heap.size w39.heap.size wl z43 ∧ Own shCustN 55 w84.heap.size w84.heap.size w95.heap.size wl u104 z106 ∧ Nst shStr 9 (fun x : Str × Int × List Str => x.2.2) w84.heap.size w95.heap.size wl z106 ∧ Own shCustN 55 w95.heap.size w95.heap.size w122.heap.size wl u124 z126 ∧ Nst shStr 9 (fun x : Str × Int × List Str => x.2.2) w95.heap.size w122.heap.size wl z126 ∧ w279.heap.size ≤ wl.heap.size) ?_ ?_
           ·
            refine wp_seq ?_
            clear ho22 hN24 ho60 hN62 ho143 hN145 ho204 hN206
            refine wp_region_lit ?_
            refine wl_val ha286 rfl rfl rfl (op_move ha286 rfl rfl) ?_
            intro a296 ha296; clear ha286 a286
            refine wl_val ha296 rfl rfl rfl (op_eql ha296 rfl rfl rfl) ?_
            intro a297 ha297; clear ha296 a296
            refine wpList_nil ?_
            refine then_n ?_
            by_cases c298 : (gvC ((q158)) ((q159)) ((q160)) : Int) = (0 : Int)
            ·
             rw [decide_eq_true c298] at ha297
             obtain ⟨hg1, hg2, hg3⟩ := gv_all c298
             have hgl := gvL_len q158 q159 q160
             refine cond_t ha297 rfl ?_
             refine wp_seq ?_
             refine wp_region_lit ?_
             refine wl_val ha297 rfl rfl rfl (op_move ha297 rfl rfl) ?_
             intro a299 ha299; clear ha297 a297
             refine wl_val ha299 rfl rfl rfl (op_move ha299 rfl rfl) ?_
             intro a300 ha300; clear ha299 a299
             refine wl_callR ha300 rfl rfl rfl (op_call ha300 rfl cb22 rfl) (c_impl_OwnerOf _ u185 ((gvL ((q158)) ((q159)) ((q160)))) ((q160)) ((rds_shCustN (ho186.fin (by omega) (by omega) (by omega)) hN188).cast hE189) (by first | assumption | omega | (simp; done) | (simp; omega)) (by first | assumption | omega | (simp; done) | (simp; omega))) ?_
             rintro v301 w302 he303 rfl a304 ha304; clear ha300 a300
             have hx305 := hx282.trans' he303
             have hzhx305 := he303.size
             replace ho42 := ho42.ext he303
             replace hN44 := hN44.ext he303
             replace ho105 := ho105.ext he303
             replace hN107 := hN107.ext he303
             replace ho125 := ho125.ext he303
             replace hN127 := hN127.ext he303
             replace ho186 := ho186.ext he303
             replace hN188 := hN188.ext he303
             refine wl_val ha304 rfl rfl rfl (op_move ha304 rfl rfl) ?_
             intro a306 ha306; clear ha304 a304
             refine wl_val ha306 rfl rfl rfl (op_extract ha306 rfl rfl rfl) ?_
             intro a307 ha307; clear ha306 a306
             refine wl_val ha307 rfl rfl rfl (op_extract ha307 rfl rfl rfl) ?_
             intro a308 ha308; clear ha307 a307
             refine wl_val ha308 rfl rfl rfl (op_assign ha308 rfl rfl) ?_
             intro a309 ha309; clear ha308 a308
             refine wl_val ha309 rfl rfl rfl (op_assign ha309 rfl rfl) ?_
             intro a310 ha310; clear ha309 a309
             refine wpList_nil ?_
             refine then_n ?_
             refine wp_seq ?_
             refine wp_region_lit ?_
             refine wl_val ha310 rfl rfl rfl (op_move ha310 rfl rfl) ?_
             intro a311 ha311; clear ha310 a310
             refine wl_val ha311 rfl rfl rfl ((op_neq ha311 rfl rfl rfl).to (congrArg Value.bool decide_not)) ?_
             intro a312 ha312; clear ha311 a311
             refine wl_val ha312 rfl rfl rfl (op_move ha312 rfl rfl) ?_
             intro a313 ha313; clear ha312 a312
             by_cases c314 : (ownC ((gvL ((q158)) ((q159)) ((q160)))) ((q160)) : Int) = (0 : Int)
             ·
              rw [decide_eq_true c314] at ha313
              refine wl_val ha313 rfl rfl rfl (op_move ha313 rfl rfl) ?_
              intro a315 ha315; clear ha313 a313
              refine wl_val ha315 rfl rfl rfl (op_move ha315 rfl rfl) ?_
              intro a316 ha316; clear ha315 a315
              refine wl_val ha316 rfl rfl rfl ((op_sneq ha316 rfl rfl rfl).to (congrArg Value.bool decide_not)) ?_
              intro a317 ha317; clear ha316 a316
              refine wl_val ha317 rfl rfl rfl (op_pick_f ha317 rfl rfl rfl) ?_
              intro a318 ha318; clear ha317 a317
              refine wl_val ha318 rfl rfl rfl (op_move ha318 rfl rfl) ?_
              intro a319 ha319; clear ha318 a318
              by_cases c320 : (ownN ((gvL ((q158)) ((q159)) ((q160)))) ((q160))) = (q159)
              ·
               rw [decide_eq_true c320] at ha319
               refine wl_val ha319 rfl rfl rfl (op_move ha319 rfl rfl) ?_
               intro a321 ha321; clear ha319 a319
               refine wl_callR ha321 rfl rfl rfl (op_call ha321 rfl cb17 rfl) (c_impl_AreCustomers _ u185 ((gvL ((q158)) ((q159)) ((q160)))) ((rds_shCustN (ho186.fin (by omega) (by omega) (by omega)) hN188).cast hE189) (by first | assumption | omega | (simp; done) | (simp; omega))) ?_
               rintro v322 w323 he324 rfl a325 ha325; clear ha321 a321
               have hx326 := hx305.trans' he324
               have hzhx326 := he324.size
               replace ho42 := ho42.ext he324
               replace hN44 := hN44.ext he324
               replace ho105 := ho105.ext he324
               replace hN107 := hN107.ext he324
               replace ho125 := ho125.ext he324
               replace hN127 := hN127.ext he324
               replace ho186 := ho186.ext he324
               replace hN188 := hN188.ext he324
               refine wl_val ha325 rfl rfl rfl (op_not ha325 rfl rfl) ?_
               intro a327 ha327; clear ha325 a325
               refine wl_val ha327 rfl rfl rfl (op_pick_f ha327 rfl rfl rfl) ?_
               intro a328 ha328; clear ha327 a327
               refine wpList_nil ?_
               refine then_n ?_
               rcases Bool.eq_false_or_eq_true (cuB ((gvL ((q158)) ((q159)) ((q160))))) with c329 | c329
               ·
                rw [c329] at ha328
                refine cond_f ha328 rfl ?_
                refine wp_skip ?_
                refine then_n ?_
                refine ⟨(Sl.cons_ ha328 rfl rfl (Sl.cons_ ha328 rfl rfl (Sl.cons_ ha328 rfl rfl (Sl.cons_ ha328 rfl rfl (Sl.cons_ ha328 rfl rfl (Sl.cons_ ha328 rfl rfl (Sl.cons_ ha328 rfl rfl (Sl.cons_ ha328 rfl rfl (Sl.nil_ ha328))))))))), hx326, ho42, hN44, ho105, hN107, ho125, hN127, (by omega)⟩
               ·
                rw [c329] at ha328
                refine cond_t ha328 rfl ?_
                refine wp_seq ?_
                clear ho42 hN44 ho105 hN107 ho125 hN127 ho186 hN188
                refine wp_region_lit ?_
                refine wl_val ha328 rfl rfl rfl (op_assign ha328 rfl rfl) ?_
                intro a330 ha330; clear ha328 a328
                refine wpList_nil ?_
                refine then_n ?_
                refine wp_ret ?_
                refine ret1 ha330 rfl rfl ?_
                clear ha330 a330
                exact ret_mk hx326 (congrArg Value.bool (by first | rfl | (simp at c287; done) | (simp at c8; done) | (exact hs2) | (exact absurd hg3 c329) | (exact absurd hg2 c329) | (rw [hg1] at c329; cases c329) | omega))
              ·
               rw [decide_eq_false c320] at ha319
               refine wl_skip ha319 rfl rfl rfl ?_
               intro a331 ha331; clear ha319 a319
               refine wl_skip ha331 rfl rfl rfl ?_
               intro a332 ha332; clear ha331 a331
               refine wl_skip ha332 rfl rfl rfl ?_
               intro a333 ha333; clear ha332 a332
               refine wl_val ha333 rfl rfl rfl (op_pick_t ha333 rfl rfl rfl) ?_
               intro a334 ha334; clear ha333 a333
               refine wpList_nil ?_
               refine then_n ?_
               refine cond_t ha334 rfl ?_
               refine wp_seq ?_
               clear ho42 hN44 ho105 hN107 ho125 hN127 ho186 hN188
               refine wp_region_lit ?_
               refine wl_val ha334 rfl rfl rfl (op_assign ha334 rfl rfl) ?_
               intro a335 ha335; clear ha334 a334
               refine wpList_nil ?_
               refine then_n ?_
               refine wp_ret ?_
               refine ret1 ha335 rfl rfl ?_
               clear ha335 a335
               exact ret_mk hx305 (congrArg Value.bool (by first | rfl | (exact absurd rfl c320) | (simp at c287; done) | (simp at c8; done) | (exact hs2) | (exact absurd hg3 c320) | (exact absurd hg2 c320) | (rw [hg1] at c320; cases c320) | omega))
             ·
              rw [decide_eq_false c314] at ha313
              refine wl_skip ha313 rfl rfl rfl ?_
              intro a336 ha336; clear ha313 a313
              refine wl_skip ha336 rfl rfl rfl ?_
              intro a337 ha337; clear ha336 a336
              refine wl_skip ha337 rfl rfl rfl ?_
              intro a338 ha338; clear ha337 a337
              refine wl_val ha338 rfl rfl rfl (op_pick_t ha338 rfl rfl rfl) ?_
              intro a339 ha339; clear ha338 a338
              refine wl_val ha339 rfl rfl rfl (op_move ha339 rfl rfl) ?_
              intro a340 ha340; clear ha339 a339
              refine wl_skip ha340 rfl rfl rfl ?_
              intro a341 ha341; clear ha340 a340
              refine wl_skip ha341 rfl rfl rfl ?_
              intro a342 ha342; clear ha341 a341
              refine wl_skip ha342 rfl rfl rfl ?_
              intro a343 ha343; clear ha342 a342
              refine wl_val ha343 rfl rfl rfl (op_pick_t ha343 rfl rfl rfl) ?_
              intro a344 ha344; clear ha343 a343
              refine wpList_nil ?_
              refine then_n ?_
              refine cond_t ha344 rfl ?_
              refine wp_seq ?_
              clear ho42 hN44 ho105 hN107 ho125 hN127 ho186 hN188
              refine wp_region_lit ?_
              refine wl_val ha344 rfl rfl rfl (op_assign ha344 rfl rfl) ?_
              intro a345 ha345; clear ha344 a344
              refine wpList_nil ?_
              refine then_n ?_
              refine wp_ret ?_
              refine ret1 ha345 rfl rfl ?_
              clear ha345 a345
              exact ret_mk hx305 (congrArg Value.bool (by first | rfl | (exact absurd rfl c314) | (simp at c287; done) | (simp at c8; done) | (exact hs2) | (exact absurd hg3 c314) | (exact absurd hg2 c314) | (rw [hg1] at c314; cases c314) | omega))
            ·
             rw [decide_eq_false c298] at ha297
             refine cond_f ha297 rfl ?_
             refine wp_skip ?_
             refine then_n ?_
             refine ⟨(Sl.cons_ ha297 rfl rfl (Sl.cons_ ha297 rfl rfl (Sl.cons_ ha297 rfl rfl (Sl.cons_ ha297 rfl rfl (Sl.cons_ ha297 rfl rfl (Sl.cons_ ha297 rfl rfl (Sl.cons_ ha297 rfl rfl (Sl.cons_ ha297 rfl rfl (Sl.nil_ ha297))))))))), hx282, ho42, hN44, ho105, hN107, ho125, hN127, (by omega)⟩
           ·
            clear ha286 a286
            rintro a346 w288 ⟨ha346, hx289, hf290, hf291, hf292, hf293, hf294, hf295, hzl347⟩
            have hzhx289 := hx289.size
            refine seq_mid (fun fr wl => Sl 247 fr [(4, St ((q15))), (5, St ((q16))), (6, u41), (7, .int .i64 (seC ((q14)) ((q15)) ((q16)) : Int)), (10, .int .i64 (if cuB ((q14)) then sumI nbC ((q14)) else 0 : Int))] ∧ Ext w0 wl ∧ Own shCustN 55 w12.heap.size w12.heap.size w39.heap.size wl u41 z43 ∧ Nst shStr 9 (fun x : Str × Int × List Str => x.2.2) w12.heap.size w39.heap.size wl z43 ∧ w288.heap.size ≤ wl.heap.size) ?_ ?_
            ·
             refine wp_seq ?_
             refine wp_region_lit ?_
             refine wl_val ha346 rfl rfl rfl (op_move ha346 rfl rfl) ?_
             intro a352 ha352; clear ha346 a346
             refine wl_val ha352 rfl rfl rfl (op_eql ha352 rfl rfl rfl) ?_
             intro a353 ha353; clear ha352 a352
             refine wpList_nil ?_
             refine then_n ?_
             by_cases c354 : (mcC ((q97)) ((q98)) ((q99)) : Int) = (0 : Int)
             ·
              rw [decide_eq_true c354] at ha353
              obtain ⟨hm1, hm2, hm3, hm4⟩ := mc_all c354
              refine cond_t ha353 rfl ?_
              refine wp_seq ?_
              refine wp_region_lit ?_
              refine wl_val ha353 rfl rfl rfl (op_move ha353 rfl rfl) ?_
              intro a355 ha355; clear ha353 a353
              refine wl_callR ha355 rfl rfl rfl (op_call ha355 rfl cb20 rfl) (c_impl_CountBikes _ u104 ((q97)) ((rds_shCustN (hf292.fin (by omega) (by omega) (by omega)) hf293).cast hE108) (by first | assumption | omega | (simp; done) | (simp; omega))) ?_
              rintro v356 w357 he358 rfl a359 ha359; clear ha355 a355
              have hx360 := hx289.trans' he358
              have hzhx360 := he358.size
              replace hf290 := hf290.ext he358
              replace hf291 := hf291.ext he358
              replace hf292 := hf292.ext he358
              replace hf293 := hf293.ext he358
              replace hf294 := hf294.ext he358
              replace hf295 := hf295.ext he358
              refine wl_val ha359 rfl rfl rfl (op_move ha359 rfl rfl) ?_
              intro a361 ha361; clear ha359 a359
              refine wl_val ha361 rfl rfl rfl (op_extract ha361 rfl rfl rfl) ?_
              intro a362 ha362; clear ha361 a361
              refine wl_val ha362 rfl rfl rfl (op_extract ha362 rfl rfl rfl) ?_
              intro a363 ha363; clear ha362 a362
              refine wl_val ha363 rfl rfl rfl (op_assign ha363 rfl rfl) ?_
              intro a364 ha364; clear ha363 a363
              refine wl_val ha364 rfl rfl rfl (op_assign ha364 rfl rfl) ?_
              intro a365 ha365; clear ha364 a364
              refine wpList_nil ?_
              refine then_n ?_
              refine wp_seq ?_
              refine wp_region_lit ?_
              refine wl_val ha365 rfl rfl rfl (op_move ha365 rfl rfl) ?_
              intro a366 ha366; clear ha365 a365
              refine wl_callR ha366 rfl rfl rfl (op_call ha366 rfl cb20 rfl) (c_impl_CountBikes _ u124 ((mcL ((q97)) ((q98)) ((q99)))) ((rds_shCustN (hf294.fin (by omega) (by omega) (by omega)) hf295).cast hE128) (by first | assumption | omega | (simp; done) | (simp; omega))) ?_
              rintro v367 w368 he369 rfl a370 ha370; clear ha366 a366
              have hx371 := hx360.trans' he369
              have hzhx371 := he369.size
              replace hf290 := hf290.ext he369
              replace hf291 := hf291.ext he369
              replace hf292 := hf292.ext he369
              replace hf293 := hf293.ext he369
              replace hf294 := hf294.ext he369
              replace hf295 := hf295.ext he369
              refine wl_val ha370 rfl rfl rfl (op_move ha370 rfl rfl) ?_
              intro a372 ha372; clear ha370 a370
              refine wl_val ha372 rfl rfl rfl (op_extract ha372 rfl rfl rfl) ?_
              intro a373 ha373; clear ha372 a372
              refine wl_val ha373 rfl rfl rfl (op_extract ha373 rfl rfl rfl) ?_
              intro a374 ha374; clear ha373 a373
              refine wl_val ha374 rfl rfl rfl (op_assign ha374 rfl rfl) ?_
              intro a375 ha375; clear ha374 a374
              refine wl_val ha375 rfl rfl rfl (op_assign ha375 rfl rfl) ?_
              intro a376 ha376; clear ha375 a375
              refine wpList_nil ?_
              refine then_n ?_
              refine wp_seq ?_
              refine wp_region_lit ?_
              refine wl_val ha376 rfl rfl rfl (op_move ha376 rfl rfl) ?_
              intro a377 ha377; clear ha376 a376
              refine wl_val ha377 rfl rfl rfl ((op_neq ha377 rfl rfl rfl).to (congrArg Value.bool decide_not)) ?_
              intro a378 ha378; clear ha377 a377
              refine wl_val ha378 rfl rfl rfl (op_move ha378 rfl rfl) ?_
              intro a379 ha379; clear ha378 a378
              by_cases c380 : (if cuB ((q97)) then 0 else 1 : Int) = (0 : Int)
              ·
               rw [decide_eq_true c380] at ha379
               refine wl_val ha379 rfl rfl rfl (op_move ha379 rfl rfl) ?_
               intro a381 ha381; clear ha379 a379
               refine wl_val ha381 rfl rfl rfl ((op_neq ha381 rfl rfl rfl).to (congrArg Value.bool decide_not)) ?_
               intro a382 ha382; clear ha381 a381
               refine wl_val ha382 rfl rfl rfl (op_pick_f ha382 rfl rfl rfl) ?_
               intro a383 ha383; clear ha382 a382
               refine wl_val ha383 rfl rfl rfl (op_move ha383 rfl rfl) ?_
               intro a384 ha384; clear ha383 a383
               by_cases c385 : (if cuB ((mcL ((q97)) ((q98)) ((q99)))) then 0 else 1 : Int) = (0 : Int)
               ·
                rw [decide_eq_true c385] at ha384
                refine wl_val ha384 rfl rfl rfl (op_move ha384 rfl rfl) ?_
                intro a386 ha386; clear ha384 a384
                refine wl_val ha386 rfl rfl rfl (op_move ha386 rfl rfl) ?_
                intro a387 ha387; clear ha386 a386
                refine wl_val ha387 rfl rfl rfl ((op_neq ha387 rfl rfl rfl).to (congrArg Value.bool decide_not)) ?_
                intro a388 ha388; clear ha387 a387
                refine wl_val ha388 rfl rfl rfl (op_pick_f ha388 rfl rfl rfl) ?_
                intro a389 ha389; clear ha388 a388
                refine wl_val ha389 rfl rfl rfl (op_move ha389 rfl rfl) ?_
                intro a390 ha390; clear ha389 a389
                by_cases c391 : (if cuB ((q97)) then sumI nbC ((q97)) else 0 : Int) = (if cuB ((mcL ((q97)) ((q98)) ((q99)))) then sumI nbC ((mcL ((q97)) ((q98)) ((q99)))) else 0 : Int)
                ·
                 rw [decide_eq_true c391] at ha390
                 refine wl_val ha390 rfl rfl rfl (op_move ha390 rfl rfl) ?_
                 intro a392 ha392; clear ha390 a390
                 refine wl_val ha392 rfl rfl rfl (op_len_sl ha392 rfl Try.underlying25 rfl (hf294.rds pos_shCustN)) ?_
                 intro a393 ha393; clear ha392 a392
                 refine wl_val ha393 rfl rfl rfl (op_move ha393 rfl rfl) ?_
                 intro a394 ha394; clear ha393 a393
                 refine wl_val ha394 rfl rfl rfl (op_len_sl ha394 rfl Try.underlying25 rfl (hf292.rds pos_shCustN)) ?_
                 intro a395 ha395; clear ha394 a394
                 refine wl_val ha395 rfl rfl rfl ((op_sub ha395 rfl rfl rfl).int (IntWalk.i64_in _ (by omega))) ?_
                 intro a396 ha396; clear ha395 a395
                 refine wl_val ha396 rfl rfl rfl ((op_neq ha396 rfl rfl rfl).to (congrArg Value.bool decide_not)) ?_
                 intro a397 ha397; clear ha396 a396
                 refine wl_val ha397 rfl rfl rfl (op_pick_f ha397 rfl rfl rfl) ?_
                 intro a398 ha398; clear ha397 a397
                 refine wl_val ha398 rfl rfl rfl (op_move ha398 rfl rfl) ?_
                 intro a399 ha399; clear ha398 a398
                 by_cases c400 : ((z126.length : Nat) : Int) = (((z106.length : Nat) : Int) - (1 : Int))
                 ·
                  rw [decide_eq_true c400] at ha399
                  refine wl_val ha399 rfl rfl rfl (op_move ha399 rfl rfl) ?_
                  intro a401 ha401; clear ha399 a399
                  refine wl_callR ha401 rfl rfl rfl (op_call ha401 rfl cb17 rfl) (c_impl_AreCustomers _ u124 ((mcL ((q97)) ((q98)) ((q99)))) ((rds_shCustN (hf294.fin (by omega) (by omega) (by omega)) hf295).cast hE128) (by first | assumption | omega | (simp; done) | (simp; omega))) ?_
                  rintro v402 w403 he404 rfl a405 ha405; clear ha401 a401
                  have hx406 := hx371.trans' he404
                  have hzhx406 := he404.size
                  replace hf290 := hf290.ext he404
                  replace hf291 := hf291.ext he404
                  replace hf292 := hf292.ext he404
                  replace hf293 := hf293.ext he404
                  replace hf294 := hf294.ext he404
                  replace hf295 := hf295.ext he404
                  refine wl_val ha405 rfl rfl rfl (op_not ha405 rfl rfl) ?_
                  intro a407 ha407; clear ha405 a405
                  refine wl_val ha407 rfl rfl rfl (op_pick_f ha407 rfl rfl rfl) ?_
                  intro a408 ha408; clear ha407 a407
                  refine wpList_nil ?_
                  refine then_n ?_
                  rcases Bool.eq_false_or_eq_true (cuB ((mcL ((q97)) ((q98)) ((q99))))) with c409 | c409
                  ·
                   rw [c409] at ha408
                   refine cond_f ha408 rfl ?_
                   refine wp_skip ?_
                   refine then_n ?_
                   refine ⟨(Sl.cons_ ha408 rfl rfl (Sl.cons_ ha408 rfl rfl (Sl.cons_ ha408 rfl rfl (Sl.cons_ ha408 rfl rfl (Sl.cons_ ha408 rfl rfl (Sl.nil_ ha408)))))), hx406, hf290, hf291, (by omega)⟩
                  ·
                   rw [c409] at ha408
                   refine cond_t ha408 rfl ?_
                   refine wp_seq ?_
                   clear hf290 hf291 hf292 hf293 hf294 hf295
                   refine wp_region_lit ?_
                   refine wl_val ha408 rfl rfl rfl (op_assign ha408 rfl rfl) ?_
                   intro a410 ha410; clear ha408 a408
                   refine wpList_nil ?_
                   refine then_n ?_
                   refine wp_ret ?_
                   refine ret1 ha410 rfl rfl ?_
                   clear ha410 a410
                   exact ret_mk hx406 (congrArg Value.bool (by first | rfl | (simp at c287; done) | (simp at c8; done) | (exact hs2) | (exact absurd (if_pos hm2) c409) | (exact absurd (by rw [if_pos hm1, if_pos hm2]; exact hm3.symm) c409) | (rw [hm2] at c409; cases c409) | omega))
                 ·
                  rw [decide_eq_false c400] at ha399
                  refine wl_skip ha399 rfl rfl rfl ?_
                  intro a411 ha411; clear ha399 a399
                  refine wl_skip ha411 rfl rfl rfl ?_
                  intro a412 ha412; clear ha411 a411
                  refine wl_skip ha412 rfl rfl rfl ?_
                  intro a413 ha413; clear ha412 a412
                  refine wl_val ha413 rfl rfl rfl (op_pick_t ha413 rfl rfl rfl) ?_
                  intro a414 ha414; clear ha413 a413
                  refine wpList_nil ?_
                  refine then_n ?_
                  refine cond_t ha414 rfl ?_
                  refine wp_seq ?_
                  clear hf290 hf291 hf292 hf293 hf294 hf295
                  refine wp_region_lit ?_
                  refine wl_val ha414 rfl rfl rfl (op_assign ha414 rfl rfl) ?_
                  intro a415 ha415; clear ha414 a414
                  refine wpList_nil ?_
                  refine then_n ?_
                  refine wp_ret ?_
                  refine ret1 ha415 rfl rfl ?_
                  clear ha415 a415
                  exact ret_mk hx371 (congrArg Value.bool (by first | rfl | (exact absurd rfl c400) | (simp at c287; done) | (simp at c8; done) | (exact hs2) | omega))
                ·
                 rw [decide_eq_false c391] at ha390
                 refine wl_skip ha390 rfl rfl rfl ?_
                 intro a416 ha416; clear ha390 a390
                 refine wl_skip ha416 rfl rfl rfl ?_
                 intro a417 ha417; clear ha416 a416
                 refine wl_skip ha417 rfl rfl rfl ?_
                 intro a418 ha418; clear ha417 a417
                 refine wl_skip ha418 rfl rfl rfl ?_
                 intro a419 ha419; clear ha418 a418
                 refine wl_skip ha419 rfl rfl rfl ?_
                 intro a420 ha420; clear ha419 a419
                 refine wl_skip ha420 rfl rfl rfl ?_
                 intro a421 ha421; clear ha420 a420
                 refine wl_val ha421 rfl rfl rfl (op_pick_t ha421 rfl rfl rfl) ?_
                 intro a422 ha422; clear ha421 a421
                 refine wl_val ha422 rfl rfl rfl (op_move ha422 rfl rfl) ?_
                 intro a423 ha423; clear ha422 a422
                 refine wl_skip ha423 rfl rfl rfl ?_
                 intro a424 ha424; clear ha423 a423
                 refine wl_skip ha424 rfl rfl rfl ?_
                 intro a425 ha425; clear ha424 a424
                 refine wl_skip ha425 rfl rfl rfl ?_
                 intro a426 ha426; clear ha425 a425
                 refine wl_val ha426 rfl rfl rfl (op_pick_t ha426 rfl rfl rfl) ?_
                 intro a427 ha427; clear ha426 a426
                 refine wpList_nil ?_
                 refine then_n ?_
                 refine cond_t ha427 rfl ?_
                 refine wp_seq ?_
                 clear hf290 hf291 hf292 hf293 hf294 hf295
                 refine wp_region_lit ?_
                 refine wl_val ha427 rfl rfl rfl (op_assign ha427 rfl rfl) ?_
                 intro a428 ha428; clear ha427 a427
                 refine wpList_nil ?_
                 refine then_n ?_
                 refine wp_ret ?_
                 refine ret1 ha428 rfl rfl ?_
                 clear ha428 a428
                 exact ret_mk hx371 (congrArg Value.bool (by first | rfl | (exact absurd rfl c391) | (simp at c287; done) | (simp at c8; done) | (exact hs2) | (exact absurd (if_pos hm2) c391) | (exact absurd (by rw [if_pos hm1, if_pos hm2]; exact hm3.symm) c391) | (rw [hm2] at c391; cases c391) | omega))
               ·
                rw [decide_eq_false c385] at ha384
                refine wl_skip ha384 rfl rfl rfl ?_
                intro a429 ha429; clear ha384 a384
                refine wl_skip ha429 rfl rfl rfl ?_
                intro a430 ha430; clear ha429 a429
                refine wl_skip ha430 rfl rfl rfl ?_
                intro a431 ha431; clear ha430 a430
                refine wl_val ha431 rfl rfl rfl (op_pick_t ha431 rfl rfl rfl) ?_
                intro a432 ha432; clear ha431 a431
                refine wl_val ha432 rfl rfl rfl (op_move ha432 rfl rfl) ?_
                intro a433 ha433; clear ha432 a432
                refine wl_skip ha433 rfl rfl rfl ?_
                intro a434 ha434; clear ha433 a433
                refine wl_skip ha434 rfl rfl rfl ?_
                intro a435 ha435; clear ha434 a434
                refine wl_skip ha435 rfl rfl rfl ?_
                intro a436 ha436; clear ha435 a435
                refine wl_skip ha436 rfl rfl rfl ?_
                intro a437 ha437; clear ha436 a436
                refine wl_skip ha437 rfl rfl rfl ?_
                intro a438 ha438; clear ha437 a437
                refine wl_skip ha438 rfl rfl rfl ?_
                intro a439 ha439; clear ha438 a438
                refine wl_val ha439 rfl rfl rfl (op_pick_t ha439 rfl rfl rfl) ?_
                intro a440 ha440; clear ha439 a439
                refine wl_val ha440 rfl rfl rfl (op_move ha440 rfl rfl) ?_
                intro a441 ha441; clear ha440 a440
                refine wl_skip ha441 rfl rfl rfl ?_
                intro a442 ha442; clear ha441 a441
                refine wl_skip ha442 rfl rfl rfl ?_
                intro a443 ha443; clear ha442 a442
                refine wl_skip ha443 rfl rfl rfl ?_
                intro a444 ha444; clear ha443 a443
                refine wl_val ha444 rfl rfl rfl (op_pick_t ha444 rfl rfl rfl) ?_
                intro a445 ha445; clear ha444 a444
                refine wpList_nil ?_
                refine then_n ?_
                refine cond_t ha445 rfl ?_
                refine wp_seq ?_
                clear hf290 hf291 hf292 hf293 hf294 hf295
                refine wp_region_lit ?_
                refine wl_val ha445 rfl rfl rfl (op_assign ha445 rfl rfl) ?_
                intro a446 ha446; clear ha445 a445
                refine wpList_nil ?_
                refine then_n ?_
                refine wp_ret ?_
                refine ret1 ha446 rfl rfl ?_
                clear ha446 a446
                exact ret_mk hx371 (congrArg Value.bool (by first | rfl | (exact absurd rfl c385) | (simp at c287; done) | (simp at c8; done) | (exact hs2) | (exact absurd (if_pos hm2) c385) | (exact absurd (by rw [if_pos hm1, if_pos hm2]; exact hm3.symm) c385) | (rw [hm2] at c385; cases c385) | omega))
              ·
               rw [decide_eq_false c380] at ha379
               refine wl_skip ha379 rfl rfl rfl ?_
               intro a447 ha447; clear ha379 a379
               refine wl_skip ha447 rfl rfl rfl ?_
               intro a448 ha448; clear ha447 a447
               refine wl_val ha448 rfl rfl rfl (op_pick_t ha448 rfl rfl rfl) ?_
               intro a449 ha449; clear ha448 a448
               refine wl_val ha449 rfl rfl rfl (op_move ha449 rfl rfl) ?_
               intro a450 ha450; clear ha449 a449
               refine wl_skip ha450 rfl rfl rfl ?_
               intro a451 ha451; clear ha450 a450
               refine wl_skip ha451 rfl rfl rfl ?_
               intro a452 ha452; clear ha451 a451
               refine wl_skip ha452 rfl rfl rfl ?_
               intro a453 ha453; clear ha452 a452
               refine wl_val ha453 rfl rfl rfl (op_pick_t ha453 rfl rfl rfl) ?_
               intro a454 ha454; clear ha453 a453
               refine wl_val ha454 rfl rfl rfl (op_move ha454 rfl rfl) ?_
               intro a455 ha455; clear ha454 a454
               refine wl_skip ha455 rfl rfl rfl ?_
               intro a456 ha456; clear ha455 a455
               refine wl_skip ha456 rfl rfl rfl ?_
               intro a457 ha457; clear ha456 a456
               refine wl_skip ha457 rfl rfl rfl ?_
               intro a458 ha458; clear ha457 a457
               refine wl_skip ha458 rfl rfl rfl ?_
               intro a459 ha459; clear ha458 a458
               refine wl_skip ha459 rfl rfl rfl ?_
               intro a460 ha460; clear ha459 a459
               refine wl_skip ha460 rfl rfl rfl ?_
               intro a461 ha461; clear ha460 a460
               refine wl_val ha461 rfl rfl rfl (op_pick_t ha461 rfl rfl rfl) ?_
               intro a462 ha462; clear ha461 a461
               refine wl_val ha462 rfl rfl rfl (op_move ha462 rfl rfl) ?_
               intro a463 ha463; clear ha462 a462
               refine wl_skip ha463 rfl rfl rfl ?_
               intro a464 ha464; clear ha463 a463
               refine wl_skip ha464 rfl rfl rfl ?_
               intro a465 ha465; clear ha464 a464
               refine wl_skip ha465 rfl rfl rfl ?_
               intro a466 ha466; clear ha465 a465
               refine wl_val ha466 rfl rfl rfl (op_pick_t ha466 rfl rfl rfl) ?_
               intro a467 ha467; clear ha466 a466
               refine wpList_nil ?_
               refine then_n ?_
               refine cond_t ha467 rfl ?_
               refine wp_seq ?_
               clear hf290 hf291 hf292 hf293 hf294 hf295
               refine wp_region_lit ?_
               refine wl_val ha467 rfl rfl rfl (op_assign ha467 rfl rfl) ?_
               intro a468 ha468; clear ha467 a467
               refine wpList_nil ?_
               refine then_n ?_
               refine wp_ret ?_
               refine ret1 ha468 rfl rfl ?_
               clear ha468 a468
               exact ret_mk hx371 (congrArg Value.bool (by first | rfl | (exact absurd rfl c380) | (simp at c287; done) | (simp at c8; done) | (exact hs2) | (exact absurd (if_pos hm1) c380) | omega))
             ·
              rw [decide_eq_false c354] at ha353
              refine cond_f ha353 rfl ?_
              refine wp_skip ?_
              refine then_n ?_
              refine ⟨(Sl.cons_ ha353 rfl rfl (Sl.cons_ ha353 rfl rfl (Sl.cons_ ha353 rfl rfl (Sl.cons_ ha353 rfl rfl (Sl.cons_ ha353 rfl rfl (Sl.nil_ ha353)))))), hx289, hf290, hf291, (by omega)⟩
            ·
             clear ha346 a346
             rintro a469 w348 ⟨ha469, hx349, hf350, hf351, hzl470⟩
             have hzhx349 := hx349.size
             refine wp_seq ?_
             refine wp_seq ?_
             refine wp_region_lit ?_
             refine wl_val ha469 rfl rfl rfl (op_move ha469 rfl rfl) ?_
             intro a471 ha471; clear ha469 a469
             refine wl_val ha471 rfl rfl rfl ((op_neq ha471 rfl rfl rfl).to (congrArg Value.bool decide_not)) ?_
             intro a472 ha472; clear ha471 a471
             refine wpList_nil ?_
             refine then_n ?_
             by_cases c473 : (seC ((q14)) ((q15)) ((q16)) : Int) = (0 : Int)
             ·
              rw [decide_eq_true c473] at ha472
              obtain ⟨hs1, hs2, hs3, hs4, hs5⟩ := se_all c473
              have hsl := seL_len q14 q15 q16
              refine cond_f ha472 rfl ?_
              refine wp_skip ?_
              refine then_n ?_
              refine wp_seq ?_
              refine wp_region_lit ?_
              refine wl_val ha472 rfl rfl rfl (op_move ha472 rfl rfl) ?_
              intro a474 ha474; clear ha472 a472
              refine wl_val ha474 rfl rfl rfl (op_move ha474 rfl rfl) ?_
              intro a475 ha475; clear ha474 a474
              refine wl_callR ha475 rfl rfl rfl (op_call ha475 rfl cb22 rfl) (c_impl_OwnerOf _ u41 ((seL ((q14)) ((q15)) ((q16)))) ((q15)) ((rds_shCustN (hf350.fin (by omega) (by omega) (by omega)) hf351).cast hE45) (by first | assumption | omega | (simp; done) | (simp; omega)) (by first | assumption | omega | (simp; done) | (simp; omega))) ?_
              rintro v476 w477 he478 rfl a479 ha479; clear ha475 a475
              have hx480 := hx349.trans' he478
              have hzhx480 := he478.size
              replace hf350 := hf350.ext he478
              replace hf351 := hf351.ext he478
              refine wl_val ha479 rfl rfl rfl (op_move ha479 rfl rfl) ?_
              intro a481 ha481; clear ha479 a479
              refine wl_val ha481 rfl rfl rfl (op_extract ha481 rfl rfl rfl) ?_
              intro a482 ha482; clear ha481 a481
              refine wl_val ha482 rfl rfl rfl (op_extract ha482 rfl rfl rfl) ?_
              intro a483 ha483; clear ha482 a482
              refine wl_val ha483 rfl rfl rfl (op_assign ha483 rfl rfl) ?_
              intro a484 ha484; clear ha483 a483
              refine wl_val ha484 rfl rfl rfl (op_assign ha484 rfl rfl) ?_
              intro a485 ha485; clear ha484 a484
              refine wpList_nil ?_
              refine then_n ?_
              refine wp_seq ?_
              refine wp_region_lit ?_
              refine wl_val ha485 rfl rfl rfl (op_move ha485 rfl rfl) ?_
              intro a486 ha486; clear ha485 a485
              refine wl_callR ha486 rfl rfl rfl (op_call ha486 rfl cb20 rfl) (c_impl_CountBikes _ u41 ((seL ((q14)) ((q15)) ((q16)))) ((rds_shCustN (hf350.fin (by omega) (by omega) (by omega)) hf351).cast hE45) (by first | assumption | omega | (simp; done) | (simp; omega))) ?_
              rintro v487 w488 he489 rfl a490 ha490; clear ha486 a486
              have hx491 := hx480.trans' he489
              have hzhx491 := he489.size
              replace hf350 := hf350.ext he489
              replace hf351 := hf351.ext he489
              refine wl_val ha490 rfl rfl rfl (op_move ha490 rfl rfl) ?_
              intro a492 ha492; clear ha490 a490
              refine wl_val ha492 rfl rfl rfl (op_extract ha492 rfl rfl rfl) ?_
              intro a493 ha493; clear ha492 a492
              refine wl_val ha493 rfl rfl rfl (op_extract ha493 rfl rfl rfl) ?_
              intro a494 ha494; clear ha493 a493
              refine wl_val ha494 rfl rfl rfl (op_assign ha494 rfl rfl) ?_
              intro a495 ha495; clear ha494 a494
              refine wl_val ha495 rfl rfl rfl (op_assign ha495 rfl rfl) ?_
              intro a496 ha496; clear ha495 a495
              refine wpList_nil ?_
              refine then_n ?_
              refine wp_seq ?_
              refine wp_region_lit ?_
              refine wl_val ha496 rfl rfl rfl (op_move ha496 rfl rfl) ?_
              intro a497 ha497; clear ha496 a496
              refine wl_val ha497 rfl rfl rfl (op_eql ha497 rfl rfl rfl) ?_
              intro a498 ha498; clear ha497 a497
              refine wl_val ha498 rfl rfl rfl (op_move ha498 rfl rfl) ?_
              intro a499 ha499; clear ha498 a498
              by_cases c500 : (ownC ((seL ((q14)) ((q15)) ((q16)))) ((q15)) : Int) = (0 : Int)
              ·
               rw [decide_eq_true c500] at ha499
               refine wl_val ha499 rfl rfl rfl (op_move ha499 rfl rfl) ?_
               intro a501 ha501; clear ha499 a499
               refine wl_val ha501 rfl rfl rfl (op_move ha501 rfl rfl) ?_
               intro a502 ha502; clear ha501 a501
               refine wl_val ha502 rfl rfl rfl (op_seql ha502 rfl rfl rfl) ?_
               intro a503 ha503; clear ha502 a502
               refine wl_val ha503 rfl rfl rfl (op_pick_t ha503 rfl rfl rfl) ?_
               intro a504 ha504; clear ha503 a503
               refine wl_val ha504 rfl rfl rfl (op_move ha504 rfl rfl) ?_
               intro a505 ha505; clear ha504 a504
               by_cases c506 : (ownN ((seL ((q14)) ((q15)) ((q16)))) ((q15))) = (q16)
               ·
                rw [decide_eq_true c506] at ha505
                refine wl_val ha505 rfl rfl rfl (op_move ha505 rfl rfl) ?_
                intro a507 ha507; clear ha505 a505
                refine wl_val ha507 rfl rfl rfl (op_eql ha507 rfl rfl rfl) ?_
                intro a508 ha508; clear ha507 a507
                refine wl_val ha508 rfl rfl rfl (op_pick_t ha508 rfl rfl rfl) ?_
                intro a509 ha509; clear ha508 a508
                refine wl_val ha509 rfl rfl rfl (op_move ha509 rfl rfl) ?_
                intro a510 ha510; clear ha509 a509
                by_cases c511 : (if cuB ((seL ((q14)) ((q15)) ((q16)))) then 0 else 1 : Int) = (0 : Int)
                ·
                 rw [decide_eq_true c511] at ha510
                 refine wl_val ha510 rfl rfl rfl (op_move ha510 rfl rfl) ?_
                 intro a512 ha512; clear ha510 a510
                 refine wl_val ha512 rfl rfl rfl (op_move ha512 rfl rfl) ?_
                 intro a513 ha513; clear ha512 a512
                 refine wl_val ha513 rfl rfl rfl (op_eql ha513 rfl rfl rfl) ?_
                 intro a514 ha514; clear ha513 a513
                 refine wl_val ha514 rfl rfl rfl (op_pick_t ha514 rfl rfl rfl) ?_
                 intro a515 ha515; clear ha514 a514
                 refine wl_val ha515 rfl rfl rfl (op_move ha515 rfl rfl) ?_
                 intro a516 ha516; clear ha515 a515
                 by_cases c517 : (if cuB ((seL ((q14)) ((q15)) ((q16)))) then sumI nbC ((seL ((q14)) ((q15)) ((q16)))) else 0 : Int) = (if cuB ((q14)) then sumI nbC ((q14)) else 0 : Int)
                 ·
                  rw [decide_eq_true c517] at ha516
                  refine wl_val ha516 rfl rfl rfl (op_move ha516 rfl rfl) ?_
                  intro a518 ha518; clear ha516 a516
                  refine wl_callR ha518 rfl rfl rfl (op_call ha518 rfl cb17 rfl) (c_impl_AreCustomers _ u41 ((seL ((q14)) ((q15)) ((q16)))) ((rds_shCustN (hf350.fin (by omega) (by omega) (by omega)) hf351).cast hE45) (by first | assumption | omega | (simp; done) | (simp; omega))) ?_
                  rintro v519 w520 he521 rfl a522 ha522; clear ha518 a518
                  have hx523 := hx491.trans' he521
                  have hzhx523 := he521.size
                  replace hf350 := hf350.ext he521
                  replace hf351 := hf351.ext he521
                  refine wl_val ha522 rfl rfl rfl (op_pick_t ha522 rfl rfl rfl) ?_
                  intro a524 ha524; clear ha522 a522
                  refine wl_val ha524 rfl rfl rfl (op_assign ha524 rfl rfl) ?_
                  intro a525 ha525; clear ha524 a524
                  refine wpList_nil ?_
                  refine then_n ?_
                  refine wp_ret ?_
                  refine ret1 ha525 rfl rfl ?_
                  clear ha525 a525
                  exact ret_mk hx523 (congrArg Value.bool (by first | rfl | (simp at c287; done) | (simp at c8; done) | (exact hs2) | omega))
                 ·
                  rw [decide_eq_false c517] at ha516
                  refine wl_skip ha516 rfl rfl rfl ?_
                  intro a526 ha526; clear ha516 a516
                  refine wl_skip ha526 rfl rfl rfl ?_
                  intro a527 ha527; clear ha526 a526
                  refine wl_val ha527 rfl rfl rfl (op_pick_f ha527 rfl rfl rfl) ?_
                  intro a528 ha528; clear ha527 a527
                  refine wl_val ha528 rfl rfl rfl (op_assign ha528 rfl rfl) ?_
                  intro a529 ha529; clear ha528 a528
                  refine wpList_nil ?_
                  refine then_n ?_
                  refine wp_ret ?_
                  refine ret1 ha529 rfl rfl ?_
                  clear ha529 a529
                  exact ret_mk hx491 (congrArg Value.bool (by first | rfl | (exact absurd rfl c517) | (simp at c287; done) | (simp at c8; done) | (exact hs2) | (exact absurd hs3 c517) | (exact absurd hs4 c517) | (exact absurd (if_pos hs2) c517) | (exact absurd (by rw [if_pos hs1, if_pos hs2]; exact hs5) c517) | (rw [hs2] at c517; cases c517) | omega))
                ·
                 rw [decide_eq_false c511] at ha510
                 refine wl_skip ha510 rfl rfl rfl ?_
                 intro a530 ha530; clear ha510 a510
                 refine wl_skip ha530 rfl rfl rfl ?_
                 intro a531 ha531; clear ha530 a530
                 refine wl_skip ha531 rfl rfl rfl ?_
                 intro a532 ha532; clear ha531 a531
                 refine wl_val ha532 rfl rfl rfl (op_pick_f ha532 rfl rfl rfl) ?_
                 intro a533 ha533; clear ha532 a532
                 refine wl_val ha533 rfl rfl rfl (op_move ha533 rfl rfl) ?_
                 intro a534 ha534; clear ha533 a533
                 refine wl_skip ha534 rfl rfl rfl ?_
                 intro a535 ha535; clear ha534 a534
                 refine wl_skip ha535 rfl rfl rfl ?_
                 intro a536 ha536; clear ha535 a535
                 refine wl_val ha536 rfl rfl rfl (op_pick_f ha536 rfl rfl rfl) ?_
                 intro a537 ha537; clear ha536 a536
                 refine wl_val ha537 rfl rfl rfl (op_assign ha537 rfl rfl) ?_
                 intro a538 ha538; clear ha537 a537
                 refine wpList_nil ?_
                 refine then_n ?_
                 refine wp_ret ?_
                 refine ret1 ha538 rfl rfl ?_
                 clear ha538 a538
                 exact ret_mk hx491 (congrArg Value.bool (by first | rfl | (exact absurd rfl c511) | (simp at c287; done) | (simp at c8; done) | (exact hs2) | (exact absurd hs3 c511) | (exact absurd hs4 c511) | (exact absurd (if_pos hs2) c511) | (exact absurd (by rw [if_pos hs1, if_pos hs2]; exact hs5) c511) | (rw [hs2] at c511; cases c511) | omega))
               ·
                rw [decide_eq_false c506] at ha505
                refine wl_skip ha505 rfl rfl rfl ?_
                intro a539 ha539; clear ha505 a505
                refine wl_skip ha539 rfl rfl rfl ?_
                intro a540 ha540; clear ha539 a539
                refine wl_val ha540 rfl rfl rfl (op_pick_f ha540 rfl rfl rfl) ?_
                intro a541 ha541; clear ha540 a540
                refine wl_val ha541 rfl rfl rfl (op_move ha541 rfl rfl) ?_
                intro a542 ha542; clear ha541 a541
                refine wl_skip ha542 rfl rfl rfl ?_
                intro a543 ha543; clear ha542 a542
                refine wl_skip ha543 rfl rfl rfl ?_
                intro a544 ha544; clear ha543 a543
                refine wl_skip ha544 rfl rfl rfl ?_
                intro a545 ha545; clear ha544 a544
                refine wl_val ha545 rfl rfl rfl (op_pick_f ha545 rfl rfl rfl) ?_
                intro a546 ha546; clear ha545 a545
                refine wl_val ha546 rfl rfl rfl (op_move ha546 rfl rfl) ?_
                intro a547 ha547; clear ha546 a546
                refine wl_skip ha547 rfl rfl rfl ?_
                intro a548 ha548; clear ha547 a547
                refine wl_skip ha548 rfl rfl rfl ?_
                intro a549 ha549; clear ha548 a548
                refine wl_val ha549 rfl rfl rfl (op_pick_f ha549 rfl rfl rfl) ?_
                intro a550 ha550; clear ha549 a549
                refine wl_val ha550 rfl rfl rfl (op_assign ha550 rfl rfl) ?_
                intro a551 ha551; clear ha550 a550
                refine wpList_nil ?_
                refine then_n ?_
                refine wp_ret ?_
                refine ret1 ha551 rfl rfl ?_
                clear ha551 a551
                exact ret_mk hx491 (congrArg Value.bool (by first | rfl | (exact absurd rfl c506) | (simp at c287; done) | (simp at c8; done) | (exact hs2) | (exact absurd hs3 c506) | (exact absurd hs4 c506) | (exact absurd (if_pos hs2) c506) | (exact absurd (by rw [if_pos hs1, if_pos hs2]; exact hs5) c506) | (rw [hs2] at c506; cases c506) | omega))
              ·
               rw [decide_eq_false c500] at ha499
               refine wl_skip ha499 rfl rfl rfl ?_
               intro a552 ha552; clear ha499 a499
               refine wl_skip ha552 rfl rfl rfl ?_
               intro a553 ha553; clear ha552 a552
               refine wl_skip ha553 rfl rfl rfl ?_
               intro a554 ha554; clear ha553 a553
               refine wl_val ha554 rfl rfl rfl (op_pick_f ha554 rfl rfl rfl) ?_
               intro a555 ha555; clear ha554 a554
               refine wl_val ha555 rfl rfl rfl (op_move ha555 rfl rfl) ?_
               intro a556 ha556; clear ha555 a555
               refine wl_skip ha556 rfl rfl rfl ?_
               intro a557 ha557; clear ha556 a556
               refine wl_skip ha557 rfl rfl rfl ?_
               intro a558 ha558; clear ha557 a557
               refine wl_val ha558 rfl rfl rfl (op_pick_f ha558 rfl rfl rfl) ?_
               intro a559 ha559; clear ha558 a558
               refine wl_val ha559 rfl rfl rfl (op_move ha559 rfl rfl) ?_
               intro a560 ha560; clear ha559 a559
               refine wl_skip ha560 rfl rfl rfl ?_
               intro a561 ha561; clear ha560 a560
               refine wl_skip ha561 rfl rfl rfl ?_
               intro a562 ha562; clear ha561 a561
               refine wl_skip ha562 rfl rfl rfl ?_
               intro a563 ha563; clear ha562 a562
               refine wl_val ha563 rfl rfl rfl (op_pick_f ha563 rfl rfl rfl) ?_
               intro a564 ha564; clear ha563 a563
               refine wl_val ha564 rfl rfl rfl (op_move ha564 rfl rfl) ?_
               intro a565 ha565; clear ha564 a564
               refine wl_skip ha565 rfl rfl rfl ?_
               intro a566 ha566; clear ha565 a565
               refine wl_skip ha566 rfl rfl rfl ?_
               intro a567 ha567; clear ha566 a566
               refine wl_val ha567 rfl rfl rfl (op_pick_f ha567 rfl rfl rfl) ?_
               intro a568 ha568; clear ha567 a567
               refine wl_val ha568 rfl rfl rfl (op_assign ha568 rfl rfl) ?_
               intro a569 ha569; clear ha568 a568
               refine wpList_nil ?_
               refine then_n ?_
               refine wp_ret ?_
               refine ret1 ha569 rfl rfl ?_
               clear ha569 a569
               exact ret_mk hx491 (congrArg Value.bool (by first | rfl | (exact absurd rfl c500) | (simp at c287; done) | (simp at c8; done) | (exact hs2) | (exact absurd hs3 c500) | (exact absurd hs4 c500) | (exact absurd (if_pos hs2) c500) | (exact absurd (by rw [if_pos hs1, if_pos hs2]; exact hs5) c500) | (rw [hs2] at c500; cases c500) | omega))
             ·
              rw [decide_eq_false c473] at ha472
              refine cond_t ha472 rfl ?_
              refine wp_seq ?_
              clear hf350 hf351
              refine wp_region_lit ?_
              refine wl_val ha472 rfl rfl rfl (op_assign ha472 rfl rfl) ?_
              intro a570 ha570; clear ha472 a472
              refine wpList_nil ?_
              refine then_n ?_
              refine wp_ret ?_
              refine then_r ?_
              refine ret1 ha570 rfl rfl ?_
              clear ha570 a570
              exact ret_mk hx349 (congrArg Value.bool (by first | rfl | (exact absurd rfl c473) | (simp at c287; done) | (simp at c8; done) | (exact hs2) | omega))
          ·
           rw [c287] at ha286
           refine cond_t ha286 rfl ?_
           refine wp_seq ?_
           clear ho22 hN24 ho42 hN44 ho60 hN62 ho105 hN107 ho125 hN127 ho143 hN145 ho186 hN188 ho204 hN206
           refine wp_region_lit ?_
           refine wl_val ha286 rfl rfl rfl (op_assign ha286 rfl rfl) ?_
           intro a571 ha571; clear ha286 a286
           refine wpList_nil ?_
           refine then_n ?_
           refine wp_ret ?_
           refine then_r ?_
           refine ret1 ha571 rfl rfl ?_
           clear ha571 a571
           exact ret_mk hx282 (congrArg Value.bool (by first | rfl | (exact absurd rfl c287) | (simp at c287; done) | (simp at c8; done) | (exact hs2) | omega))
         ·
          rw [c276] at ha275
          refine wl_skip ha275 rfl rfl rfl ?_
          intro a572 ha572; clear ha275 a275
          refine wl_skip ha572 rfl rfl rfl ?_
          intro a573 ha573; clear ha572 a572
          refine wl_skip ha573 rfl rfl rfl ?_
          intro a574 ha574; clear ha573 a573
          refine wl_skip ha574 rfl rfl rfl ?_
          intro a575 ha575; clear ha574 a574
          refine wl_skip ha575 rfl rfl rfl ?_
          intro a576 ha576; clear ha575 a575
          refine wl_val ha576 rfl rfl rfl (op_pick_t ha576 rfl rfl rfl) ?_
          intro a577 ha577; clear ha576 a576
          refine wpList_nil ?_
          refine then_n ?_
          refine cond_t ha577 rfl ?_
          refine wp_seq ?_
          clear ho22 hN24 ho42 hN44 ho60 hN62 ho105 hN107 ho125 hN127 ho143 hN145 ho186 hN188 ho204 hN206
          refine wp_region_lit ?_
          refine wl_val ha577 rfl rfl rfl (op_assign ha577 rfl rfl) ?_
          intro a578 ha578; clear ha577 a577
          refine wpList_nil ?_
          refine then_n ?_
          refine wp_ret ?_
          refine then_r ?_
          refine ret1 ha578 rfl rfl ?_
          clear ha578 a578
          exact ret_mk hx272 (congrArg Value.bool (by first | rfl | (rw [eqL_self] at c276; cases c276) | (simp at c8; done) | (exact hs2) | (exact absurd hg3 c276) | (exact absurd hg2 c276) | (rw [hg1] at c276; cases c276) | omega))
        ·
         rw [decide_eq_false c265] at ha264
         refine wl_skip ha264 rfl rfl rfl ?_
         intro a579 ha579; clear ha264 a264
         refine wl_skip ha579 rfl rfl rfl ?_
         intro a580 ha580; clear ha579 a579
         refine wl_skip ha580 rfl rfl rfl ?_
         intro a581 ha581; clear ha580 a580
         refine wl_skip ha581 rfl rfl rfl ?_
         intro a582 ha582; clear ha581 a581
         refine wl_val ha582 rfl rfl rfl (op_pick_t ha582 rfl rfl rfl) ?_
         intro a583 ha583; clear ha582 a582
         refine wl_val ha583 rfl rfl rfl (op_move ha583 rfl rfl) ?_
         intro a584 ha584; clear ha583 a583
         refine wl_skip ha584 rfl rfl rfl ?_
         intro a585 ha585; clear ha584 a584
         refine wl_skip ha585 rfl rfl rfl ?_
         intro a586 ha586; clear ha585 a585
         refine wl_skip ha586 rfl rfl rfl ?_
         intro a587 ha587; clear ha586 a586
         refine wl_skip ha587 rfl rfl rfl ?_
         intro a588 ha588; clear ha587 a587
         refine wl_skip ha588 rfl rfl rfl ?_
         intro a589 ha589; clear ha588 a588
         refine wl_val ha589 rfl rfl rfl (op_pick_t ha589 rfl rfl rfl) ?_
         intro a590 ha590; clear ha589 a589
         refine wpList_nil ?_
         refine then_n ?_
         refine cond_t ha590 rfl ?_
         refine wp_seq ?_
         clear ho22 hN24 ho42 hN44 ho60 hN62 ho105 hN107 ho125 hN127 ho143 hN145 ho186 hN188 ho204 hN206
         refine wp_region_lit ?_
         refine wl_val ha590 rfl rfl rfl (op_assign ha590 rfl rfl) ?_
         intro a591 ha591; clear ha590 a590
         refine wpList_nil ?_
         refine then_n ?_
         refine wp_ret ?_
         refine then_r ?_
         refine ret1 ha591 rfl rfl ?_
         clear ha591 a591
         exact ret_mk hx255 (congrArg Value.bool (by first | rfl | (exact absurd rfl c265) | (simp at c8; done) | (exact hs2) | omega))
       ·
        rw [c259] at ha258
        refine wl_skip ha258 rfl rfl rfl ?_
        intro a592 ha592; clear ha258 a258
        refine wl_skip ha592 rfl rfl rfl ?_
        intro a593 ha593; clear ha592 a592
        refine wl_skip ha593 rfl rfl rfl ?_
        intro a594 ha594; clear ha593 a593
        refine wl_val ha594 rfl rfl rfl (op_pick_t ha594 rfl rfl rfl) ?_
        intro a595 ha595; clear ha594 a594
        refine wl_val ha595 rfl rfl rfl (op_move ha595 rfl rfl) ?_
        intro a596 ha596; clear ha595 a595
        refine wl_skip ha596 rfl rfl rfl ?_
        intro a597 ha597; clear ha596 a596
        refine wl_skip ha597 rfl rfl rfl ?_
        intro a598 ha598; clear ha597 a597
        refine wl_skip ha598 rfl rfl rfl ?_
        intro a599 ha599; clear ha598 a598
        refine wl_skip ha599 rfl rfl rfl ?_
        intro a600 ha600; clear ha599 a599
        refine wl_val ha600 rfl rfl rfl (op_pick_t ha600 rfl rfl rfl) ?_
        intro a601 ha601; clear ha600 a600
        refine wl_val ha601 rfl rfl rfl (op_move ha601 rfl rfl) ?_
        intro a602 ha602; clear ha601 a601
        refine wl_skip ha602 rfl rfl rfl ?_
        intro a603 ha603; clear ha602 a602
        refine wl_skip ha603 rfl rfl rfl ?_
        intro a604 ha604; clear ha603 a603
        refine wl_skip ha604 rfl rfl rfl ?_
        intro a605 ha605; clear ha604 a604
        refine wl_skip ha605 rfl rfl rfl ?_
        intro a606 ha606; clear ha605 a605
        refine wl_skip ha606 rfl rfl rfl ?_
        intro a607 ha607; clear ha606 a606
        refine wl_val ha607 rfl rfl rfl (op_pick_t ha607 rfl rfl rfl) ?_
        intro a608 ha608; clear ha607 a607
        refine wpList_nil ?_
        refine then_n ?_
        refine cond_t ha608 rfl ?_
        refine wp_seq ?_
        clear ho22 hN24 ho42 hN44 ho60 hN62 ho105 hN107 ho125 hN127 ho143 hN145 ho186 hN188 ho204 hN206
        refine wp_region_lit ?_
        refine wl_val ha608 rfl rfl rfl (op_assign ha608 rfl rfl) ?_
        intro a609 ha609; clear ha608 a608
        refine wpList_nil ?_
        refine then_n ?_
        refine wp_ret ?_
        refine then_r ?_
        refine ret1 ha609 rfl rfl ?_
        clear ha609 a609
        exact ret_mk hx255 (congrArg Value.bool (by first | rfl | (rw [eqL_self] at c259; cases c259) | (simp at c8; done) | (exact hs2) | (exact absurd (if_pos hm2) c259) | (exact absurd (by rw [if_pos hm1, if_pos hm2]; exact hm3.symm) c259) | (rw [hm2] at c259; cases c259) | omega))
      ·
       rw [decide_eq_false c248] at ha247
       refine wl_skip ha247 rfl rfl rfl ?_
       intro a610 ha610; clear ha247 a247
       refine wl_skip ha610 rfl rfl rfl ?_
       intro a611 ha611; clear ha610 a610
       refine wl_skip ha611 rfl rfl rfl ?_
       intro a612 ha612; clear ha611 a611
       refine wl_skip ha612 rfl rfl rfl ?_
       intro a613 ha613; clear ha612 a612
       refine wl_val ha613 rfl rfl rfl (op_pick_t ha613 rfl rfl rfl) ?_
       intro a614 ha614; clear ha613 a613
       refine wl_val ha614 rfl rfl rfl (op_move ha614 rfl rfl) ?_
       intro a615 ha615; clear ha614 a614
       refine wl_skip ha615 rfl rfl rfl ?_
       intro a616 ha616; clear ha615 a615
       refine wl_skip ha616 rfl rfl rfl ?_
       intro a617 ha617; clear ha616 a616
       refine wl_skip ha617 rfl rfl rfl ?_
       intro a618 ha618; clear ha617 a617
       refine wl_val ha618 rfl rfl rfl (op_pick_t ha618 rfl rfl rfl) ?_
       intro a619 ha619; clear ha618 a618
       refine wl_val ha619 rfl rfl rfl (op_move ha619 rfl rfl) ?_
       intro a620 ha620; clear ha619 a619
       refine wl_skip ha620 rfl rfl rfl ?_
       intro a621 ha621; clear ha620 a620
       refine wl_skip ha621 rfl rfl rfl ?_
       intro a622 ha622; clear ha621 a621
       refine wl_skip ha622 rfl rfl rfl ?_
       intro a623 ha623; clear ha622 a622
       refine wl_skip ha623 rfl rfl rfl ?_
       intro a624 ha624; clear ha623 a623
       refine wl_val ha624 rfl rfl rfl (op_pick_t ha624 rfl rfl rfl) ?_
       intro a625 ha625; clear ha624 a624
       refine wl_val ha625 rfl rfl rfl (op_move ha625 rfl rfl) ?_
       intro a626 ha626; clear ha625 a625
       refine wl_skip ha626 rfl rfl rfl ?_
       intro a627 ha627; clear ha626 a626
       refine wl_skip ha627 rfl rfl rfl ?_
       intro a628 ha628; clear ha627 a627
       refine wl_skip ha628 rfl rfl rfl ?_
       intro a629 ha629; clear ha628 a628
       refine wl_skip ha629 rfl rfl rfl ?_
       intro a630 ha630; clear ha629 a629
       refine wl_skip ha630 rfl rfl rfl ?_
       intro a631 ha631; clear ha630 a630
       refine wl_val ha631 rfl rfl rfl (op_pick_t ha631 rfl rfl rfl) ?_
       intro a632 ha632; clear ha631 a631
       refine wpList_nil ?_
       refine then_n ?_
       refine cond_t ha632 rfl ?_
       refine wp_seq ?_
       clear ho22 hN24 ho42 hN44 ho60 hN62 ho105 hN107 ho125 hN127 ho143 hN145 ho186 hN188 ho204 hN206
       refine wp_region_lit ?_
       refine wl_val ha632 rfl rfl rfl (op_assign ha632 rfl rfl) ?_
       intro a633 ha633; clear ha632 a632
       refine wpList_nil ?_
       refine then_n ?_
       refine wp_ret ?_
       refine then_r ?_
       refine ret1 ha633 rfl rfl ?_
       clear ha633 a633
       exact ret_mk hx226 (congrArg Value.bool (by first | rfl | (exact absurd rfl c248) | (simp at c8; done) | (exact hs2) | omega))
     ·
      rw [decide_eq_false c242] at ha241
      refine wl_skip ha241 rfl rfl rfl ?_
      intro a634 ha634; clear ha241 a241
      refine wl_skip ha634 rfl rfl rfl ?_
      intro a635 ha635; clear ha634 a634
      refine wl_skip ha635 rfl rfl rfl ?_
      intro a636 ha636; clear ha635 a635
      refine wl_val ha636 rfl rfl rfl (op_pick_t ha636 rfl rfl rfl) ?_
      intro a637 ha637; clear ha636 a636
      refine wl_val ha637 rfl rfl rfl (op_move ha637 rfl rfl) ?_
      intro a638 ha638; clear ha637 a637
      refine wl_skip ha638 rfl rfl rfl ?_
      intro a639 ha639; clear ha638 a638
      refine wl_skip ha639 rfl rfl rfl ?_
      intro a640 ha640; clear ha639 a639
      refine wl_skip ha640 rfl rfl rfl ?_
      intro a641 ha641; clear ha640 a640
      refine wl_skip ha641 rfl rfl rfl ?_
      intro a642 ha642; clear ha641 a641
      refine wl_val ha642 rfl rfl rfl (op_pick_t ha642 rfl rfl rfl) ?_
      intro a643 ha643; clear ha642 a642
      refine wl_val ha643 rfl rfl rfl (op_move ha643 rfl rfl) ?_
      intro a644 ha644; clear ha643 a643
      refine wl_skip ha644 rfl rfl rfl ?_
      intro a645 ha645; clear ha644 a644
      refine wl_skip ha645 rfl rfl rfl ?_
      intro a646 ha646; clear ha645 a645
      refine wl_skip ha646 rfl rfl rfl ?_
      intro a647 ha647; clear ha646 a646
      refine wl_val ha647 rfl rfl rfl (op_pick_t ha647 rfl rfl rfl) ?_
      intro a648 ha648; clear ha647 a647
      refine wl_val ha648 rfl rfl rfl (op_move ha648 rfl rfl) ?_
      intro a649 ha649; clear ha648 a648
      refine wl_skip ha649 rfl rfl rfl ?_
      intro a650 ha650; clear ha649 a649
      refine wl_skip ha650 rfl rfl rfl ?_
      intro a651 ha651; clear ha650 a650
      refine wl_skip ha651 rfl rfl rfl ?_
      intro a652 ha652; clear ha651 a651
      refine wl_skip ha652 rfl rfl rfl ?_
      intro a653 ha653; clear ha652 a652
      refine wl_val ha653 rfl rfl rfl (op_pick_t ha653 rfl rfl rfl) ?_
      intro a654 ha654; clear ha653 a653
      refine wl_val ha654 rfl rfl rfl (op_move ha654 rfl rfl) ?_
      intro a655 ha655; clear ha654 a654
      refine wl_skip ha655 rfl rfl rfl ?_
      intro a656 ha656; clear ha655 a655
      refine wl_skip ha656 rfl rfl rfl ?_
      intro a657 ha657; clear ha656 a656
      refine wl_skip ha657 rfl rfl rfl ?_
      intro a658 ha658; clear ha657 a657
      refine wl_skip ha658 rfl rfl rfl ?_
      intro a659 ha659; clear ha658 a658
      refine wl_skip ha659 rfl rfl rfl ?_
      intro a660 ha660; clear ha659 a659
      refine wl_val ha660 rfl rfl rfl (op_pick_t ha660 rfl rfl rfl) ?_
      intro a661 ha661; clear ha660 a660
      refine wpList_nil ?_
      refine then_n ?_
      refine cond_t ha661 rfl ?_
      refine wp_seq ?_
      clear ho22 hN24 ho42 hN44 ho60 hN62 ho105 hN107 ho125 hN127 ho143 hN145 ho186 hN188 ho204 hN206
      refine wp_region_lit ?_
      refine wl_val ha661 rfl rfl rfl (op_assign ha661 rfl rfl) ?_
      intro a662 ha662; clear ha661 a661
      refine wpList_nil ?_
      refine then_n ?_
      refine wp_ret ?_
      refine then_r ?_
      refine ret1 ha662 rfl rfl ?_
      clear ha662 a662
      exact ret_mk hx226 (congrArg Value.bool (by first | rfl | (exact absurd rfl c242) | (simp at c8; done) | (exact hs2) | (exact absurd (if_pos hm1) c242) | omega))
    ·
     rw [decide_eq_false c236] at ha235
     refine wl_skip ha235 rfl rfl rfl ?_
     intro a663 ha663; clear ha235 a235
     refine wl_skip ha663 rfl rfl rfl ?_
     intro a664 ha664; clear ha663 a663
     refine wl_skip ha664 rfl rfl rfl ?_
     intro a665 ha665; clear ha664 a664
     refine wl_val ha665 rfl rfl rfl (op_pick_t ha665 rfl rfl rfl) ?_
     intro a666 ha666; clear ha665 a665
     refine wl_val ha666 rfl rfl rfl (op_move ha666 rfl rfl) ?_
     intro a667 ha667; clear ha666 a666
     refine wl_skip ha667 rfl rfl rfl ?_
     intro a668 ha668; clear ha667 a667
     refine wl_skip ha668 rfl rfl rfl ?_
     intro a669 ha669; clear ha668 a668
     refine wl_skip ha669 rfl rfl rfl ?_
     intro a670 ha670; clear ha669 a669
     refine wl_val ha670 rfl rfl rfl (op_pick_t ha670 rfl rfl rfl) ?_
     intro a671 ha671; clear ha670 a670
     refine wl_val ha671 rfl rfl rfl (op_move ha671 rfl rfl) ?_
     intro a672 ha672; clear ha671 a671
     refine wl_skip ha672 rfl rfl rfl ?_
     intro a673 ha673; clear ha672 a672
     refine wl_skip ha673 rfl rfl rfl ?_
     intro a674 ha674; clear ha673 a673
     refine wl_skip ha674 rfl rfl rfl ?_
     intro a675 ha675; clear ha674 a674
     refine wl_skip ha675 rfl rfl rfl ?_
     intro a676 ha676; clear ha675 a675
     refine wl_val ha676 rfl rfl rfl (op_pick_t ha676 rfl rfl rfl) ?_
     intro a677 ha677; clear ha676 a676
     refine wl_val ha677 rfl rfl rfl (op_move ha677 rfl rfl) ?_
     intro a678 ha678; clear ha677 a677
     refine wl_skip ha678 rfl rfl rfl ?_
     intro a679 ha679; clear ha678 a678
     refine wl_skip ha679 rfl rfl rfl ?_
     intro a680 ha680; clear ha679 a679
     refine wl_skip ha680 rfl rfl rfl ?_
     intro a681 ha681; clear ha680 a680
     refine wl_val ha681 rfl rfl rfl (op_pick_t ha681 rfl rfl rfl) ?_
     intro a682 ha682; clear ha681 a681
     refine wl_val ha682 rfl rfl rfl (op_move ha682 rfl rfl) ?_
     intro a683 ha683; clear ha682 a682
     refine wl_skip ha683 rfl rfl rfl ?_
     intro a684 ha684; clear ha683 a683
     refine wl_skip ha684 rfl rfl rfl ?_
     intro a685 ha685; clear ha684 a684
     refine wl_skip ha685 rfl rfl rfl ?_
     intro a686 ha686; clear ha685 a685
     refine wl_skip ha686 rfl rfl rfl ?_
     intro a687 ha687; clear ha686 a686
     refine wl_val ha687 rfl rfl rfl (op_pick_t ha687 rfl rfl rfl) ?_
     intro a688 ha688; clear ha687 a687
     refine wl_val ha688 rfl rfl rfl (op_move ha688 rfl rfl) ?_
     intro a689 ha689; clear ha688 a688
     refine wl_skip ha689 rfl rfl rfl ?_
     intro a690 ha690; clear ha689 a689
     refine wl_skip ha690 rfl rfl rfl ?_
     intro a691 ha691; clear ha690 a690
     refine wl_skip ha691 rfl rfl rfl ?_
     intro a692 ha692; clear ha691 a691
     refine wl_skip ha692 rfl rfl rfl ?_
     intro a693 ha693; clear ha692 a692
     refine wl_skip ha693 rfl rfl rfl ?_
     intro a694 ha694; clear ha693 a693
     refine wl_val ha694 rfl rfl rfl (op_pick_t ha694 rfl rfl rfl) ?_
     intro a695 ha695; clear ha694 a694
     refine wpList_nil ?_
     refine then_n ?_
     refine cond_t ha695 rfl ?_
     refine wp_seq ?_
     clear ho22 hN24 ho42 hN44 ho60 hN62 ho105 hN107 ho125 hN127 ho143 hN145 ho186 hN188 ho204 hN206
     refine wp_region_lit ?_
     refine wl_val ha695 rfl rfl rfl (op_assign ha695 rfl rfl) ?_
     intro a696 ha696; clear ha695 a695
     refine wpList_nil ?_
     refine then_n ?_
     refine wp_ret ?_
     refine then_r ?_
     refine ret1 ha696 rfl rfl ?_
     clear ha696 a696
     exact ret_mk hx226 (congrArg Value.bool (by first | rfl | (exact absurd rfl c236) | (simp at c8; done) | (exact hs2) | (exact absurd (if_pos hm1) c236) | omega))
   ·
    rw [c230] at ha229
    refine wl_skip ha229 rfl rfl rfl ?_
    intro a697 ha697; clear ha229 a229
    refine wl_skip ha697 rfl rfl rfl ?_
    intro a698 ha698; clear ha697 a697
    refine wl_skip ha698 rfl rfl rfl ?_
    intro a699 ha699; clear ha698 a698
    refine wl_val ha699 rfl rfl rfl (op_pick_t ha699 rfl rfl rfl) ?_
    intro a700 ha700; clear ha699 a699
    refine wl_val ha700 rfl rfl rfl (op_move ha700 rfl rfl) ?_
    intro a701 ha701; clear ha700 a700
    refine wl_skip ha701 rfl rfl rfl ?_
    intro a702 ha702; clear ha701 a701
    refine wl_skip ha702 rfl rfl rfl ?_
    intro a703 ha703; clear ha702 a702
    refine wl_skip ha703 rfl rfl rfl ?_
    intro a704 ha704; clear ha703 a703
    refine wl_val ha704 rfl rfl rfl (op_pick_t ha704 rfl rfl rfl) ?_
    intro a705 ha705; clear ha704 a704
    refine wl_val ha705 rfl rfl rfl (op_move ha705 rfl rfl) ?_
    intro a706 ha706; clear ha705 a705
    refine wl_skip ha706 rfl rfl rfl ?_
    intro a707 ha707; clear ha706 a706
    refine wl_skip ha707 rfl rfl rfl ?_
    intro a708 ha708; clear ha707 a707
    refine wl_skip ha708 rfl rfl rfl ?_
    intro a709 ha709; clear ha708 a708
    refine wl_val ha709 rfl rfl rfl (op_pick_t ha709 rfl rfl rfl) ?_
    intro a710 ha710; clear ha709 a709
    refine wl_val ha710 rfl rfl rfl (op_move ha710 rfl rfl) ?_
    intro a711 ha711; clear ha710 a710
    refine wl_skip ha711 rfl rfl rfl ?_
    intro a712 ha712; clear ha711 a711
    refine wl_skip ha712 rfl rfl rfl ?_
    intro a713 ha713; clear ha712 a712
    refine wl_skip ha713 rfl rfl rfl ?_
    intro a714 ha714; clear ha713 a713
    refine wl_skip ha714 rfl rfl rfl ?_
    intro a715 ha715; clear ha714 a714
    refine wl_val ha715 rfl rfl rfl (op_pick_t ha715 rfl rfl rfl) ?_
    intro a716 ha716; clear ha715 a715
    refine wl_val ha716 rfl rfl rfl (op_move ha716 rfl rfl) ?_
    intro a717 ha717; clear ha716 a716
    refine wl_skip ha717 rfl rfl rfl ?_
    intro a718 ha718; clear ha717 a717
    refine wl_skip ha718 rfl rfl rfl ?_
    intro a719 ha719; clear ha718 a718
    refine wl_skip ha719 rfl rfl rfl ?_
    intro a720 ha720; clear ha719 a719
    refine wl_val ha720 rfl rfl rfl (op_pick_t ha720 rfl rfl rfl) ?_
    intro a721 ha721; clear ha720 a720
    refine wl_val ha721 rfl rfl rfl (op_move ha721 rfl rfl) ?_
    intro a722 ha722; clear ha721 a721
    refine wl_skip ha722 rfl rfl rfl ?_
    intro a723 ha723; clear ha722 a722
    refine wl_skip ha723 rfl rfl rfl ?_
    intro a724 ha724; clear ha723 a723
    refine wl_skip ha724 rfl rfl rfl ?_
    intro a725 ha725; clear ha724 a724
    refine wl_skip ha725 rfl rfl rfl ?_
    intro a726 ha726; clear ha725 a725
    refine wl_val ha726 rfl rfl rfl (op_pick_t ha726 rfl rfl rfl) ?_
    intro a727 ha727; clear ha726 a726
    refine wl_val ha727 rfl rfl rfl (op_move ha727 rfl rfl) ?_
    intro a728 ha728; clear ha727 a727
    refine wl_skip ha728 rfl rfl rfl ?_
    intro a729 ha729; clear ha728 a728
    refine wl_skip ha729 rfl rfl rfl ?_
    intro a730 ha730; clear ha729 a729
    refine wl_skip ha730 rfl rfl rfl ?_
    intro a731 ha731; clear ha730 a730
    refine wl_skip ha731 rfl rfl rfl ?_
    intro a732 ha732; clear ha731 a731
    refine wl_skip ha732 rfl rfl rfl ?_
    intro a733 ha733; clear ha732 a732
    refine wl_val ha733 rfl rfl rfl (op_pick_t ha733 rfl rfl rfl) ?_
    intro a734 ha734; clear ha733 a733
    refine wpList_nil ?_
    refine then_n ?_
    refine cond_t ha734 rfl ?_
    refine wp_seq ?_
    clear ho22 hN24 ho42 hN44 ho60 hN62 ho105 hN107 ho125 hN127 ho143 hN145 ho186 hN188 ho204 hN206
    refine wp_region_lit ?_
    refine wl_val ha734 rfl rfl rfl (op_assign ha734 rfl rfl) ?_
    intro a735 ha735; clear ha734 a734
    refine wpList_nil ?_
    refine then_n ?_
    refine wp_ret ?_
    refine then_r ?_
    refine ret1 ha735 rfl rfl ?_
    clear ha735 a735
    exact ret_mk hx226 (congrArg Value.bool (by first | rfl | (rw [eqL_self] at c230; cases c230) | (simp at c8; done) | (exact hs2) | (exact absurd hs3 c230) | (exact absurd hs4 c230) | (exact absurd (if_pos hs2) c230) | (exact absurd (by rw [if_pos hs1, if_pos hs2]; exact hs5) c230) | (rw [hs2] at c230; cases c230) | omega))
  ·
   rw [decide_eq_false c219] at ha218
   refine wl_skip ha218 rfl rfl rfl ?_
   intro a736 ha736; clear ha218 a218
   refine wl_skip ha736 rfl rfl rfl ?_
   intro a737 ha737; clear ha736 a736
   refine wl_skip ha737 rfl rfl rfl ?_
   intro a738 ha738; clear ha737 a737
   refine wl_skip ha738 rfl rfl rfl ?_
   intro a739 ha739; clear ha738 a738
   refine wl_val ha739 rfl rfl rfl (op_pick_t ha739 rfl rfl rfl) ?_
   intro a740 ha740; clear ha739 a739
   refine wl_val ha740 rfl rfl rfl (op_move ha740 rfl rfl) ?_
   intro a741 ha741; clear ha740 a740
   refine wl_skip ha741 rfl rfl rfl ?_
   intro a742 ha742; clear ha741 a741
   refine wl_skip ha742 rfl rfl rfl ?_
   intro a743 ha743; clear ha742 a742
   refine wl_skip ha743 rfl rfl rfl ?_
   intro a744 ha744; clear ha743 a743
   refine wl_val ha744 rfl rfl rfl (op_pick_t ha744 rfl rfl rfl) ?_
   intro a745 ha745; clear ha744 a744
   refine wl_val ha745 rfl rfl rfl (op_move ha745 rfl rfl) ?_
   intro a746 ha746; clear ha745 a745
   refine wl_skip ha746 rfl rfl rfl ?_
   intro a747 ha747; clear ha746 a746
   refine wl_skip ha747 rfl rfl rfl ?_
   intro a748 ha748; clear ha747 a747
   refine wl_skip ha748 rfl rfl rfl ?_
   intro a749 ha749; clear ha748 a748
   refine wl_val ha749 rfl rfl rfl (op_pick_t ha749 rfl rfl rfl) ?_
   intro a750 ha750; clear ha749 a749
   refine wl_val ha750 rfl rfl rfl (op_move ha750 rfl rfl) ?_
   intro a751 ha751; clear ha750 a750
   refine wl_skip ha751 rfl rfl rfl ?_
   intro a752 ha752; clear ha751 a751
   refine wl_skip ha752 rfl rfl rfl ?_
   intro a753 ha753; clear ha752 a752
   refine wl_skip ha753 rfl rfl rfl ?_
   intro a754 ha754; clear ha753 a753
   refine wl_val ha754 rfl rfl rfl (op_pick_t ha754 rfl rfl rfl) ?_
   intro a755 ha755; clear ha754 a754
   refine wl_val ha755 rfl rfl rfl (op_move ha755 rfl rfl) ?_
   intro a756 ha756; clear ha755 a755
   refine wl_skip ha756 rfl rfl rfl ?_
   intro a757 ha757; clear ha756 a756
   refine wl_skip ha757 rfl rfl rfl ?_
   intro a758 ha758; clear ha757 a757
   refine wl_skip ha758 rfl rfl rfl ?_
   intro a759 ha759; clear ha758 a758
   refine wl_skip ha759 rfl rfl rfl ?_
   intro a760 ha760; clear ha759 a759
   refine wl_val ha760 rfl rfl rfl (op_pick_t ha760 rfl rfl rfl) ?_
   intro a761 ha761; clear ha760 a760
   refine wl_val ha761 rfl rfl rfl (op_move ha761 rfl rfl) ?_
   intro a762 ha762; clear ha761 a761
   refine wl_skip ha762 rfl rfl rfl ?_
   intro a763 ha763; clear ha762 a762
   refine wl_skip ha763 rfl rfl rfl ?_
   intro a764 ha764; clear ha763 a763
   refine wl_skip ha764 rfl rfl rfl ?_
   intro a765 ha765; clear ha764 a764
   refine wl_val ha765 rfl rfl rfl (op_pick_t ha765 rfl rfl rfl) ?_
   intro a766 ha766; clear ha765 a765
   refine wl_val ha766 rfl rfl rfl (op_move ha766 rfl rfl) ?_
   intro a767 ha767; clear ha766 a766
   refine wl_skip ha767 rfl rfl rfl ?_
   intro a768 ha768; clear ha767 a767
   refine wl_skip ha768 rfl rfl rfl ?_
   intro a769 ha769; clear ha768 a768
   refine wl_skip ha769 rfl rfl rfl ?_
   intro a770 ha770; clear ha769 a769
   refine wl_skip ha770 rfl rfl rfl ?_
   intro a771 ha771; clear ha770 a770
   refine wl_val ha771 rfl rfl rfl (op_pick_t ha771 rfl rfl rfl) ?_
   intro a772 ha772; clear ha771 a771
   refine wl_val ha772 rfl rfl rfl (op_move ha772 rfl rfl) ?_
   intro a773 ha773; clear ha772 a772
   refine wl_skip ha773 rfl rfl rfl ?_
   intro a774 ha774; clear ha773 a773
   refine wl_skip ha774 rfl rfl rfl ?_
   intro a775 ha775; clear ha774 a774
   refine wl_skip ha775 rfl rfl rfl ?_
   intro a776 ha776; clear ha775 a775
   refine wl_skip ha776 rfl rfl rfl ?_
   intro a777 ha777; clear ha776 a776
   refine wl_skip ha777 rfl rfl rfl ?_
   intro a778 ha778; clear ha777 a777
   refine wl_val ha778 rfl rfl rfl (op_pick_t ha778 rfl rfl rfl) ?_
   intro a779 ha779; clear ha778 a778
   refine wpList_nil ?_
   refine then_n ?_
   refine cond_t ha779 rfl ?_
   refine wp_seq ?_
   clear ho22 hN24 ho42 hN44 ho60 hN62 ho105 hN107 ho125 hN127 ho143 hN145 ho186 hN188 ho204 hN206
   refine wp_region_lit ?_
   refine wl_val ha779 rfl rfl rfl (op_assign ha779 rfl rfl) ?_
   intro a780 ha780; clear ha779 a779
   refine wpList_nil ?_
   refine then_n ?_
   refine wp_ret ?_
   refine then_r ?_
   refine ret1 ha780 rfl rfl ?_
   clear ha780 a780
   exact ret_mk hx209 (congrArg Value.bool (by first | rfl | (exact absurd rfl c219) | (simp at c8; done) | (exact hs2) | omega))


end Go.Proofs.Ythbkedflhmeohaa
